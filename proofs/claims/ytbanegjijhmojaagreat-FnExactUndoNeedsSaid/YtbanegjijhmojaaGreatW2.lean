/- The walks: what each function computes, as a contract without a world (part 2). -/
import Derived.Test.YtbanegjijhmojaaGreatProg
import Derived.Test.YtbanegjijhmojaaGreatW1
namespace Go.Proofs.YtbanegjijhmojaaGreat
open Go Go.AM
set_option maxRecDepth 10000
set_option linter.unusedVariables false
set_option linter.unusedSimpArgs false
/- loop.example/g00332/impl.areRecords -/
def k_c_areRecords : XCode :=
 .seq (.ops [.op (some 2) (.mov (.k (.bool false)))])
 (.keep [0] (.seq (.seq (.ops [.op (some 5) (.mov (.t 0)),
   .op (some 6) (.lenS (.t 5)),
   .op (some 7) (.mov (.k (.int .i64 0)))])
  (.keep [0, 5, 6, 7] (.block 0 (.loop (.seq (.ops [.op (some 8) (.bin .lss (.t 7) (.t 6))])
   (.keep [0, 5, 6, 7, 8] (.seq (.cond (.t 8)
    (.skip)
    (.exit 0))
   (.keep [0, 5, 6, 7] (.seq (.block 1 (.seq (.ops [.op (some 9) (.mov (.t 7)),
     .op (some 10) (.iadr 10 (.t 5) (.t 7)),
     .op (some 11) (.loadN 10 (.t 10)),
     .op (some 4) (.alloc [.int .i64 0, .int .i64 0, .int .i64 0, .int .i64 0, .int .i64 0, .int .i64 0, .int .i64 0, .int .i64 0, .str [], .str []]),
     .op (some 3) (.mov (.t 9)),
     .op none (.store 10 (.t 4) (.t 11))])
    (.keep [0, 3, 4, 5, 6, 7] (.seq (.ops [.op (some 12) (.loadN 10 (.t 4)),
     .call (some 13) 146 [.t 12],
     .op (some 14) (.not (.t 13)),
     .op (some 15) (.mov (.t 14)),
     .andor 21 false 3 15 [.op (some 16) (.fadr (.t 4) 1), .op (some 17) (.load1 (.t 16)), .op (some 18) (.mov (.t 3)), .op (some 19) (.bin .add (.t 18) (.k (.int .i64 1))), .op (some 20) (.bin .neq (.t 17) (.t 19))] (.t 20)])
    (.keep [0, 5, 6, 7, 21] (.cond (.t 21)
    (.seq (.ops [.op (some 2) (.mov (.k (.bool false)))])
     (.keep [2] (.ret)))
    (.skip)))))))
   (.keep [0, 5, 6, 7] (.ops [.op (some 22) (.bin .add (.t 7) (.k (.int .i64 1))),
    .op (some 7) (.mov (.t 22))])))))))))))
 (.keep [0] (.seq (.ops [.op (some 23) (.mov (.t 0)),
   .call (some 24) 147 [.t 23, .f 148],
   .op (some 25) (.not (.t 24)),
   .op (some 2) (.mov (.t 25))])
 (.keep [2] (.ret))))))
theorem k_c_areRecords_fits : fitsF Tryz.prog 72 ⟨26, k_c_areRecords, [.t 2]⟩ = true := by kernel_rfl
theorem c_areRecords {log : List GLogRecord} (hl : log.length ≤ 60) (hv : ∀ i (h : i < log.length), log[i].After.length ≤ 1048576) : Con Tryz.prog noMv 72 [.d (.sl 10 (log.map GLogRecord.row))] [] (fun r h => r = bool (goodA log) ∧ h = []) := by
 refine con_of2 k_c_areRecords_fits rfl fun C hP hmv => ?_
 unfold k_c_areRecords
 refine cx_seq (cx_ops ?_)
 refine ax_q (q_mov rfl) ?_
 refine ax_nil (cx_keep rfl rfl (cx_seq (cx_seq (cx_ops ?_))))
 refine ax_q (q_mov rfl) ?_
 refine ax_q (q_lenS_map rfl) ?_
 refine ax_q (q_mov rfl) ?_
 refine ax_nil (cx_keep rfl rfl (cx_block ?_))
 refine cx_loopU (fun m k => k ≤ log.length ∧ m = log.length - k ∧ ∀ i (h : i < log.length), i < k → recOK log[i] = true ∧ log[i].Lsn = ((i + 1 : Nat) : Int)) (fun k : Nat => [(7, int k)]) (fun _ => []) ⟨_, 0, ⟨Nat.zero_le _, rfl, fun i h hi => by omega⟩, by repeat constructor⟩ ?_
 rintro m k ⟨hk, rfl, hb⟩
 refine cx_seq (cx_ops ?_)
 refine ax_q (q_ibin rfl rfl rfl) ?_
 refine ax_nil (cx_keep rfl rfl (cx_seq ?_))
 refine cx_cond rfl (fun h0 => ?_) (fun h0 => ?_)
 ·
  have h0 := dT h0
  have hkx : k < log.length := by omega
  refine cx_skip ?_
  refine cx_keep rfl rfl (cx_seq (cx_block (cx_seq (cx_ops ?_))))
  refine ax_q (q_mov rfl) ?_
  refine ax_q (q_ix rfl rfl (mapAt hkx)) ?_
  first | refine ax_q (q_ldN rfl rfl rfl) ?_ | refine ax_q (q_loadN_ip rfl (Nat.le_refl _)) ?_
  refine ax_e (e_alloc (by decide) rfl rfl) ?_
  refine ax_q (q_mov rfl) ?_
  refine ax_e (e_st rfl rfl rfl rfl rfl rfl rfl) ?_
  refine ax_nil (cx_keep rfl rfl (cx_seq (cx_ops ?_)))
  refine ax_q (q_ldN rfl rfl rfl) ?_
  refine ax_call rfl (vc_pure0 (c_RecordOK (x := log[k]) ?_) hP rfl rfl ?_)
  ·
   exact hv k hkx
  refine ax_q (q_not rfl) ?_
  refine ax_q (q_mov rfl) ?_
  apply ax_or rfl rfl
  ·
   intro g
   have g := bF g
   refine ax_q (q_fadr_ptr rfl) ?_
   refine ax_q (q_load1_ptr rfl rfl rfl) ?_
   refine ax_q (q_mov rfl) ?_
   refine ax_qe (r' := int ((k + 1 : Nat) : Int)) (q_ibin rfl rfl rfl) (by rw [wi (by omega) (by omega)]; rfl) ?_
   refine ax_q (q_ibin rfl rfl rfl) ?_
   exact ax_nil ⟨rfl, by repeat constructor⟩
  refine ax_nil (cx_keep rfl rfl ?_)
  refine cx_cond rfl (fun h1 => ?_) (fun h1 => ?_)
  ·
   have h1 := (fun h => (or_T h).imp bT nT) h1
   refine cx_seq (cx_ops ?_)
   refine ax_q (q_mov rfl) ?_
   refine ax_nil (cx_keep rfl rfl ?_)
   refine cx_ret (ret0 rfl rfl ?_)
   have e : goodA log = false := goodA_no hkx (by
    rintro ⟨a, b⟩
    rcases h1 with h | h
    ·
     rw [a] at h; cases h
    ·
     exact h b)
   exact ⟨by rw [e]; rfl, rfl⟩
  ·
   have h1 := (fun h => And.intro (bF (or_F h).1) (nF (or_F h).2)) h1
   refine cx_skip ?_
   refine cx_keep rfl rfl (cx_ops ?_)
   refine ax_qe (r' := int ((k + 1 : Nat) : Int)) (q_ibin rfl rfl rfl) (by rw [wi (by omega) (by omega)]; rfl) ?_
   refine ax_q (q_mov rfl) ?_
   refine ax_nil ?_
   exact ⟨_, k + 1, by omega, ⟨by omega, rfl, fun i h hi => by
    rcases Nat.lt_succ_iff_lt_or_eq.1 hi with q | rfl
    ·
     exact hb i h q
    ·
     exact h1⟩, by repeat constructor⟩
 ·
  have h0 := dF h0
  obtain rfl : k = log.length := by omega
  refine cx_exit rfl ?_
  refine cx_keep rfl rfl (cx_seq (cx_ops ?_))
  refine ax_q (q_mov rfl) ?_
  refine ax_call rfl (vc_lend0 (c_ContainsFunc_LogRecord (xs := log) (ds := []) (fun r => decide ((60 : Int) < r.Lsn)) (by omega) (by kernel_rfl) (fun s _ => c_areRecords1)) hP (by repeat (first | exact lal_id _ rfl | exact LAL.nil | refine LAL.cons ?_ ?_ | exact la_id _ rfl | exact LA.lend (lend_whole rfl (by first | (simp; done) | (rw [List.length_map]; rfl))) | refine LA.agg ?_ | refine LA.fn ?_ | refine LA.lend ?_ | exact Lend.d _ | exact Lend.zs _ | exact lend_whole rfl (by first | (simp; done) | (rw [List.length_map]; rfl)) | refine Lend.ptr rfl ?_ | refine Lend.fn ?_ | exact LendL.nil | refine LendL.cons ?_ ?_)) rfl rfl ?_)
  refine ax_q (q_not rfl) ?_
  refine ax_q (q_mov rfl) ?_
  refine ax_nil (cx_keep rfl rfl ?_)
  refine cx_ret (ret0 rfl rfl ?_)
  have e := goodA_iff.2 (fun i h => hb i h h)
  exact ⟨by rw [goodA_lsn e, e]; rfl, rfl⟩


/- loop.example/g00332/impl.NewPage -/
def k_c_NewPage : XCode :=
 .seq (.ops [.op (some 0) (.alloc [.int .i64 0, .nils 1])])
 (.keep [0] (.seq (.ops [.op (some 1) (.mkslice 1 16 [.str []] (.k (.int .i64 4)) (.k (.int .i64 4))),
   .op (some 2) (.build [.int .i64 0, .nils 1] [(1, 1, .t 1)]),
   .op none (.store 2 (.t 0) (.t 2))])
 (.keep [0] (.ret))))
theorem k_c_NewPage_fits : fitsF Tryz.prog 150 ⟨3, k_c_NewPage, [.cN 0 2]⟩ = true := by kernel_rfl
theorem c_NewPage  : Con Tryz.prog noMv 150 [] [] (fun r h => r = (⟨0, [[], [], [], []]⟩ : Page).avO 0 ∧ h = (⟨0, [[], [], [], []]⟩ : Page).hO 0) := by
 refine con_of2 k_c_NewPage_fits rfl fun C hP hmv => ?_
 unfold k_c_NewPage
 refine cx_seq (cx_ops ?_)
 refine ax_e (e_alloc (by decide) rfl rfl) ?_
 refine ax_nil (cx_keep rfl rfl (cx_seq (cx_ops ?_)))
 refine ax_e (e_mkslice rfl rfl rfl (by omega) (by omega) (by omega) (by decide) rfl rfl) ?_
 refine ax_q (q_build rfl) ?_
 refine ax_e (e_st rfl rfl rfl rfl rfl rfl rfl) ?_
 refine ax_nil (cx_keep rfl rfl ?_)
 refine cx_ret (retN (fun _ => 0) [1] rfl rfl rfl rfl rfl ?_)
 exact ⟨rfl, rfl⟩


/- loop.example/g00332/impl.PageOK$1 -/
def k_c_PageOK1 : XCode :=
 .seq (.ops [.op (some 2) (.mov (.k (.bool false)))])
 (.keep [0] (.seq (.ops [.op (some 3) (.mov (.t 0)),
   .op (some 4) (.lenT (.t 3)),
   .op (some 5) (.bin .gtr (.t 4) (.k (.int .i64 30))),
   .op (some 2) (.mov (.t 5))])
 (.keep [2] (.ret))))
theorem k_c_PageOK1_fits : fitsF Tryz.prog 218 ⟨6, k_c_PageOK1, [.t 2]⟩ = true := by kernel_rfl
theorem c_PageOK1 {s : Str} : Con Tryz.prog noMv 218 [str s] [] (fun r h => r = bool (decide ((30 : Int) < (s.length : Int))) ∧ h = []) := by
 refine con_of2 k_c_PageOK1_fits rfl fun C hP hmv => ?_
 unfold k_c_PageOK1
 refine cx_seq (cx_ops ?_)
 refine ax_q (q_mov rfl) ?_
 refine ax_nil (cx_keep rfl rfl (cx_seq (cx_ops ?_)))
 refine ax_q (q_mov rfl) ?_
 refine ax_q (q_lenT rfl) ?_
 refine ax_q (q_ibin rfl rfl rfl) ?_
 refine ax_q (q_mov rfl) ?_
 refine ax_nil (cx_keep rfl rfl ?_)
 refine cx_ret (ret0 rfl rfl ?_)
 exact ⟨rfl, rfl⟩


/- loop.example/g00332/impl.PageOK -/
def k_c_PageOK : XCode :=
 .seq (.ops [.op (some 1) (.box (.t 0)),
   .op (some 2) (.mov (.k (.bool false)))])
 (.keep [1] (.seq (.ops [.op (some 3) (.fadr (.t 1) 0),
   .op (some 4) (.load1 (.t 3)),
   .call (some 5) 63 [.t 4, .k (.int .i64 0), .k (.int .i64 1000)],
   .op (some 6) (.mov (.t 5)),
   .andor 11 true 3 6 [.op (some 7) (.fadr (.t 1) 1), .op (some 8) (.load1 (.t 7)), .op (some 9) (.lenS (.t 8)), .op (some 10) (.bin .eql (.t 9) (.k (.int .i64 4)))] (.t 10),
   .op (some 12) (.mov (.t 11)),
   .andor 17 true 9 12 [.op (some 13) (.fadr (.t 1) 1), .op (some 14) (.load1 (.t 13)), .call (some 15) 142 [.t 14, .f 218], .op (some 16) (.not (.t 15))] (.t 16),
   .op (some 2) (.mov (.t 17))])
 (.keep [2] (.ret))))
theorem k_c_PageOK_fits : fitsF Tryz.prog 153 ⟨18, k_c_PageOK, [.t 2]⟩ = true := by kernel_rfl
theorem c_PageOK {p : Page} (hl : p.slots.length ≤ 1048576) : Con Tryz.prog noMv 153 [p.av] [] (fun r h => r = bool (pageOK p) ∧ h = []) := by
 refine con_of2 k_c_PageOK_fits rfl fun C hP hmv => ?_
 unfold k_c_PageOK
 refine cx_seq (cx_ops ?_)
 refine ax_e (e_box rfl rfl (by decide) rfl rfl rfl) ?_
 refine ax_q (q_mov rfl) ?_
 refine ax_nil (cx_keep rfl rfl (cx_seq (cx_ops ?_)))
 refine ax_q (q_fadr_ptr rfl) ?_
 refine ax_q (q_load1_ptr rfl rfl rfl) ?_
 refine ax_call rfl (vc_pure0 (c_inRange  ) hP rfl rfl ?_)
 refine ax_q (q_mov rfl) ?_
 apply ax_and rfl rfl
 ·
  intro g
  refine ax_q (q_fadr_ptr rfl) ?_
  refine ax_q (q_load1_ptr rfl rfl rfl) ?_
  refine ax_q (q_lenS_map rfl) ?_
  refine ax_q (q_ibin rfl rfl rfl) ?_
  exact ax_nil ⟨rfl, by repeat constructor⟩
 refine ax_q (q_mov rfl) ?_
 apply ax_and rfl rfl
 ·
  intro g
  have g := (fun h => And.intro (id (and_T h).1) (dT (and_T h).2)) g
  refine ax_q (q_fadr_ptr rfl) ?_
  refine ax_q (q_load1_ptr rfl rfl rfl) ?_
  refine ax_call rfl (vc_lend0 (c_ContainsFunc_Str (xs := p.slots) (ds := []) (fun s => decide ((30 : Int) < (s.length : Int))) (by omega) (by kernel_rfl) (fun s _ => c_PageOK1)) hP (by repeat (first | exact lal_id _ rfl | exact LAL.nil | refine LAL.cons ?_ ?_ | exact la_id _ rfl | exact LA.lend (lend_whole rfl (by first | (simp; done) | (rw [List.length_map]; rfl))) | refine LA.agg ?_ | refine LA.fn ?_ | refine LA.lend ?_ | exact Lend.d _ | exact Lend.zs _ | exact lend_whole rfl (by first | (simp; done) | (rw [List.length_map]; rfl)) | refine Lend.ptr rfl ?_ | refine Lend.fn ?_ | exact LendL.nil | refine LendL.cons ?_ ?_)) rfl rfl ?_)
  refine ax_q (q_not rfl) ?_
  exact ax_nil ⟨rfl, by repeat constructor⟩
 refine ax_q (q_mov rfl) ?_
 refine ax_nil (cx_keep rfl rfl ?_)
 refine cx_ret (ret0 rfl rfl ?_)
 exact ⟨congrArg bool (by rw [pageOK_int]), rfl⟩


/- loop.example/g00332/impl.big -/
def k_c_big : XCode :=
 .seq (.ops [.op (some 2) (.mov (.k (.int .i64 0)))])
 (.keep [0] (.seq (.ops [.op (some 3) (.mov (.k (.int .i64 0)))])
 (.keep [0, 3] (.seq (.seq (.ops [.op (some 6) (.mov (.t 0)),
   .op (some 7) (.lenS (.t 6)),
   .op (some 8) (.mov (.k (.int .i64 0)))])
  (.keep [3, 6, 7, 8] (.block 0 (.loop (.seq (.ops [.op (some 9) (.bin .lss (.t 8) (.t 7))])
   (.keep [3, 6, 7, 8, 9] (.seq (.cond (.t 9)
    (.skip)
    (.exit 0))
   (.keep [3, 6, 7, 8] (.seq (.block 1 (.seq (.ops [.op (some 10) (.iadr 1 (.t 6) (.t 8)),
     .op (some 11) (.load1 (.t 10)),
     .op (some 5) (.mov (.t 11))])
    (.keep [3, 5, 6, 7, 8] (.ops [.op (some 12) (.mov (.t 3)),
     .op (some 13) (.bin .shl (.t 12) (.k (.int .u64 8))),
     .op (some 14) (.mov (.t 5)),
     .op (some 15) (.conv .i64 (.t 14)),
     .op (some 16) (.bin .or (.t 13) (.t 15)),
     .op (some 3) (.mov (.t 16))]))))
   (.keep [3, 6, 7, 8] (.ops [.op (some 17) (.bin .add (.t 8) (.k (.int .i64 1))),
    .op (some 8) (.mov (.t 17))])))))))))))
 (.keep [3] (.seq (.ops [.op (some 18) (.mov (.t 3)),
   .op (some 2) (.mov (.t 18))])
 (.keep [2] (.ret))))))))
theorem k_c_big_fits : fitsF Tryz.prog 213 ⟨19, k_c_big, [.t 2]⟩ = true := by kernel_rfl
theorem c_big {l : Str} (hl : l.length ≤ 4) : Con Tryz.prog noMv 213 [.d (.sl 1 (l.map byteRow))] [] (fun r h => r = int (bigN l) ∧ h = []) := by
 refine con_of2 k_c_big_fits rfl fun C hP hmv => ?_
 unfold k_c_big
 refine cx_seq (cx_ops ?_)
 refine ax_q (q_mov rfl) ?_
 refine ax_nil (cx_keep rfl rfl (cx_seq (cx_ops ?_)))
 refine ax_q (q_mov rfl) ?_
 refine ax_nil (cx_keep rfl rfl (cx_seq (cx_seq (cx_ops ?_))))
 refine ax_q (q_mov rfl) ?_
 refine ax_q (q_lenS_map rfl) ?_
 refine ax_q (q_mov rfl) ?_
 refine ax_nil (cx_keep rfl rfl (cx_block ?_))
 refine cx_loopU (fun n k => k ≤ l.length ∧ n = l.length - k) (fun k : Nat => [(3, int (bigN (l.take k))), (8, int k)]) (fun _ => []) ⟨_, 0, ⟨Nat.zero_le _, rfl⟩, by repeat constructor⟩ ?_
 rintro n k ⟨hk, rfl⟩
 refine cx_seq (cx_ops ?_)
 refine ax_q (q_ibin rfl rfl rfl) ?_
 refine ax_nil (cx_keep rfl rfl (cx_seq ?_))
 refine cx_cond rfl (fun h0 => ?_) (fun h0 => ?_)
 ·
  have h0 := dT h0
  have h0x : k < l.length := by omega
  have hlt := bigN_lt3 hl h0x
  refine cx_skip ?_
  refine cx_keep rfl rfl (cx_seq (cx_block (cx_seq (cx_ops ?_))))
  refine ax_q (q_ix rfl rfl (mapAt h0x)) ?_
  first | refine ax_q (q_load1_ptr rfl rfl rfl) ?_ | refine ax_q (q_load1_ip rfl) ?_
  refine ax_q (q_mov rfl) ?_
  refine ax_nil (cx_keep rfl rfl (cx_ops ?_))
  refine ax_q (q_mov rfl) ?_
  refine ax_qe (r' := int ((bigN (l.take k) * 256 : Nat) : Int)) (q_ishf rfl rfl rfl (by omega)) (by exact congrArg AM.int (shlW hlt)) ?_
  refine ax_q (q_mov rfl) ?_
  refine ax_q (q_convB rfl) ?_
  refine ax_qe (r' := int ((bigN (l.take k) * 256 + l[k].toNat : Nat) : Int)) (q_ibit rfl rfl rfl) (congrArg AM.int (orW hlt)) ?_
  refine ax_q (q_mov rfl) ?_
  refine ax_nil (cx_keep rfl rfl (cx_ops ?_))
  refine ax_qe (r' := int ((k + 1 : Nat) : Int)) (q_ibin rfl rfl rfl) (by rw [wi (by omega) (by omega)]; rfl) ?_
  refine ax_q (q_mov rfl) ?_
  refine ax_nil ?_
  exact ⟨_, k + 1, by omega, ⟨by omega, rfl⟩, by rw [bigN_succ h0x]; exact (by repeat constructor)⟩
 ·
  have h0 := dF h0
  obtain rfl : k = l.length := by omega
  rw [List.take_length]
  refine cx_exit rfl ?_
  refine cx_keep rfl rfl (cx_seq (cx_ops ?_))
  refine ax_q (q_mov rfl) ?_
  refine ax_q (q_mov rfl) ?_
  refine ax_nil (cx_keep rfl rfl ?_)
  refine cx_ret (ret0 rfl rfl ?_)
  exact ⟨rfl, rfl⟩


/- loop.example/g00332/impl.check32 -/
def k_c_check32 : XCode :=
 .seq (.ops [.op (some 2) (.mov (.k (.int .u32 0)))])
 (.keep [0] (.seq (.ops [.op (some 3) (.mov (.k (.int .u32 4294967295)))])
 (.keep [0, 3] (.seq (.seq (.ops [.op (some 6) (.mov (.t 0)),
   .op (some 7) (.lenS (.t 6)),
   .op (some 8) (.mov (.k (.int .i64 0)))])
  (.keep [3, 6, 7, 8] (.block 0 (.loop (.seq (.ops [.op (some 9) (.bin .lss (.t 8) (.t 7))])
   (.keep [3, 6, 7, 8, 9] (.seq (.cond (.t 9)
    (.skip)
    (.exit 0))
   (.keep [3, 6, 7, 8] (.seq (.block 1 (.seq (.ops [.op (some 10) (.iadr 1 (.t 6) (.t 8)),
     .op (some 11) (.load1 (.t 10)),
     .op (some 5) (.mov (.t 11))])
    (.keep [3, 5, 6, 7, 8] (.seq (.ops [.op (some 12) (.mov (.t 3)),
     .op (some 13) (.mov (.t 5)),
     .op (some 14) (.conv .u32 (.t 13)),
     .op (some 15) (.bin .xor (.t 12) (.t 14)),
     .op (some 3) (.mov (.t 15))])
    (.keep [3, 6, 7, 8] (.seq (.ops [.op (some 16) (.mov (.k (.int .i64 0)))])
    (.keep [3, 6, 7, 8, 16] (.block 2 (.loop (.seq (.ops [.op (some 17) (.bin .lss (.t 16) (.k (.int .i64 8)))])
     (.keep [3, 6, 7, 8, 16, 17] (.seq (.cond (.t 17)
      (.skip)
      (.exit 2))
     (.keep [3, 6, 7, 8, 16] (.seq (.block 3 (.seq (.ops [.op (some 18) (.mov (.t 3)),
       .op (some 19) (.bin .and (.t 18) (.k (.int .u32 1))),
       .op (some 20) (.bin .eql (.t 19) (.k (.int .u32 1)))])
      (.keep [3, 6, 7, 8, 16, 20] (.cond (.t 20)
      (.ops [.op (some 21) (.mov (.t 3)),
        .op (some 22) (.bin .shr (.t 21) (.k (.int .u64 1))),
        .op (some 23) (.bin .xor (.t 22) (.k (.int .u32 3988292384))),
        .op (some 3) (.mov (.t 23))])
      (.ops [.op (some 24) (.mov (.t 3)),
        .op (some 25) (.bin .shr (.t 24) (.k (.int .u64 1))),
        .op (some 3) (.mov (.t 25))])))))
     (.keep [3, 6, 7, 8, 16] (.ops [.op (some 26) (.bin .add (.t 16) (.k (.int .i64 1))),
      .op (some 16) (.mov (.t 26))]))))))))))))))))
   (.keep [3, 6, 7, 8] (.ops [.op (some 27) (.bin .add (.t 8) (.k (.int .i64 1))),
    .op (some 8) (.mov (.t 27))])))))))))))
 (.keep [3] (.seq (.ops [.op (some 28) (.mov (.t 3)),
   .op (some 29) (.bin .xor (.t 28) (.k (.int .u32 4294967295))),
   .op (some 2) (.mov (.t 29))])
 (.keep [2] (.ret))))))))
theorem k_c_check32_fits : fitsF Tryz.prog 235 ⟨30, k_c_check32, [.t 2]⟩ = true := by kernel_rfl
theorem c_check32 {l : Str} (hl : l.length ≤ 1048576) : Con Tryz.prog noMv 235 [.d (.sl 1 (l.map byteRow))] [] (fun r h => r = .d (.int .u32 (crcN l : Int)) ∧ h = []) := by
 refine con_of2 k_c_check32_fits rfl fun C hP hmv => ?_
 unfold k_c_check32
 refine cx_seq (cx_ops ?_)
 refine ax_q (q_mov rfl) ?_
 refine ax_nil (cx_keep rfl rfl (cx_seq (cx_ops ?_)))
 refine ax_q (q_mov rfl) ?_
 refine ax_nil (cx_keep rfl rfl (cx_seq (cx_seq (cx_ops ?_))))
 refine ax_q (q_mov rfl) ?_
 refine ax_q (q_lenS_map rfl) ?_
 refine ax_q (q_mov rfl) ?_
 refine ax_nil (cx_keep rfl rfl (cx_block ?_))
 refine cx_loopU (fun n k => k ≤ l.length ∧ n = l.length - k) (fun k : Nat => [(3, .d (.int .u32 (crcS (l.take k) : Int))), (8, int k)]) (fun _ => []) ⟨_, 0, ⟨Nat.zero_le _, rfl⟩, by repeat constructor⟩ ?_
 rintro n k ⟨hk, rfl⟩
 refine cx_seq (cx_ops ?_)
 refine ax_q (q_ibin rfl rfl rfl) ?_
 refine ax_nil (cx_keep rfl rfl (cx_seq ?_))
 refine cx_cond rfl (fun h0 => ?_) (fun h0 => ?_)
 ·
  have h0 := dT h0
  have h0x : k < l.length := by omega
  have hlt : crcS (l.take k) < 4294967296 := crcS_lt
  have hxb : (crcS (l.take k) ^^^ l[k].toNat) < 4294967296 := xb_lt hlt
  have hc := l[k].toNat_lt
  refine cx_skip ?_
  refine cx_keep rfl rfl (cx_seq (cx_block (cx_seq (cx_ops ?_))))
  refine ax_q (q_ix rfl rfl (mapAt h0x)) ?_
  first | refine ax_q (q_load1_ptr rfl rfl rfl) ?_ | refine ax_q (q_load1_ip rfl) ?_
  refine ax_q (q_mov rfl) ?_
  refine ax_nil (cx_keep rfl rfl (cx_seq (cx_ops ?_)))
  refine ax_q (q_mov rfl) ?_
  refine ax_q (q_mov rfl) ?_
  refine ax_qe (r' := .d (.int .u32 (l[k].toNat : Int))) (q_conv rfl) (by rw [wr_u32 (by omega) (by omega)]) ?_
  refine ax_qe (r' := .d (.int .u32 (((crcS (l.take k) ^^^ l[k].toNat : Nat)) : Int))) (q_ibit rfl rfl rfl) (by rw [x32 hlt (by omega)]) ?_
  refine ax_q (q_mov rfl) ?_
  refine ax_nil (cx_keep rfl rfl (cx_seq (cx_ops ?_)))
  refine ax_q (q_mov rfl) ?_
  refine ax_nil (cx_keep rfl rfl (cx_block ?_))
  refine cx_loopU (fun n j => j ≤ 8 ∧ n = 8 - j) (fun j : Nat => [(3, .d (.int .u32 (bitsN j (crcS (l.take k) ^^^ l[k].toNat) : Int))), (16, int j)]) (fun _ => []) ⟨_, 0, ⟨Nat.zero_le _, rfl⟩, by repeat constructor⟩ ?_
  rintro n j ⟨hj, rfl⟩
  refine cx_seq (cx_ops ?_)
  refine ax_q (q_ibin rfl rfl rfl) ?_
  refine ax_nil (cx_keep rfl rfl (cx_seq ?_))
  refine cx_cond rfl (fun h1 => ?_) (fun h1 => ?_)
  ·
   have h1 := dT h1
   have hbl : bitsN j (crcS (l.take k) ^^^ l[k].toNat) < 4294967296 := bitsN_lt hxb j
   refine cx_skip ?_
   refine cx_keep rfl rfl (cx_seq (cx_block (cx_seq (cx_ops ?_))))
   refine ax_q (q_mov rfl) ?_
   refine ax_qe (r' := .d (.int .u32 ((bitsN j (crcS (l.take k) ^^^ l[k].toNat) % 2 : Nat) : Int))) (q_ibit rfl rfl rfl) (by rw [a32 hbl]) ?_
   refine ax_q (q_ibin rfl rfl rfl) ?_
   refine ax_nil (cx_keep rfl rfl ?_)
   refine cx_cond rfl (fun h2 => ?_) (fun h2 => ?_)
   ·
    have h2 := dT h2
    refine cx_ops ?_
    refine ax_q (q_mov rfl) ?_
    refine ax_qe (r' := .d (.int .u32 ((bitsN j (crcS (l.take k) ^^^ l[k].toNat) / 2 : Nat) : Int))) (q_ishf rfl rfl rfl (by omega)) (congrArg (fun z => AV.d (.int .u32 z)) sh1) ?_
    refine ax_qe (r' := .d (.int .u32 (((bitsN j (crcS (l.take k) ^^^ l[k].toNat) / 2) ^^^ 3988292384 : Nat) : Int))) (q_ibit rfl rfl rfl) (congrArg (fun z => AV.d (.int .u32 z)) (x32 (b := 3988292384) (by omega) (by omega))) ?_
    refine ax_q (q_mov rfl) ?_
    refine ax_nil (cx_keep rfl rfl (cx_ops ?_))
    refine ax_qe (r' := int ((j + 1 : Nat) : Int)) (q_ibin rfl rfl rfl) (by rw [wi (by omega) (by omega)]; rfl) ?_
    refine ax_q (q_mov rfl) ?_
    refine ax_nil ?_
    exact ⟨_, j + 1, by omega, ⟨by omega, rfl⟩, by rw [show bitsN (j + 1) (crcS (l.take k) ^^^ l[k].toNat) = _ from bit1_t (s := bitsN j (crcS (l.take k) ^^^ l[k].toNat)) (by omega)]; exact (by repeat constructor)⟩
   ·
    have h2 := dF h2
    refine cx_ops ?_
    refine ax_q (q_mov rfl) ?_
    refine ax_qe (r' := .d (.int .u32 ((bitsN j (crcS (l.take k) ^^^ l[k].toNat) / 2 : Nat) : Int))) (q_ishf rfl rfl rfl (by omega)) (congrArg (fun z => AV.d (.int .u32 z)) sh1) ?_
    refine ax_q (q_mov rfl) ?_
    refine ax_nil (cx_keep rfl rfl (cx_ops ?_))
    refine ax_qe (r' := int ((j + 1 : Nat) : Int)) (q_ibin rfl rfl rfl) (by rw [wi (by omega) (by omega)]; rfl) ?_
    refine ax_q (q_mov rfl) ?_
    refine ax_nil ?_
    exact ⟨_, j + 1, by omega, ⟨by omega, rfl⟩, by rw [show bitsN (j + 1) (crcS (l.take k) ^^^ l[k].toNat) = _ from bit1_f (s := bitsN j (crcS (l.take k) ^^^ l[k].toNat)) (by omega)]; exact (by repeat constructor)⟩
  ·
   have h1 := dF h1
   obtain rfl : j = 8 := by omega
   refine cx_exit rfl ?_
   refine cx_keep rfl rfl (cx_ops ?_)
   refine ax_qe (r' := int ((k + 1 : Nat) : Int)) (q_ibin rfl rfl rfl) (by rw [wi (by omega) (by omega)]; rfl) ?_
   refine ax_q (q_mov rfl) ?_
   refine ax_nil ?_
   exact ⟨_, k + 1, by omega, ⟨by omega, rfl⟩, by rw [crcS_succ h0x]; exact (by repeat constructor)⟩
 ·
  have h0 := dF h0
  obtain rfl : k = l.length := by omega
  refine cx_exit rfl ?_
  refine cx_keep rfl rfl (cx_seq (cx_ops ?_))
  refine ax_q (q_mov rfl) ?_
  refine ax_qe (r' := .d (.int .u32 (crcN l : Int))) (q_ibit rfl rfl rfl) (by rw [List.take_length]; exact congrArg (fun z => AV.d (.int .u32 z)) (x32 (b := 4294967295) crcS_lt (by omega))) ?_
  refine ax_q (q_mov rfl) ?_
  refine ax_nil (cx_keep rfl rfl ?_)
  refine cx_ret (ret0 rfl rfl ?_)
  exact ⟨rfl, rfl⟩


/- loop.example/g00332/impl.unsealed -/
def k_c_unsealed : XCode :=
 .seq (.ops [.op (some 2) (.mov (.k (.nils 1))),
   .op (some 3) (.mov (.k (.bool false)))])
 (.keep [0] (.seq (.ops [.op (some 5) (.mov (.t 0)),
   .op (some 6) (.lenS (.t 5)),
   .op (some 7) (.bin .sub (.t 6) (.k (.int .i64 4))),
   .op (some 4) (.mov (.t 7))])
 (.keep [0, 4] (.seq (.seq (.draw [.op (some 8) (.mov (.t 4)),
   .op (some 9) (.bin .lss (.t 8) (.k (.int .i64 0))),
   .op (some 10) (.mov (.t 9)),
   .andor 21 false 2 10 [.op (some 11) (.mov (.t 0)), .op (some 12) (.mov (.t 4)), .op (some 13) (.slc 1 (.t 11) none (some (.t 12)) none), .call (some 14) 235 [.t 13], .op (some 15) (.conv .i64 (.t 14)), .op (some 16) (.mov (.t 0)), .op (some 17) (.mov (.t 4)), .op (some 18) (.slc 1 (.t 16) (some (.t 17)) none none), .call (some 19) 213 [.t 18], .op (some 20) (.bin .neq (.t 15) (.t 19))] (.t 20)])
  (.keep [0, 4, 21] (.cond (.t 21)
  (.seq (.ops [.op (some 2) (.mov (.k (.nils 1))),
    .op (some 3) (.mov (.k (.bool false)))])
   (.keep [2, 3] (.ret)))
  (.skip))))
 (.keep [0, 4] (.seq (.ops [.op (some 22) (.mov (.t 0)),
   .op (some 23) (.mov (.t 4)),
   .op (some 24) (.slc 1 (.t 22) none (some (.t 23)) none),
   .op (some 2) (.mov (.t 24)),
   .op (some 3) (.mov (.k (.bool true)))])
 (.keep [2, 3] (.ret))))))))
theorem k_c_unsealed_fits : fitsF Tryz.prog 211 ⟨25, k_c_unsealed, [.t 2, .t 3]⟩ = true := by kernel_rfl
theorem c_unsealed {l : Str} (hl : l.length ≤ 1048576) : Con Tryz.prog noMv 211 [.d (.sl 1 (l.map byteRow))] [] (fun r h => r = .tup [.d (.sl 1 ((unsealF l).1.map byteRow)), bool (unsealF l).2] ∧ h = []) := by
 refine con_of2 k_c_unsealed_fits rfl fun C hP hmv => ?_
 unfold k_c_unsealed
 refine cx_seq (cx_ops ?_)
 refine ax_q (q_mov rfl) ?_
 refine ax_q (q_mov rfl) ?_
 refine ax_nil (cx_keep rfl rfl (cx_seq (cx_ops ?_)))
 refine ax_q (q_mov rfl) ?_
 refine ax_q (q_lenS_map rfl) ?_
 have hcl := @crcN_lt (l.take (l.length - 4))
 refine ax_qe (r' := int ((l.length : Int) - 4)) (q_ibin rfl rfl rfl) (by rw [wi (by omega) (by omega)]) ?_
 refine ax_q (q_mov rfl) ?_
 refine ax_nil (cx_keep rfl rfl (cx_seq (cx_seq (cx_draw ?_))))
 refine ax_q (q_mov rfl) ?_
 refine ax_q (q_ibin rfl rfl rfl) ?_
 refine ax_q (q_mov rfl) ?_
 apply ax_or rfl rfl
 ·
  intro g
  have g := dF g
  refine ax_q (q_mov rfl) ?_
  refine ax_q (q_mov rfl) ?_
  refine ax_qe (r' := .d (.sl 1 ((l.take (l.length - 4)).map byteRow))) (q_slc rfl rfl rfl (by omega) (by omega) (by simp; omega)) (slc_take (by omega)) ?_
  refine ax_callq rfl (c_check32 (l := l.take (l.length - 4)) ?_) hP (lal_id _ rfl) rfl ?_
  ·
   simp; omega
  first | refine ax_q (q_convB rfl) ?_ | refine ax_q (q_convI rfl (by omega)) ?_
  refine ax_q (q_mov rfl) ?_
  refine ax_q (q_mov rfl) ?_
  refine ax_qe (r' := .d (.sl 1 ((l.drop (l.length - 4)).map byteRow))) (q_slc rfl rfl rfl (by omega) (by simp; omega) (by simp)) (slc_drop2 (by omega)) ?_
  refine ax_callq rfl (c_big (l := l.drop (l.length - 4)) ?_) hP (lal_id _ rfl) rfl ?_
  ·
   simp; omega
  refine ax_q (q_ibin rfl rfl rfl) ?_
  exact ax_nil ⟨rfl, by repeat constructor⟩
 refine ax_nil (cx_keep rfl rfl ?_)
 refine cx_cond rfl (fun h0 => ?_) (fun h0 => ?_)
 ·
  have h0 := (fun h => (or_T h).imp dT nT) h0
  refine cx_seq (cx_ops ?_)
  refine ax_q (q_mov rfl) ?_
  refine ax_q (q_mov rfl) ?_
  refine ax_nil (cx_keep rfl rfl ?_)
  refine cx_wk (wk_virt 900 1 rfl rfl rfl) ?_
  refine cx_wk (wk_zs 2 900 [] rfl rfl) ?_
  refine cx_wk (wk_frz 2 900 rfl rfl (.whole rfl) rfl) ?_
  refine cx_ret (retN id [] rfl rfl rfl rfl rfl ?_)
  rw [unseal_1 h0]; exact ⟨rfl, rfl⟩
 ·
  have h0 := (fun h => And.intro (dF (or_F h).1) (nF (or_F h).2)) h0
  refine cx_skip ?_
  refine cx_keep rfl rfl (cx_seq (cx_ops ?_))
  refine ax_q (q_mov rfl) ?_
  refine ax_q (q_mov rfl) ?_
  refine ax_qe (r' := .d (.sl 1 ((l.take (l.length - 4)).map byteRow))) (q_slc rfl rfl rfl (by omega) (by omega) (by simp; omega)) (slc_take (by omega)) ?_
  refine ax_q (q_mov rfl) ?_
  refine ax_q (q_mov rfl) ?_
  refine ax_nil (cx_keep rfl rfl ?_)
  refine cx_ret (ret0 rfl rfl ?_)
  exact ⟨by rw [unseal_2 (fun h => h.elim h0.1 (fun q => q h0.2))]; rfl, rfl⟩


/- (ptr loop.example/g00332/impl.byteReader).fields -/
def k_c_fields : XCode :=
 .seq (.ops [.op (some 2) (.mov (.k (.nils 1)))])
 (.keep [0] (.seq (.ops [.op (some 4) (.bslice 1 []),
   .op (some 3) (.mov (.t 4))])
 (.keep [0, 3] (.seq (.seq (.ops [.op (some 5) (.mov (.t 0)),
   .call (some 6) 219 [.t 5],
   .op (some 7) (.mov (.k (.int .i64 0)))])
  (.keep [0, 3, 6, 7] (.block 0 (.loop (.seq (.ops [.op (some 8) (.bin .lss (.t 7) (.t 6))])
   (.keep [0, 3, 6, 7, 8] (.seq (.cond (.t 8)
    (.skip)
    (.exit 0))
   (.keep [0, 3, 6, 7] (.seq (.block 1 (.ops [.op (some 9) (.mov (.t 3)),
     .op (some 10) (.mov (.t 0)),
     .op (some 11) (.mov (.t 0)),
     .call (some 12) 219 [.t 11],
     .call (some 13) 212 [.t 10, .t 12],
     .op (some 14) (.b2s (.t 13)),
     .op (some 15) (.bslice 1 [.t 14]),
     .op (some 16) (.app 1 16 [.str []] (.t 9) (.t 15)),
     .op (some 3) (.mov (.t 16))]))
   (.keep [0, 3, 6, 7] (.ops [.op (some 17) (.bin .add (.t 7) (.k (.int .i64 1))),
    .op (some 7) (.mov (.t 17))])))))))))))
 (.keep [3] (.seq (.ops [.op (some 18) (.mov (.t 3)),
   .op (some 2) (.mov (.t 18))])
 (.keep [2] (.ret))))))))
theorem k_c_fields_fits : fitsF Tryz.prog 214 ⟨19, k_c_fields, [.t 2]⟩ = true := by kernel_rfl
theorem c_fields {r0 : Rd} (hl : r0.rest.length ≤ 1048576) : Con Tryz.prog noMv 214 [.ptr 1000 0] [(1000, r0.box)] (fun r h => r = .osl 0 1 0 (fieldsF r0).1.length ∧ h = [(0, .rows 1 ((fieldsF r0).1.map strRow)), (1000, (fieldsF r0).2.box)]) := by
 refine con_of2 k_c_fields_fits rfl fun C hP hmv => ?_
 unfold k_c_fields
 refine cx_seq (cx_ops ?_)
 refine ax_q (q_mov rfl) ?_
 refine ax_nil (cx_keep rfl rfl (cx_seq (cx_ops ?_)))
 refine ax_e (e_bslice rfl (by decide) rfl rfl) ?_
 refine ax_q (q_mov rfl) ?_
 refine ax_nil (cx_keep rfl rfl (cx_seq (cx_seq (cx_ops ?_))))
 refine ax_q (q_mov rfl) ?_
 refine ax_call rfl (vcall_own (c_num  ?_) hP hmv false (fun _ => 1000) [1000] ⟨rfl, rfl, rfl, rfl, ⟨rfl, trivial⟩, rfl, rfl, rfl⟩ (.pass rfl rfl .nil) ?_)
 ·
  assumption
 rintro r h ⟨rfl, rfl⟩
 refine ⟨fun _ => 1000, [], ⟨rfl, rfl, rfl, rfl, mem1 rfl, rfl, rfl, fun h => absurd h Bool.false_ne_true⟩, ?_⟩
 obtain ⟨q1, q2⟩ := @numF_lt r0
 refine ax_q (q_mov rfl) ?_
 refine ax_nil (cx_keep rfl rfl (cx_block ?_))
 refine cx_loopU (fun n1 (p : Nat × Nat × Rd × List Str) => n1 = p.1 ∧ p.1 + p.2.1 = (numF r0).1 ∧ p.2.2.2.length = p.2.1 ∧ p.2.2.1.rest.length ≤ 1048576 ∧ fldL p.1 p.2.2.1 p.2.2.2 = fieldsF r0) (fun p => [(3, .osl 4 1 0 p.2.2.2.length), (7, int p.2.1)]) (fun p => [(1000, p.2.2.1.box), (4, .rows 1 (p.2.2.2.map strRow))])
  ⟨_, ((numF r0).1, 0, (numF r0).2, []), ⟨rfl, rfl, rfl, by simp only; omega, rfl⟩, by repeat constructor⟩ ?_
 rintro n1 ⟨m, k, u, l⟩ ⟨rfl, hm, hk, hu, he⟩
 simp only at hm hk hu he ⊢
 refine cx_seq (cx_ops ?_)
 refine ax_q (q_ibin rfl rfl rfl) ?_
 refine ax_nil (cx_keep rfl rfl (cx_seq ?_))
 refine cx_cond rfl (fun h0 => ?_) (fun h0 => ?_)
 ·
  have h0 := dT h0
  obtain ⟨m, rfl⟩ : ∃ m2, n1 = m2 + 1 := ⟨n1 - 1, by omega⟩
  obtain ⟨k1, k2⟩ := @numF_lt u
  obtain ⟨k3, k4⟩ := @takeF_len (numF u).2 (numF u).1
  refine cx_skip ?_
  refine cx_keep rfl rfl (cx_seq (cx_block (cx_ops ?_)))
  refine ax_q (q_mov rfl) ?_
  refine ax_q (q_mov rfl) ?_
  refine ax_q (q_mov rfl) ?_
  refine ax_call rfl (vcall_own (c_num  ?_) hP hmv false (fun _ => 1000) [1000] ⟨rfl, rfl, rfl, rfl, ⟨rfl, trivial⟩, rfl, rfl, rfl⟩ (.pass rfl rfl .nil) ?_)
  ·
   assumption
  rintro r h ⟨rfl, rfl⟩
  refine ⟨fun _ => 1000, [], ⟨rfl, rfl, rfl, rfl, mem1 rfl, rfl, rfl, fun h => absurd h Bool.false_ne_true⟩, ?_⟩
  refine ax_call rfl (vcall_own (c_take (n := (numF u).1) ?_ ?_) hP hmv false (fun _ => 1000) [1000] ⟨rfl, rfl, rfl, rfl, ⟨rfl, trivial⟩, rfl, rfl, rfl⟩ (.pass rfl rfl (.pass rfl rfl .nil)) ?_)
  ·
   first | assumption | omega
  ·
   first | assumption | omega
  rintro r h ⟨rfl, rfl⟩
  refine ⟨fun _ => 1000, [], ⟨rfl, rfl, rfl, rfl, mem1 rfl, rfl, rfl, fun h => absurd h Bool.false_ne_true⟩, ?_⟩
  refine ax_qe (r' := .d (.str (takeF (numF u).2 (numF u).1).1)) (q_b2s rfl (src_sl 1 _) rfl ⟨0, 1, 0, 0, .inr (.inr rfl)⟩) (rfl) ?_
  refine ax_e (e_bslice rfl (by decide) rfl rfl) ?_
  refine ax_e (e_appn (n' := (l ++ [(takeF (numF u).2 (numF u).1).1]).length) (rs' := (l ++ [(takeF (numF u).2 (numF u).1).1]).map strRow) rfl rfl (by simp) rfl (src_osl rfl (by simp)) (.inl (by decide)) (hbnd (by omega) (by simp) (by decide)) (by simp) (app1 rfl)) ?_
  refine ax_q (q_mov rfl) ?_
  refine ax_nil (cx_keep rfl rfl (cx_ops ?_))
  refine ax_qe (r' := int ((k + 1 : Nat) : Int)) (q_ibin rfl rfl rfl) (by rw [wi (by omega) (by omega)]; rfl) ?_
  refine ax_q (q_mov rfl) ?_
  refine ax_nil ?_
  exact ⟨_, (m, k + 1, (takeF (numF u).2 (numF u).1).2, l ++ [(takeF (numF u).2 (numF u).1).1]), by omega, ⟨rfl, by simp only; omega, by simp [hk], by simp only; omega, by rw [← he]; rfl⟩, by repeat constructor⟩
 ·
  have h0 := dF h0
  obtain rfl : n1 = 0 := by omega
  have he2 : fieldsF r0 = (l, u) := he.symm
  refine cx_exit rfl ?_
  refine cx_keep rfl rfl (cx_seq (cx_ops ?_))
  refine ax_q (q_mov rfl) ?_
  refine ax_q (q_mov rfl) ?_
  refine ax_nil (cx_keep rfl rfl ?_)
  refine cx_ret (retN (fun e => bif Nat.beq e 4 then 0 else e) [4, 1000] rfl rfl rfl rfl rfl ?_)
  rw [he2]; exact ⟨rfl, rfl⟩


/- loop.example/g00332/impl.ReadPage -/
def k_c_ReadPage : XCode :=
 .seq (.ops [.op (some 4) (.alloc [.int .i64 0, .nils 1]),
   .op (some 5) (.mov (.k (.int .i64 0)))])
 (.keep [0, 1, 4] (.seq (.seq (.ops [.op (some 11) (.mov (.t 1)),
   .op (some 12) (.lenS (.t 11)),
   .op (some 13) (.bin .gtr (.t 12) (.k (.int .i64 65536)))])
  (.keep [0, 1, 4, 13] (.cond (.t 13)
  (.seq (.ops [.op (some 14) (.build [.int .i64 0, .nils 1] []),
    .op none (.store 2 (.t 4) (.t 14)),
    .op (some 5) (.mov (.k (.int .i64 2)))])
   (.keep [4, 5] (.ret)))
  (.skip))))
 (.keep [0, 1, 4] (.seq (.ops [.op (some 16) (.mov (.t 1)),
   .call (some 17) 211 [.t 16],
   .op (some 15) (.mov (.t 17)),
   .op (some 18) (.ext (.t 15) 0),
   .op (some 19) (.ext (.t 15) 1),
   .op (some 6) (.mov (.t 18)),
   .op (some 7) (.mov (.t 19))])
 (.keep [0, 4, 6, 7] (.seq (.seq (.ops [.op (some 20) (.mov (.t 7)),
   .op (some 21) (.not (.t 20))])
  (.keep [0, 4, 6, 21] (.cond (.t 21)
  (.seq (.ops [.op (some 22) (.build [.int .i64 0, .nils 1] []),
    .op none (.store 2 (.t 4) (.t 22)),
    .op (some 5) (.mov (.k (.int .i64 8)))])
   (.keep [4, 5] (.ret)))
  (.skip))))
 (.keep [0, 4, 6] (.seq (.ops [.op (some 23) (.mov (.t 6)),
   .op (some 24) (.build [.nils 1, .bool false] [(0, 1, .t 23)]),
   .op (some 25) (.box (.t 24)),
   .op (some 8) (.mov (.t 25))])
 (.keep [0, 4, 8] (.seq (.ops [.op (some 26) (.mov (.t 8)),
   .call (some 27) 212 [.t 26, .k (.int .i64 4)],
   .op (some 9) (.mov (.t 27))])
 (.keep [0, 4, 8, 9] (.seq (.ops [.op (some 28) (.mov (.t 9)),
   .op (some 29) (.slc 1 (.t 28) (some (.k (.int .i64 2))) none none),
   .call (some 30) 213 [.t 29],
   .op (some 31) (.mov (.t 8)),
   .call (some 32) 214 [.t 31],
   .op (some 33) (.build [.int .i64 0, .nils 1] [(0, 1, .t 30), (1, 1, .t 32)]),
   .op (some 10) (.alloc [.int .i64 0, .nils 1]),
   .op none (.store 2 (.t 10) (.t 33))])
 (.keep [0, 4, 8, 9, 10] (.seq (.seq (.ops [.op (some 34) (.mov (.t 8)),
   .call (some 35) 215 [.t 34],
   .op (some 36) (.not (.t 35)),
   .op (some 37) (.mov (.t 36)),
   .andor 42 false 3 37 [.op (some 38) (.mov (.t 9)), .op (some 39) (.iadr 1 (.t 38) (.k (.int .i64 0))), .op (some 40) (.load1 (.t 39)), .op (some 41) (.bin .neq (.t 40) (.k (.int .u8 112)))] (.t 41),
   .op (some 43) (.mov (.t 42)),
   .andor 50 false 9 43 [.op (some 44) (.mov (.t 9)), .op (some 45) (.iadr 1 (.t 44) (.k (.int .i64 1))), .op (some 46) (.load1 (.t 45)), .op (some 47) (.conv .i64 (.t 46)), .op (some 48) (.mov (.t 0)), .op (some 49) (.bin .neq (.t 47) (.t 48))] (.t 49),
   .op (some 51) (.mov (.t 50)),
   .andor 55 false 17 51 [.op (some 52) (.loadN 2 (.t 10)), .call (some 53) 153 [.t 52], .op (some 54) (.not (.t 53))] (.t 54)])
  (.keep [4, 10, 55] (.cond (.t 55)
  (.seq (.ops [.op (some 56) (.build [.int .i64 0, .nils 1] []),
    .op none (.store 2 (.t 4) (.t 56)),
    .op (some 5) (.mov (.k (.int .i64 3)))])
   (.keep [4, 5] (.ret)))
  (.skip))))
 (.keep [4, 10] (.seq (.ops [.op (some 57) (.loadN 2 (.t 10)),
   .op none (.store 2 (.t 4) (.t 57)),
   .op (some 5) (.mov (.k (.int .i64 0)))])
 (.keep [4, 5] (.ret))))))))))))))))))
theorem k_c_ReadPage_fits : fitsF Tryz.prog 151 ⟨58, k_c_ReadPage, [.cN 4 2, .t 5]⟩ = true := by kernel_rfl
set_option maxHeartbeats 2000000 in
theorem c_ReadPage {no : Int} {b : Str} (hl : b.length ≤ 1048576) : Con Tryz.prog noMv 151 [int no, .d (.sl 1 (b.map byteRow))] [] (fun r h => r = .tup [(rpF no b).1.avO 0, int (rpF no b).2] ∧ h = (rpF no b).1.hO 0) := by
 refine con_of2 k_c_ReadPage_fits rfl fun C hP hmv => ?_
 unfold k_c_ReadPage
 refine cx_seq (cx_ops ?_)
 refine ax_e (e_alloc (by decide) rfl rfl) ?_
 refine ax_q (q_mov rfl) ?_
 refine ax_nil (cx_keep rfl rfl (cx_seq (cx_seq (cx_ops ?_))))
 refine ax_q (q_mov rfl) ?_
 refine ax_q (q_lenS_map rfl) ?_
 refine ax_q (q_ibin rfl rfl rfl) ?_
 refine ax_nil (cx_keep rfl rfl ?_)
 refine cx_cond rfl (fun h0 => ?_) (fun h0 => ?_)
 ·
  have h0 := dT h0
  refine cx_seq (cx_ops ?_)
  refine ax_q (q_build rfl) ?_
  refine ax_e (e_st rfl rfl rfl rfl rfl rfl rfl) ?_
  refine ax_q (q_mov rfl) ?_
  refine ax_nil (cx_keep rfl rfl ?_)
  have e : rpF no b = (.zero, 2) := rpF_1 h0
  refine cx_wk (wk_virt 900 1 rfl rfl rfl) ?_
  refine cx_wk (wk_zsb 4 900 1 rfl rfl rfl) ?_
  refine cx_ret (retN (fun _ => 0) [900] rfl rfl rfl rfl rfl ?_)
  rw [e]; exact ⟨rfl, rfl⟩
 ·
  have h0 := dF h0
  refine cx_skip ?_
  refine cx_keep rfl rfl (cx_seq (cx_ops ?_))
  refine ax_q (q_mov rfl) ?_
  have hul := @unseal_len b
  refine ax_call rfl (vc_pure0 (c_unsealed (l := b) ?_) hP rfl rfl ?_)
  ·
   assumption
  refine ax_q (q_mov rfl) ?_
  refine ax_q (q_ext rfl rfl) ?_
  refine ax_q (q_ext rfl rfl) ?_
  refine ax_q (q_mov rfl) ?_
  refine ax_q (q_mov rfl) ?_
  refine ax_nil (cx_keep rfl rfl (cx_seq (cx_seq (cx_ops ?_))))
  refine ax_q (q_mov rfl) ?_
  refine ax_q (q_not rfl) ?_
  refine ax_nil (cx_keep rfl rfl ?_)
  refine cx_cond rfl (fun h1 => ?_) (fun h1 => ?_)
  ·
   have h1 := bT h1
   refine cx_seq (cx_ops ?_)
   refine ax_q (q_build rfl) ?_
   refine ax_e (e_st rfl rfl rfl rfl rfl rfl rfl) ?_
   refine ax_q (q_mov rfl) ?_
   refine ax_nil (cx_keep rfl rfl ?_)
   have e : rpF no b = (.zero, 8) := rpF_2 h0 h1
   refine cx_wk (wk_virt 900 1 rfl rfl rfl) ?_
   refine cx_wk (wk_zsb 4 900 1 rfl rfl rfl) ?_
   refine cx_ret (retN (fun _ => 0) [900] rfl rfl rfl rfl rfl ?_)
   rw [e]; exact ⟨rfl, rfl⟩
  ·
   have h1 := bF h1
   refine cx_skip ?_
   refine cx_keep rfl rfl (cx_seq (cx_ops ?_))
   refine ax_q (q_mov rfl) ?_
   refine ax_q (q_build rfl) ?_
   refine ax_e (e_box rfl rfl (by decide) rfl rfl rfl) ?_
   refine ax_q (q_mov rfl) ?_
   refine ax_nil (cx_keep rfl rfl (cx_seq (cx_ops ?_)))
   refine ax_q (q_mov rfl) ?_
   refine ax_call rfl (vcall_own (c_take (r0 := ⟨(unsealF b).1, false⟩) (n := 4) ?_ ?_) hP hmv false (fun _ => 25) [1000] ⟨rfl, rfl, rfl, rfl, ⟨rfl, trivial⟩, rfl, rfl, rfl⟩ (.pass rfl rfl (.pass rfl rfl .nil)) ?_)
   ·
    first | assumption | omega
   ·
    first | assumption | omega | (simp; done) | (simp; omega)
   rintro r h ⟨rfl, rfl⟩
   refine ⟨fun _ => 25, [], ⟨rfl, rfl, rfl, rfl, mem1 rfl, rfl, rfl, fun h => absurd h Bool.false_ne_true⟩, ?_⟩
   obtain ⟨t1, t2⟩ := @takeF_len ⟨(unsealF b).1, false⟩ 4
   have hh := @hdF_len (unsealF b).1
   obtain ⟨f1, f2⟩ := @fields_len (takeF ⟨(unsealF b).1, false⟩ 4).2
   refine ax_q (q_mov rfl) ?_
   refine ax_nil (cx_keep rfl rfl (cx_seq (cx_ops ?_)))
   refine ax_q (q_mov rfl) ?_
   refine ax_qe (r' := .d (.sl 1 (((hdF (unsealF b).1).drop 2).map byteRow))) (q_slc rfl rfl rfl (by omega) (by simp; omega) (by simp)) (slc_drop) ?_
   refine ax_call rfl (vc_pure0 (c_big (l := (hdF (unsealF b).1).drop 2) ?_) hP rfl rfl ?_)
   ·
    rw [List.length_drop]; omega
   refine ax_q (q_mov rfl) ?_
   refine ax_call rfl (vcall_own (c_fields (r0 := (takeF ⟨(unsealF b).1, false⟩ 4).2) (by simp only at t2; omega)) hP hmv false (fun _ => 25) [1000] ⟨rfl, rfl, rfl, rfl, ⟨rfl, trivial⟩, rfl, rfl, rfl⟩ (.pass rfl rfl .nil) ?_)
   rintro r h ⟨rfl, rfl⟩
   refine ⟨fun e => bif Nat.beq e 1000 then 25 else 32, [0], ⟨rfl, rfl, rfl, rfl, mem1 rfl, rfl, rfl, fun h => absurd h Bool.false_ne_true⟩, ?_⟩
   refine ax_q (q_build rfl) ?_
   refine ax_e (e_alloc (by decide) rfl rfl) ?_
   refine ax_e (e_st rfl rfl rfl rfl rfl rfl rfl) ?_
   refine ax_nil (cx_keep rfl rfl (cx_seq (cx_seq (cx_ops ?_))))
   refine ax_q (q_mov rfl) ?_
   refine ax_call rfl (vcall_own (c_isDone (r0 := rdE (unsealF b).1) ) hP hmv false (fun _ => 25) [1000] ⟨rfl, rfl, rfl, rfl, ⟨rfl, trivial⟩, rfl, rfl, rfl⟩ (.pass rfl rfl .nil) ?_)
   rintro r h ⟨rfl, rfl⟩
   refine ⟨fun _ => 25, [], ⟨rfl, rfl, rfl, rfl, mem1 rfl, rfl, rfl, fun h => absurd h Bool.false_ne_true⟩, ?_⟩
   refine ax_q (q_not rfl) ?_
   refine ax_q (q_mov rfl) ?_
   apply ax_or rfl rfl
   ·
    intro g
    have g := bF g
    refine ax_q (q_mov rfl) ?_
    refine ax_q (q_ixI rfl rfl (by omega) (mapAt (by show 0 < (hdF _).length; omega))) ?_
    refine ax_qe (r' := .d (.int .u8 (((hdF (unsealF b).1).getD 0 0).toNat : Int))) (q_load1_ip rfl) (by rw [getD_at (by omega)]; rfl) ?_
    refine ax_q (q_ibin rfl rfl rfl) ?_
    exact ax_nil ⟨rfl, by repeat constructor⟩
   refine ax_q (q_mov rfl) ?_
   apply ax_or rfl rfl
   ·
    intro g
    have g := (fun h => And.intro (bF (or_F h).1) (nF (or_F h).2)) g
    refine ax_q (q_mov rfl) ?_
    refine ax_q (q_ixI rfl rfl (by omega) (mapAt (by show 1 < (hdF _).length; omega))) ?_
    refine ax_qe (r' := .d (.int .u8 (((hdF (unsealF b).1).getD 1 0).toNat : Int))) (q_load1_ip rfl) (by rw [getD_at (by omega)]; rfl) ?_
    refine ax_q (q_convB rfl) ?_
    refine ax_q (q_mov rfl) ?_
    refine ax_q (q_ibin rfl rfl rfl) ?_
    exact ax_nil ⟨rfl, by repeat constructor⟩
   refine ax_q (q_mov rfl) ?_
   apply ax_or rfl rfl
   ·
    intro g
    have g := (fun h => And.intro ((fun h => And.intro (bF (or_F h).1) (nF (or_F h).2)) (or_F h).1) (nF (or_F h).2)) g
    refine ax_q (q_ldN rfl rfl rfl) ?_
    first | refine ax_call rfl (vc_pure0 (c_PageOK (p := rdP (unsealF b).1) ?_) hP rfl rfl ?_) | refine ax_call rfl (vc_lend0 (c_PageOK (p := rdP (unsealF b).1) ?_) hP (by repeat (first | exact lal_id _ rfl | exact LAL.nil | refine LAL.cons ?_ ?_ | exact la_id _ rfl | exact LA.lend (lend_whole rfl (by first | (simp; done) | (rw [List.length_map]; rfl))) | refine LA.agg ?_ | refine LA.fn ?_ | refine LA.lend ?_ | exact Lend.d _ | exact Lend.zs _ | exact lend_whole rfl (by first | (simp; done) | (rw [List.length_map]; rfl)) | refine Lend.ptr rfl ?_ | refine Lend.fn ?_ | exact LendL.nil | refine LendL.cons ?_ ?_)) rfl rfl ?_)
    ·
     show (fieldsF _).1.length ≤ _; omega
    refine ax_q (q_not rfl) ?_
    exact ax_nil ⟨rfl, by repeat constructor⟩
   refine ax_nil (cx_keep rfl rfl ?_)
   refine cx_cond rfl (fun h2 => ?_) (fun h2 => ?_)
   ·
    have h2 : badP no (unsealF b).1 = true := h2
    refine cx_seq (cx_ops ?_)
    refine ax_q (q_build rfl) ?_
    refine ax_e (e_st rfl rfl rfl rfl rfl rfl rfl) ?_
    refine ax_q (q_mov rfl) ?_
    refine ax_nil (cx_keep rfl rfl ?_)
    have e : rpF no b = (.zero, 3) := rpF_3 h0 h1 h2
    refine cx_wk (wk_virt 900 1 rfl rfl rfl) ?_
    refine cx_wk (wk_zsb 4 900 1 rfl rfl rfl) ?_
    refine cx_ret (retN (fun _ => 0) [900] rfl rfl rfl rfl rfl ?_)
    rw [e]; exact ⟨rfl, rfl⟩
   ·
    have h2 : badP no (unsealF b).1 = false := h2
    refine cx_skip ?_
    refine cx_keep rfl rfl (cx_seq (cx_ops ?_))
    refine ax_q (q_ldN rfl rfl rfl) ?_
    refine ax_e (e_st rfl rfl rfl rfl rfl rfl rfl) ?_
    refine ax_q (q_mov rfl) ?_
    refine ax_nil (cx_keep rfl rfl ?_)
    have e : rpF no b = (rdP (unsealF b).1, 0) := rpF_4 h0 h1 h2
    refine cx_ret (retN (fun _ => 0) [32] rfl rfl rfl rfl rfl ?_)
    rw [e]; exact ⟨rfl, rfl⟩


/- (ptr loop.example/g00332/impl.Store).diskPage -/
def k_c_diskPage : XCode :=
 .seq (.ops [.op (some 4) (.alloc [.int .i64 0, .nils 1]),
   .op (some 5) (.mov (.k (.bool false)))])
 (.keep [0, 1, 4] (.seq (.ops [.op (some 9) (.mov (.t 0)),
   .op (some 10) (.nilck (.t 9)),
   .op (some 11) (.fadr (.t 10) 0),
   .op (some 12) (.loadN 4 (.t 11)),
   .op (some 13) (.mov (.t 1)),
   .op (some 14) (.bin .add (.k (.int .i64 1)) (.t 13)),
   .call (some 15) 149 [.t 12, .t 14],
   .op (some 6) (.mov (.t 15))])
 (.keep [1, 4, 6] (.seq (.seq (.ops [.op (some 16) (.mov (.t 6)),
   .op (some 17) (.bin .eql (.t 16) (.k (.str [])))])
  (.keep [1, 4, 6, 17] (.cond (.t 17)
  (.seq (.ops [.call (some 18) 150 [],
    .op none (.store 2 (.t 4) (.t 18)),
    .op (some 5) (.mov (.k (.bool true)))])
   (.keep [4, 5] (.ret)))
  (.skip))))
 (.keep [1, 4, 6] (.seq (.ops [.op (some 20) (.mov (.t 1)),
   .op (some 21) (.mov (.t 6)),
   .op (some 22) (.s2b (.t 21)),
   .call (some 23) 151 [.t 20, .t 22],
   .op (some 19) (.mov (.t 23)),
   .op (some 24) (.ext (.t 19) 0),
   .op (some 25) (.ext (.t 19) 1),
   .op (some 7) (.alloc [.int .i64 0, .nils 1]),
   .op none (.store 2 (.t 7) (.t 24)),
   .op (some 8) (.mov (.t 25))])
 (.keep [4, 7, 8] (.seq (.ops [.op (some 26) (.loadN 2 (.t 7)),
   .op (some 27) (.mov (.t 8)),
   .op (some 28) (.bin .eql (.t 27) (.k (.int .i64 0))),
   .op none (.store 2 (.t 4) (.t 26)),
   .op (some 5) (.mov (.t 28))])
 (.keep [4, 5] (.ret))))))))))
theorem k_c_diskPage_fits : fitsF Tryz.prog 73 ⟨29, k_c_diskPage, [.cN 4 2, .t 5]⟩ = true := by kernel_rfl
theorem c_diskPage {s : GStore} {no : Nat} (hd : diskOK s.Disk = true) (hs : s.Disk.Sectors.length = 69) (hn : no < 8) : Con Tryz.prog noMv 73 [.ptr 1000 0, int (no : Nat)] [(1000, .box (s.row.map .d))] (fun r h => h = [(1000, .box (s.row.map .d))] ∧ ∃ p ok, r = .tup [Page.av p, bool ok] ∧ ok = (pageD s.Disk no).2 ∧ (ok = true → p = (pageD s.Disk no).1)) := by
 refine con_of2 k_c_diskPage_fits rfl fun C hP hmv => ?_
 unfold k_c_diskPage
 obtain ⟨q1, q2, q3⟩ := diskOK_head hd
 have htl := diskOK_txt hd (1 + no)
 refine cx_seq (cx_ops ?_)
 refine ax_e (e_alloc (by decide) rfl rfl) ?_
 refine ax_q (q_mov rfl) ?_
 refine ax_nil (cx_keep rfl rfl (cx_seq (cx_ops ?_)))
 refine ax_q (q_mov rfl) ?_
 refine ax_q (q_nilck_ptr rfl) ?_
 refine ax_q (q_fadr_ptr rfl) ?_
 refine ax_q (q_ldN rfl rfl rfl) ?_
 refine ax_q (q_mov rfl) ?_
 refine ax_qe (r' := int ((1 + no : Nat) : Int)) (q_ibin rfl rfl rfl) (by rw [wi (by omega) (by omega)]; rfl) ?_
 refine ax_call rfl (vc_pure0 (c_read (d := s.Disk) (i := 1 + no) ?_ ?_) hP rfl rfl ?_)
 ·
  first | assumption | omega
 ·
  first | assumption | omega
 show AXI _ _ _ _ ⟨(15, str (txtD s.Disk (1 + no))) :: _, _⟩ _
 refine ax_q (q_mov rfl) ?_
 refine ax_nil (cx_keep rfl rfl (cx_seq (cx_seq (cx_ops ?_))))
 refine ax_q (q_mov rfl) ?_
 refine ax_q (q_sbin rfl rfl rfl) ?_
 refine ax_nil (cx_keep rfl rfl ?_)
 refine cx_cond rfl (fun h0 => ?_) (fun h0 => ?_)
 ·
  have h0 := dT h0
  have h0 : txtD s.Disk (1 + no) = [] := h0
  refine cx_seq (cx_ops ?_)
  refine ax_call rfl (vc_pure (c_NewPage  ) hP rfl ?_)
  rintro r h ⟨rfl, rfl⟩
  refine ⟨fun i => 18 + 200 * i, [0], ⟨rfl, rfl, rfl, rfl, rfl, (by first | exact (fun h => absurd h Bool.false_ne_true) | exact (fun _ => ⟨rfl, (noisl_of (by repeat (first | exact trivial | refine ⟨noisl_map (fun _ => rfl), ?_⟩ | refine ⟨?_, ?_⟩)))⟩))⟩, ?_⟩
  skip
  refine ax_wk (wk_frz 18 18 rfl rfl (.agg (.cons (.same rfl) (.cons (.whole rfl) .nil))) rfl) ?_
  refine ax_e (e_st rfl rfl rfl rfl rfl rfl rfl) ?_
  refine ax_q (q_mov rfl) ?_
  refine ax_nil (cx_keep rfl rfl ?_)
  refine cx_ret (retN id [1000] rfl rfl rfl rfl rfl ?_)
  exact ⟨rfl, _, true, rfl, by rw [show pageD s.Disk no = _ from pageT_0 h0], fun _ => by rw [show pageD s.Disk no = _ from pageT_0 h0]; rfl⟩
 ·
  have h0 := dF h0
  have h0 : ¬ txtD s.Disk (1 + no) = [] := h0
  obtain ⟨e1, e2⟩ := @pg_same no (txtD s.Disk (1 + no)) (by omega)
  refine cx_skip ?_
  refine cx_keep rfl rfl (cx_seq (cx_ops ?_))
  refine ax_q (q_mov rfl) ?_
  refine ax_q (q_mov rfl) ?_
  refine ax_e (e_s2b rfl (by decide) rfl rfl) ?_
  first | refine ax_call rfl (vc_pure (c_ReadPage (no := (no : Int)) (b := txtD s.Disk (1 + no)) ?_) hP rfl ?_) | refine ax_call rfl (vc_lend (c_ReadPage (no := (no : Int)) (b := txtD s.Disk (1 + no)) ?_) hP (by repeat (first | exact lal_id _ rfl | exact LAL.nil | refine LAL.cons ?_ ?_ | exact la_id _ rfl | exact LA.lend (lend_whole rfl (by first | (simp; done) | (rw [List.length_map]; rfl))) | refine LA.agg ?_ | refine LA.fn ?_ | refine LA.lend ?_ | exact Lend.d _ | exact Lend.zs _ | exact lend_whole rfl (by first | (simp; done) | (rw [List.length_map]; rfl)) | refine Lend.ptr rfl ?_ | refine Lend.fn ?_ | exact LendL.nil | refine LendL.cons ?_ ?_)) ?_)
  ·
   first | assumption | omega
  rintro r h ⟨rfl, rfl⟩
  refine ⟨fun i => 23 + 200 * i, [0], ⟨rfl, rfl, rfl, rfl, rfl, (by first | exact (fun h => absurd h Bool.false_ne_true) | exact (fun _ => ⟨rfl, (noisl_of (by repeat (first | exact trivial | refine ⟨noisl_map (fun _ => rfl), ?_⟩ | refine ⟨?_, ?_⟩)))⟩))⟩, ?_⟩
  skip
  refine ax_wk (wk_frz 23 23 rfl rfl (.tup (.cons (.agg (.cons (.same rfl) (.cons (.whole (List.length_map _).symm) .nil))) (.cons (.same rfl) .nil))) rfl) ?_
  refine ax_q (q_mov rfl) ?_
  refine ax_q (q_ext rfl rfl) ?_
  refine ax_q (q_ext rfl rfl) ?_
  refine ax_e (e_alloc (by decide) rfl rfl) ?_
  refine ax_e (e_st rfl rfl rfl rfl rfl rfl rfl) ?_
  refine ax_q (q_mov rfl) ?_
  refine ax_nil (cx_keep rfl rfl (cx_seq (cx_ops ?_)))
  refine ax_q (q_ldN rfl rfl rfl) ?_
  refine ax_q (q_mov rfl) ?_
  refine ax_q (q_ibin rfl rfl rfl) ?_
  refine ax_e (e_st rfl rfl rfl rfl rfl rfl rfl) ?_
  refine ax_q (q_mov rfl) ?_
  refine ax_nil (cx_keep rfl rfl ?_)
  refine cx_ret (retN id [1000] rfl rfl rfl rfl rfl ?_)
  exact ⟨rfl, (rpF no (txtD s.Disk (1 + no))).1, _, rfl, by rw [show pageD s.Disk no = _ from pageT_1 h0, Bool.eq_iff_iff, ← e1, decide_eq_true_eq], fun h => by rw [show pageD s.Disk no = _ from pageT_1 h0]; exact e2 (e1.1 (of_decide_eq_true h))⟩


/- slices.IndexFunc[[]loop.example/g00332/impl.Frame,loop.example/g00332/impl.Frame] -/
def k_c_IndexFunc_Frame : XCode :=
 .seq (.ops [.op (some 4) (.mov (.k (.int .i64 0)))])
 (.keep [0, 1] (.seq (.seq (.ops [.op (some 6) (.mov (.t 0)),
   .op (some 7) (.lenS (.t 6)),
   .op (some 8) (.mov (.k (.int .i64 0)))])
  (.keep [0, 1, 7, 8] (.block 0 (.loop (.seq (.ops [.op (some 9) (.bin .lss (.t 8) (.t 7))])
   (.keep [0, 1, 7, 8, 9] (.seq (.cond (.t 9)
    (.skip)
    (.exit 0))
   (.keep [0, 1, 7, 8] (.seq (.block 1 (.seq (.ops [.op (some 10) (.mov (.t 8)),
     .op (some 5) (.mov (.t 10))])
    (.keep [0, 1, 5, 7, 8] (.seq (.ops [.op (some 11) (.mov (.t 1)),
     .op (some 12) (.mov (.t 0)),
     .op (some 13) (.mov (.t 5)),
     .op (some 14) (.iadr 5 (.t 12) (.t 13)),
     .op (some 15) (.loadN 5 (.t 14)),
     .callv (some 16) (.t 11) [.t 15]])
    (.keep [0, 1, 5, 7, 8, 16] (.cond (.t 16)
    (.seq (.ops [.op (some 17) (.mov (.t 5)),
      .op (some 4) (.mov (.t 17))])
     (.keep [4] (.ret)))
    (.skip)))))))
   (.keep [0, 1, 7, 8] (.ops [.op (some 18) (.bin .add (.t 8) (.k (.int .i64 1))),
    .op (some 8) (.mov (.t 18))])))))))))))
 (.keep [] (.seq (.ops [.op (some 4) (.mov (.k (.int .i64 (-1))))])
 (.keep [4] (.ret))))))
theorem k_c_IndexFunc_Frame_fits : fitsF Tryz.prog 216 ⟨19, k_c_IndexFunc_Frame, [.t 4]⟩ = true := by kernel_rfl
theorem c_IndexFunc_Frame {xs : List GFrame} {f : Nat} {ds : List D} (p : GFrame → Bool) (hw : xs.length ≤ 9223372036854775807) (hb : hasBody Tryz.prog f = true) (hf : ∀ s ∈ xs, Con Tryz.prog noMv f (s.av :: ds.map AV.d) [] (fun r h => r = bool (p s) ∧ h = [])) : Con Tryz.prog noMv 216 [.d (.sl 5 (xs.map GFrame.row)), .d (.fn (.func f) ds)] [] (fun r h => r = int (idxOf p xs 0) ∧ h = []) := by
 refine con_of2 k_c_IndexFunc_Frame_fits rfl fun C hP hmv => ?_
 unfold k_c_IndexFunc_Frame
 refine cx_seq (cx_ops ?_)
 refine ax_q (q_mov rfl) ?_
 refine ax_nil (cx_keep rfl rfl (cx_seq (cx_seq (cx_ops ?_))))
 refine ax_q (q_mov rfl) ?_
 refine ax_q (q_lenS_map rfl) ?_
 refine ax_q (q_mov rfl) ?_
 refine ax_nil (cx_keep rfl rfl (cx_block ?_))
 refine cx_loopU (fun n k => k ≤ xs.length ∧ n = xs.length - k ∧ ∀ i, i < k → ∀ x, xs[i]? = some x → p x = false) (fun k : Nat => [(8, int k)]) (fun _ => []) ⟨_, 0, ⟨by omega, rfl, fun i hi => by omega⟩, by repeat constructor⟩ ?_
 rintro n k ⟨hk, rfl, ht⟩
 refine cx_seq (cx_ops ?_)
 refine ax_q (q_ibin rfl rfl rfl) ?_
 refine ax_nil (cx_keep rfl rfl (cx_seq ?_))
 refine cx_cond rfl (fun h0 => ?_) (fun h0 => ?_)
 ·
  have h0 := dT h0
  have h0x : k < xs.length := by omega
  refine cx_skip ?_
  refine cx_keep rfl rfl (cx_seq (cx_block (cx_seq (cx_ops ?_))))
  refine ax_q (q_mov rfl) ?_
  refine ax_q (q_mov rfl) ?_
  refine ax_nil (cx_keep rfl rfl (cx_seq (cx_ops ?_)))
  refine ax_q (q_mov rfl) ?_
  refine ax_q (q_mov rfl) ?_
  refine ax_q (q_mov rfl) ?_
  refine ax_q (q_ix rfl rfl (mapAt h0x)) ?_
  first | refine ax_q (q_ldN rfl rfl rfl) ?_ | refine ax_q (q_loadN_ip rfl (Nat.le_refl _)) ?_
  refine ax_callvD rfl (by rw [hP]; exact hb) rfl (vc_pure0 (hf _ (List.getElem_mem h0x)) hP (refs_cons rfl ds) rfl ?_)
  refine ax_nil (cx_keep rfl rfl ?_)
  refine cx_cond rfl (fun h1 => ?_) (fun h1 => ?_)
  ·
   skip
   refine cx_seq (cx_ops ?_)
   refine ax_q (q_mov rfl) ?_
   refine ax_q (q_mov rfl) ?_
   refine ax_nil (cx_keep rfl rfl ?_)
   refine cx_ret (ret0 rfl rfl ?_)
   exact ⟨by rw [idxOf_hit h0x ht h1]; rfl, rfl⟩
  ·
   skip
   refine cx_skip ?_
   refine cx_keep rfl rfl (cx_ops ?_)
   refine ax_qe (r' := int ((k + 1 : Nat) : Int)) (q_ibin rfl rfl rfl) (by rw [wi (by omega) (by omega)]; rfl) ?_
   refine ax_q (q_mov rfl) ?_
   refine ax_nil ?_
   exact ⟨_, k + 1, by omega, ⟨by omega, rfl, before_step h0x ht h1⟩, by repeat constructor⟩
 ·
  have h0 := dF h0
  have h0x : k = xs.length := by omega
  refine cx_exit rfl ?_
  refine cx_keep rfl rfl (cx_seq (cx_ops ?_))
  refine ax_q (q_mov rfl) ?_
  refine ax_nil (cx_keep rfl rfl ?_)
  refine cx_ret (ret0 rfl rfl ?_)
  exact ⟨by rw [idxOf_none (fun i hi => ht i (by omega))]; rfl, rfl⟩


/- (ptr loop.example/g00332/impl.Store).frameAt$1 -/
def k_c_frameAt1 : XCode :=
 .seq (.ops [.op (some 2) (.box (.t 0)),
   .op (some 3) (.mov (.k (.bool false)))])
 (.keep [1, 2] (.seq (.ops [.op (some 4) (.fadr (.t 2) 0),
   .op (some 5) (.load1 (.t 4)),
   .op (some 6) (.load1 (.t 1)),
   .op (some 7) (.bin .eql (.t 5) (.t 6)),
   .op (some 3) (.mov (.t 7))])
 (.keep [3] (.ret))))
theorem k_c_frameAt1_fits : fitsF Tryz.prog 217 ⟨8, k_c_frameAt1, [.t 3]⟩ = true := by kernel_rfl
theorem c_frameAt1 {a : GFrame} {no : Int} : Con Tryz.prog noMv 217 [a.av, .d (.ip [.int .i64 no])] [] (fun r h => r = bool (decide (a.No = no)) ∧ h = []) := by
 refine con_of2 k_c_frameAt1_fits rfl fun C hP hmv => ?_
 unfold k_c_frameAt1
 refine cx_seq (cx_ops ?_)
 refine ax_e (e_box rfl rfl (by decide) rfl rfl rfl) ?_
 refine ax_q (q_mov rfl) ?_
 refine ax_nil (cx_keep rfl rfl (cx_seq (cx_ops ?_)))
 refine ax_q (q_fadr_ptr rfl) ?_
 refine ax_q (q_load1_ptr rfl rfl rfl) ?_
 first | refine ax_q (q_load1_ptr rfl rfl rfl) ?_ | refine ax_q (q_load1_ip rfl) ?_
 refine ax_q (q_ibin rfl rfl rfl) ?_
 refine ax_q (q_mov rfl) ?_
 refine ax_nil (cx_keep rfl rfl ?_)
 refine cx_ret (ret0 rfl rfl ?_)
 exact ⟨rfl, rfl⟩


/- (ptr loop.example/g00332/impl.Store).frameAt -/
def k_c_frameAt : XCode :=
 .seq (.ops [.op (some 3) (.box (.t 1)),
   .op (some 4) (.mov (.k (.int .i64 0)))])
 (.keep [0, 3] (.seq (.ops [.op (some 5) (.mov (.t 0)),
   .op (some 6) (.nilck (.t 5)),
   .op (some 7) (.fadr (.t 6) 7),
   .op (some 8) (.load1 (.t 7)),
   .op (some 9) (.mkfn 217 [.t 3]),
   .call (some 10) 216 [.t 8, .t 9],
   .op (some 4) (.mov (.t 10))])
 (.keep [4] (.ret))))
theorem k_c_frameAt_fits : fitsF Tryz.prog 152 ⟨11, k_c_frameAt, [.t 4]⟩ = true := by kernel_rfl
theorem c_frameAt {s : GStore} {no : Int} (hf : s.Frames.length ≤ 1048576) : Con Tryz.prog noMv 152 [.d (.ip s.row), int no] [] (fun r h => r = int (frameAt s no) ∧ h = []) := by
 refine con_of2 k_c_frameAt_fits rfl fun C hP hmv => ?_
 unfold k_c_frameAt
 refine cx_seq (cx_ops ?_)
 refine ax_e (e_box rfl rfl (by decide) rfl rfl rfl) ?_
 refine ax_q (q_mov rfl) ?_
 refine ax_nil (cx_keep rfl rfl (cx_seq (cx_ops ?_)))
 refine ax_q (q_mov rfl) ?_
 first | refine ax_q (q_nilck_ptr rfl) ?_ | refine ax_q (q_nilck_rptr rfl) ?_ | refine ax_q (q_nilck_ip rfl) ?_
 first | refine ax_q (q_fadr_ptr rfl) ?_ | refine ax_q (q_fadr_rptr rfl) ?_ | refine ax_q (q_fadr_ip rfl) ?_
 first | refine ax_q (q_load1_ptr rfl rfl rfl) ?_ | refine ax_q (q_load1_ip rfl) ?_
 refine ax_q (q_mkfn rfl) ?_
 refine ax_call rfl (vc_lend0 (c_IndexFunc_Frame (xs := s.Frames) (ds := [.ip [.int .i64 no]]) (fun f => decide (f.No = no)) (by omega) (by kernel_rfl) (fun f _ => c_frameAt1)) hP (by repeat (first | exact lal_id _ rfl | exact LAL.nil | refine LAL.cons ?_ ?_ | exact la_id _ rfl | exact LA.lend (lend_whole rfl (by first | (simp; done) | (rw [List.length_map]; rfl))) | refine LA.agg ?_ | refine LA.fn ?_ | refine LA.lend ?_ | exact Lend.d _ | exact Lend.zs _ | exact lend_whole rfl (by first | (simp; done) | (rw [List.length_map]; rfl)) | refine Lend.ptr rfl ?_ | refine Lend.fn ?_ | exact LendL.nil | refine LendL.cons ?_ ?_)) rfl rfl ?_)
 refine ax_q (q_mov rfl) ?_
 refine ax_nil (cx_keep rfl rfl ?_)
 refine cx_ret (ret0 rfl rfl ?_)
 exact ⟨rfl, rfl⟩


/- (ptr loop.example/g00332/impl.Store).framesOK -/
def k_c_framesOK : XCode :=
 .seq (.ops [.op (some 2) (.mov (.k (.bool false)))])
 (.keep [0] (.seq (.seq (.ops [.op (some 5) (.mov (.t 0)),
   .op (some 6) (.nilck (.t 5)),
   .op (some 7) (.fadr (.t 6) 7),
   .op (some 8) (.load1 (.t 7)),
   .op (some 9) (.lenS (.t 8)),
   .op (some 10) (.mov (.k (.int .i64 0)))])
  (.keep [0, 8, 9, 10] (.block 0 (.loop (.seq (.ops [.op (some 11) (.bin .lss (.t 10) (.t 9))])
   (.keep [0, 8, 9, 10, 11] (.seq (.cond (.t 11)
    (.skip)
    (.exit 0))
   (.keep [0, 8, 9, 10] (.seq (.block 1 (.seq (.ops [.op (some 12) (.mov (.t 10)),
     .op (some 13) (.iadr 5 (.t 8) (.t 10)),
     .op (some 14) (.loadN 5 (.t 13)),
     .op (some 4) (.alloc [.int .i64 0, .int .i64 0, .nils 1, .bool false, .int .i64 0]),
     .op (some 3) (.mov (.t 12)),
     .op none (.store 5 (.t 4) (.t 14))])
    (.keep [0, 3, 4, 8, 9, 10] (.seq (.draw [.op (some 15) (.fadr (.t 4) 0),
     .op (some 16) (.load1 (.t 15)),
     .call (some 17) 75 [.t 16, .k (.int .i64 8)],
     .op (some 18) (.not (.t 17)),
     .op (some 19) (.mov (.t 18)),
     .andor 26 false 4 19 [.op (some 20) (.mov (.t 0)), .op (some 21) (.fadr (.t 4) 0), .op (some 22) (.load1 (.t 21)), .call (some 23) 152 [.t 20, .t 22], .op (some 24) (.mov (.t 3)), .op (some 25) (.bin .neq (.t 23) (.t 24))] (.t 25),
     .op (some 27) (.mov (.t 26)),
     .andor 32 false 12 27 [.op (some 28) (.fadr (.t 4) 1), .op (some 29) (.loadN 2 (.t 28)), .call (some 30) 153 [.t 29], .op (some 31) (.not (.t 30))] (.t 31),
     .op (some 33) (.mov (.t 32)),
     .andor 43 false 18 33 [.op (some 34) (.fadr (.t 4) 1), .op (some 35) (.fadr (.t 34) 0), .op (some 36) (.load1 (.t 35)), .op (some 37) (.mov (.t 0)), .op (some 38) (.nilck (.t 37)), .op (some 39) (.fadr (.t 38) 5), .op (some 40) (.load1 (.t 39)), .op (some 41) (.lenS (.t 40)), .op (some 42) (.bin .gtr (.t 36) (.t 41))] (.t 42),
     .op (some 44) (.mov (.t 43)),
     .andor 54 false 29 44 [.op (some 45) (.fadr (.t 4) 4), .op (some 46) (.load1 (.t 45)), .op (some 47) (.mov (.t 0)), .op (some 48) (.nilck (.t 47)), .op (some 49) (.fadr (.t 48) 5), .op (some 50) (.load1 (.t 49)), .op (some 51) (.lenS (.t 50)), .call (some 52) 63 [.t 46, .k (.int .i64 0), .t 51], .op (some 53) (.not (.t 52))] (.t 53),
     .op (some 55) (.mov (.t 54)),
     .andor 62 false 40 55 [.op (some 56) (.fadr (.t 4) 4), .op (some 57) (.load1 (.t 56)), .op (some 58) (.bin .gtr (.t 57) (.k (.int .i64 0))), .op (some 59) (.fadr (.t 4) 3), .op (some 60) (.load1 (.t 59)), .op (some 61) (.eqb true (.t 58) (.t 60))] (.t 61)])
    (.keep [0, 8, 9, 10, 62] (.cond (.t 62)
    (.seq (.ops [.op (some 2) (.mov (.k (.bool false)))])
     (.keep [2] (.ret)))
    (.skip)))))))
   (.keep [0, 8, 9, 10] (.ops [.op (some 63) (.bin .add (.t 10) (.k (.int .i64 1))),
    .op (some 10) (.mov (.t 63))])))))))))))
 (.keep [0] (.seq (.ops [.op (some 64) (.mov (.t 0)),
   .op (some 65) (.nilck (.t 64)),
   .op (some 66) (.fadr (.t 65) 7),
   .op (some 67) (.load1 (.t 66)),
   .op (some 68) (.lenS (.t 67)),
   .op (some 69) (.bin .leq (.t 68) (.k (.int .i64 3))),
   .op (some 2) (.mov (.t 69))])
 (.keep [2] (.ret))))))
theorem k_c_framesOK_fits : fitsF Tryz.prog 74 ⟨70, k_c_framesOK, [.t 2]⟩ = true := by kernel_rfl
set_option maxHeartbeats 4000000 in
theorem c_framesOK {s : GStore} (hb0 : StB s) : Con Tryz.prog noMv 74 [.d (.ip s.row)] [] (fun r h => r = bool (framesOK s && decide ((s.Frames.length : Int) ≤ 3)) ∧ h = []) := by
 refine con_of2 k_c_framesOK_fits rfl fun C hP hmv => ?_
 unfold k_c_framesOK
 have hfl := hb0.fr
 have hll := hb0.lo
 refine cx_seq (cx_ops ?_)
 refine ax_q (q_mov rfl) ?_
 refine ax_nil (cx_keep rfl rfl (cx_seq (cx_seq (cx_ops ?_))))
 refine ax_q (q_mov rfl) ?_
 first | refine ax_q (q_nilck_ptr rfl) ?_ | refine ax_q (q_nilck_rptr rfl) ?_ | refine ax_q (q_nilck_ip rfl) ?_
 first | refine ax_q (q_fadr_ptr rfl) ?_ | refine ax_q (q_fadr_rptr rfl) ?_ | refine ax_q (q_fadr_ip rfl) ?_
 first | refine ax_q (q_load1_ptr rfl rfl rfl) ?_ | refine ax_q (q_load1_ip rfl) ?_
 refine ax_q (q_lenS_map rfl) ?_
 refine ax_q (q_mov rfl) ?_
 refine ax_nil (cx_keep rfl rfl (cx_block ?_))
 refine cx_loopU (fun n k => k ≤ s.Frames.length ∧ n = s.Frames.length - k ∧ ∀ j (hj : j < s.Frames.length), j < k → frameBad s j s.Frames[j] = false) (fun k : Nat => [(10, int k)]) (fun _ => []) ⟨_, 0, ⟨Nat.zero_le _, rfl, fun j _ hj => by omega⟩, by repeat constructor⟩ ?_
 rintro n k ⟨hk, rfl, hb⟩
 refine cx_seq (cx_ops ?_)
 refine ax_q (q_ibin rfl rfl rfl) ?_
 refine ax_nil (cx_keep rfl rfl (cx_seq ?_))
 refine cx_cond rfl (fun h0 => ?_) (fun h0 => ?_)
 ·
  have h0 := dT h0
  have h0x : k < s.Frames.length := by omega
  have hwk := hb0.sw _ (List.getElem_mem h0x)
  have hsk := hb0.sl _ (List.getElem_mem h0x)
  refine cx_skip ?_
  refine cx_keep rfl rfl (cx_seq (cx_block (cx_seq (cx_ops ?_))))
  refine ax_q (q_mov rfl) ?_
  refine ax_q (q_ix rfl rfl (mapAt h0x)) ?_
  first | refine ax_q (q_ldN rfl rfl rfl) ?_ | refine ax_q (q_loadN_ip rfl (Nat.le_refl _)) ?_
  refine ax_e (e_alloc (by decide) rfl rfl) ?_
  refine ax_q (q_mov rfl) ?_
  refine ax_e (e_st rfl rfl rfl rfl rfl rfl rfl) ?_
  refine ax_nil (cx_keep rfl rfl (cx_seq (cx_draw ?_)))
  refine ax_q (q_fadr_ptr rfl) ?_
  refine ax_q (q_load1_ptr rfl rfl rfl) ?_
  refine ax_callq rfl (c_isPlace  ?_) hP (lal_id _ rfl) rfl ?_
  ·
   first | assumption | omega
  refine ax_q (q_not rfl) ?_
  refine ax_q (q_mov rfl) ?_
  apply ax_or rfl rfl
  ·
   intro g
   have g := bF g
   refine ax_q (q_mov rfl) ?_
   refine ax_q (q_fadr_ptr rfl) ?_
   refine ax_q (q_load1_ptr rfl rfl rfl) ?_
   refine ax_callq rfl (c_frameAt (s := s) (no := s.Frames[k].No) ?_) hP (lal_id _ rfl) rfl ?_
   ·
    assumption
   refine ax_q (q_mov rfl) ?_
   refine ax_q (q_ibin rfl rfl rfl) ?_
   exact ax_nil ⟨rfl, by repeat constructor⟩
  refine ax_q (q_mov rfl) ?_
  apply ax_or rfl rfl
  ·
   intro g
   have g := (fun h => And.intro (bF (or_F h).1) (nF (or_F h).2)) g
   refine ax_q (q_fadr_ptr rfl) ?_
   refine ax_q (q_ldN rfl rfl rfl) ?_
   refine ax_callq rfl (c_PageOK (p := s.Frames[k].Page) ?_) hP (lal_id _ rfl) rfl ?_
   ·
    assumption
   refine ax_q (q_not rfl) ?_
   exact ax_nil ⟨rfl, by repeat constructor⟩
  refine ax_q (q_mov rfl) ?_
  apply ax_or rfl rfl
  ·
   intro g
   have g := (fun h => And.intro ((fun h => And.intro (bF (or_F h).1) (nF (or_F h).2)) (or_F h).1) (bF (or_F h).2)) g
   refine ax_q (q_fadr_ptr rfl) ?_
   refine ax_q (q_fadr_ptr rfl) ?_
   refine ax_q (q_load1_ptr rfl rfl rfl) ?_
   refine ax_q (q_mov rfl) ?_
   first | refine ax_q (q_nilck_ptr rfl) ?_ | refine ax_q (q_nilck_rptr rfl) ?_ | refine ax_q (q_nilck_ip rfl) ?_
   first | refine ax_q (q_fadr_ptr rfl) ?_ | refine ax_q (q_fadr_rptr rfl) ?_ | refine ax_q (q_fadr_ip rfl) ?_
   first | refine ax_q (q_load1_ptr rfl rfl rfl) ?_ | refine ax_q (q_load1_ip rfl) ?_
   refine ax_q (q_lenS_map rfl) ?_
   refine ax_q (q_ibin rfl rfl rfl) ?_
   exact ax_nil ⟨rfl, by repeat constructor⟩
  refine ax_q (q_mov rfl) ?_
  apply ax_or rfl rfl
  ·
   intro g
   have g := (fun h => And.intro ((fun h => And.intro ((fun h => And.intro (bF (or_F h).1) (nF (or_F h).2)) (or_F h).1) (bF (or_F h).2)) (or_F h).1) (dF (or_F h).2)) g
   refine ax_q (q_fadr_ptr rfl) ?_
   refine ax_q (q_load1_ptr rfl rfl rfl) ?_
   refine ax_q (q_mov rfl) ?_
   first | refine ax_q (q_nilck_ptr rfl) ?_ | refine ax_q (q_nilck_rptr rfl) ?_ | refine ax_q (q_nilck_ip rfl) ?_
   first | refine ax_q (q_fadr_ptr rfl) ?_ | refine ax_q (q_fadr_rptr rfl) ?_ | refine ax_q (q_fadr_ip rfl) ?_
   first | refine ax_q (q_load1_ptr rfl rfl rfl) ?_ | refine ax_q (q_load1_ip rfl) ?_
   refine ax_q (q_lenS_map rfl) ?_
   refine ax_callq rfl (c_inRange  ) hP (lal_id _ rfl) rfl ?_
   refine ax_q (q_not rfl) ?_
   exact ax_nil ⟨rfl, by repeat constructor⟩
  refine ax_q (q_mov rfl) ?_
  apply ax_or rfl rfl
  ·
   intro g
   have g := (fun h => And.intro ((fun h => And.intro ((fun h => And.intro ((fun h => And.intro (bF (or_F h).1) (nF (or_F h).2)) (or_F h).1) (bF (or_F h).2)) (or_F h).1) (dF (or_F h).2)) (or_F h).1) (bF (or_F h).2)) g
   refine ax_q (q_fadr_ptr rfl) ?_
   refine ax_q (q_load1_ptr rfl rfl rfl) ?_
   refine ax_q (q_ibin rfl rfl rfl) ?_
   refine ax_q (q_fadr_ptr rfl) ?_
   refine ax_q (q_load1_ptr rfl rfl rfl) ?_
   refine ax_q (q_eqb rfl rfl) ?_
   exact ax_nil ⟨rfl, by repeat constructor⟩
  refine ax_nil (cx_keep rfl rfl ?_)
  refine cx_cond rfl (fun h1 => ?_) (fun h1 => ?_)
  ·
   have h1 : frameBad s k s.Frames[k] = true := h1
   refine cx_seq (cx_ops ?_)
   refine ax_q (q_mov rfl) ?_
   refine ax_nil (cx_keep rfl rfl ?_)
   refine cx_ret (ret0 rfl rfl ?_)
   exact ⟨by rw [frames_no h0x h1]; rfl, rfl⟩
  ·
   have hbk : frameBad s k s.Frames[k] = false := h1
   refine cx_skip ?_
   refine cx_keep rfl rfl (cx_ops ?_)
   refine ax_qe (r' := int ((k + 1 : Nat) : Int)) (q_ibin rfl rfl rfl) (by rw [wi (by omega) (by omega)]; rfl) ?_
   refine ax_q (q_mov rfl) ?_
   refine ax_nil ?_
   exact ⟨_, k + 1, by omega, ⟨by omega, rfl, fun j hj hjk => by
    rcases Nat.lt_succ_iff_lt_or_eq.1 hjk with q | rfl
    ·
     exact hb j hj q
    ·
     exact hbk⟩, by repeat constructor⟩
 ·
  have h0 := dF h0
  have hfa := frames_all (s := s) (fun j hj => hb j hj (by omega))
  refine cx_exit rfl ?_
  refine cx_keep rfl rfl (cx_seq (cx_ops ?_))
  refine ax_q (q_mov rfl) ?_
  first | refine ax_q (q_nilck_ptr rfl) ?_ | refine ax_q (q_nilck_rptr rfl) ?_ | refine ax_q (q_nilck_ip rfl) ?_
  first | refine ax_q (q_fadr_ptr rfl) ?_ | refine ax_q (q_fadr_rptr rfl) ?_ | refine ax_q (q_fadr_ip rfl) ?_
  first | refine ax_q (q_load1_ptr rfl rfl rfl) ?_ | refine ax_q (q_load1_ip rfl) ?_
  refine ax_q (q_lenS_map rfl) ?_
  refine ax_q (q_ibin rfl rfl rfl) ?_
  refine ax_q (q_mov rfl) ?_
  refine ax_nil (cx_keep rfl rfl ?_)
  refine cx_ret (ret0 rfl rfl ?_)
  exact ⟨by rw [hfa, Bool.true_and]; rfl, rfl⟩


/- loop.example/g00332/impl.StoreOK -/
def k_c_StoreOK : XCode :=
 .seq (.ops [.op (some 1) (.box (.t 0)),
   .op (some 2) (.mov (.k (.bool false)))])
 (.keep [1] (.seq (.seq (.ops [.op (some 9) (.fadr (.t 1) 0),
   .op (some 10) (.loadN 4 (.t 9)),
   .call (some 11) 71 [.t 10],
   .op (some 12) (.not (.t 11)),
   .op (some 13) (.mov (.t 12)),
   .andor 19 false 4 13 [.op (some 14) (.fadr (.t 1) 0), .op (some 15) (.fadr (.t 14) 0), .op (some 16) (.load1 (.t 15)), .op (some 17) (.lenS (.t 16)), .op (some 18) (.bin .neq (.t 17) (.k (.int .i64 69)))] (.t 18),
   .op (some 20) (.mov (.t 19)),
   .andor 25 false 11 20 [.op (some 21) (.fadr (.t 1) 4), .op (some 22) (.load1 (.t 21)), .call (some 23) 63 [.t 22, .k (.int .i64 1), .k (.int .i64 60)], .op (some 24) (.not (.t 23))] (.t 24),
   .op (some 26) (.mov (.t 25)),
   .andor 31 false 17 26 [.op (some 27) (.fadr (.t 1) 5), .op (some 28) (.load1 (.t 27)), .op (some 29) (.lenS (.t 28)), .op (some 30) (.bin .gtr (.t 29) (.k (.int .i64 60)))] (.t 30),
   .op (some 32) (.mov (.t 31)),
   .andor 37 false 23 32 [.op (some 33) (.fadr (.t 1) 5), .op (some 34) (.load1 (.t 33)), .call (some 35) 72 [.t 34], .op (some 36) (.not (.t 35))] (.t 36),
   .op (some 38) (.mov (.t 37)),
   .andor 46 false 29 38 [.op (some 39) (.fadr (.t 1) 6), .op (some 40) (.load1 (.t 39)), .op (some 41) (.fadr (.t 1) 5), .op (some 42) (.load1 (.t 41)), .op (some 43) (.lenS (.t 42)), .call (some 44) 63 [.t 40, .k (.int .i64 0), .t 43], .op (some 45) (.not (.t 44))] (.t 45)])
  (.keep [1, 46] (.cond (.t 46)
  (.seq (.ops [.op (some 2) (.mov (.k (.bool false)))])
   (.keep [2] (.ret)))
  (.skip))))
 (.keep [1] (.seq (.ops [.op (some 3) (.mov (.k (.int .i64 1)))])
 (.keep [1, 3] (.seq (.seq (.ops [.op (some 47) (.fadr (.t 1) 5),
   .op (some 48) (.load1 (.t 47)),
   .op (some 49) (.lenS (.t 48)),
   .op (some 50) (.mov (.k (.int .i64 0)))])
  (.keep [1, 3, 48, 49, 50] (.block 0 (.loop (.seq (.ops [.op (some 51) (.bin .lss (.t 50) (.t 49))])
   (.keep [1, 3, 48, 49, 50, 51] (.seq (.cond (.t 51)
    (.skip)
    (.exit 0))
   (.keep [1, 3, 48, 49, 50] (.seq (.block 1 (.seq (.ops [.op (some 52) (.iadr 10 (.t 48) (.t 50)),
     .op (some 53) (.loadN 10 (.t 52)),
     .op (some 5) (.alloc [.int .i64 0, .int .i64 0, .int .i64 0, .int .i64 0, .int .i64 0, .int .i64 0, .int .i64 0, .int .i64 0, .str [], .str []]),
     .op none (.store 10 (.t 5) (.t 53))])
    (.keep [1, 3, 5, 48, 49, 50] (.seq (.seq (.ops [.op (some 54) (.fadr (.t 5) 0),
      .op (some 55) (.load1 (.t 54)),
      .op (some 56) (.mov (.t 3)),
      .op (some 57) (.fadr (.t 1) 4),
      .op (some 58) (.load1 (.t 57)),
      .call (some 59) 63 [.t 55, .t 56, .t 58],
      .op (some 60) (.not (.t 59))])
    (.keep [1, 5, 48, 49, 50, 60] (.cond (.t 60)
     (.seq (.ops [.op (some 2) (.mov (.k (.bool false)))])
     (.keep [2] (.ret)))
     (.skip))))
    (.keep [1, 5, 48, 49, 50] (.ops [.op (some 61) (.fadr (.t 5) 0),
     .op (some 62) (.load1 (.t 61)),
     .op (some 3) (.mov (.t 62))]))))))
   (.keep [1, 3, 48, 49, 50] (.ops [.op (some 63) (.bin .add (.t 50) (.k (.int .i64 1))),
    .op (some 50) (.mov (.t 63))])))))))))))
 (.keep [1] (.seq (.seq (.ops [.op (some 64) (.mov (.k (.int .i64 0)))])
  (.keep [1, 64] (.block 2 (.loop (.seq (.ops [.op (some 65) (.bin .lss (.t 64) (.k (.int .i64 8)))])
   (.keep [1, 64, 65] (.seq (.cond (.t 65)
    (.skip)
    (.exit 2))
   (.keep [1, 64] (.seq (.block 3 (.seq (.ops [.op (some 66) (.mov (.t 64)),
     .op (some 6) (.mov (.t 66))])
    (.keep [1, 6, 64] (.seq (.ops [.op (some 68) (.mov (.t 6)),
     .call (some 69) 73 [.t 1, .t 68],
     .op (some 67) (.mov (.t 69)),
     .op (some 70) (.ext (.t 67) 0),
     .op (some 71) (.ext (.t 67) 1),
     .op (some 7) (.alloc [.int .i64 0, .nils 1]),
     .op none (.store 2 (.t 7) (.t 70)),
     .op (some 8) (.mov (.t 71))])
    (.keep [1, 7, 8, 64] (.seq (.ops [.op (some 72) (.mov (.t 8)),
     .op (some 73) (.not (.t 72)),
     .op (some 74) (.mov (.t 73)),
     .andor 80 false 2 74 [.op (some 75) (.fadr (.t 7) 0), .op (some 76) (.load1 (.t 75)), .op (some 77) (.fadr (.t 1) 6), .op (some 78) (.load1 (.t 77)), .op (some 79) (.bin .gtr (.t 76) (.t 78))] (.t 79)])
    (.keep [1, 64, 80] (.cond (.t 80)
    (.seq (.ops [.op (some 2) (.mov (.k (.bool false)))])
     (.keep [2] (.ret)))
    (.skip)))))))))
   (.keep [1, 64] (.ops [.op (some 81) (.bin .add (.t 64) (.k (.int .i64 1))),
    .op (some 64) (.mov (.t 81))])))))))))))
 (.keep [1] (.seq (.ops [.call (some 82) 74 [.t 1],
   .op (some 83) (.mov (.t 82)),
   .andor 87 true 1 83 [.op (some 84) (.fadr (.t 1) 8), .op (some 85) (.load1 (.t 84)), .call (some 86) 75 [.t 85, .k (.int .i64 3)]] (.t 86),
   .op (some 2) (.mov (.t 87))])
 (.keep [2] (.ret))))))))))))
theorem k_c_StoreOK_fits : fitsF Tryz.prog 28 ⟨88, k_c_StoreOK, [.t 2]⟩ = true := by kernel_rfl
set_option maxHeartbeats 8000000 in
theorem c_StoreOK {s : GStore} (hb0 : StB s) : Con Tryz.prog noMv 28 [s.av] [] (fun r h => r = bool (storeOK s) ∧ h = []) := by
 refine con_of2 k_c_StoreOK_fits rfl fun C hP hmv => ?_
 unfold k_c_StoreOK
 obtain ⟨hw0, hw1, hw2, hw3, hwa, hw4, hw5, hw6⟩ := id hb0
 refine cx_seq (cx_ops ?_)
 refine ax_e (e_box rfl rfl (by decide) rfl rfl rfl) ?_
 refine ax_q (q_mov rfl) ?_
 refine ax_nil (cx_keep rfl rfl (cx_seq (cx_seq (cx_ops ?_))))
 refine ax_q (q_fadr_ptr rfl) ?_
 refine ax_q (q_ldN rfl rfl rfl) ?_
 refine ax_call rfl (vc_pure0 (c_DiskOK (d := s.Disk) ?_ ?_ ?_) hP rfl rfl ?_)
 ·
  assumption
 ·
  assumption
 ·
  assumption
 refine ax_q (q_not rfl) ?_
 refine ax_q (q_mov rfl) ?_
 apply ax_or rfl rfl
 ·
  intro g
  have g := bF g
  refine ax_q (q_fadr_ptr rfl) ?_
  refine ax_q (q_fadr_ptr rfl) ?_
  refine ax_q (q_load1_ptr rfl rfl rfl) ?_
  refine ax_q (q_lenS_map rfl) ?_
  refine ax_q (q_ibin rfl rfl rfl) ?_
  exact ax_nil ⟨rfl, by repeat constructor⟩
 refine ax_q (q_mov rfl) ?_
 apply ax_or rfl rfl
 ·
  intro g
  have g := (fun h => And.intro (bF (or_F h).1) (nF (or_F h).2)) g
  refine ax_q (q_fadr_ptr rfl) ?_
  refine ax_q (q_load1_ptr rfl rfl rfl) ?_
  refine ax_call rfl (vc_pure0 (c_inRange  ) hP rfl rfl ?_)
  refine ax_q (q_not rfl) ?_
  exact ax_nil ⟨rfl, by repeat constructor⟩
 refine ax_q (q_mov rfl) ?_
 apply ax_or rfl rfl
 ·
  intro g
  have g := (fun h => And.intro ((fun h => And.intro (bF (or_F h).1) (nF (or_F h).2)) (or_F h).1) (bF (or_F h).2)) g
  refine ax_q (q_fadr_ptr rfl) ?_
  refine ax_q (q_load1_ptr rfl rfl rfl) ?_
  refine ax_q (q_lenS_map rfl) ?_
  refine ax_q (q_ibin rfl rfl rfl) ?_
  exact ax_nil ⟨rfl, by repeat constructor⟩
 refine ax_q (q_mov rfl) ?_
 apply ax_or rfl rfl
 ·
  intro g
  have g := (fun h => And.intro ((fun h => And.intro ((fun h => And.intro (bF (or_F h).1) (nF (or_F h).2)) (or_F h).1) (bF (or_F h).2)) (or_F h).1) (dF (or_F h).2)) g
  have g9 := g.2
  refine ax_q (q_fadr_ptr rfl) ?_
  refine ax_q (q_load1_ptr rfl rfl rfl) ?_
  refine ax_call rfl (vc_pure0 (c_areRecords (log := s.Log) ?_ ?_) hP rfl rfl ?_)
  ·
   first | assumption | omega
  ·
   exact hb0.af
  refine ax_q (q_not rfl) ?_
  exact ax_nil ⟨rfl, by repeat constructor⟩
 refine ax_q (q_mov rfl) ?_
 apply ax_or rfl rfl
 ·
  intro g
  have g := (fun h => And.intro ((fun h => And.intro ((fun h => And.intro ((fun h => And.intro (bF (or_F h).1) (nF (or_F h).2)) (or_F h).1) (bF (or_F h).2)) (or_F h).1) (dF (or_F h).2)) (or_F h).1) (bF (or_F h).2)) g
  refine ax_q (q_fadr_ptr rfl) ?_
  refine ax_q (q_load1_ptr rfl rfl rfl) ?_
  refine ax_q (q_fadr_ptr rfl) ?_
  refine ax_q (q_load1_ptr rfl rfl rfl) ?_
  refine ax_q (q_lenS_map rfl) ?_
  refine ax_call rfl (vc_pure0 (c_inRange  ) hP rfl rfl ?_)
  refine ax_q (q_not rfl) ?_
  exact ax_nil ⟨rfl, by repeat constructor⟩
 refine ax_nil (cx_keep rfl rfl ?_)
 refine cx_cond rfl (fun h0 => ?_) (fun h0 => ?_)
 ·
  have h0 : badHd s = true := h0
  refine cx_seq (cx_ops ?_)
  refine ax_q (q_mov rfl) ?_
  refine ax_nil (cx_keep rfl rfl ?_)
  refine cx_ret (ret0 rfl rfl ?_)
  exact ⟨by rw [storeOK_0 h0]; rfl, rfl⟩
 ·
  have h0 : badHd s = false := h0
  obtain ⟨HD, hg⟩ := hd_of h0
  have hll := HD.lo
  have hsu := HD.su
  refine cx_skip ?_
  refine cx_keep rfl rfl (cx_seq (cx_ops ?_))
  refine ax_q (q_mov rfl) ?_
  refine ax_nil (cx_keep rfl rfl (cx_seq (cx_seq (cx_ops ?_))))
  refine ax_q (q_fadr_ptr rfl) ?_
  refine ax_q (q_load1_ptr rfl rfl rfl) ?_
  refine ax_q (q_lenS_map rfl) ?_
  refine ax_q (q_mov rfl) ?_
  refine ax_nil (cx_keep rfl rfl (cx_block ?_))
  refine cx_loopU (fun n k => k ≤ s.Log.length ∧ n = s.Log.length - k ∧ epochsOK s.Epoch 1 s.Log = epochsOK s.Epoch (lowAt s.Log k) (s.Log.drop k)) (fun k : Nat => [(50, int k), (3, int (lowAt s.Log k))]) (fun _ => [(1, .box (s.row.map .d))]) ⟨_, 0, ⟨Nat.zero_le _, rfl, rfl⟩, by repeat constructor⟩ ?_
  rintro n k ⟨hk, rfl, he⟩
  refine cx_seq (cx_ops ?_)
  refine ax_q (q_ibin rfl rfl rfl) ?_
  refine ax_nil (cx_keep rfl rfl (cx_seq ?_))
  refine cx_cond rfl (fun h1 => ?_) (fun h1 => ?_)
  ·
   have h1 := dT h1
   have h1x : k < s.Log.length := by omega
   refine cx_skip ?_
   refine cx_keep rfl rfl (cx_seq (cx_block (cx_seq (cx_ops ?_))))
   refine ax_q (q_ix rfl rfl (mapAt h1x)) ?_
   first | refine ax_q (q_ldN rfl rfl rfl) ?_ | refine ax_q (q_loadN_ip rfl (Nat.le_refl _)) ?_
   refine ax_e (e_alloc (by decide) rfl rfl) ?_
   refine ax_e (e_st rfl rfl rfl rfl rfl rfl rfl) ?_
   refine ax_nil (cx_keep rfl rfl (cx_seq (cx_seq (cx_ops ?_))))
   refine ax_q (q_fadr_ptr rfl) ?_
   refine ax_q (q_load1_ptr rfl rfl rfl) ?_
   refine ax_q (q_mov rfl) ?_
   refine ax_q (q_fadr_ptr rfl) ?_
   refine ax_q (q_load1_ptr rfl rfl rfl) ?_
   refine ax_call rfl (vc_pure0 (c_inRange  ) hP rfl rfl ?_)
   refine ax_q (q_not rfl) ?_
   refine ax_nil (cx_keep rfl rfl ?_)
   refine cx_cond rfl (fun h2 => ?_) (fun h2 => ?_)
   ·
    have h2 : inR s.Log[k].Epoch (lowAt s.Log k) s.Epoch = false := by simpa using h2
    refine cx_seq (cx_ops ?_)
    refine ax_q (q_mov rfl) ?_
    refine ax_nil (cx_keep rfl rfl ?_)
    refine cx_ret (ret0 rfl rfl ?_)
    exact ⟨by rw [storeOK_e (by rw [he, epochs_step h1x, h2, Bool.false_and])]; rfl, rfl⟩
   ·
    have h2 : inR s.Log[k].Epoch (lowAt s.Log k) s.Epoch = true := by simpa using h2
    refine cx_skip ?_
    refine cx_keep rfl rfl (cx_ops ?_)
    refine ax_q (q_fadr_ptr rfl) ?_
    refine ax_q (q_load1_ptr rfl rfl rfl) ?_
    refine ax_q (q_mov rfl) ?_
    refine ax_nil (cx_keep rfl rfl (cx_ops ?_))
    refine ax_qe (r' := int ((k + 1 : Nat) : Int)) (q_ibin rfl rfl rfl) (by rw [wi (by omega) (by omega)]; rfl) ?_
    refine ax_q (q_mov rfl) ?_
    refine ax_nil ?_
    exact ⟨_, k + 1, by omega, ⟨by omega, rfl, by rw [he, epochs_step h1x, h2, Bool.true_and, lowAt_s h1x]⟩, by rw [lowAt_s h1x]; exact (by repeat constructor)⟩
  ·
   have h1 := dF h1
   obtain rfl : k = s.Log.length := by omega
   rw [epochs_end] at he
   refine cx_exit rfl ?_
   refine cx_keep rfl rfl (cx_seq (cx_seq (cx_ops ?_)))
   refine ax_q (q_mov rfl) ?_
   refine ax_nil (cx_keep rfl rfl (cx_block ?_))
   refine cx_loopU (fun n k => k ≤ 8 ∧ n = 8 - k ∧ ∀ j, j < k → pageBad s j = false) (fun k : Nat => [(64, int k)]) (fun _ => [(1, .box (s.row.map .d))]) ⟨_, 0, ⟨Nat.zero_le _, rfl, fun j hj => by omega⟩, by repeat constructor⟩ ?_
   rintro n k ⟨hk, rfl, hp⟩
   refine cx_seq (cx_ops ?_)
   refine ax_q (q_ibin rfl rfl rfl) ?_
   refine ax_nil (cx_keep rfl rfl (cx_seq ?_))
   refine cx_cond rfl (fun h3 => ?_) (fun h3 => ?_)
   ·
    have h3 := dT h3
    have h3x : k < 8 := by omega
    refine cx_skip ?_
    refine cx_keep rfl rfl (cx_seq (cx_block (cx_seq (cx_ops ?_))))
    refine ax_q (q_mov rfl) ?_
    refine ax_q (q_mov rfl) ?_
    refine ax_nil (cx_keep rfl rfl (cx_seq (cx_ops ?_)))
    refine ax_q (q_mov rfl) ?_
    refine ax_call rfl (vcall_own (c_diskPage (s := s) (no := k) HD.di HD.se (by omega)) hP hmv false (fun _ => 1) [1000] ⟨rfl, rfl, rfl, rfl, ⟨rfl, trivial⟩, rfl, rfl, rfl⟩ (.pass rfl rfl (.pass rfl rfl .nil)) ?_)
    rintro r h ⟨rfl, p, ok, rfl, hok, hpp⟩
    refine ⟨fun _ => 1, [], ⟨rfl, rfl, rfl, rfl, (mem1 rfl), rfl, rfl, fun h => absurd h Bool.false_ne_true⟩, ?_⟩
    refine ax_q (q_mov rfl) ?_
    refine ax_q (q_ext rfl rfl) ?_
    refine ax_q (q_ext rfl rfl) ?_
    refine ax_e (e_alloc (by decide) rfl rfl) ?_
    refine ax_e (e_st rfl rfl rfl rfl rfl rfl rfl) ?_
    refine ax_q (q_mov rfl) ?_
    refine ax_nil (cx_keep rfl rfl (cx_seq (cx_ops ?_)))
    refine ax_q (q_mov rfl) ?_
    refine ax_q (q_not rfl) ?_
    refine ax_q (q_mov rfl) ?_
    apply ax_or rfl rfl
    ·
     intro g
     have g := bF g
     refine ax_q (q_fadr_ptr rfl) ?_
     refine ax_q (q_load1_ptr rfl rfl rfl) ?_
     refine ax_q (q_fadr_ptr rfl) ?_
     refine ax_q (q_load1_ptr rfl rfl rfl) ?_
     refine ax_q (q_ibin rfl rfl rfl) ?_
     exact ax_nil ⟨rfl, by repeat constructor⟩
    refine ax_nil (cx_keep rfl rfl ?_)
    refine cx_cond rfl (fun h4 => ?_) (fun h4 => ?_)
    ·
     have h4 : pageBad s k = true := (pageBad_eq hok hpp).symm.trans h4
     refine cx_seq (cx_ops ?_)
     refine ax_q (q_mov rfl) ?_
     refine ax_nil (cx_keep rfl rfl ?_)
     refine cx_ret (ret0 rfl rfl ?_)
     exact ⟨by rw [storeOK_p (pagesOK_no h3x h4)]; rfl, rfl⟩
    ·
     have hpk : pageBad s k = false := (pageBad_eq hok hpp).symm.trans h4
     refine cx_skip ?_
     refine cx_keep rfl rfl (cx_ops ?_)
     refine ax_qe (r' := int ((k + 1 : Nat) : Int)) (q_ibin rfl rfl rfl) (by rw [wi (by omega) (by omega)]; rfl) ?_
     refine ax_q (q_mov rfl) ?_
     refine ax_nil ?_
     exact ⟨_, k + 1, by omega, ⟨by omega, rfl, fun j hjk => by
      rcases Nat.lt_succ_iff_lt_or_eq.1 hjk with q | rfl
      ·
       exact hp j q
      ·
       exact hpk⟩, by repeat constructor⟩
   ·
    have h3 := dF h3
    have hpo := pagesOK_all (s := s) (fun j hj => hp j (by omega))
    refine cx_exit rfl ?_
    refine cx_keep rfl rfl (cx_seq (cx_ops ?_))
    first | refine ax_call rfl (vc_pure0 (c_framesOK (s := s) ?_) hP rfl rfl ?_) | refine ax_call rfl (vc_lend0 (c_framesOK (s := s) ?_) hP (by repeat (first | exact lal_id _ rfl | exact LAL.nil | refine LAL.cons ?_ ?_ | exact la_id _ rfl | exact LA.lend (lend_whole rfl (by first | (simp; done) | (rw [List.length_map]; rfl))) | refine LA.agg ?_ | refine LA.fn ?_ | refine LA.lend ?_ | exact Lend.d _ | exact Lend.zs _ | exact lend_whole rfl (by first | (simp; done) | (rw [List.length_map]; rfl)) | refine Lend.ptr rfl ?_ | refine Lend.fn ?_ | exact LendL.nil | refine LendL.cons ?_ ?_)) rfl rfl ?_)
    ·
     assumption
    refine ax_q (q_mov rfl) ?_
    apply ax_and rfl rfl
    ·
     intro g
     refine ax_q (q_fadr_ptr rfl) ?_
     refine ax_q (q_load1_ptr rfl rfl rfl) ?_
     refine ax_call rfl (vc_pure0 (c_isPlace  ?_) hP rfl rfl ?_)
     ·
      first | assumption | omega
     exact ax_nil ⟨rfl, by repeat constructor⟩
    refine ax_q (q_mov rfl) ?_
    refine ax_nil (cx_keep rfl rfl ?_)
    refine cx_ret (ret0 rfl rfl ?_)
    exact ⟨by rw [storeOK_t h0 he hpo]; rfl, rfl⟩


/- slices.IndexFunc[[]loop.example/g00332/impl.Lock,loop.example/g00332/impl.Lock] -/
def k_c_IndexFunc_Lock : XCode :=
 .seq (.ops [.op (some 4) (.mov (.k (.int .i64 0)))])
 (.keep [0, 1] (.seq (.seq (.ops [.op (some 6) (.mov (.t 0)),
   .op (some 7) (.lenS (.t 6)),
   .op (some 8) (.mov (.k (.int .i64 0)))])
  (.keep [0, 1, 7, 8] (.block 0 (.loop (.seq (.ops [.op (some 9) (.bin .lss (.t 8) (.t 7))])
   (.keep [0, 1, 7, 8, 9] (.seq (.cond (.t 9)
    (.skip)
    (.exit 0))
   (.keep [0, 1, 7, 8] (.seq (.block 1 (.seq (.ops [.op (some 10) (.mov (.t 8)),
     .op (some 5) (.mov (.t 10))])
    (.keep [0, 1, 5, 7, 8] (.seq (.ops [.op (some 11) (.mov (.t 1)),
     .op (some 12) (.mov (.t 0)),
     .op (some 13) (.mov (.t 5)),
     .op (some 14) (.iadr 4 (.t 12) (.t 13)),
     .op (some 15) (.loadN 4 (.t 14)),
     .callv (some 16) (.t 11) [.t 15]])
    (.keep [0, 1, 5, 7, 8, 16] (.cond (.t 16)
    (.seq (.ops [.op (some 17) (.mov (.t 5)),
      .op (some 4) (.mov (.t 17))])
     (.keep [4] (.ret)))
    (.skip)))))))
   (.keep [0, 1, 7, 8] (.ops [.op (some 18) (.bin .add (.t 8) (.k (.int .i64 1))),
    .op (some 8) (.mov (.t 18))])))))))))))
 (.keep [] (.seq (.ops [.op (some 4) (.mov (.k (.int .i64 (-1))))])
 (.keep [4] (.ret))))))
theorem k_c_IndexFunc_Lock_fits : fitsF Tryz.prog 171 ⟨19, k_c_IndexFunc_Lock, [.t 4]⟩ = true := by kernel_rfl
theorem c_IndexFunc_Lock {xs : List GLock} {f : Nat} {ds : List D} (p : GLock → Bool) (hw : xs.length ≤ 9223372036854775807) (hb : hasBody Tryz.prog f = true) (hf : ∀ s ∈ xs, Con Tryz.prog noMv f (s.av :: ds.map AV.d) [] (fun r h => r = bool (p s) ∧ h = [])) : Con Tryz.prog noMv 171 [.d (.sl 4 (xs.map GLock.row)), .d (.fn (.func f) ds)] [] (fun r h => r = int (idxOf p xs 0) ∧ h = []) := by
 refine con_of2 k_c_IndexFunc_Lock_fits rfl fun C hP hmv => ?_
 unfold k_c_IndexFunc_Lock
 refine cx_seq (cx_ops ?_)
 refine ax_q (q_mov rfl) ?_
 refine ax_nil (cx_keep rfl rfl (cx_seq (cx_seq (cx_ops ?_))))
 refine ax_q (q_mov rfl) ?_
 refine ax_q (q_lenS_map rfl) ?_
 refine ax_q (q_mov rfl) ?_
 refine ax_nil (cx_keep rfl rfl (cx_block ?_))
 refine cx_loopU (fun n k => k ≤ xs.length ∧ n = xs.length - k ∧ ∀ i, i < k → ∀ x, xs[i]? = some x → p x = false) (fun k : Nat => [(8, int k)]) (fun _ => []) ⟨_, 0, ⟨by omega, rfl, fun i hi => by omega⟩, by repeat constructor⟩ ?_
 rintro n k ⟨hk, rfl, ht⟩
 refine cx_seq (cx_ops ?_)
 refine ax_q (q_ibin rfl rfl rfl) ?_
 refine ax_nil (cx_keep rfl rfl (cx_seq ?_))
 refine cx_cond rfl (fun h0 => ?_) (fun h0 => ?_)
 ·
  have h0 := dT h0
  have h0x : k < xs.length := by omega
  refine cx_skip ?_
  refine cx_keep rfl rfl (cx_seq (cx_block (cx_seq (cx_ops ?_))))
  refine ax_q (q_mov rfl) ?_
  refine ax_q (q_mov rfl) ?_
  refine ax_nil (cx_keep rfl rfl (cx_seq (cx_ops ?_)))
  refine ax_q (q_mov rfl) ?_
  refine ax_q (q_mov rfl) ?_
  refine ax_q (q_mov rfl) ?_
  refine ax_q (q_ix rfl rfl (mapAt h0x)) ?_
  first | refine ax_q (q_ldN rfl rfl rfl) ?_ | refine ax_q (q_loadN_ip rfl (Nat.le_refl _)) ?_
  refine ax_callvD rfl (by rw [hP]; exact hb) rfl (vc_pure0 (hf _ (List.getElem_mem h0x)) hP (refs_cons rfl ds) rfl ?_)
  refine ax_nil (cx_keep rfl rfl ?_)
  refine cx_cond rfl (fun h1 => ?_) (fun h1 => ?_)
  ·
   skip
   refine cx_seq (cx_ops ?_)
   refine ax_q (q_mov rfl) ?_
   refine ax_q (q_mov rfl) ?_
   refine ax_nil (cx_keep rfl rfl ?_)
   refine cx_ret (ret0 rfl rfl ?_)
   exact ⟨by rw [idxOf_hit h0x ht h1]; rfl, rfl⟩
  ·
   skip
   refine cx_skip ?_
   refine cx_keep rfl rfl (cx_ops ?_)
   refine ax_qe (r' := int ((k + 1 : Nat) : Int)) (q_ibin rfl rfl rfl) (by rw [wi (by omega) (by omega)]; rfl) ?_
   refine ax_q (q_mov rfl) ?_
   refine ax_nil ?_
   exact ⟨_, k + 1, by omega, ⟨by omega, rfl, before_step h0x ht h1⟩, by repeat constructor⟩
 ·
  have h0 := dF h0
  have h0x : k = xs.length := by omega
  refine cx_exit rfl ?_
  refine cx_keep rfl rfl (cx_seq (cx_ops ?_))
  refine ax_q (q_mov rfl) ?_
  refine ax_nil (cx_keep rfl rfl ?_)
  refine cx_ret (ret0 rfl rfl ?_)
  exact ⟨by rw [idxOf_none (fun i hi => ht i (by omega))]; rfl, rfl⟩


/- slices.ContainsFunc[[]loop.example/g00332/impl.Lock,loop.example/g00332/impl.Lock] -/
def k_c_ContainsFunc_Lock : XCode :=
 .seq (.ops [.op (some 4) (.mov (.k (.bool false)))])
 (.keep [0, 1] (.seq (.ops [.op (some 5) (.mov (.t 0)),
   .op (some 6) (.mov (.t 1)),
   .call (some 7) 171 [.t 5, .t 6],
   .op (some 8) (.bin .geq (.t 7) (.k (.int .i64 0))),
   .op (some 4) (.mov (.t 8))])
 (.keep [4] (.ret))))
theorem k_c_ContainsFunc_Lock_fits : fitsF Tryz.prog 94 ⟨9, k_c_ContainsFunc_Lock, [.t 4]⟩ = true := by kernel_rfl
theorem c_ContainsFunc_Lock {xs : List GLock} {f : Nat} {ds : List D} (p : GLock → Bool) (hw : xs.length ≤ 9223372036854775807) (hb : hasBody Tryz.prog f = true) (hf : ∀ s ∈ xs, Con Tryz.prog noMv f (s.av :: ds.map AV.d) [] (fun r h => r = bool (p s) ∧ h = [])) : Con Tryz.prog noMv 94 [.d (.sl 4 (xs.map GLock.row)), .d (.fn (.func f) ds)] [] (fun r h => r = bool (xs.any p) ∧ h = []) := by
 refine con_of2 k_c_ContainsFunc_Lock_fits rfl fun C hP hmv => ?_
 unfold k_c_ContainsFunc_Lock
 refine cx_seq (cx_ops ?_)
 refine ax_q (q_mov rfl) ?_
 refine ax_nil (cx_keep rfl rfl (cx_seq (cx_ops ?_)))
 refine ax_q (q_mov rfl) ?_
 refine ax_q (q_mov rfl) ?_
 refine ax_call rfl (vc_pure0 (c_IndexFunc_Lock p hw hb hf) hP rfl rfl ?_)
 refine ax_qe (r' := bool (xs.any p)) (q_ibin rfl rfl rfl) (congrArg AM.bool any_idxOf) ?_
 refine ax_q (q_mov rfl) ?_
 refine ax_nil (cx_keep rfl rfl ?_)
 refine cx_ret (ret0 rfl rfl ?_)
 exact ⟨rfl, rfl⟩


/- slices.IndexFunc[[]loop.example/g00332/impl.Wait,loop.example/g00332/impl.Wait] -/
def k_c_IndexFunc_Wait : XCode :=
 .seq (.ops [.op (some 4) (.mov (.k (.int .i64 0)))])
 (.keep [0, 1] (.seq (.seq (.ops [.op (some 6) (.mov (.t 0)),
   .op (some 7) (.lenS (.t 6)),
   .op (some 8) (.mov (.k (.int .i64 0)))])
  (.keep [0, 1, 7, 8] (.block 0 (.loop (.seq (.ops [.op (some 9) (.bin .lss (.t 8) (.t 7))])
   (.keep [0, 1, 7, 8, 9] (.seq (.cond (.t 9)
    (.skip)
    (.exit 0))
   (.keep [0, 1, 7, 8] (.seq (.block 1 (.seq (.ops [.op (some 10) (.mov (.t 8)),
     .op (some 5) (.mov (.t 10))])
    (.keep [0, 1, 5, 7, 8] (.seq (.ops [.op (some 11) (.mov (.t 1)),
     .op (some 12) (.mov (.t 0)),
     .op (some 13) (.mov (.t 5)),
     .op (some 14) (.iadr 2 (.t 12) (.t 13)),
     .op (some 15) (.loadN 2 (.t 14)),
     .callv (some 16) (.t 11) [.t 15]])
    (.keep [0, 1, 5, 7, 8, 16] (.cond (.t 16)
    (.seq (.ops [.op (some 17) (.mov (.t 5)),
      .op (some 4) (.mov (.t 17))])
     (.keep [4] (.ret)))
    (.skip)))))))
   (.keep [0, 1, 7, 8] (.ops [.op (some 18) (.bin .add (.t 8) (.k (.int .i64 1))),
    .op (some 8) (.mov (.t 18))])))))))))))
 (.keep [] (.seq (.ops [.op (some 4) (.mov (.k (.int .i64 (-1))))])
 (.keep [4] (.ret))))))
theorem k_c_IndexFunc_Wait_fits : fitsF Tryz.prog 174 ⟨19, k_c_IndexFunc_Wait, [.t 4]⟩ = true := by kernel_rfl
theorem c_IndexFunc_Wait {xs : List GWait} {f : Nat} {ds : List D} (p : GWait → Bool) (hw : xs.length ≤ 9223372036854775807) (hb : hasBody Tryz.prog f = true) (hf : ∀ s ∈ xs, Con Tryz.prog noMv f (s.av :: ds.map AV.d) [] (fun r h => r = bool (p s) ∧ h = [])) : Con Tryz.prog noMv 174 [.d (.sl 2 (xs.map GWait.row)), .d (.fn (.func f) ds)] [] (fun r h => r = int (idxOf p xs 0) ∧ h = []) := by
 refine con_of2 k_c_IndexFunc_Wait_fits rfl fun C hP hmv => ?_
 unfold k_c_IndexFunc_Wait
 refine cx_seq (cx_ops ?_)
 refine ax_q (q_mov rfl) ?_
 refine ax_nil (cx_keep rfl rfl (cx_seq (cx_seq (cx_ops ?_))))
 refine ax_q (q_mov rfl) ?_
 refine ax_q (q_lenS_map rfl) ?_
 refine ax_q (q_mov rfl) ?_
 refine ax_nil (cx_keep rfl rfl (cx_block ?_))
 refine cx_loopU (fun n k => k ≤ xs.length ∧ n = xs.length - k ∧ ∀ i, i < k → ∀ x, xs[i]? = some x → p x = false) (fun k : Nat => [(8, int k)]) (fun _ => []) ⟨_, 0, ⟨by omega, rfl, fun i hi => by omega⟩, by repeat constructor⟩ ?_
 rintro n k ⟨hk, rfl, ht⟩
 refine cx_seq (cx_ops ?_)
 refine ax_q (q_ibin rfl rfl rfl) ?_
 refine ax_nil (cx_keep rfl rfl (cx_seq ?_))
 refine cx_cond rfl (fun h0 => ?_) (fun h0 => ?_)
 ·
  have h0 := dT h0
  have h0x : k < xs.length := by omega
  refine cx_skip ?_
  refine cx_keep rfl rfl (cx_seq (cx_block (cx_seq (cx_ops ?_))))
  refine ax_q (q_mov rfl) ?_
  refine ax_q (q_mov rfl) ?_
  refine ax_nil (cx_keep rfl rfl (cx_seq (cx_ops ?_)))
  refine ax_q (q_mov rfl) ?_
  refine ax_q (q_mov rfl) ?_
  refine ax_q (q_mov rfl) ?_
  refine ax_q (q_ix rfl rfl (mapAt h0x)) ?_
  first | refine ax_q (q_ldN rfl rfl rfl) ?_ | refine ax_q (q_loadN_ip rfl (Nat.le_refl _)) ?_
  refine ax_callvD rfl (by rw [hP]; exact hb) rfl (vc_pure0 (hf _ (List.getElem_mem h0x)) hP (refs_cons rfl ds) rfl ?_)
  refine ax_nil (cx_keep rfl rfl ?_)
  refine cx_cond rfl (fun h1 => ?_) (fun h1 => ?_)
  ·
   skip
   refine cx_seq (cx_ops ?_)
   refine ax_q (q_mov rfl) ?_
   refine ax_q (q_mov rfl) ?_
   refine ax_nil (cx_keep rfl rfl ?_)
   refine cx_ret (ret0 rfl rfl ?_)
   exact ⟨by rw [idxOf_hit h0x ht h1]; rfl, rfl⟩
  ·
   skip
   refine cx_skip ?_
   refine cx_keep rfl rfl (cx_ops ?_)
   refine ax_qe (r' := int ((k + 1 : Nat) : Int)) (q_ibin rfl rfl rfl) (by rw [wi (by omega) (by omega)]; rfl) ?_
   refine ax_q (q_mov rfl) ?_
   refine ax_nil ?_
   exact ⟨_, k + 1, by omega, ⟨by omega, rfl, before_step h0x ht h1⟩, by repeat constructor⟩
 ·
  have h0 := dF h0
  have h0x : k = xs.length := by omega
  refine cx_exit rfl ?_
  refine cx_keep rfl rfl (cx_seq (cx_ops ?_))
  refine ax_q (q_mov rfl) ?_
  refine ax_nil (cx_keep rfl rfl ?_)
  refine cx_ret (ret0 rfl rfl ?_)
  exact ⟨by rw [idxOf_none (fun i hi => ht i (by omega))]; rfl, rfl⟩


/- slices.ContainsFunc[[]loop.example/g00332/impl.Wait,loop.example/g00332/impl.Wait] -/
def k_c_ContainsFunc_Wait : XCode :=
 .seq (.ops [.op (some 4) (.mov (.k (.bool false)))])
 (.keep [0, 1] (.seq (.ops [.op (some 5) (.mov (.t 0)),
   .op (some 6) (.mov (.t 1)),
   .call (some 7) 174 [.t 5, .t 6],
   .op (some 8) (.bin .geq (.t 7) (.k (.int .i64 0))),
   .op (some 4) (.mov (.t 8))])
 (.keep [4] (.ret))))
theorem k_c_ContainsFunc_Wait_fits : fitsF Tryz.prog 97 ⟨9, k_c_ContainsFunc_Wait, [.t 4]⟩ = true := by kernel_rfl
theorem c_ContainsFunc_Wait {xs : List GWait} {f : Nat} {ds : List D} (p : GWait → Bool) (hw : xs.length ≤ 9223372036854775807) (hb : hasBody Tryz.prog f = true) (hf : ∀ s ∈ xs, Con Tryz.prog noMv f (s.av :: ds.map AV.d) [] (fun r h => r = bool (p s) ∧ h = [])) : Con Tryz.prog noMv 97 [.d (.sl 2 (xs.map GWait.row)), .d (.fn (.func f) ds)] [] (fun r h => r = bool (xs.any p) ∧ h = []) := by
 refine con_of2 k_c_ContainsFunc_Wait_fits rfl fun C hP hmv => ?_
 unfold k_c_ContainsFunc_Wait
 refine cx_seq (cx_ops ?_)
 refine ax_q (q_mov rfl) ?_
 refine ax_nil (cx_keep rfl rfl (cx_seq (cx_ops ?_)))
 refine ax_q (q_mov rfl) ?_
 refine ax_q (q_mov rfl) ?_
 refine ax_call rfl (vc_pure0 (c_IndexFunc_Wait p hw hb hf) hP rfl rfl ?_)
 refine ax_qe (r' := bool (xs.any p)) (q_ibin rfl rfl rfl) (congrArg AM.bool any_idxOf) ?_
 refine ax_q (q_mov rfl) ?_
 refine ax_nil (cx_keep rfl rfl ?_)
 refine cx_ret (ret0 rfl rfl ?_)
 exact ⟨rfl, rfl⟩


/- loop.example/g00332/impl.isTx -/
def k_c_isTx : XCode :=
 .seq (.ops [.op (some 2) (.mov (.k (.bool false)))])
 (.keep [0] (.seq (.ops [.op (some 3) (.mov (.t 0)),
   .call (some 4) 63 [.t 3, .k (.int .i64 1), .k (.int .i64 60)],
   .op (some 2) (.mov (.t 4))])
 (.keep [2] (.ret))))
theorem k_c_isTx_fits : fitsF Tryz.prog 169 ⟨5, k_c_isTx, [.t 2]⟩ = true := by kernel_rfl
theorem c_isTx {n : Int} : Con Tryz.prog noMv 169 [int n] [] (fun r h => r = bool (isTx n) ∧ h = []) := by
 refine con_of2 k_c_isTx_fits rfl fun C hP hmv => ?_
 unfold k_c_isTx
 refine cx_seq (cx_ops ?_)
 refine ax_q (q_mov rfl) ?_
 refine ax_nil (cx_keep rfl rfl (cx_seq (cx_ops ?_)))
 refine ax_q (q_mov rfl) ?_
 refine ax_call rfl (vc_pure0 (c_inRange  ) hP rfl rfl ?_)
 refine ax_q (q_mov rfl) ?_
 refine ax_nil (cx_keep rfl rfl ?_)
 refine cx_ret (ret0 rfl rfl ?_)
 exact ⟨rfl, rfl⟩


/- loop.example/g00332/impl.isMode -/
def k_c_isMode : XCode :=
 .seq (.ops [.op (some 2) (.mov (.k (.bool false)))])
 (.keep [0] (.seq (.ops [.op (some 3) (.mov (.t 0)),
   .call (some 4) 63 [.t 3, .k (.int .i64 1), .k (.int .i64 4)],
   .op (some 2) (.mov (.t 4))])
 (.keep [2] (.ret))))
theorem k_c_isMode_fits : fitsF Tryz.prog 224 ⟨5, k_c_isMode, [.t 2]⟩ = true := by kernel_rfl
theorem c_isMode {n : Int} : Con Tryz.prog noMv 224 [int n] [] (fun r h => r = bool (isMode n) ∧ h = []) := by
 refine con_of2 k_c_isMode_fits rfl fun C hP hmv => ?_
 unfold k_c_isMode
 refine cx_seq (cx_ops ?_)
 refine ax_q (q_mov rfl) ?_
 refine ax_nil (cx_keep rfl rfl (cx_seq (cx_ops ?_)))
 refine ax_q (q_mov rfl) ?_
 refine ax_call rfl (vc_pure0 (c_inRange  ) hP rfl rfl ?_)
 refine ax_q (q_mov rfl) ?_
 refine ax_nil (cx_keep rfl rfl ?_)
 refine cx_ret (ret0 rfl rfl ?_)
 exact ⟨rfl, rfl⟩


/- loop.example/g00332/impl.lockOK -/
def k_c_lockOK : XCode :=
 .seq (.ops [.op (some 1) (.box (.t 0)),
   .op (some 2) (.mov (.k (.bool false)))])
 (.keep [1] (.seq (.ops [.op (some 3) (.fadr (.t 1) 0),
   .op (some 4) (.load1 (.t 3)),
   .call (some 5) 169 [.t 4],
   .op (some 6) (.mov (.t 5)),
   .andor 10 true 3 6 [.op (some 7) (.fadr (.t 1) 1), .op (some 8) (.load1 (.t 7)), .call (some 9) 63 [.t 8, .k (.int .i64 1), .k (.int .i64 3)]] (.t 9),
   .op (some 11) (.mov (.t 10)),
   .andor 15 true 8 11 [.op (some 12) (.fadr (.t 1) 2), .op (some 13) (.load1 (.t 12)), .call (some 14) 63 [.t 13, .k (.int .i64 (-1)), .k (.int .i64 1000)]] (.t 14),
   .op (some 16) (.mov (.t 15)),
   .andor 20 true 13 16 [.op (some 17) (.fadr (.t 1) 3), .op (some 18) (.load1 (.t 17)), .call (some 19) 224 [.t 18]] (.t 19),
   .op (some 21) (.mov (.t 20)),
   .andor 30 true 18 21 [.op (some 22) (.fadr (.t 1) 2), .op (some 23) (.load1 (.t 22)), .op (some 24) (.bin .lss (.t 23) (.k (.int .i64 0))), .op (some 25) (.mov (.t 24)), .andor 29 false 22 25 [.op (some 26) (.fadr (.t 1) 3), .op (some 27) (.load1 (.t 26)), .op (some 28) (.bin .geq (.t 27) (.k (.int .i64 3)))] (.t 28)] (.t 29),
   .op (some 2) (.mov (.t 30))])
 (.keep [2] (.ret))))
theorem k_c_lockOK_fits : fitsF Tryz.prog 165 ⟨31, k_c_lockOK, [.t 2]⟩ = true := by kernel_rfl
theorem c_lockOK {a : GLock} : Con Tryz.prog noMv 165 [a.av] [] (fun r h => r = bool (lockOK a) ∧ h = []) := by
 refine con_of2 k_c_lockOK_fits rfl fun C hP hmv => ?_
 unfold k_c_lockOK
 refine cx_seq (cx_ops ?_)
 refine ax_e (e_box rfl rfl (by decide) rfl rfl rfl) ?_
 refine ax_q (q_mov rfl) ?_
 refine ax_nil (cx_keep rfl rfl (cx_seq (cx_ops ?_)))
 refine ax_q (q_fadr_ptr rfl) ?_
 refine ax_q (q_load1_ptr rfl rfl rfl) ?_
 refine ax_call rfl (vc_pure0 (c_isTx  ) hP rfl rfl ?_)
 refine ax_q (q_mov rfl) ?_
 apply ax_and rfl rfl
 ·
  intro g
  refine ax_q (q_fadr_ptr rfl) ?_
  refine ax_q (q_load1_ptr rfl rfl rfl) ?_
  refine ax_call rfl (vc_pure0 (c_inRange  ) hP rfl rfl ?_)
  exact ax_nil ⟨rfl, by repeat constructor⟩
 refine ax_q (q_mov rfl) ?_
 apply ax_and rfl rfl
 ·
  intro g
  have g := (fun h => And.intro (id (and_T h).1) (id (and_T h).2)) g
  refine ax_q (q_fadr_ptr rfl) ?_
  refine ax_q (q_load1_ptr rfl rfl rfl) ?_
  refine ax_call rfl (vc_pure0 (c_inRange  ) hP rfl rfl ?_)
  exact ax_nil ⟨rfl, by repeat constructor⟩
 refine ax_q (q_mov rfl) ?_
 apply ax_and rfl rfl
 ·
  intro g
  have g := (fun h => And.intro ((fun h => And.intro (id (and_T h).1) (id (and_T h).2)) (and_T h).1) (id (and_T h).2)) g
  refine ax_q (q_fadr_ptr rfl) ?_
  refine ax_q (q_load1_ptr rfl rfl rfl) ?_
  refine ax_call rfl (vc_pure0 (c_isMode  ) hP rfl rfl ?_)
  exact ax_nil ⟨rfl, by repeat constructor⟩
 refine ax_q (q_mov rfl) ?_
 apply ax_and rfl rfl
 ·
  intro g
  have g := (fun h => And.intro ((fun h => And.intro ((fun h => And.intro (id (and_T h).1) (id (and_T h).2)) (and_T h).1) (id (and_T h).2)) (and_T h).1) (id (and_T h).2)) g
  refine ax_q (q_fadr_ptr rfl) ?_
  refine ax_q (q_load1_ptr rfl rfl rfl) ?_
  refine ax_q (q_ibin rfl rfl rfl) ?_
  refine ax_q (q_mov rfl) ?_
  apply ax_or rfl rfl
  ·
   intro g
   have g := dF g
   refine ax_q (q_fadr_ptr rfl) ?_
   refine ax_q (q_load1_ptr rfl rfl rfl) ?_
   refine ax_q (q_ibin rfl rfl rfl) ?_
   exact ax_nil ⟨rfl, by repeat constructor⟩
  exact ax_nil ⟨rfl, by repeat constructor⟩
 refine ax_q (q_mov rfl) ?_
 refine ax_nil (cx_keep rfl rfl ?_)
 refine cx_ret (ret0 rfl rfl ?_)
 exact ⟨rfl, rfl⟩


/- loop.example/g00332/impl.isOneThing -/
def k_c_isOne : XCode :=
 .seq (.ops [.op (some 2) (.box (.t 0)),
   .op (some 3) (.box (.t 1)),
   .op (some 4) (.mov (.k (.bool false)))])
 (.keep [2, 3] (.seq (.ops [.op (some 5) (.fadr (.t 2) 1),
   .op (some 6) (.load1 (.t 5)),
   .op (some 7) (.fadr (.t 3) 1),
   .op (some 8) (.load1 (.t 7)),
   .op (some 9) (.bin .eql (.t 6) (.t 8)),
   .op (some 10) (.mov (.t 9)),
   .andor 16 true 5 10 [.op (some 11) (.fadr (.t 2) 2), .op (some 12) (.load1 (.t 11)), .op (some 13) (.fadr (.t 3) 2), .op (some 14) (.load1 (.t 13)), .op (some 15) (.bin .eql (.t 12) (.t 14))] (.t 15),
   .op (some 4) (.mov (.t 16))])
 (.keep [4] (.ret))))
theorem k_c_isOne_fits : fitsF Tryz.prog 225 ⟨17, k_c_isOne, [.t 4]⟩ = true := by kernel_rfl
theorem c_isOne {a b : GLock} : Con Tryz.prog noMv 225 [a.av, b.av] [] (fun r h => r = bool (isThing a b) ∧ h = []) := by
 refine con_of2 k_c_isOne_fits rfl fun C hP hmv => ?_
 unfold k_c_isOne
 refine cx_seq (cx_ops ?_)
 refine ax_e (e_box rfl rfl (by decide) rfl rfl rfl) ?_
 refine ax_e (e_box rfl rfl (by decide) rfl rfl rfl) ?_
 refine ax_q (q_mov rfl) ?_
 refine ax_nil (cx_keep rfl rfl (cx_seq (cx_ops ?_)))
 refine ax_q (q_fadr_ptr rfl) ?_
 refine ax_q (q_load1_ptr rfl rfl rfl) ?_
 refine ax_q (q_fadr_ptr rfl) ?_
 refine ax_q (q_load1_ptr rfl rfl rfl) ?_
 refine ax_q (q_ibin rfl rfl rfl) ?_
 refine ax_q (q_mov rfl) ?_
 apply ax_and rfl rfl
 ·
  intro g
  have g := dT g
  refine ax_q (q_fadr_ptr rfl) ?_
  refine ax_q (q_load1_ptr rfl rfl rfl) ?_
  refine ax_q (q_fadr_ptr rfl) ?_
  refine ax_q (q_load1_ptr rfl rfl rfl) ?_
  refine ax_q (q_ibin rfl rfl rfl) ?_
  exact ax_nil ⟨rfl, by repeat constructor⟩
 refine ax_q (q_mov rfl) ?_
 refine ax_nil (cx_keep rfl rfl ?_)
 refine cx_ret (ret0 rfl rfl ?_)
 exact ⟨rfl, rfl⟩


/- loop.example/g00332/impl.modesFit -/
def k_c_modesFit : XCode :=
 .seq (.ops [.op (some 4) (.mov (.k (.bool false)))])
 (.keep [0, 1] (.seq (.ops [.op (some 5) (.mov (.t 0)),
   .op (some 6) (.bin .neq (.t 5) (.k (.int .i64 4))),
   .op (some 7) (.mov (.t 6)),
   .andor 10 true 2 7 [.op (some 8) (.mov (.t 1)), .op (some 9) (.bin .neq (.t 8) (.k (.int .i64 4)))] (.t 9),
   .op (some 11) (.mov (.t 10)),
   .andor 23 true 6 11 [.op (some 12) (.mov (.t 0)), .op (some 13) (.bin .eql (.t 12) (.k (.int .i64 1))), .op (some 14) (.mov (.t 13)), .andor 17 false 9 14 [.op (some 15) (.mov (.t 1)), .op (some 16) (.bin .eql (.t 15) (.k (.int .i64 1)))] (.t 16), .op (some 18) (.mov (.t 17)), .andor 22 false 13 18 [.op (some 19) (.mov (.t 0)), .op (some 20) (.mov (.t 1)), .op (some 21) (.bin .eql (.t 19) (.t 20))] (.t 21)] (.t 22),
   .op (some 4) (.mov (.t 23))])
 (.keep [4] (.ret))))
theorem k_c_modesFit_fits : fitsF Tryz.prog 226 ⟨24, k_c_modesFit, [.t 4]⟩ = true := by kernel_rfl
theorem c_modesFit {a b : Int} : Con Tryz.prog noMv 226 [int a, int b] [] (fun r h => r = bool (modesFit a b) ∧ h = []) := by
 refine con_of2 k_c_modesFit_fits rfl fun C hP hmv => ?_
 unfold k_c_modesFit
 refine cx_seq (cx_ops ?_)
 refine ax_q (q_mov rfl) ?_
 refine ax_nil (cx_keep rfl rfl (cx_seq (cx_ops ?_)))
 refine ax_q (q_mov rfl) ?_
 refine ax_q (q_ibin rfl rfl rfl) ?_
 refine ax_q (q_mov rfl) ?_
 apply ax_and rfl rfl
 ·
  intro g
  have g := nT g
  refine ax_q (q_mov rfl) ?_
  refine ax_q (q_ibin rfl rfl rfl) ?_
  exact ax_nil ⟨rfl, by repeat constructor⟩
 refine ax_q (q_mov rfl) ?_
 apply ax_and rfl rfl
 ·
  intro g
  have g := (fun h => And.intro (nT (and_T h).1) (nT (and_T h).2)) g
  refine ax_q (q_mov rfl) ?_
  refine ax_q (q_ibin rfl rfl rfl) ?_
  refine ax_q (q_mov rfl) ?_
  apply ax_or rfl rfl
  ·
   intro g
   have g := dF g
   refine ax_q (q_mov rfl) ?_
   refine ax_q (q_ibin rfl rfl rfl) ?_
   exact ax_nil ⟨rfl, by repeat constructor⟩
  refine ax_q (q_mov rfl) ?_
  apply ax_or rfl rfl
  ·
   intro g
   have g := (fun h => And.intro (dF (or_F h).1) (dF (or_F h).2)) g
   refine ax_q (q_mov rfl) ?_
   refine ax_q (q_mov rfl) ?_
   refine ax_q (q_ibin rfl rfl rfl) ?_
   exact ax_nil ⟨rfl, by repeat constructor⟩
  exact ax_nil ⟨rfl, by repeat constructor⟩
 refine ax_q (q_mov rfl) ?_
 refine ax_nil (cx_keep rfl rfl ?_)
 refine cx_ret (ret0 rfl rfl ?_)
 exact ⟨rfl, rfl⟩


/- loop.example/g00332/impl.clashes -/
def k_c_clashes : XCode :=
 .seq (.ops [.op (some 2) (.box (.t 0)),
   .op (some 3) (.box (.t 1)),
   .op (some 4) (.mov (.k (.bool false)))])
 (.keep [2, 3] (.seq (.ops [.op (some 5) (.fadr (.t 2) 0),
   .op (some 6) (.load1 (.t 5)),
   .op (some 7) (.fadr (.t 3) 0),
   .op (some 8) (.load1 (.t 7)),
   .op (some 9) (.bin .neq (.t 6) (.t 8)),
   .op (some 10) (.mov (.t 9)),
   .andor 14 true 5 10 [.op (some 11) (.loadN 4 (.t 2)), .op (some 12) (.loadN 4 (.t 3)), .call (some 13) 225 [.t 11, .t 12]] (.t 13),
   .op (some 15) (.mov (.t 14)),
   .andor 22 true 10 15 [.op (some 16) (.fadr (.t 2) 3), .op (some 17) (.load1 (.t 16)), .op (some 18) (.fadr (.t 3) 3), .op (some 19) (.load1 (.t 18)), .call (some 20) 226 [.t 17, .t 19], .op (some 21) (.not (.t 20))] (.t 21),
   .op (some 4) (.mov (.t 22))])
 (.keep [4] (.ret))))
theorem k_c_clashes_fits : fitsF Tryz.prog 167 ⟨23, k_c_clashes, [.t 4]⟩ = true := by kernel_rfl
theorem c_clashes {a b : GLock} : Con Tryz.prog noMv 167 [a.av, b.av] [] (fun r h => r = bool (clashes a b) ∧ h = []) := by
 refine con_of2 k_c_clashes_fits rfl fun C hP hmv => ?_
 unfold k_c_clashes
 refine cx_seq (cx_ops ?_)
 refine ax_e (e_box rfl rfl (by decide) rfl rfl rfl) ?_
 refine ax_e (e_box rfl rfl (by decide) rfl rfl rfl) ?_
 refine ax_q (q_mov rfl) ?_
 refine ax_nil (cx_keep rfl rfl (cx_seq (cx_ops ?_)))
 refine ax_q (q_fadr_ptr rfl) ?_
 refine ax_q (q_load1_ptr rfl rfl rfl) ?_
 refine ax_q (q_fadr_ptr rfl) ?_
 refine ax_q (q_load1_ptr rfl rfl rfl) ?_
 refine ax_q (q_ibin rfl rfl rfl) ?_
 refine ax_q (q_mov rfl) ?_
 apply ax_and rfl rfl
 ·
  intro g
  have g := nT g
  refine ax_q (q_ldN rfl rfl rfl) ?_
  refine ax_q (q_ldN rfl rfl rfl) ?_
  refine ax_call rfl (vc_pure0 (c_isOne  ) hP rfl rfl ?_)
  exact ax_nil ⟨rfl, by repeat constructor⟩
 refine ax_q (q_mov rfl) ?_
 apply ax_and rfl rfl
 ·
  intro g
  have g := (fun h => And.intro (nT (and_T h).1) (id (and_T h).2)) g
  refine ax_q (q_fadr_ptr rfl) ?_
  refine ax_q (q_load1_ptr rfl rfl rfl) ?_
  refine ax_q (q_fadr_ptr rfl) ?_
  refine ax_q (q_load1_ptr rfl rfl rfl) ?_
  refine ax_call rfl (vc_pure0 (c_modesFit  ) hP rfl rfl ?_)
  refine ax_q (q_not rfl) ?_
  exact ax_nil ⟨rfl, by repeat constructor⟩
 refine ax_q (q_mov rfl) ?_
 refine ax_nil (cx_keep rfl rfl ?_)
 refine cx_ret (ret0 rfl rfl ?_)
 exact ⟨rfl, rfl⟩


/- loop.example/g00332/impl.LocksOK$1 -/
def k_c_LocksOK1 : XCode :=
 .seq (.ops [.op (some 2) (.box (.t 0)),
   .op (some 3) (.mov (.k (.bool false)))])
 (.keep [1, 2] (.seq (.ops [.op (some 4) (.loadN 4 (.t 1)),
   .op (some 5) (.loadN 4 (.t 2)),
   .op (some 6) (.eqs false [0, 0, 0, 0] (.t 4) (.t 5)),
   .op (some 7) (.mov (.t 6)),
   .andor 11 false 3 7 [.op (some 8) (.loadN 4 (.t 1)), .op (some 9) (.loadN 4 (.t 2)), .call (some 10) 167 [.t 8, .t 9]] (.t 10),
   .op (some 3) (.mov (.t 11))])
 (.keep [3] (.ret))))
theorem k_c_LocksOK1_fits : fitsF Tryz.prog 166 ⟨12, k_c_LocksOK1, [.t 3]⟩ = true := by kernel_rfl
theorem c_LocksOK1 {a b : GLock} : Con Tryz.prog noMv 166 [b.av, .d (.ip a.row)] [] (fun r h => r = bool (twice a b) ∧ h = []) := by
 refine con_of2 k_c_LocksOK1_fits rfl fun C hP hmv => ?_
 unfold k_c_LocksOK1
 refine cx_seq (cx_ops ?_)
 refine ax_e (e_box rfl rfl (by decide) rfl rfl rfl) ?_
 refine ax_q (q_mov rfl) ?_
 refine ax_nil (cx_keep rfl rfl (cx_seq (cx_ops ?_)))
 first | refine ax_q (q_ldN rfl rfl rfl) ?_ | refine ax_q (q_loadN_ip rfl (Nat.le_refl _)) ?_
 refine ax_q (q_ldN rfl rfl rfl) ?_
 refine ax_q (GLock.q_eqs rfl rfl) ?_
 refine ax_q (q_mov rfl) ?_
 apply ax_or rfl rfl
 ·
  intro g
  first | refine ax_q (q_ldN rfl rfl rfl) ?_ | refine ax_q (q_loadN_ip rfl (Nat.le_refl _)) ?_
  refine ax_q (q_ldN rfl rfl rfl) ?_
  refine ax_call rfl (vc_pure0 (c_clashes  ) hP rfl rfl ?_)
  exact ax_nil ⟨rfl, by repeat constructor⟩
 refine ax_q (q_mov rfl) ?_
 refine ax_nil (cx_keep rfl rfl ?_)
 refine cx_ret (ret0 rfl rfl ?_)
 exact ⟨rfl, rfl⟩


/- loop.example/g00332/impl.LocksOK$2 -/
def k_c_LocksOK2 : XCode :=
 .seq (.ops [.op (some 1) (.box (.t 0)),
   .op (some 2) (.mov (.k (.bool false)))])
 (.keep [1] (.seq (.ops [.op (some 3) (.fadr (.t 1) 0),
   .op (some 4) (.load1 (.t 3)),
   .call (some 5) 169 [.t 4],
   .op (some 6) (.not (.t 5)),
   .op (some 7) (.mov (.t 6)),
   .andor 12 false 4 7 [.op (some 8) (.fadr (.t 1) 1), .op (some 9) (.load1 (.t 8)), .call (some 10) 169 [.t 9], .op (some 11) (.not (.t 10))] (.t 11),
   .op (some 13) (.mov (.t 12)),
   .andor 19 false 10 13 [.op (some 14) (.fadr (.t 1) 0), .op (some 15) (.load1 (.t 14)), .op (some 16) (.fadr (.t 1) 1), .op (some 17) (.load1 (.t 16)), .op (some 18) (.bin .eql (.t 15) (.t 17))] (.t 18),
   .op (some 2) (.mov (.t 19))])
 (.keep [2] (.ret))))
theorem k_c_LocksOK2_fits : fitsF Tryz.prog 168 ⟨20, k_c_LocksOK2, [.t 2]⟩ = true := by kernel_rfl
theorem c_LocksOK2 {a : GWait} : Con Tryz.prog noMv 168 [a.av] [] (fun r h => r = bool (badWait a) ∧ h = []) := by
 refine con_of2 k_c_LocksOK2_fits rfl fun C hP hmv => ?_
 unfold k_c_LocksOK2
 refine cx_seq (cx_ops ?_)
 refine ax_e (e_box rfl rfl (by decide) rfl rfl rfl) ?_
 refine ax_q (q_mov rfl) ?_
 refine ax_nil (cx_keep rfl rfl (cx_seq (cx_ops ?_)))
 refine ax_q (q_fadr_ptr rfl) ?_
 refine ax_q (q_load1_ptr rfl rfl rfl) ?_
 refine ax_call rfl (vc_pure0 (c_isTx  ) hP rfl rfl ?_)
 refine ax_q (q_not rfl) ?_
 refine ax_q (q_mov rfl) ?_
 apply ax_or rfl rfl
 ·
  intro g
  have g := bF g
  refine ax_q (q_fadr_ptr rfl) ?_
  refine ax_q (q_load1_ptr rfl rfl rfl) ?_
  refine ax_call rfl (vc_pure0 (c_isTx  ) hP rfl rfl ?_)
  refine ax_q (q_not rfl) ?_
  exact ax_nil ⟨rfl, by repeat constructor⟩
 refine ax_q (q_mov rfl) ?_
 apply ax_or rfl rfl
 ·
  intro g
  have g := (fun h => And.intro (bF (or_F h).1) (bF (or_F h).2)) g
  refine ax_q (q_fadr_ptr rfl) ?_
  refine ax_q (q_load1_ptr rfl rfl rfl) ?_
  refine ax_q (q_fadr_ptr rfl) ?_
  refine ax_q (q_load1_ptr rfl rfl rfl) ?_
  refine ax_q (q_ibin rfl rfl rfl) ?_
  exact ax_nil ⟨rfl, by repeat constructor⟩
 refine ax_q (q_mov rfl) ?_
 refine ax_nil (cx_keep rfl rfl ?_)
 refine cx_ret (ret0 rfl rfl ?_)
 exact ⟨rfl, rfl⟩


/- loop.example/g00332/impl.LocksOK -/
def k_c_LocksOK : XCode :=
 .seq (.ops [.op (some 1) (.box (.t 0)),
   .op (some 2) (.mov (.k (.bool false)))])
 (.keep [1] (.seq (.seq (.ops [.op (some 5) (.fadr (.t 1) 0),
   .op (some 6) (.load1 (.t 5)),
   .op (some 7) (.lenS (.t 6)),
   .op (some 8) (.mov (.k (.int .i64 0)))])
  (.keep [1, 6, 7, 8] (.block 0 (.loop (.seq (.ops [.op (some 9) (.bin .lss (.t 8) (.t 7))])
   (.keep [1, 6, 7, 8, 9] (.seq (.cond (.t 9)
    (.skip)
    (.exit 0))
   (.keep [1, 6, 7, 8] (.seq (.block 1 (.seq (.ops [.op (some 10) (.mov (.t 8)),
     .op (some 11) (.iadr 4 (.t 6) (.t 8)),
     .op (some 12) (.loadN 4 (.t 11)),
     .op (some 4) (.alloc [.int .i64 0, .int .i64 0, .int .i64 0, .int .i64 0]),
     .op (some 3) (.mov (.t 10)),
     .op none (.store 4 (.t 4) (.t 12))])
    (.keep [1, 3, 4, 6, 7, 8] (.seq (.ops [.op (some 13) (.loadN 4 (.t 4)),
     .call (some 14) 165 [.t 13],
     .op (some 15) (.not (.t 14)),
     .op (some 16) (.mov (.t 15)),
     .andor 23 false 3 16 [.op (some 17) (.fadr (.t 1) 0), .op (some 18) (.load1 (.t 17)), .op (some 19) (.mov (.t 3)), .op (some 20) (.slc 4 (.t 18) none (some (.t 19)) none), .op (some 21) (.mkfn 166 [.t 4]), .call (some 22) 94 [.t 20, .t 21]] (.t 22)])
    (.keep [1, 6, 7, 8, 23] (.cond (.t 23)
    (.seq (.ops [.op (some 2) (.mov (.k (.bool false)))])
     (.keep [2] (.ret)))
    (.skip)))))))
   (.keep [1, 6, 7, 8] (.ops [.op (some 24) (.bin .add (.t 8) (.k (.int .i64 1))),
    .op (some 8) (.mov (.t 24))])))))))))))
 (.keep [1] (.seq (.ops [.op (some 25) (.fadr (.t 1) 0),
   .op (some 26) (.load1 (.t 25)),
   .op (some 27) (.lenS (.t 26)),
   .op (some 28) (.bin .leq (.t 27) (.k (.int .i64 60))),
   .op (some 29) (.mov (.t 28)),
   .andor 34 true 4 29 [.op (some 30) (.fadr (.t 1) 1), .op (some 31) (.load1 (.t 30)), .op (some 32) (.lenS (.t 31)), .op (some 33) (.bin .leq (.t 32) (.k (.int .i64 100)))] (.t 33),
   .op (some 35) (.mov (.t 34)),
   .andor 40 true 10 35 [.op (some 36) (.fadr (.t 1) 1), .op (some 37) (.load1 (.t 36)), .call (some 38) 97 [.t 37, .f 168], .op (some 39) (.not (.t 38))] (.t 39),
   .op (some 2) (.mov (.t 40))])
 (.keep [2] (.ret))))))
theorem k_c_LocksOK_fits : fitsF Tryz.prog 92 ⟨41, k_c_LocksOK, [.t 2]⟩ = true := by kernel_rfl
theorem c_LocksOK {l : GLocks} (hw0 : l.Held.length ≤ 1048576) (hw1 : l.Waits.length ≤ 1048576) : Con Tryz.prog noMv 92 [l.av] [] (fun r h => r = bool (locksOK l) ∧ h = []) := by
 refine con_of2 k_c_LocksOK_fits rfl fun C hP hmv => ?_
 unfold k_c_LocksOK
 refine cx_seq (cx_ops ?_)
 refine ax_e (e_box rfl rfl (by decide) rfl rfl rfl) ?_
 refine ax_q (q_mov rfl) ?_
 refine ax_nil (cx_keep rfl rfl (cx_seq (cx_seq (cx_ops ?_))))
 refine ax_q (q_fadr_ptr rfl) ?_
 refine ax_q (q_load1_ptr rfl rfl rfl) ?_
 refine ax_q (q_lenS_map rfl) ?_
 refine ax_q (q_mov rfl) ?_
 refine ax_nil (cx_keep rfl rfl (cx_block ?_))
 refine cx_loopU (fun n k => k ≤ l.Held.length ∧ n = l.Held.length - k ∧ allIx (okAt l.Held) k = true) (fun k : Nat => [(8, int k)]) (fun _ => [(1, .box [.d (.sl 4 (l.Held.map GLock.row)), .d (.sl 2 (l.Waits.map GWait.row))])]) ⟨_, 0, ⟨Nat.zero_le _, rfl, rfl⟩, by repeat constructor⟩ ?_
 rintro n k ⟨hk, rfl, ht⟩
 refine cx_seq (cx_ops ?_)
 refine ax_q (q_ibin rfl rfl rfl) ?_
 refine ax_nil (cx_keep rfl rfl (cx_seq ?_))
 refine cx_cond rfl (fun h0 => ?_) (fun h0 => ?_)
 ·
  have h0 := dT h0
  have h0x : k < l.Held.length := by omega
  refine cx_skip ?_
  refine cx_keep rfl rfl (cx_seq (cx_block (cx_seq (cx_ops ?_))))
  refine ax_q (q_mov rfl) ?_
  refine ax_q (q_ix rfl rfl (mapAt h0x)) ?_
  first | refine ax_q (q_ldN rfl rfl rfl) ?_ | refine ax_q (q_loadN_ip rfl (Nat.le_refl _)) ?_
  refine ax_e (e_alloc (by decide) rfl rfl) ?_
  refine ax_q (q_mov rfl) ?_
  refine ax_e (e_st rfl rfl rfl rfl rfl rfl rfl) ?_
  refine ax_nil (cx_keep rfl rfl (cx_seq (cx_ops ?_)))
  refine ax_q (q_ldN rfl rfl rfl) ?_
  refine ax_call rfl (vc_pure0 (c_lockOK  ) hP rfl rfl ?_)
  refine ax_q (q_not rfl) ?_
  refine ax_q (q_mov rfl) ?_
  apply ax_or rfl rfl
  ·
   intro g
   have g := bF g
   refine ax_q (q_fadr_ptr rfl) ?_
   refine ax_q (q_load1_ptr rfl rfl rfl) ?_
   refine ax_q (q_mov rfl) ?_
   refine ax_qe (r' := .d (.sl 4 ((l.Held.take k).map GLock.row))) (q_slc rfl rfl rfl (by omega) (by omega) (by simp; omega)) (by simp [List.map_take]) ?_
   refine ax_q (q_mkfn rfl) ?_
   refine ax_call rfl (vc_lend0 (c_ContainsFunc_Lock (xs := l.Held.take k) (ds := [.ip (l.Held[k]).row]) (twice l.Held[k]) (by simp; omega) (by kernel_rfl) (fun s _ => c_LocksOK1)) hP (by repeat (first | exact lal_id _ rfl | exact LAL.nil | refine LAL.cons ?_ ?_ | exact la_id _ rfl | exact LA.lend (lend_whole rfl (by first | (simp; done) | (rw [List.length_map]; rfl))) | refine LA.agg ?_ | refine LA.fn ?_ | refine LA.lend ?_ | exact Lend.d _ | exact Lend.zs _ | exact lend_whole rfl (by first | (simp; done) | (rw [List.length_map]; rfl)) | refine Lend.ptr rfl ?_ | refine Lend.fn ?_ | exact LendL.nil | refine LendL.cons ?_ ?_)) rfl rfl ?_)
   exact ax_nil ⟨rfl, by repeat constructor⟩
  refine ax_nil (cx_keep rfl rfl ?_)
  refine cx_cond rfl (fun h1 => ?_) (fun h1 => ?_)
  ·
   have h1 := (fun h => (or_T h).imp bT id) h1
   refine cx_seq (cx_ops ?_)
   refine ax_q (q_mov rfl) ?_
   refine ax_nil (cx_keep rfl rfl ?_)
   refine cx_ret (ret0 rfl rfl ?_)
   exact ⟨by rw [show locksOK l = false from by unfold locksOK; rw [allIx_no h0x (by rw [okAt_get h0x]; rcases h1 with h1 | h1 <;> rw [h1] <;> simp)]; rfl]; rfl, rfl⟩
  ·
   have h1 := (fun h => And.intro (bF (or_F h).1) (id (or_F h).2)) h1
   refine cx_skip ?_
   refine cx_keep rfl rfl (cx_ops ?_)
   refine ax_qe (r' := int ((k + 1 : Nat) : Int)) (q_ibin rfl rfl rfl) (by rw [wi (by omega) (by omega)]; rfl) ?_
   refine ax_q (q_mov rfl) ?_
   refine ax_nil ?_
   have h2 : okAt l.Held k = true := by rw [okAt_get h0x, h1.1, h1.2]; rfl
   exact ⟨_, k + 1, by omega, ⟨by omega, rfl, allIx_step ht h2⟩, by repeat constructor⟩
 ·
  have h0 := dF h0
  have h0x : k = l.Held.length := by omega
  subst h0x
  refine cx_exit rfl ?_
  refine cx_keep rfl rfl (cx_seq (cx_ops ?_))
  refine ax_q (q_fadr_ptr rfl) ?_
  refine ax_q (q_load1_ptr rfl rfl rfl) ?_
  refine ax_q (q_lenS_map rfl) ?_
  refine ax_q (q_ibin rfl rfl rfl) ?_
  refine ax_q (q_mov rfl) ?_
  apply ax_and rfl rfl
  ·
   intro g
   have g := dT g
   refine ax_q (q_fadr_ptr rfl) ?_
   refine ax_q (q_load1_ptr rfl rfl rfl) ?_
   refine ax_q (q_lenS_map rfl) ?_
   refine ax_q (q_ibin rfl rfl rfl) ?_
   exact ax_nil ⟨rfl, by repeat constructor⟩
  refine ax_q (q_mov rfl) ?_
  apply ax_and rfl rfl
  ·
   intro g
   have g := (fun h => And.intro (dT (and_T h).1) (dT (and_T h).2)) g
   refine ax_q (q_fadr_ptr rfl) ?_
   refine ax_q (q_load1_ptr rfl rfl rfl) ?_
   refine ax_call rfl (vc_lend0 (c_ContainsFunc_Wait (xs := l.Waits) (ds := []) badWait (by omega) (by kernel_rfl) (fun s _ => c_LocksOK2)) hP (by repeat (first | exact lal_id _ rfl | exact LAL.nil | refine LAL.cons ?_ ?_ | exact la_id _ rfl | exact LA.lend (lend_whole rfl (by first | (simp; done) | (rw [List.length_map]; rfl))) | refine LA.agg ?_ | refine LA.fn ?_ | refine LA.lend ?_ | exact Lend.d _ | exact Lend.zs _ | exact lend_whole rfl (by first | (simp; done) | (rw [List.length_map]; rfl)) | refine Lend.ptr rfl ?_ | refine Lend.fn ?_ | exact LendL.nil | refine LendL.cons ?_ ?_)) rfl rfl ?_)
   refine ax_q (q_not rfl) ?_
   exact ax_nil ⟨rfl, by repeat constructor⟩
  refine ax_q (q_mov rfl) ?_
  refine ax_nil (cx_keep rfl rfl ?_)
  refine cx_ret (ret0 rfl rfl ?_)
  exact ⟨by unfold locksOK; rw [ht]; rfl, rfl⟩


/- (ptr loop.example/g00332/impl.Store).isOwn -/
def k_c_isOwn : XCode :=
 .seq (.ops [.op (some 6) (.mov (.k (.bool false)))])
 (.keep [0, 1, 2] (.seq (.ops [.op (some 7) (.mov (.t 1)),
   .op (some 8) (.mov (.t 0)),
   .op (some 9) (.nilck (.t 8)),
   .op (some 10) (.fadr (.t 9) 5),
   .op (some 11) (.load1 (.t 10)),
   .op (some 12) (.lenS (.t 11)),
   .call (some 13) 63 [.t 7, .k (.int .i64 1), .t 12],
   .op (some 14) (.mov (.t 13)),
   .andor 26 true 7 14 [.op (some 15) (.mov (.t 0)), .op (some 16) (.nilck (.t 15)), .op (some 17) (.fadr (.t 16) 5), .op (some 18) (.load1 (.t 17)), .op (some 19) (.mov (.t 1)), .op (some 20) (.bin .sub (.t 19) (.k (.int .i64 1))), .op (some 21) (.iadr 10 (.t 18) (.t 20)), .op (some 22) (.fadr (.t 21) 2), .op (some 23) (.load1 (.t 22)), .op (some 24) (.mov (.t 2)), .op (some 25) (.bin .eql (.t 23) (.t 24))] (.t 25),
   .op (some 27) (.mov (.t 26)),
   .andor 38 true 20 27 [.op (some 28) (.mov (.t 0)), .op (some 29) (.nilck (.t 28)), .op (some 30) (.fadr (.t 29) 5), .op (some 31) (.load1 (.t 30)), .op (some 32) (.mov (.t 1)), .op (some 33) (.bin .sub (.t 32) (.k (.int .i64 1))), .op (some 34) (.iadr 10 (.t 31) (.t 33)), .op (some 35) (.fadr (.t 34) 3), .op (some 36) (.load1 (.t 35)), .call (some 37) 63 [.t 36, .k (.int .i64 1), .k (.int .i64 3)]] (.t 37),
   .op (some 6) (.mov (.t 38))])
 (.keep [6] (.ret))))
theorem k_c_isOwn_fits : fitsF Tryz.prog 170 ⟨39, k_c_isOwn, [.t 6]⟩ = true := by kernel_rfl
theorem c_isOwn {s : GStore} {xs : List D} {n tx : Int} (hl : s.Log.length ≤ 60) : Con Tryz.prog noMv 170 [.d (.ip (s.row ++ xs)), int n, int tx] [] (fun r h => r = bool (ownF s.Log n tx) ∧ h = []) := by
 refine con_of2 k_c_isOwn_fits rfl fun C hP hmv => ?_
 unfold k_c_isOwn
 refine cx_seq (cx_ops ?_)
 refine ax_q (q_mov rfl) ?_
 refine ax_nil (cx_keep rfl rfl (cx_seq (cx_ops ?_)))
 refine ax_q (q_mov rfl) ?_
 refine ax_q (q_mov rfl) ?_
 first | refine ax_q (q_nilck_ptr rfl) ?_ | refine ax_q (q_nilck_rptr rfl) ?_ | refine ax_q (q_nilck_ip rfl) ?_
 first | refine ax_q (q_fadr_ptr rfl) ?_ | refine ax_q (q_fadr_rptr rfl) ?_ | refine ax_q (q_fadr_ip rfl) ?_
 first | refine ax_q (q_load1_ptr rfl rfl rfl) ?_ | refine ax_q (q_load1_ip rfl) ?_
 refine ax_q (q_lenS_map rfl) ?_
 refine ax_call rfl (vc_pure0 (c_inRange  ) hP rfl rfl ?_)
 refine ax_q (q_mov rfl) ?_
 apply ax_and rfl rfl
 ·
  intro g
  have hn := inR_iff.1 g
  refine ax_q (q_mov rfl) ?_
  first | refine ax_q (q_nilck_ptr rfl) ?_ | refine ax_q (q_nilck_rptr rfl) ?_ | refine ax_q (q_nilck_ip rfl) ?_
  first | refine ax_q (q_fadr_ptr rfl) ?_ | refine ax_q (q_fadr_rptr rfl) ?_ | refine ax_q (q_fadr_ip rfl) ?_
  first | refine ax_q (q_load1_ptr rfl rfl rfl) ?_ | refine ax_q (q_load1_ip rfl) ?_
  refine ax_q (q_mov rfl) ?_
  refine ax_qe (r' := int (n - 1)) (q_ibin rfl rfl rfl) (by rw [wi (by omega) (by omega)]) ?_
  refine ax_q (q_ixI rfl rfl (by omega) (recAt_get hn)) ?_
  first | refine ax_q (q_fadr_ptr rfl) ?_ | refine ax_q (q_fadr_rptr rfl) ?_ | refine ax_q (q_fadr_ip rfl) ?_
  first | refine ax_q (q_load1_ptr rfl rfl rfl) ?_ | refine ax_q (q_load1_ip rfl) ?_
  refine ax_q (q_mov rfl) ?_
  refine ax_q (q_ibin rfl rfl rfl) ?_
  exact ax_nil ⟨rfl, by repeat constructor⟩
 refine ax_q (q_mov rfl) ?_
 apply ax_and rfl rfl
 ·
  intro g
  have g := (fun h => And.intro (id (and_T h).1) (dT (and_T h).2)) g
  have hn := inR_iff.1 g.1
  refine ax_q (q_mov rfl) ?_
  first | refine ax_q (q_nilck_ptr rfl) ?_ | refine ax_q (q_nilck_rptr rfl) ?_ | refine ax_q (q_nilck_ip rfl) ?_
  first | refine ax_q (q_fadr_ptr rfl) ?_ | refine ax_q (q_fadr_rptr rfl) ?_ | refine ax_q (q_fadr_ip rfl) ?_
  first | refine ax_q (q_load1_ptr rfl rfl rfl) ?_ | refine ax_q (q_load1_ip rfl) ?_
  refine ax_q (q_mov rfl) ?_
  refine ax_qe (r' := int (n - 1)) (q_ibin rfl rfl rfl) (by rw [wi (by omega) (by omega)]) ?_
  refine ax_q (q_ixI rfl rfl (by omega) (recAt_get hn)) ?_
  first | refine ax_q (q_fadr_ptr rfl) ?_ | refine ax_q (q_fadr_rptr rfl) ?_ | refine ax_q (q_fadr_ip rfl) ?_
  first | refine ax_q (q_load1_ptr rfl rfl rfl) ?_ | refine ax_q (q_load1_ip rfl) ?_
  refine ax_call rfl (vc_pure0 (c_inRange  ) hP rfl rfl ?_)
  exact ax_nil ⟨rfl, by repeat constructor⟩
 refine ax_q (q_mov rfl) ?_
 refine ax_nil (cx_keep rfl rfl ?_)
 refine cx_ret (ret0 rfl rfl ?_)
 exact ⟨rfl, rfl⟩


/- (ptr loop.example/g00332/impl.Store).chainOK -/
def k_c_chainOK : XCode :=
 .seq (.ops [.op (some 3) (.box (.t 1)),
   .op (some 4) (.mov (.k (.bool false)))])
 (.keep [0, 3] (.seq (.ops [.op (some 7) (.fadr (.t 3) 1),
   .op (some 8) (.load1 (.t 7)),
   .op (some 5) (.mov (.t 8))])
 (.keep [0, 3, 5] (.block 0 (.loop (.block 1 (.seq (.seq (.ops [.op (some 9) (.mov (.t 0)),
     .op (some 10) (.mov (.t 5)),
     .op (some 11) (.fadr (.t 3) 0),
     .op (some 12) (.load1 (.t 11)),
     .call (some 13) 170 [.t 9, .t 10, .t 12],
     .op (some 14) (.not (.t 13))])
   (.keep [0, 3, 5, 14] (.cond (.t 14)
    (.seq (.ops [.op (some 4) (.mov (.k (.bool false)))])
    (.keep [4] (.ret)))
    (.skip))))
   (.keep [0, 3, 5] (.seq (.ops [.op (some 15) (.mov (.t 0)),
    .op (some 16) (.nilck (.t 15)),
    .op (some 17) (.fadr (.t 16) 5),
    .op (some 18) (.load1 (.t 17)),
    .op (some 19) (.mov (.t 5)),
    .op (some 20) (.bin .sub (.t 19) (.k (.int .i64 1))),
    .op (some 21) (.iadr 10 (.t 18) (.t 20)),
    .op (some 22) (.loadN 10 (.t 21)),
    .op (some 6) (.alloc [.int .i64 0, .int .i64 0, .int .i64 0, .int .i64 0, .int .i64 0, .int .i64 0, .int .i64 0, .int .i64 0, .str [], .str []]),
    .op none (.store 10 (.t 6) (.t 22))])
   (.keep [0, 3, 6] (.seq (.seq (.ops [.op (some 23) (.fadr (.t 6) 3),
     .op (some 24) (.load1 (.t 23)),
     .op (some 25) (.bin .eql (.t 24) (.k (.int .i64 3))),
     .op (some 26) (.mov (.t 25)),
     .andor 34 true 3 26 [.op (some 27) (.mov (.t 0)), .op (some 28) (.fadr (.t 6) 5), .op (some 29) (.load1 (.t 28)), .op (some 30) (.fadr (.t 3) 0), .op (some 31) (.load1 (.t 30)), .call (some 32) 170 [.t 27, .t 29, .t 31], .op (some 33) (.not (.t 32))] (.t 33)])
   (.keep [0, 3, 6, 34] (.cond (.t 34)
    (.seq (.ops [.op (some 4) (.mov (.k (.bool false)))])
    (.keep [4] (.ret)))
    (.skip))))
   (.keep [0, 3, 6] (.seq (.seq (.ops [.op (some 35) (.fadr (.t 6) 4),
     .op (some 36) (.load1 (.t 35)),
     .op (some 37) (.bin .eql (.t 36) (.k (.int .i64 0)))])
   (.keep [0, 3, 6, 37] (.cond (.t 37)
    (.seq (.ops [.op (some 4) (.mov (.k (.bool true)))])
    (.keep [4] (.ret)))
    (.skip))))
   (.keep [0, 3, 6] (.ops [.op (some 38) (.fadr (.t 6) 4),
    .op (some 39) (.load1 (.t 38)),
    .op (some 5) (.mov (.t 39))])))))))))))))))
theorem k_c_chainOK_fits : fitsF Tryz.prog 93 ⟨40, k_c_chainOK, [.t 4]⟩ = true := by kernel_rfl
theorem c_chainOK {s : GStore} {xs : List D} {t : GTx} (hl : s.Log.length ≤ 60) (hg : goodA s.Log = true) : Con Tryz.prog noMv 93 [.d (.ip (s.row ++ xs)), t.av] [] (fun r h => r = bool (chainF s.Log t.Id 61 t.Last) ∧ h = []) := by
 refine con_of2 k_c_chainOK_fits rfl fun C hP hmv => ?_
 unfold k_c_chainOK
 refine cx_seq (cx_ops ?_)
 refine ax_e (e_box rfl rfl (by decide) rfl rfl rfl) ?_
 refine ax_q (q_mov rfl) ?_
 refine ax_nil (cx_keep rfl rfl (cx_seq (cx_ops ?_)))
 refine ax_q (q_fadr_ptr rfl) ?_
 refine ax_q (q_load1_ptr rfl rfl rfl) ?_
 refine ax_q (q_mov rfl) ?_
 refine ax_nil (cx_keep rfl rfl (cx_block ?_))
 refine cx_loopU (fun m (p : Int × Nat) => m = p.2 ∧ chainF s.Log t.Id 61 t.Last = chainF s.Log t.Id p.2 p.1 ∧ (p.2 = 61 ∨ p.1 < (p.2 : Int)) ∧ 1 ≤ p.2) (fun p => [(5, int p.1)]) (fun _ => [(3, .box (t.row.map .d))]) ⟨_, (t.Last, 61), ⟨rfl, rfl, .inl rfl, Nat.le_add_left 1 60⟩, by repeat constructor⟩ ?_
 rintro m ⟨n, f⟩ ⟨rfl, hc, hf, hf1⟩
 simp only at hc hf hf1 ⊢
 obtain ⟨f, rfl⟩ : ∃ f2, m = f2 + 1 := ⟨m - 1, by omega⟩
 refine cx_block (cx_seq (cx_seq (cx_ops ?_)))
 refine ax_q (q_mov rfl) ?_
 refine ax_q (q_mov rfl) ?_
 refine ax_q (q_fadr_ptr rfl) ?_
 refine ax_q (q_load1_ptr rfl rfl rfl) ?_
 refine ax_call rfl (vc_pure0 (c_isOwn (s := s) (xs := xs) (n := n) (tx := t.Id) ?_) hP rfl rfl ?_)
 ·
  assumption
 refine ax_q (q_not rfl) ?_
 refine ax_nil (cx_keep rfl rfl ?_)
 refine cx_cond rfl (fun h0 => ?_) (fun h0 => ?_)
 ·
  have h0 : ownF s.Log n t.Id = false := by simpa using h0
  refine cx_seq (cx_ops ?_)
  refine ax_q (q_mov rfl) ?_
  refine ax_nil (cx_keep rfl rfl ?_)
  refine cx_ret (ret0 rfl rfl ?_)
  exact ⟨by rw [hc, chain_no h0]; rfl, rfl⟩
 ·
  have h0 : ownF s.Log n t.Id = true := by simpa using h0
  obtain ⟨hn, _⟩ := own_t h0
  obtain ⟨_, hln, hin⟩ := goodA_at hg hn
  have hpr := hin.p
  refine cx_skip ?_
  refine cx_keep rfl rfl (cx_seq (cx_ops ?_))
  refine ax_q (q_mov rfl) ?_
  first | refine ax_q (q_nilck_ptr rfl) ?_ | refine ax_q (q_nilck_rptr rfl) ?_ | refine ax_q (q_nilck_ip rfl) ?_
  first | refine ax_q (q_fadr_ptr rfl) ?_ | refine ax_q (q_fadr_rptr rfl) ?_ | refine ax_q (q_fadr_ip rfl) ?_
  first | refine ax_q (q_load1_ptr rfl rfl rfl) ?_ | refine ax_q (q_load1_ip rfl) ?_
  refine ax_q (q_mov rfl) ?_
  refine ax_qe (r' := int (n - 1)) (q_ibin rfl rfl rfl) (by rw [wi (by omega) (by omega)]) ?_
  refine ax_q (q_ixI rfl rfl (by omega) (recAt_get hn)) ?_
  first | refine ax_q (q_ldN rfl rfl rfl) ?_ | refine ax_q (q_loadN_ip rfl (Nat.le_refl _)) ?_
  refine ax_e (e_alloc (by decide) rfl rfl) ?_
  refine ax_e (e_st rfl rfl rfl rfl rfl rfl rfl) ?_
  refine ax_nil (cx_keep rfl rfl (cx_seq (cx_seq (cx_ops ?_))))
  refine ax_q (q_fadr_ptr rfl) ?_
  refine ax_q (q_load1_ptr rfl rfl rfl) ?_
  refine ax_q (q_ibin rfl rfl rfl) ?_
  refine ax_q (q_mov rfl) ?_
  apply ax_and rfl rfl
  ·
   intro g
   have g := dT g
   refine ax_q (q_mov rfl) ?_
   refine ax_q (q_fadr_ptr rfl) ?_
   refine ax_q (q_load1_ptr rfl rfl rfl) ?_
   refine ax_q (q_fadr_ptr rfl) ?_
   refine ax_q (q_load1_ptr rfl rfl rfl) ?_
   refine ax_call rfl (vc_pure0 (c_isOwn (s := s) (xs := xs) (n := (recAt s.Log n).Next) (tx := t.Id) ?_) hP rfl rfl ?_)
   ·
    assumption
   refine ax_q (q_not rfl) ?_
   exact ax_nil ⟨rfl, by repeat constructor⟩
  refine ax_nil (cx_keep rfl rfl ?_)
  refine cx_cond rfl (fun h1 => ?_) (fun h1 => ?_)
  ·
   have h1 : (recAt s.Log n).Kind = 3 ∧ ownF s.Log (recAt s.Log n).Next t.Id = false := by simpa using h1
   refine cx_seq (cx_ops ?_)
   refine ax_q (q_mov rfl) ?_
   refine ax_nil (cx_keep rfl rfl ?_)
   refine cx_ret (ret0 rfl rfl ?_)
   exact ⟨by rw [hc, chain_3 h1.1 h1.2]; rfl, rfl⟩
  ·
   have h13 : (recAt s.Log n).Kind = 3 → ownF s.Log (recAt s.Log n).Next t.Id = true := by simpa using h1
   refine cx_skip ?_
   refine cx_keep rfl rfl (cx_seq (cx_seq (cx_ops ?_)))
   refine ax_q (q_fadr_ptr rfl) ?_
   refine ax_q (q_load1_ptr rfl rfl rfl) ?_
   refine ax_q (q_ibin rfl rfl rfl) ?_
   refine ax_nil (cx_keep rfl rfl ?_)
   refine cx_cond rfl (fun h2 => ?_) (fun h2 => ?_)
   ·
    have h2 := dT h2
    refine cx_seq (cx_ops ?_)
    refine ax_q (q_mov rfl) ?_
    refine ax_nil (cx_keep rfl rfl ?_)
    refine cx_ret (ret0 rfl rfl ?_)
    exact ⟨by rw [hc, chain_0 h0 h13 h2]; rfl, rfl⟩
   ·
    have h2 := dF h2
    refine cx_skip ?_
    refine cx_keep rfl rfl (cx_ops ?_)
    refine ax_q (q_fadr_ptr rfl) ?_
    refine ax_q (q_load1_ptr rfl rfl rfl) ?_
    refine ax_q (q_mov rfl) ?_
    refine ax_nil ?_
    exact ⟨_, ((recAt s.Log n).Prev, f), by simp only; omega, ⟨rfl, by rw [hc, chain_s h0 h13 h2], .inr (by simp only; omega), by simp only; omega⟩, by repeat constructor⟩


/- slices.IndexFunc[[]loop.example/g00332/impl.Tx,loop.example/g00332/impl.Tx] -/
def k_c_IndexFunc_Tx : XCode :=
 .seq (.ops [.op (some 4) (.mov (.k (.int .i64 0)))])
 (.keep [0, 1] (.seq (.seq (.ops [.op (some 6) (.mov (.t 0)),
   .op (some 7) (.lenS (.t 6)),
   .op (some 8) (.mov (.k (.int .i64 0)))])
  (.keep [0, 1, 7, 8] (.block 0 (.loop (.seq (.ops [.op (some 9) (.bin .lss (.t 8) (.t 7))])
   (.keep [0, 1, 7, 8, 9] (.seq (.cond (.t 9)
    (.skip)
    (.exit 0))
   (.keep [0, 1, 7, 8] (.seq (.block 1 (.seq (.ops [.op (some 10) (.mov (.t 8)),
     .op (some 5) (.mov (.t 10))])
    (.keep [0, 1, 5, 7, 8] (.seq (.ops [.op (some 11) (.mov (.t 1)),
     .op (some 12) (.mov (.t 0)),
     .op (some 13) (.mov (.t 5)),
     .op (some 14) (.iadr 2 (.t 12) (.t 13)),
     .op (some 15) (.loadN 2 (.t 14)),
     .callv (some 16) (.t 11) [.t 15]])
    (.keep [0, 1, 5, 7, 8, 16] (.cond (.t 16)
    (.seq (.ops [.op (some 17) (.mov (.t 5)),
      .op (some 4) (.mov (.t 17))])
     (.keep [4] (.ret)))
    (.skip)))))))
   (.keep [0, 1, 7, 8] (.ops [.op (some 18) (.bin .add (.t 8) (.k (.int .i64 1))),
    .op (some 8) (.mov (.t 18))])))))))))))
 (.keep [] (.seq (.ops [.op (some 4) (.mov (.k (.int .i64 (-1))))])
 (.keep [4] (.ret))))))
theorem k_c_IndexFunc_Tx_fits : fitsF Tryz.prog 172 ⟨19, k_c_IndexFunc_Tx, [.t 4]⟩ = true := by kernel_rfl
theorem c_IndexFunc_Tx {xs : List GTx} {f : Nat} {ds : List D} (p : GTx → Bool) (hw : xs.length ≤ 9223372036854775807) (hb : hasBody Tryz.prog f = true) (hf : ∀ s ∈ xs, Con Tryz.prog noMv f (s.av :: ds.map AV.d) [] (fun r h => r = bool (p s) ∧ h = [])) : Con Tryz.prog noMv 172 [.d (.sl 2 (xs.map GTx.row)), .d (.fn (.func f) ds)] [] (fun r h => r = int (idxOf p xs 0) ∧ h = []) := by
 refine con_of2 k_c_IndexFunc_Tx_fits rfl fun C hP hmv => ?_
 unfold k_c_IndexFunc_Tx
 refine cx_seq (cx_ops ?_)
 refine ax_q (q_mov rfl) ?_
 refine ax_nil (cx_keep rfl rfl (cx_seq (cx_seq (cx_ops ?_))))
 refine ax_q (q_mov rfl) ?_
 refine ax_q (q_lenS_map rfl) ?_
 refine ax_q (q_mov rfl) ?_
 refine ax_nil (cx_keep rfl rfl (cx_block ?_))
 refine cx_loopU (fun n k => k ≤ xs.length ∧ n = xs.length - k ∧ ∀ i, i < k → ∀ x, xs[i]? = some x → p x = false) (fun k : Nat => [(8, int k)]) (fun _ => []) ⟨_, 0, ⟨by omega, rfl, fun i hi => by omega⟩, by repeat constructor⟩ ?_
 rintro n k ⟨hk, rfl, ht⟩
 refine cx_seq (cx_ops ?_)
 refine ax_q (q_ibin rfl rfl rfl) ?_
 refine ax_nil (cx_keep rfl rfl (cx_seq ?_))
 refine cx_cond rfl (fun h0 => ?_) (fun h0 => ?_)
 ·
  have h0 := dT h0
  have h0x : k < xs.length := by omega
  refine cx_skip ?_
  refine cx_keep rfl rfl (cx_seq (cx_block (cx_seq (cx_ops ?_))))
  refine ax_q (q_mov rfl) ?_
  refine ax_q (q_mov rfl) ?_
  refine ax_nil (cx_keep rfl rfl (cx_seq (cx_ops ?_)))
  refine ax_q (q_mov rfl) ?_
  refine ax_q (q_mov rfl) ?_
  refine ax_q (q_mov rfl) ?_
  refine ax_q (q_ix rfl rfl (mapAt h0x)) ?_
  first | refine ax_q (q_ldN rfl rfl rfl) ?_ | refine ax_q (q_loadN_ip rfl (Nat.le_refl _)) ?_
  refine ax_callvD rfl (by rw [hP]; exact hb) rfl (vc_pure0 (hf _ (List.getElem_mem h0x)) hP (refs_cons rfl ds) rfl ?_)
  refine ax_nil (cx_keep rfl rfl ?_)
  refine cx_cond rfl (fun h1 => ?_) (fun h1 => ?_)
  ·
   skip
   refine cx_seq (cx_ops ?_)
   refine ax_q (q_mov rfl) ?_
   refine ax_q (q_mov rfl) ?_
   refine ax_nil (cx_keep rfl rfl ?_)
   refine cx_ret (ret0 rfl rfl ?_)
   exact ⟨by rw [idxOf_hit h0x ht h1]; rfl, rfl⟩
  ·
   skip
   refine cx_skip ?_
   refine cx_keep rfl rfl (cx_ops ?_)
   refine ax_qe (r' := int ((k + 1 : Nat) : Int)) (q_ibin rfl rfl rfl) (by rw [wi (by omega) (by omega)]; rfl) ?_
   refine ax_q (q_mov rfl) ?_
   refine ax_nil ?_
   exact ⟨_, k + 1, by omega, ⟨by omega, rfl, before_step h0x ht h1⟩, by repeat constructor⟩
 ·
  have h0 := dF h0
  have h0x : k = xs.length := by omega
  refine cx_exit rfl ?_
  refine cx_keep rfl rfl (cx_seq (cx_ops ?_))
  refine ax_q (q_mov rfl) ?_
  refine ax_nil (cx_keep rfl rfl ?_)
  refine cx_ret (ret0 rfl rfl ?_)
  exact ⟨by rw [idxOf_none (fun i hi => ht i (by omega))]; rfl, rfl⟩


/- (ptr loop.example/g00332/impl.Engine).txAt$1 -/
def k_c_txAt1 : XCode :=
 .seq (.ops [.op (some 2) (.box (.t 0)),
   .op (some 3) (.mov (.k (.bool false)))])
 (.keep [1, 2] (.seq (.ops [.op (some 4) (.fadr (.t 2) 0),
   .op (some 5) (.load1 (.t 4)),
   .op (some 6) (.load1 (.t 1)),
   .op (some 7) (.bin .eql (.t 5) (.t 6)),
   .op (some 3) (.mov (.t 7))])
 (.keep [3] (.ret))))
theorem k_c_txAt1_fits : fitsF Tryz.prog 173 ⟨8, k_c_txAt1, [.t 3]⟩ = true := by kernel_rfl
theorem c_txAt1 {a : GTx} {id : Int} : Con Tryz.prog noMv 173 [a.av, .d (.ip [.int .i64 id])] [] (fun r h => r = bool (decide (a.Id = id)) ∧ h = []) := by
 refine con_of2 k_c_txAt1_fits rfl fun C hP hmv => ?_
 unfold k_c_txAt1
 refine cx_seq (cx_ops ?_)
 refine ax_e (e_box rfl rfl (by decide) rfl rfl rfl) ?_
 refine ax_q (q_mov rfl) ?_
 refine ax_nil (cx_keep rfl rfl (cx_seq (cx_ops ?_)))
 refine ax_q (q_fadr_ptr rfl) ?_
 refine ax_q (q_load1_ptr rfl rfl rfl) ?_
 first | refine ax_q (q_load1_ptr rfl rfl rfl) ?_ | refine ax_q (q_load1_ip rfl) ?_
 refine ax_q (q_ibin rfl rfl rfl) ?_
 refine ax_q (q_mov rfl) ?_
 refine ax_nil (cx_keep rfl rfl ?_)
 refine cx_ret (ret0 rfl rfl ?_)
 exact ⟨rfl, rfl⟩


/- (ptr loop.example/g00332/impl.Engine).txAt -/
def k_c_txAt : XCode :=
 .seq (.ops [.op (some 3) (.box (.t 1)),
   .op (some 4) (.mov (.k (.int .i64 0)))])
 (.keep [0, 3] (.seq (.ops [.op (some 5) (.mov (.t 0)),
   .op (some 6) (.nilck (.t 5)),
   .op (some 7) (.fadr (.t 6) 10),
   .op (some 8) (.load1 (.t 7)),
   .op (some 9) (.mkfn 173 [.t 3]),
   .call (some 10) 172 [.t 8, .t 9],
   .op (some 4) (.mov (.t 10))])
 (.keep [4] (.ret))))
theorem k_c_txAt_fits : fitsF Tryz.prog 96 ⟨11, k_c_txAt, [.t 4]⟩ = true := by kernel_rfl
theorem c_txAt {e : GEngine} {id : Int} (ht : e.Txs.length ≤ 1048576) : Con Tryz.prog noMv 96 [.d (.ip e.row), int id] [] (fun r h => r = int (txAt e id) ∧ h = []) := by
 refine con_of2 k_c_txAt_fits rfl fun C hP hmv => ?_
 unfold k_c_txAt
 refine cx_seq (cx_ops ?_)
 refine ax_e (e_box rfl rfl (by decide) rfl rfl rfl) ?_
 refine ax_q (q_mov rfl) ?_
 refine ax_nil (cx_keep rfl rfl (cx_seq (cx_ops ?_)))
 refine ax_q (q_mov rfl) ?_
 first | refine ax_q (q_nilck_ptr rfl) ?_ | refine ax_q (q_nilck_rptr rfl) ?_ | refine ax_q (q_nilck_ip rfl) ?_
 first | refine ax_q (q_fadr_ptr rfl) ?_ | refine ax_q (q_fadr_rptr rfl) ?_ | refine ax_q (q_fadr_ip rfl) ?_
 first | refine ax_q (q_load1_ptr rfl rfl rfl) ?_ | refine ax_q (q_load1_ip rfl) ?_
 refine ax_q (q_mkfn rfl) ?_
 refine ax_call rfl (vc_lend0 (c_IndexFunc_Tx (xs := e.Txs) (ds := [.ip [.int .i64 id]]) (fun t => decide (t.Id = id)) (by omega) (by kernel_rfl) (fun t _ => c_txAt1)) hP (by repeat (first | exact lal_id _ rfl | exact LAL.nil | refine LAL.cons ?_ ?_ | exact la_id _ rfl | exact LA.lend (lend_whole rfl (by first | (simp; done) | (rw [List.length_map]; rfl))) | refine LA.agg ?_ | refine LA.fn ?_ | refine LA.lend ?_ | exact Lend.d _ | exact Lend.zs _ | exact lend_whole rfl (by first | (simp; done) | (rw [List.length_map]; rfl)) | refine Lend.ptr rfl ?_ | refine Lend.fn ?_ | exact LendL.nil | refine LendL.cons ?_ ?_)) rfl rfl ?_)
 refine ax_q (q_mov rfl) ?_
 refine ax_nil (cx_keep rfl rfl ?_)
 refine cx_ret (ret0 rfl rfl ?_)
 exact ⟨rfl, rfl⟩


/- (ptr loop.example/g00332/impl.Engine).engineOK$1 -/
def k_c_engineOK1 : XCode :=
 .seq (.ops [.op (some 2) (.box (.t 0)),
   .op (some 3) (.mov (.k (.bool false)))])
 (.keep [1, 2] (.seq (.ops [.op (some 4) (.load1 (.t 1)),
   .op (some 5) (.fadr (.t 2) 0),
   .op (some 6) (.load1 (.t 5)),
   .call (some 7) 96 [.t 4, .t 6],
   .op (some 8) (.bin .lss (.t 7) (.k (.int .i64 0))),
   .op (some 3) (.mov (.t 8))])
 (.keep [3] (.ret))))
theorem k_c_engineOK1_fits : fitsF Tryz.prog 95 ⟨9, k_c_engineOK1, [.t 3]⟩ = true := by kernel_rfl
theorem c_engineOK1 {a : GLock} {e : GEngine} (ht : e.Txs.length ≤ 1048576) : Con Tryz.prog noMv 95 [a.av, .d (.ip [.ip e.row])] [] (fun r h => r = bool (decide (txAt e a.Tx < 0)) ∧ h = []) := by
 refine con_of2 k_c_engineOK1_fits rfl fun C hP hmv => ?_
 unfold k_c_engineOK1
 refine cx_seq (cx_ops ?_)
 refine ax_e (e_box rfl rfl (by decide) rfl rfl rfl) ?_
 refine ax_q (q_mov rfl) ?_
 refine ax_nil (cx_keep rfl rfl (cx_seq (cx_ops ?_)))
 first | refine ax_q (q_load1_ptr rfl rfl rfl) ?_ | refine ax_q (q_load1_ip rfl) ?_
 refine ax_q (q_fadr_ptr rfl) ?_
 refine ax_q (q_load1_ptr rfl rfl rfl) ?_
 refine ax_call rfl (vc_pure0 (c_txAt (e := e) ?_) hP rfl rfl ?_)
 ·
  assumption
 refine ax_q (q_ibin rfl rfl rfl) ?_
 refine ax_q (q_mov rfl) ?_
 refine ax_nil (cx_keep rfl rfl ?_)
 refine cx_ret (ret0 rfl rfl ?_)
 exact ⟨rfl, rfl⟩


/- (ptr loop.example/g00332/impl.Engine).engineOK$2 -/
def k_c_engineOK2 : XCode :=
 .seq (.ops [.op (some 2) (.box (.t 0)),
   .op (some 3) (.mov (.k (.bool false)))])
 (.keep [1, 2] (.seq (.ops [.op (some 4) (.load1 (.t 1)),
   .op (some 5) (.fadr (.t 2) 0),
   .op (some 6) (.load1 (.t 5)),
   .call (some 7) 96 [.t 4, .t 6],
   .op (some 8) (.bin .lss (.t 7) (.k (.int .i64 0))),
   .op (some 9) (.mov (.t 8)),
   .andor 15 false 5 9 [.op (some 10) (.load1 (.t 1)), .op (some 11) (.fadr (.t 2) 1), .op (some 12) (.load1 (.t 11)), .call (some 13) 96 [.t 10, .t 12], .op (some 14) (.bin .lss (.t 13) (.k (.int .i64 0)))] (.t 14),
   .op (some 3) (.mov (.t 15))])
 (.keep [3] (.ret))))
theorem k_c_engineOK2_fits : fitsF Tryz.prog 98 ⟨16, k_c_engineOK2, [.t 3]⟩ = true := by kernel_rfl
theorem c_engineOK2 {a : GWait} {e : GEngine} (ht : e.Txs.length ≤ 1048576) : Con Tryz.prog noMv 98 [a.av, .d (.ip [.ip e.row])] [] (fun r h => r = bool (decide (txAt e a.Tx < 0) || decide (txAt e a.For < 0)) ∧ h = []) := by
 refine con_of2 k_c_engineOK2_fits rfl fun C hP hmv => ?_
 unfold k_c_engineOK2
 refine cx_seq (cx_ops ?_)
 refine ax_e (e_box rfl rfl (by decide) rfl rfl rfl) ?_
 refine ax_q (q_mov rfl) ?_
 refine ax_nil (cx_keep rfl rfl (cx_seq (cx_ops ?_)))
 first | refine ax_q (q_load1_ptr rfl rfl rfl) ?_ | refine ax_q (q_load1_ip rfl) ?_
 refine ax_q (q_fadr_ptr rfl) ?_
 refine ax_q (q_load1_ptr rfl rfl rfl) ?_
 refine ax_call rfl (vc_pure0 (c_txAt (e := e) ?_) hP rfl rfl ?_)
 ·
  assumption
 refine ax_q (q_ibin rfl rfl rfl) ?_
 refine ax_q (q_mov rfl) ?_
 apply ax_or rfl rfl
 ·
  intro g
  have g := dF g
  first | refine ax_q (q_load1_ptr rfl rfl rfl) ?_ | refine ax_q (q_load1_ip rfl) ?_
  refine ax_q (q_fadr_ptr rfl) ?_
  refine ax_q (q_load1_ptr rfl rfl rfl) ?_
  refine ax_call rfl (vc_pure0 (c_txAt (e := e) ?_) hP rfl rfl ?_)
  ·
   assumption
  refine ax_q (q_ibin rfl rfl rfl) ?_
  exact ax_nil ⟨rfl, by repeat constructor⟩
 refine ax_q (q_mov rfl) ?_
 refine ax_nil (cx_keep rfl rfl ?_)
 refine cx_ret (ret0 rfl rfl ?_)
 exact ⟨rfl, rfl⟩


/- (ptr loop.example/g00332/impl.Store).needs$1 -/
def k_c_needs1 : XCode :=
 .seq (.ops [.op (some 2) (.box (.t 0)),
   .op (some 3) (.mov (.k (.bool false)))])
 (.keep [1] (.seq (.ops [.op (some 4) (.load1 (.t 1)),
   .op (some 5) (.bin .add (.t 4) (.k (.int .i64 1))),
   .op none (.store 1 (.t 1) (.t 5))])
 (.keep [] (.seq (.ops [.op (some 3) (.mov (.k (.bool true)))])
 (.keep [3] (.ret))))))
theorem k_c_needs1_fits : fitsF Tryz.prog 178 ⟨6, k_c_needs1, [.t 3]⟩ = true := by kernel_rfl
theorem c_needs1 {r : GLogRecord} {m : Nat} (hm : m ≤ 1000) : Con Tryz.prog noMv 178 [r.av, .ptr 1000 0] [(1000, .box [int (m : Nat)])] (fun x h => x = bool true ∧ h = [(1000, .box [int ((m + 1 : Nat) : Int)])]) := by
 refine con_of2 k_c_needs1_fits rfl fun C hP hmv => ?_
 unfold k_c_needs1
 refine cx_seq (cx_ops ?_)
 refine ax_e (e_box rfl rfl (by decide) rfl rfl rfl) ?_
 refine ax_q (q_mov rfl) ?_
 refine ax_nil (cx_keep rfl rfl (cx_seq (cx_ops ?_)))
 refine ax_q (q_load1_ptr rfl rfl rfl) ?_
 refine ax_qe (r' := int ((m + 1 : Nat) : Int)) (q_ibin rfl rfl rfl) (by rw [wi (by omega) (by omega)]; rfl) ?_
 refine ax_e (e_st rfl rfl rfl rfl rfl rfl rfl) ?_
 refine ax_nil (cx_keep rfl rfl (cx_seq (cx_ops ?_)))
 refine ax_q (q_mov rfl) ?_
 refine ax_nil (cx_keep rfl rfl ?_)
 refine cx_ret (retN id [1000] rfl rfl rfl rfl rfl ?_)
 exact ⟨rfl, rfl⟩


/- (ptr loop.example/g00332/impl.Store).updates -/
def k_c_updates : XCode :=
 .block 0 (.loop (.seq (.seq (.ops [.op (some 7) (.mov (.t 1)),
    .op (some 8) (.bin .gtr (.t 7) (.k (.int .i64 0)))])
   (.keep [0, 1, 2, 8] (.cond (.t 8)
   (.skip)
   (.exit 0))))
  (.keep [0, 1, 2] (.block 1 (.seq (.ops [.op (some 9) (.mov (.t 0)),
    .op (some 10) (.nilck (.t 9)),
    .op (some 11) (.fadr (.t 10) 5),
    .op (some 12) (.load1 (.t 11)),
    .op (some 13) (.mov (.t 1)),
    .op (some 14) (.bin .sub (.t 13) (.k (.int .i64 1))),
    .op (some 15) (.iadr 10 (.t 12) (.t 14)),
    .op (some 16) (.loadN 10 (.t 15)),
    .op (some 6) (.alloc [.int .i64 0, .int .i64 0, .int .i64 0, .int .i64 0, .int .i64 0, .int .i64 0, .int .i64 0, .int .i64 0, .str [], .str []]),
    .op none (.store 10 (.t 6) (.t 16))])
   (.keep [0, 2, 6] (.block 2 (.seq (.ops [.op (some 20) (.fadr (.t 6) 3),
     .op (some 21) (.load1 (.t 20)),
     .op (some 22) (.bin .eql (.t 21) (.k (.int .i64 3))),
     .op (some 19) (.mov (.t 22))])
   (.keep [0, 2, 6, 19] (.cond (.t 19)
    (.ops [.op (some 23) (.fadr (.t 6) 5),
     .op (some 24) (.load1 (.t 23)),
     .op (some 1) (.mov (.t 24))])
    (.seq (.ops [.op (some 26) (.fadr (.t 6) 3),
      .op (some 27) (.load1 (.t 26)),
      .op (some 28) (.bin .eql (.t 27) (.k (.int .i64 2))),
      .op (some 29) (.mov (.t 28)),
      .andor 34 true 3 29 [.op (some 30) (.mov (.t 2)), .op (some 31) (.loadN 10 (.t 6)), .callv (some 32) (.t 30) [.t 31], .op (some 33) (.not (.t 32))] (.t 33),
      .op (some 25) (.mov (.t 34))])
    (.keep [0, 2, 6, 25] (.cond (.t 25)
     (.ret)
     (.ops [.op (some 17) (.fadr (.t 6) 4),
      .op (some 18) (.load1 (.t 17)),
      .op (some 1) (.mov (.t 18))]))))))))))))))
theorem k_c_updates_fits : fitsF Tryz.prog 177 ⟨35, k_c_updates, []⟩ = true := by kernel_rfl
set_option maxHeartbeats 4000000 in
theorem c_updates {s : GStore} {xs : List D} {n0 : Int} {m0 : Nat} (hl : s.Log.length ≤ 60) (hg : goodA s.Log = true) (hn0 : 0 ≤ n0 ∧ n0 ≤ s.Log.length) (hm : m0 ≤ 1) : Con Tryz.prog noMv 177 [.d (.ip (s.row ++ xs)), int n0, .fn (.func 178) [.ptr 1000 0]] [(1000, .box [int (m0 : Nat)])] (fun x h => x = .tup [] ∧ h = [(1000, .box [int ((m0 + undoF s.Log 60 n0 : Nat) : Int)])]) := by
 refine con_of2 k_c_updates_fits rfl fun C hP hmv => ?_
 unfold k_c_updates
 refine cx_block ?_
 refine cx_loopU (fun u (p : Int × Nat × Nat) => u = p.2.1 ∧ p.2.2 + undoF s.Log p.2.1 p.1 = m0 + undoF s.Log 60 n0 ∧ 0 ≤ p.1 ∧ p.1 ≤ s.Log.length ∧ p.1 ≤ p.2.1 ∧ p.2.1 ≤ 60 ∧ p.2.2 + p.2.1 ≤ 61) (fun p => [(1, int p.1)]) (fun p => [(1000, .box [int (p.2.2 : Nat)])]) ⟨_, (n0, 60, m0), ⟨rfl, rfl, hn0.1, hn0.2, by simp only; omega, Nat.le_refl _, by simp only; omega⟩, by repeat constructor⟩ ?_
 rintro u ⟨n, f, m⟩ ⟨rfl, hc, hn1, hn2, hf, hf6, hmf⟩
 simp only at hc hn1 hn2 hf hf6 hmf ⊢
 refine cx_seq (cx_seq (cx_ops ?_))
 refine ax_q (q_mov rfl) ?_
 refine ax_q (q_ibin rfl rfl rfl) ?_
 refine ax_nil (cx_keep rfl rfl ?_)
 refine cx_cond rfl (fun h0 => ?_) (fun h0 => ?_)
 ·
  have h0 := dT h0
  obtain ⟨f, rfl⟩ : ∃ f2, u = f2 + 1 := ⟨u - 1, by omega⟩
  have hn : 1 ≤ n ∧ n ≤ s.Log.length := by omega
  obtain ⟨_, hln, hin⟩ := goodA_at hg hn
  have hpr := hin.p
  have hnx := hin.n
  have hkd := hin.k
  have hul := @undo_le s.Log (f + 1) n
  refine cx_skip ?_
  refine cx_keep rfl rfl (cx_block (cx_seq (cx_ops ?_)))
  refine ax_q (q_mov rfl) ?_
  first | refine ax_q (q_nilck_ptr rfl) ?_ | refine ax_q (q_nilck_rptr rfl) ?_ | refine ax_q (q_nilck_ip rfl) ?_
  first | refine ax_q (q_fadr_ptr rfl) ?_ | refine ax_q (q_fadr_rptr rfl) ?_ | refine ax_q (q_fadr_ip rfl) ?_
  first | refine ax_q (q_load1_ptr rfl rfl rfl) ?_ | refine ax_q (q_load1_ip rfl) ?_
  refine ax_q (q_mov rfl) ?_
  refine ax_qe (r' := int (n - 1)) (q_ibin rfl rfl rfl) (by rw [wi (by omega) (by omega)]) ?_
  refine ax_q (q_ixI rfl rfl (by omega) (recAt_get hn)) ?_
  first | refine ax_q (q_ldN rfl rfl rfl) ?_ | refine ax_q (q_loadN_ip rfl (Nat.le_refl _)) ?_
  refine ax_e (e_alloc (by decide) rfl rfl) ?_
  refine ax_e (e_st rfl rfl rfl rfl rfl rfl rfl) ?_
  refine ax_nil (cx_keep rfl rfl (cx_block (cx_seq (cx_ops ?_))))
  refine ax_q (q_fadr_ptr rfl) ?_
  refine ax_q (q_load1_ptr rfl rfl rfl) ?_
  refine ax_q (q_ibin rfl rfl rfl) ?_
  refine ax_q (q_mov rfl) ?_
  refine ax_nil (cx_keep rfl rfl ?_)
  refine cx_cond rfl (fun h1 => ?_) (fun h1 => ?_)
  ·
   have h1 := dT h1
   refine cx_ops ?_
   refine ax_q (q_fadr_ptr rfl) ?_
   refine ax_q (q_load1_ptr rfl rfl rfl) ?_
   refine ax_q (q_mov rfl) ?_
   refine ax_nil ?_
   exact ⟨_, ((recAt s.Log n).Next, f, m), by simp only; omega, ⟨rfl, by rw [← hc, undo_3 (by omega) h1], hnx.1, by simp only; omega, by simp only; omega, by simp only; omega, by simp only; omega⟩, by repeat constructor⟩
  ·
   have h1 := dF h1
   refine cx_seq (cx_ops ?_)
   refine ax_q (q_fadr_ptr rfl) ?_
   refine ax_q (q_load1_ptr rfl rfl rfl) ?_
   refine ax_q (q_ibin rfl rfl rfl) ?_
   refine ax_q (q_mov rfl) ?_
   refine ax_andE rfl rfl (fun g => ?_) (fun g => ?_)
   ·
    have g := dF g
    refine ax_q (q_mov rfl) ?_
    refine ax_nil (cx_keep rfl rfl ?_)
    refine cx_cond rfl (fun h2 => ?_) (fun h2 => ?_)
    ·
     skip
     exact absurd h2 (by simp)
    ·
     skip
     refine cx_ops ?_
     refine ax_q (q_fadr_ptr rfl) ?_
     refine ax_q (q_load1_ptr rfl rfl rfl) ?_
     refine ax_q (q_mov rfl) ?_
     refine ax_nil ?_
     exact ⟨_, ((recAt s.Log n).Prev, f, m), by simp only; omega, ⟨rfl, by rw [← hc, undo_o (by omega) h1 g], hpr.1, by simp only; omega, by simp only; omega, by simp only; omega, by simp only; omega⟩, by repeat constructor⟩
   ·
    have g := dT g
    refine ax_q (q_mov rfl) ?_
    refine ax_q (q_ldN rfl rfl rfl) ?_
    refine ax_callv rfl (by rw [hP]; kernel_rfl) rfl (vcall_own (c_needs1 (r := recAt s.Log n) (m := m) (by omega)) hP hmv false (fun _ => 1000) [1000] ⟨rfl, rfl, rfl, rfl, ⟨rfl, trivial⟩, rfl, rfl, rfl⟩ (.pass rfl rfl (.pass rfl rfl .nil)) ?_)
    rintro r h ⟨rfl, rfl⟩
    refine ⟨fun _ => 1000, [], ⟨rfl, rfl, rfl, rfl, (mem1 rfl), rfl, rfl, fun h => absurd h Bool.false_ne_true⟩, ?_⟩
    refine ax_q (q_not rfl) ?_
    refine ax_nil ⟨_, [(1000, .box [int ((m + 1 : Nat) : Int)]), (6, .box ((recAt s.Log n).row.map .d))], rfl, by repeat constructor, ?_⟩
    refine ax_q (q_mov rfl) ?_
    refine ax_nil (cx_keep rfl rfl ?_)
    refine cx_cond rfl (fun h2 => ?_) (fun h2 => ?_)
    ·
     have h2 := bT h2
     exact absurd h2 (by simp)
    ·
     have h2 := bF h2
     refine cx_ops ?_
     refine ax_q (q_fadr_ptr rfl) ?_
     refine ax_q (q_load1_ptr rfl rfl rfl) ?_
     refine ax_q (q_mov rfl) ?_
     refine ax_nil ?_
     exact ⟨_, ((recAt s.Log n).Prev, f, m + 1), by simp only; omega, ⟨rfl, by rw [← hc, undo_2 (by omega) g]; exact Nat.add_assoc m 1 _, hpr.1, by simp only; omega, by simp only; omega, by simp only; omega, by simp only; omega⟩, by repeat constructor⟩
 ·
  have h0 := dF h0
  have hz : n = 0 := by omega
  rw [undo_0 (by omega)] at hc
  refine cx_exit rfl ?_
  refine retN id [1000] rfl rfl rfl rfl rfl ?_
  exact ⟨rfl, by rw [← hc, Nat.add_zero]; rfl⟩


/- (ptr loop.example/g00332/impl.Store).needs -/
def k_c_needsS : XCode :=
 .seq (.ops [.op (some 4) (.mov (.k (.int .i64 0)))])
 (.keep [0, 1] (.seq (.ops [.op (some 5) (.alloc [.int .i64 0]),
   .op none (.store 1 (.t 5) (.k (.int .i64 1)))])
 (.keep [0, 1, 5] (.seq (.ops [.op (some 6) (.mov (.t 0)),
   .op (some 7) (.mov (.t 1)),
   .op (some 8) (.mkfn 178 [.t 5]),
   .call (some 9) 177 [.t 6, .t 7, .t 8]])
 (.keep [5] (.seq (.ops [.op (some 10) (.load1 (.t 5)),
   .op (some 4) (.mov (.t 10))])
 (.keep [4] (.ret))))))))
theorem k_c_needsS_fits : fitsF Tryz.prog 103 ⟨11, k_c_needsS, [.t 4]⟩ = true := by kernel_rfl
theorem c_needsS {s : GStore} {xs : List D} {n : Int} (hl : s.Log.length ≤ 60) (hg : goodA s.Log = true) (hn : 0 ≤ n ∧ n ≤ s.Log.length) : Con Tryz.prog noMv 103 [.d (.ip (s.row ++ xs)), int n] [] (fun r h => r = int ((needF s n : Nat) : Int) ∧ h = []) := by
 refine con_of2 k_c_needsS_fits rfl fun C hP hmv => ?_
 unfold k_c_needsS
 refine cx_seq (cx_ops ?_)
 refine ax_q (q_mov rfl) ?_
 refine ax_nil (cx_keep rfl rfl (cx_seq (cx_ops ?_)))
 refine ax_e (e_alloc (by decide) rfl rfl) ?_
 refine ax_e (e_st rfl rfl rfl rfl rfl rfl rfl) ?_
 refine ax_nil (cx_keep rfl rfl (cx_seq (cx_ops ?_)))
 refine ax_q (q_mov rfl) ?_
 refine ax_q (q_mov rfl) ?_
 refine ax_q (q_mkfn rfl) ?_
 refine ax_call rfl (vcall_own (c_updates (s := s) (xs := xs) (n0 := n) (m0 := 1) hl hg hn (by omega)) hP hmv false (fun _ => 5) [1000] ⟨rfl, rfl, rfl, rfl, ⟨rfl, trivial⟩, rfl, rfl, rfl⟩ (.pass rfl rfl (.pass rfl rfl (.pass rfl rfl .nil))) ?_)
 rintro r h ⟨rfl, rfl⟩
 refine ⟨fun _ => 5, [], ⟨rfl, rfl, rfl, rfl, (mem1 rfl), rfl, rfl, fun h => absurd h Bool.false_ne_true⟩, ?_⟩
 refine ax_nil (cx_keep rfl rfl (cx_seq (cx_ops ?_)))
 refine ax_q (q_load1_ptr rfl rfl rfl) ?_
 refine ax_q (q_mov rfl) ?_
 refine ax_nil (cx_keep rfl rfl ?_)
 refine cx_ret (ret0 rfl rfl ?_)
 exact ⟨rfl, rfl⟩


/- (ptr loop.example/g00332/impl.Engine).needs -/
def k_c_needsE : XCode :=
 .seq (.ops [.op (some 2) (.mov (.k (.int .i64 0)))])
 (.keep [0] (.seq (.ops [.op (some 3) (.mov (.k (.int .i64 0)))])
 (.keep [0, 3] (.seq (.seq (.ops [.op (some 6) (.mov (.t 0)),
   .op (some 7) (.nilck (.t 6)),
   .op (some 8) (.fadr (.t 7) 10),
   .op (some 9) (.load1 (.t 8)),
   .op (some 10) (.lenS (.t 9)),
   .op (some 11) (.mov (.k (.int .i64 0)))])
  (.keep [0, 3, 9, 10, 11] (.block 0 (.loop (.seq (.ops [.op (some 12) (.bin .lss (.t 11) (.t 10))])
   (.keep [0, 3, 9, 10, 11, 12] (.seq (.cond (.t 12)
    (.skip)
    (.exit 0))
   (.keep [0, 3, 9, 10, 11] (.seq (.block 1 (.seq (.ops [.op (some 13) (.iadr 2 (.t 9) (.t 11)),
     .op (some 14) (.loadN 2 (.t 13)),
     .op (some 5) (.alloc [.int .i64 0, .int .i64 0]),
     .op none (.store 2 (.t 5) (.t 14))])
    (.keep [0, 3, 5, 9, 10, 11] (.draw [.op (some 15) (.mov (.t 3)),
     .op (some 16) (.mov (.t 0)),
     .op (some 17) (.nilck (.t 16)),
     .op (some 18) (.fadr (.t 17) 0),
     .op (some 19) (.fadr (.t 5) 1),
     .op (some 20) (.load1 (.t 19)),
     .call (some 21) 103 [.t 18, .t 20],
     .op (some 22) (.bin .add (.t 15) (.t 21)),
     .op (some 3) (.mov (.t 22))]))))
   (.keep [0, 3, 9, 10, 11] (.ops [.op (some 23) (.bin .add (.t 11) (.k (.int .i64 1))),
    .op (some 11) (.mov (.t 23))])))))))))))
 (.keep [3] (.seq (.ops [.op (some 24) (.mov (.t 3)),
   .op (some 2) (.mov (.t 24))])
 (.keep [2] (.ret))))))))
theorem k_c_needsE_fits : fitsF Tryz.prog 46 ⟨25, k_c_needsE, [.t 2]⟩ = true := by kernel_rfl
theorem c_needsE {e : GEngine} (hl : e.Store.Log.length ≤ 60) (hg : goodA e.Store.Log = true) (ht : e.Txs.length ≤ 10) (hx : ∀ t ∈ e.Txs, 1 ≤ t.Last ∧ t.Last ≤ e.Store.Log.length) : Con Tryz.prog noMv 46 [.d (.ip e.row)] [] (fun r h => r = int ((needsF e : Nat) : Int) ∧ h = []) := by
 refine con_of2 k_c_needsE_fits rfl fun C hP hmv => ?_
 unfold k_c_needsE
 refine cx_seq (cx_ops ?_)
 refine ax_q (q_mov rfl) ?_
 refine ax_nil (cx_keep rfl rfl (cx_seq (cx_ops ?_)))
 refine ax_q (q_mov rfl) ?_
 refine ax_nil (cx_keep rfl rfl (cx_seq (cx_seq (cx_ops ?_))))
 refine ax_q (q_mov rfl) ?_
 first | refine ax_q (q_nilck_ptr rfl) ?_ | refine ax_q (q_nilck_rptr rfl) ?_ | refine ax_q (q_nilck_ip rfl) ?_
 first | refine ax_q (q_fadr_ptr rfl) ?_ | refine ax_q (q_fadr_rptr rfl) ?_ | refine ax_q (q_fadr_ip rfl) ?_
 first | refine ax_q (q_load1_ptr rfl rfl rfl) ?_ | refine ax_q (q_load1_ip rfl) ?_
 refine ax_q (q_lenS_map rfl) ?_
 refine ax_q (q_mov rfl) ?_
 refine ax_nil (cx_keep rfl rfl (cx_block ?_))
 refine cx_loopU (fun m k => k ≤ e.Txs.length ∧ m = e.Txs.length - k) (fun k : Nat => [(11, int k), (3, int ((needsK e k : Nat) : Int))]) (fun _ => []) ⟨_, 0, ⟨Nat.zero_le _, rfl⟩, by repeat constructor⟩ ?_
 rintro m k ⟨hk, rfl⟩
 refine cx_seq (cx_ops ?_)
 refine ax_q (q_ibin rfl rfl rfl) ?_
 refine ax_nil (cx_keep rfl rfl (cx_seq ?_))
 refine cx_cond rfl (fun h0 => ?_) (fun h0 => ?_)
 ·
  have h0 := dT h0
  have h0x : k < e.Txs.length := by omega
  have hxk := hx _ (List.getElem_mem h0x)
  have hst := needsK_s h0x
  have hnl := @needsK_le e (k + 1)
  refine cx_skip ?_
  refine cx_keep rfl rfl (cx_seq (cx_block (cx_seq (cx_ops ?_))))
  refine ax_q (q_ix rfl rfl (mapAt h0x)) ?_
  first | refine ax_q (q_ldN rfl rfl rfl) ?_ | refine ax_q (q_loadN_ip rfl (Nat.le_refl _)) ?_
  refine ax_e (e_alloc (by decide) rfl rfl) ?_
  refine ax_e (e_st rfl rfl rfl rfl rfl rfl rfl) ?_
  refine ax_nil (cx_keep rfl rfl (cx_draw ?_))
  refine ax_q (q_mov rfl) ?_
  refine ax_q (q_mov rfl) ?_
  first | refine ax_q (q_nilck_ptr rfl) ?_ | refine ax_q (q_nilck_rptr rfl) ?_ | refine ax_q (q_nilck_ip rfl) ?_
  first | refine ax_q (q_fadr_ptr rfl) ?_ | refine ax_q (q_fadr_rptr rfl) ?_ | refine ax_q (q_fadr_ip rfl) ?_
  refine ax_q (q_fadr_ptr rfl) ?_
  refine ax_q (q_load1_ptr rfl rfl rfl) ?_
  refine ax_callq rfl (c_needsS (s := e.Store) (n := e.Txs[k].Last) (xs := [.bool e.Up, .sl 2 (e.Txs.map GTx.row), .sl 4 (e.Locks.Held.map GLock.row), .sl 2 (e.Locks.Waits.map GWait.row), .int .i64 e.Next]) ?_ ?_ ?_) hP (lal_id _ rfl) rfl ?_
  ·
   assumption
  ·
   assumption
  ·
   first | assumption | omega
  refine ax_qe (r' := int ((needsK e (k + 1) : Nat) : Int)) (q_ibin rfl rfl rfl) (by rw [wi (by omega) (by omega)]; exact congrArg AM.int (by omega)) ?_
  refine ax_q (q_mov rfl) ?_
  refine ax_nil (cx_keep rfl rfl (cx_ops ?_))
  refine ax_qe (r' := int ((k + 1 : Nat) : Int)) (q_ibin rfl rfl rfl) (by rw [wi (by omega) (by omega)]; rfl) ?_
  refine ax_q (q_mov rfl) ?_
  refine ax_nil ?_
  exact ⟨_, k + 1, by omega, ⟨by omega, rfl⟩, by repeat constructor⟩
 ·
  have h0 := dF h0
  obtain rfl : k = e.Txs.length := by omega
  rw [needsK_end]
  refine cx_exit rfl ?_
  refine cx_keep rfl rfl (cx_seq (cx_ops ?_))
  refine ax_q (q_mov rfl) ?_
  refine ax_q (q_mov rfl) ?_
  refine ax_nil (cx_keep rfl rfl ?_)
  refine cx_ret (ret0 rfl rfl ?_)
  exact ⟨rfl, rfl⟩


/- (ptr loop.example/g00332/impl.Engine).hasRoom -/
def k_c_hasRoom : XCode :=
 .seq (.ops [.op (some 4) (.mov (.k (.bool false)))])
 (.keep [0, 1] (.seq (.draw [.op (some 5) (.mov (.t 0)),
   .op (some 6) (.nilck (.t 5)),
   .op (some 7) (.fadr (.t 6) 0),
   .op (some 8) (.fadr (.t 7) 5),
   .op (some 9) (.load1 (.t 8)),
   .op (some 10) (.lenS (.t 9)),
   .op (some 11) (.mov (.t 0)),
   .call (some 12) 46 [.t 11],
   .op (some 13) (.bin .add (.t 10) (.t 12)),
   .op (some 14) (.mov (.t 1)),
   .op (some 15) (.bin .add (.t 13) (.t 14)),
   .op (some 16) (.bin .leq (.t 15) (.k (.int .i64 60))),
   .op (some 4) (.mov (.t 16))])
 (.keep [4] (.ret))))
theorem k_c_hasRoom_fits : fitsF Tryz.prog 99 ⟨17, k_c_hasRoom, [.t 4]⟩ = true := by kernel_rfl
theorem c_hasRoom {e : GEngine} (hl : e.Store.Log.length ≤ 60) (hg : goodA e.Store.Log = true) (ht : e.Txs.length ≤ 10) (hx : ∀ t ∈ e.Txs, 1 ≤ t.Last ∧ t.Last ≤ e.Store.Log.length) : Con Tryz.prog noMv 99 [.d (.ip e.row), int 0] [] (fun r h => r = bool (roomOK e) ∧ h = []) := by
 refine con_of2 k_c_hasRoom_fits rfl fun C hP hmv => ?_
 unfold k_c_hasRoom
 have hnl := @needsK_le e e.Txs.length
 rw [needsK_end] at hnl
 refine cx_seq (cx_ops ?_)
 refine ax_q (q_mov rfl) ?_
 refine ax_nil (cx_keep rfl rfl (cx_seq (cx_draw ?_)))
 refine ax_q (q_mov rfl) ?_
 first | refine ax_q (q_nilck_ptr rfl) ?_ | refine ax_q (q_nilck_rptr rfl) ?_ | refine ax_q (q_nilck_ip rfl) ?_
 first | refine ax_q (q_fadr_ptr rfl) ?_ | refine ax_q (q_fadr_rptr rfl) ?_ | refine ax_q (q_fadr_ip rfl) ?_
 first | refine ax_q (q_fadr_ptr rfl) ?_ | refine ax_q (q_fadr_rptr rfl) ?_ | refine ax_q (q_fadr_ip rfl) ?_
 first | refine ax_q (q_load1_ptr rfl rfl rfl) ?_ | refine ax_q (q_load1_ip rfl) ?_
 refine ax_q (q_lenS_map rfl) ?_
 refine ax_q (q_mov rfl) ?_
 refine ax_callq rfl (c_needsE (e := e) ?_ ?_ ?_ ?_) hP (lal_id _ rfl) rfl ?_
 ·
  assumption
 ·
  assumption
 ·
  assumption
 ·
  assumption
 refine ax_qe (r' := int ((e.Store.Log.length + needsF e : Nat) : Int)) (q_ibin rfl rfl rfl) (by rw [wi (by omega) (by omega)]; exact congrArg AM.int (by omega)) ?_
 refine ax_q (q_mov rfl) ?_
 refine ax_qe (r' := int ((e.Store.Log.length + needsF e : Nat) : Int)) (q_ibin rfl rfl rfl) (by rw [wi (by omega) (by omega)]; exact congrArg AM.int (by omega)) ?_
 refine ax_q (q_ibin rfl rfl rfl) ?_
 refine ax_q (q_mov rfl) ?_
 refine ax_nil (cx_keep rfl rfl ?_)
 refine cx_ret (ret0 rfl rfl ?_)
 exact ⟨rfl, rfl⟩


/- (ptr loop.example/g00332/impl.Engine).engineOK -/
def k_c_engineOK : XCode :=
 .seq (.ops [.op (some 1) (.box (.t 0)),
   .op (some 2) (.mov (.k (.bool false)))])
 (.keep [1] (.seq (.seq (.ops [.op (some 5) (.load1 (.t 1)),
   .op (some 6) (.nilck (.t 5)),
   .op (some 7) (.fadr (.t 6) 10),
   .op (some 8) (.load1 (.t 7)),
   .op (some 9) (.lenS (.t 8)),
   .op (some 10) (.bin .gtr (.t 9) (.k (.int .i64 10))),
   .op (some 11) (.mov (.t 10)),
   .andor 18 false 6 11 [.op (some 12) (.load1 (.t 1)), .op (some 13) (.nilck (.t 12)), .op (some 14) (.fadr (.t 13) 13), .op (some 15) (.load1 (.t 14)), .call (some 16) 63 [.t 15, .k (.int .i64 1), .k (.int .i64 61)], .op (some 17) (.not (.t 16))] (.t 17),
   .op (some 19) (.mov (.t 18)),
   .andor 26 false 14 19 [.op (some 20) (.load1 (.t 1)), .op (some 21) (.nilck (.t 20)), .op (some 22) (.fadr (.t 21) 11), .op (some 23) (.loadN 2 (.t 22)), .call (some 24) 92 [.t 23], .op (some 25) (.not (.t 24))] (.t 25)])
  (.keep [1, 26] (.cond (.t 26)
  (.seq (.ops [.op (some 2) (.mov (.k (.bool false)))])
   (.keep [2] (.ret)))
  (.skip))))
 (.keep [1] (.seq (.seq (.ops [.op (some 27) (.load1 (.t 1)),
   .op (some 28) (.nilck (.t 27)),
   .op (some 29) (.fadr (.t 28) 9),
   .op (some 30) (.load1 (.t 29)),
   .op (some 31) (.not (.t 30))])
  (.keep [1, 31] (.cond (.t 31)
  (.seq (.draw [.op (some 32) (.load1 (.t 1)),
    .op (some 33) (.nilck (.t 32)),
    .op (some 34) (.fadr (.t 33) 10),
    .op (some 35) (.load1 (.t 34)),
    .op (some 36) (.lenS (.t 35)),
    .op (some 37) (.load1 (.t 1)),
    .op (some 38) (.nilck (.t 37)),
    .op (some 39) (.fadr (.t 38) 11),
    .op (some 40) (.fadr (.t 39) 0),
    .op (some 41) (.load1 (.t 40)),
    .op (some 42) (.lenS (.t 41)),
    .op (some 43) (.bin .add (.t 36) (.t 42)),
    .op (some 44) (.load1 (.t 1)),
    .op (some 45) (.nilck (.t 44)),
    .op (some 46) (.fadr (.t 45) 11),
    .op (some 47) (.fadr (.t 46) 1),
    .op (some 48) (.load1 (.t 47)),
    .op (some 49) (.lenS (.t 48)),
    .op (some 50) (.bin .add (.t 43) (.t 49)),
    .op (some 51) (.load1 (.t 1)),
    .op (some 52) (.nilck (.t 51)),
    .op (some 53) (.fadr (.t 52) 0),
    .op (some 54) (.fadr (.t 53) 7),
    .op (some 55) (.load1 (.t 54)),
    .op (some 56) (.lenS (.t 55)),
    .op (some 57) (.bin .add (.t 50) (.t 56)),
    .op (some 58) (.bin .eql (.t 57) (.k (.int .i64 0))),
    .op (some 2) (.mov (.t 58))])
   (.keep [2] (.ret)))
  (.skip))))
 (.keep [1] (.seq (.seq (.ops [.op (some 59) (.load1 (.t 1)),
   .op (some 60) (.nilck (.t 59)),
   .op (some 61) (.fadr (.t 60) 10),
   .op (some 62) (.load1 (.t 61)),
   .op (some 63) (.lenS (.t 62)),
   .op (some 64) (.mov (.k (.int .i64 0)))])
  (.keep [1, 62, 63, 64] (.block 0 (.loop (.seq (.ops [.op (some 65) (.bin .lss (.t 64) (.t 63))])
   (.keep [1, 62, 63, 64, 65] (.seq (.cond (.t 65)
    (.skip)
    (.exit 0))
   (.keep [1, 62, 63, 64] (.seq (.block 1 (.seq (.ops [.op (some 66) (.mov (.t 64)),
     .op (some 67) (.iadr 2 (.t 62) (.t 64)),
     .op (some 68) (.loadN 2 (.t 67)),
     .op (some 4) (.alloc [.int .i64 0, .int .i64 0]),
     .op (some 3) (.mov (.t 66)),
     .op none (.store 2 (.t 4) (.t 68))])
    (.keep [1, 3, 4, 62, 63, 64] (.seq (.draw [.op (some 69) (.fadr (.t 4) 0),
     .op (some 70) (.load1 (.t 69)),
     .op (some 71) (.load1 (.t 1)),
     .op (some 72) (.nilck (.t 71)),
     .op (some 73) (.fadr (.t 72) 13),
     .op (some 74) (.load1 (.t 73)),
     .op (some 75) (.bin .sub (.t 74) (.k (.int .i64 1))),
     .call (some 76) 63 [.t 70, .k (.int .i64 1), .t 75],
     .op (some 77) (.not (.t 76)),
     .op (some 78) (.mov (.t 77)),
     .andor 95 false 9 78 [.op (some 79) (.mov (.t 3)), .op (some 80) (.bin .gtr (.t 79) (.k (.int .i64 0))), .op (some 81) (.mov (.t 80)), .andor 94 true 12 81 [.op (some 82) (.load1 (.t 1)), .op (some 83) (.nilck (.t 82)), .op (some 84) (.fadr (.t 83) 10), .op (some 85) (.load1 (.t 84)), .op (some 86) (.mov (.t 3)), .op (some 87) (.bin .sub (.t 86) (.k (.int .i64 1))), .op (some 88) (.iadr 2 (.t 85) (.t 87)), .op (some 89) (.fadr (.t 88) 0), .op (some 90) (.load1 (.t 89)), .op (some 91) (.fadr (.t 4) 0), .op (some 92) (.load1 (.t 91)), .op (some 93) (.bin .geq (.t 90) (.t 92))] (.t 93)] (.t 94),
     .op (some 96) (.mov (.t 95)),
     .andor 103 false 27 96 [.op (some 97) (.load1 (.t 1)), .op (some 98) (.nilck (.t 97)), .op (some 99) (.fadr (.t 98) 0), .op (some 100) (.loadN 2 (.t 4)), .call (some 101) 93 [.t 99, .t 100], .op (some 102) (.not (.t 101))] (.t 102)])
    (.keep [1, 62, 63, 64, 103] (.cond (.t 103)
    (.seq (.ops [.op (some 2) (.mov (.k (.bool false)))])
     (.keep [2] (.ret)))
    (.skip)))))))
   (.keep [1, 62, 63, 64] (.ops [.op (some 104) (.bin .add (.t 64) (.k (.int .i64 1))),
    .op (some 64) (.mov (.t 104))])))))))))))
 (.keep [1] (.seq (.seq (.ops [.op (some 105) (.load1 (.t 1)),
   .op (some 106) (.nilck (.t 105)),
   .op (some 107) (.fadr (.t 106) 11),
   .op (some 108) (.fadr (.t 107) 0),
   .op (some 109) (.load1 (.t 108)),
   .op (some 110) (.mkfn 95 [.t 1]),
   .call (some 111) 94 [.t 109, .t 110],
   .op (some 112) (.mov (.t 111)),
   .andor 120 false 7 112 [.op (some 113) (.load1 (.t 1)), .op (some 114) (.nilck (.t 113)), .op (some 115) (.fadr (.t 114) 11), .op (some 116) (.fadr (.t 115) 1), .op (some 117) (.load1 (.t 116)), .op (some 118) (.mkfn 98 [.t 1]), .call (some 119) 97 [.t 117, .t 118]] (.t 119)])
  (.keep [1, 120] (.cond (.t 120)
  (.seq (.ops [.op (some 2) (.mov (.k (.bool false)))])
   (.keep [2] (.ret)))
  (.skip))))
 (.keep [1] (.seq (.ops [.op (some 121) (.load1 (.t 1)),
   .call (some 122) 99 [.t 121, .k (.int .i64 0)],
   .op (some 2) (.mov (.t 122))])
 (.keep [2] (.ret))))))))))))
theorem k_c_engineOK_fits : fitsF Tryz.prog 43 ⟨123, k_c_engineOK, [.t 2]⟩ = true := by kernel_rfl
set_option maxHeartbeats 8000000 in
theorem c_engineOK {e : GEngine} (hb : EnB e) (hso : storeOK e.Store = true) : Con Tryz.prog noMv 43 [.d (.ip e.row)] [] (fun r h => r = bool (engOK e) ∧ h = []) := by
 refine con_of2 k_c_engineOK_fits rfl fun C hP hmv => ?_
 unfold k_c_engineOK
 obtain ⟨hs, hw0, hw1, hw2, hw3⟩ := hb
 obtain ⟨HD, hg⟩ := storeOK_good hso
 have hll := HD.lo
 have hfr := hs.fr
 refine cx_seq (cx_ops ?_)
 refine ax_e (e_box rfl rfl (by decide) rfl rfl rfl) ?_
 refine ax_q (q_mov rfl) ?_
 refine ax_nil (cx_keep rfl rfl (cx_seq (cx_seq (cx_ops ?_))))
 refine ax_q (q_load1_ptr rfl rfl rfl) ?_
 first | refine ax_q (q_nilck_ptr rfl) ?_ | refine ax_q (q_nilck_rptr rfl) ?_ | refine ax_q (q_nilck_ip rfl) ?_
 first | refine ax_q (q_fadr_ptr rfl) ?_ | refine ax_q (q_fadr_rptr rfl) ?_ | refine ax_q (q_fadr_ip rfl) ?_
 first | refine ax_q (q_load1_ptr rfl rfl rfl) ?_ | refine ax_q (q_load1_ip rfl) ?_
 refine ax_q (q_lenS_map rfl) ?_
 refine ax_q (q_ibin rfl rfl rfl) ?_
 refine ax_q (q_mov rfl) ?_
 apply ax_or rfl rfl
 ·
  intro g
  have g := dF g
  refine ax_q (q_load1_ptr rfl rfl rfl) ?_
  first | refine ax_q (q_nilck_ptr rfl) ?_ | refine ax_q (q_nilck_rptr rfl) ?_ | refine ax_q (q_nilck_ip rfl) ?_
  first | refine ax_q (q_fadr_ptr rfl) ?_ | refine ax_q (q_fadr_rptr rfl) ?_ | refine ax_q (q_fadr_ip rfl) ?_
  first | refine ax_q (q_load1_ptr rfl rfl rfl) ?_ | refine ax_q (q_load1_ip rfl) ?_
  refine ax_call rfl (vc_pure0 (c_inRange  ) hP rfl rfl ?_)
  refine ax_q (q_not rfl) ?_
  exact ax_nil ⟨rfl, by repeat constructor⟩
 refine ax_q (q_mov rfl) ?_
 apply ax_or rfl rfl
 ·
  intro g
  have g := (fun h => And.intro (dF (or_F h).1) (bF (or_F h).2)) g
  refine ax_q (q_load1_ptr rfl rfl rfl) ?_
  first | refine ax_q (q_nilck_ptr rfl) ?_ | refine ax_q (q_nilck_rptr rfl) ?_ | refine ax_q (q_nilck_ip rfl) ?_
  first | refine ax_q (q_fadr_ptr rfl) ?_ | refine ax_q (q_fadr_rptr rfl) ?_ | refine ax_q (q_fadr_ip rfl) ?_
  refine ax_q (q_loadN_ip (cs := [.sl 4 (e.Locks.Held.map GLock.row), .sl 2 (e.Locks.Waits.map GWait.row), .int .i64 e.Next]) rfl (by simp)) ?_
  refine ax_call rfl (vc_pure0 (c_LocksOK (l := e.Locks) ?_ ?_) hP rfl rfl ?_)
  ·
   assumption
  ·
   assumption
  refine ax_q (q_not rfl) ?_
  exact ax_nil ⟨rfl, by repeat constructor⟩
 refine ax_nil (cx_keep rfl rfl ?_)
 refine cx_cond rfl (fun h0 => ?_) (fun h0 => ?_)
 ·
  have h0 : badE e = true := h0
  refine cx_seq (cx_ops ?_)
  refine ax_q (q_mov rfl) ?_
  refine ax_nil (cx_keep rfl rfl ?_)
  refine cx_ret (ret0 rfl rfl ?_)
  exact ⟨by rw [eng_0 h0]; rfl, rfl⟩
 ·
  have h0 : badE e = false := h0
  obtain ⟨ht10, hnx, _⟩ := badE_f h0
  refine cx_skip ?_
  refine cx_keep rfl rfl (cx_seq (cx_seq (cx_ops ?_)))
  refine ax_q (q_load1_ptr rfl rfl rfl) ?_
  first | refine ax_q (q_nilck_ptr rfl) ?_ | refine ax_q (q_nilck_rptr rfl) ?_ | refine ax_q (q_nilck_ip rfl) ?_
  first | refine ax_q (q_fadr_ptr rfl) ?_ | refine ax_q (q_fadr_rptr rfl) ?_ | refine ax_q (q_fadr_ip rfl) ?_
  first | refine ax_q (q_load1_ptr rfl rfl rfl) ?_ | refine ax_q (q_load1_ip rfl) ?_
  refine ax_q (q_not rfl) ?_
  refine ax_nil (cx_keep rfl rfl ?_)
  refine cx_cond rfl (fun h1 => ?_) (fun h1 => ?_)
  ·
   have h1 : e.Up = false := by simpa using h1
   refine cx_seq (cx_draw ?_)
   refine ax_q (q_load1_ptr rfl rfl rfl) ?_
   first | refine ax_q (q_nilck_ptr rfl) ?_ | refine ax_q (q_nilck_rptr rfl) ?_ | refine ax_q (q_nilck_ip rfl) ?_
   first | refine ax_q (q_fadr_ptr rfl) ?_ | refine ax_q (q_fadr_rptr rfl) ?_ | refine ax_q (q_fadr_ip rfl) ?_
   first | refine ax_q (q_load1_ptr rfl rfl rfl) ?_ | refine ax_q (q_load1_ip rfl) ?_
   refine ax_q (q_lenS_map rfl) ?_
   refine ax_q (q_load1_ptr rfl rfl rfl) ?_
   first | refine ax_q (q_nilck_ptr rfl) ?_ | refine ax_q (q_nilck_rptr rfl) ?_ | refine ax_q (q_nilck_ip rfl) ?_
   first | refine ax_q (q_fadr_ptr rfl) ?_ | refine ax_q (q_fadr_rptr rfl) ?_ | refine ax_q (q_fadr_ip rfl) ?_
   first | refine ax_q (q_fadr_ptr rfl) ?_ | refine ax_q (q_fadr_rptr rfl) ?_ | refine ax_q (q_fadr_ip rfl) ?_
   first | refine ax_q (q_load1_ptr rfl rfl rfl) ?_ | refine ax_q (q_load1_ip rfl) ?_
   refine ax_q (q_lenS_map rfl) ?_
   refine ax_qe (r' := int ((e.Txs.length + e.Locks.Held.length : Nat) : Int)) (q_ibin rfl rfl rfl) (by rw [wi (by omega) (by omega)]; exact congrArg AM.int (by omega)) ?_
   refine ax_q (q_load1_ptr rfl rfl rfl) ?_
   first | refine ax_q (q_nilck_ptr rfl) ?_ | refine ax_q (q_nilck_rptr rfl) ?_ | refine ax_q (q_nilck_ip rfl) ?_
   first | refine ax_q (q_fadr_ptr rfl) ?_ | refine ax_q (q_fadr_rptr rfl) ?_ | refine ax_q (q_fadr_ip rfl) ?_
   first | refine ax_q (q_fadr_ptr rfl) ?_ | refine ax_q (q_fadr_rptr rfl) ?_ | refine ax_q (q_fadr_ip rfl) ?_
   first | refine ax_q (q_load1_ptr rfl rfl rfl) ?_ | refine ax_q (q_load1_ip rfl) ?_
   refine ax_q (q_lenS_map rfl) ?_
   refine ax_qe (r' := int ((e.Txs.length + e.Locks.Held.length + e.Locks.Waits.length : Nat) : Int)) (q_ibin rfl rfl rfl) (by rw [wi (by omega) (by omega)]; exact congrArg AM.int (by omega)) ?_
   refine ax_q (q_load1_ptr rfl rfl rfl) ?_
   first | refine ax_q (q_nilck_ptr rfl) ?_ | refine ax_q (q_nilck_rptr rfl) ?_ | refine ax_q (q_nilck_ip rfl) ?_
   first | refine ax_q (q_fadr_ptr rfl) ?_ | refine ax_q (q_fadr_rptr rfl) ?_ | refine ax_q (q_fadr_ip rfl) ?_
   first | refine ax_q (q_fadr_ptr rfl) ?_ | refine ax_q (q_fadr_rptr rfl) ?_ | refine ax_q (q_fadr_ip rfl) ?_
   first | refine ax_q (q_load1_ptr rfl rfl rfl) ?_ | refine ax_q (q_load1_ip rfl) ?_
   refine ax_q (q_lenS_map rfl) ?_
   refine ax_qe (r' := int ((e.Txs.length + e.Locks.Held.length + e.Locks.Waits.length + e.Store.Frames.length : Nat) : Int)) (q_ibin rfl rfl rfl) (by rw [wi (by omega) (by omega)]; exact congrArg AM.int (by omega)) ?_
   refine ax_q (q_ibin rfl rfl rfl) ?_
   refine ax_q (q_mov rfl) ?_
   refine ax_nil (cx_keep rfl rfl ?_)
   refine cx_ret (ret0 rfl rfl ?_)
   exact ⟨by rw [eng_d h0 h1, ← emptyE_int rfl]; rfl, rfl⟩
  ·
   have h1 : e.Up = true := by simpa using h1
   refine cx_skip ?_
   refine cx_keep rfl rfl (cx_seq (cx_seq (cx_ops ?_)))
   refine ax_q (q_load1_ptr rfl rfl rfl) ?_
   first | refine ax_q (q_nilck_ptr rfl) ?_ | refine ax_q (q_nilck_rptr rfl) ?_ | refine ax_q (q_nilck_ip rfl) ?_
   first | refine ax_q (q_fadr_ptr rfl) ?_ | refine ax_q (q_fadr_rptr rfl) ?_ | refine ax_q (q_fadr_ip rfl) ?_
   first | refine ax_q (q_load1_ptr rfl rfl rfl) ?_ | refine ax_q (q_load1_ip rfl) ?_
   refine ax_q (q_lenS_map rfl) ?_
   refine ax_q (q_mov rfl) ?_
   refine ax_nil (cx_keep rfl rfl (cx_block ?_))
   refine cx_loopU (fun m k => k ≤ e.Txs.length ∧ m = e.Txs.length - k ∧ ∀ j (hj : j < e.Txs.length), j < k → txBad e j e.Txs[j] (e.Txs.getD (j - 1) .zero).Id = false) (fun k : Nat => [(64, int k)]) (fun _ => [(1, .box [.d (.ip e.row)])]) ⟨_, 0, ⟨Nat.zero_le _, rfl, fun j _ hj => by omega⟩, by repeat constructor⟩ ?_
   rintro m k ⟨hk, rfl, htx⟩
   refine cx_seq (cx_ops ?_)
   refine ax_q (q_ibin rfl rfl rfl) ?_
   refine ax_nil (cx_keep rfl rfl (cx_seq ?_))
   refine cx_cond rfl (fun h2 => ?_) (fun h2 => ?_)
   ·
    have h2 := dT h2
    have h0x : k < e.Txs.length := by omega
    refine cx_skip ?_
    refine cx_keep rfl rfl (cx_seq (cx_block (cx_seq (cx_ops ?_))))
    refine ax_q (q_mov rfl) ?_
    refine ax_q (q_ix rfl rfl (mapAt h0x)) ?_
    first | refine ax_q (q_ldN rfl rfl rfl) ?_ | refine ax_q (q_loadN_ip rfl (Nat.le_refl _)) ?_
    refine ax_e (e_alloc (by decide) rfl rfl) ?_
    refine ax_q (q_mov rfl) ?_
    refine ax_e (e_st rfl rfl rfl rfl rfl rfl rfl) ?_
    refine ax_nil (cx_keep rfl rfl (cx_seq (cx_draw ?_)))
    refine ax_q (q_fadr_ptr rfl) ?_
    refine ax_q (q_load1_ptr rfl rfl rfl) ?_
    refine ax_q (q_load1_ptr rfl rfl rfl) ?_
    first | refine ax_q (q_nilck_ptr rfl) ?_ | refine ax_q (q_nilck_rptr rfl) ?_ | refine ax_q (q_nilck_ip rfl) ?_
    first | refine ax_q (q_fadr_ptr rfl) ?_ | refine ax_q (q_fadr_rptr rfl) ?_ | refine ax_q (q_fadr_ip rfl) ?_
    first | refine ax_q (q_load1_ptr rfl rfl rfl) ?_ | refine ax_q (q_load1_ip rfl) ?_
    refine ax_qe (r' := int (e.Next - 1)) (q_ibin rfl rfl rfl) (by rw [wi (by omega) (by omega)]) ?_
    refine ax_callq rfl (c_inRange  ) hP (lal_id _ rfl) rfl ?_
    refine ax_q (q_not rfl) ?_
    refine ax_q (q_mov rfl) ?_
    apply ax_or rfl rfl
    ·
     intro g
     have g := bF g
     refine ax_q (q_mov rfl) ?_
     refine ax_q (q_ibin rfl rfl rfl) ?_
     refine ax_q (q_mov rfl) ?_
     apply ax_and rfl rfl
     ·
      intro g
      have g := dT g
      refine ax_q (q_load1_ptr rfl rfl rfl) ?_
      first | refine ax_q (q_nilck_ptr rfl) ?_ | refine ax_q (q_nilck_rptr rfl) ?_ | refine ax_q (q_nilck_ip rfl) ?_
      first | refine ax_q (q_fadr_ptr rfl) ?_ | refine ax_q (q_fadr_rptr rfl) ?_ | refine ax_q (q_fadr_ip rfl) ?_
      first | refine ax_q (q_load1_ptr rfl rfl rfl) ?_ | refine ax_q (q_load1_ip rfl) ?_
      refine ax_q (q_mov rfl) ?_
      refine ax_qe (r' := int ((k - 1 : Nat) : Int)) (q_ibin rfl rfl rfl) (by rw [wi (by omega) (by omega)]; exact congrArg AM.int (by omega)) ?_
      refine ax_q (q_ix rfl rfl (mapAtZ (z := .zero) (by omega))) ?_
      first | refine ax_q (q_fadr_ptr rfl) ?_ | refine ax_q (q_fadr_rptr rfl) ?_ | refine ax_q (q_fadr_ip rfl) ?_
      first | refine ax_q (q_load1_ptr rfl rfl rfl) ?_ | refine ax_q (q_load1_ip rfl) ?_
      refine ax_q (q_fadr_ptr rfl) ?_
      refine ax_q (q_load1_ptr rfl rfl rfl) ?_
      refine ax_q (q_ibin rfl rfl rfl) ?_
      exact ax_nil ⟨rfl, by repeat constructor⟩
     exact ax_nil ⟨rfl, by repeat constructor⟩
    refine ax_q (q_mov rfl) ?_
    apply ax_or rfl rfl
    ·
     intro g
     have g := (fun h => And.intro (bF (or_F h).1) ((fun h => (and_F h).imp dF dF) (or_F h).2)) g
     refine ax_q (q_load1_ptr rfl rfl rfl) ?_
     first | refine ax_q (q_nilck_ptr rfl) ?_ | refine ax_q (q_nilck_rptr rfl) ?_ | refine ax_q (q_nilck_ip rfl) ?_
     first | refine ax_q (q_fadr_ptr rfl) ?_ | refine ax_q (q_fadr_rptr rfl) ?_ | refine ax_q (q_fadr_ip rfl) ?_
     refine ax_q (q_ldN rfl rfl rfl) ?_
     refine ax_callq rfl (c_chainOK (s := e.Store) (t := e.Txs[k]) (xs := [.bool e.Up, .sl 2 (e.Txs.map GTx.row), .sl 4 (e.Locks.Held.map GLock.row), .sl 2 (e.Locks.Waits.map GWait.row), .int .i64 e.Next]) ?_ ?_) hP (lal_id _ rfl) rfl ?_
     ·
      assumption
     ·
      assumption
     refine ax_q (q_not rfl) ?_
     exact ax_nil ⟨rfl, by repeat constructor⟩
    refine ax_nil (cx_keep rfl rfl ?_)
    refine cx_cond rfl (fun h3 => ?_) (fun h3 => ?_)
    ·
     have h3 : txBad e k e.Txs[k] (e.Txs.getD (k - 1) .zero).Id = true := h3
     refine cx_seq (cx_ops ?_)
     refine ax_q (q_mov rfl) ?_
     refine ax_nil (cx_keep rfl rfl ?_)
     refine cx_ret (ret0 rfl rfl ?_)
     exact ⟨by rw [eng_u h0 h1, txs_no h0x h3]; rfl, rfl⟩
    ·
     have htk : txBad e k e.Txs[k] (e.Txs.getD (k - 1) .zero).Id = false := h3
     refine cx_skip ?_
     refine cx_keep rfl rfl (cx_ops ?_)
     refine ax_qe (r' := int ((k + 1 : Nat) : Int)) (q_ibin rfl rfl rfl) (by rw [wi (by omega) (by omega)]; rfl) ?_
     refine ax_q (q_mov rfl) ?_
     refine ax_nil ?_
     exact ⟨_, k + 1, by omega, ⟨by omega, rfl, fun j hj hjk => by
      rcases Nat.lt_succ_iff_lt_or_eq.1 hjk with q | rfl
      ·
       exact htx j hj q
      ·
       exact htk⟩, by repeat constructor⟩
   ·
    have h2 := dF h2
    have hto := txs_all (e := e) (fun j hj => htx j hj (by omega))
    have hlast : ∀ t ∈ e.Txs, 1 ≤ t.Last ∧ t.Last ≤ e.Store.Log.length := fun t ht => by
     obtain ⟨j, hj, rfl⟩ := List.getElem_of_mem ht
     exact txBad_last (htx j hj (by omega))
    refine cx_exit rfl ?_
    refine cx_keep rfl rfl (cx_seq (cx_seq (cx_ops ?_)))
    refine ax_q (q_load1_ptr rfl rfl rfl) ?_
    first | refine ax_q (q_nilck_ptr rfl) ?_ | refine ax_q (q_nilck_rptr rfl) ?_ | refine ax_q (q_nilck_ip rfl) ?_
    first | refine ax_q (q_fadr_ptr rfl) ?_ | refine ax_q (q_fadr_rptr rfl) ?_ | refine ax_q (q_fadr_ip rfl) ?_
    first | refine ax_q (q_fadr_ptr rfl) ?_ | refine ax_q (q_fadr_rptr rfl) ?_ | refine ax_q (q_fadr_ip rfl) ?_
    first | refine ax_q (q_load1_ptr rfl rfl rfl) ?_ | refine ax_q (q_load1_ip rfl) ?_
    refine ax_q (q_mkfn rfl) ?_
    refine ax_call rfl (vc_lend0 (c_ContainsFunc_Lock (xs := e.Locks.Held) (ds := [.ip [.ip e.row]]) (fun l => decide (txAt e l.Tx < 0)) (by omega) (by kernel_rfl) (fun s _ => c_engineOK1 hw0)) hP (by repeat (first | exact lal_id _ rfl | exact LAL.nil | refine LAL.cons ?_ ?_ | exact la_id _ rfl | exact LA.lend (lend_whole rfl (by first | (simp; done) | (rw [List.length_map]; rfl))) | refine LA.agg ?_ | refine LA.fn ?_ | refine LA.lend ?_ | exact Lend.d _ | exact Lend.zs _ | exact lend_whole rfl (by first | (simp; done) | (rw [List.length_map]; rfl)) | refine Lend.ptr rfl ?_ | refine Lend.fn ?_ | exact LendL.nil | refine LendL.cons ?_ ?_)) rfl rfl ?_)
    refine ax_q (q_mov rfl) ?_
    apply ax_or rfl rfl
    ·
     intro g
     refine ax_q (q_load1_ptr rfl rfl rfl) ?_
     first | refine ax_q (q_nilck_ptr rfl) ?_ | refine ax_q (q_nilck_rptr rfl) ?_ | refine ax_q (q_nilck_ip rfl) ?_
     first | refine ax_q (q_fadr_ptr rfl) ?_ | refine ax_q (q_fadr_rptr rfl) ?_ | refine ax_q (q_fadr_ip rfl) ?_
     first | refine ax_q (q_fadr_ptr rfl) ?_ | refine ax_q (q_fadr_rptr rfl) ?_ | refine ax_q (q_fadr_ip rfl) ?_
     first | refine ax_q (q_load1_ptr rfl rfl rfl) ?_ | refine ax_q (q_load1_ip rfl) ?_
     refine ax_q (q_mkfn rfl) ?_
     refine ax_call rfl (vc_lend0 (c_ContainsFunc_Wait (xs := e.Locks.Waits) (ds := [.ip [.ip e.row]]) (fun w => decide (txAt e w.Tx < 0) || decide (txAt e w.For < 0)) (by omega) (by kernel_rfl) (fun s _ => c_engineOK2 hw0)) hP (by repeat (first | exact lal_id _ rfl | exact LAL.nil | refine LAL.cons ?_ ?_ | exact la_id _ rfl | exact LA.lend (lend_whole rfl (by first | (simp; done) | (rw [List.length_map]; rfl))) | refine LA.agg ?_ | refine LA.fn ?_ | refine LA.lend ?_ | exact Lend.d _ | exact Lend.zs _ | exact lend_whole rfl (by first | (simp; done) | (rw [List.length_map]; rfl)) | refine Lend.ptr rfl ?_ | refine Lend.fn ?_ | exact LendL.nil | refine LendL.cons ?_ ?_)) rfl rfl ?_)
     exact ax_nil ⟨rfl, by repeat constructor⟩
    refine ax_nil (cx_keep rfl rfl ?_)
    refine cx_cond rfl (fun h4 => ?_) (fun h4 => ?_)
    ·
     have h4 : (badHeld e || badWaits e) = true := h4
     refine cx_seq (cx_ops ?_)
     refine ax_q (q_mov rfl) ?_
     refine ax_nil (cx_keep rfl rfl ?_)
     refine cx_ret (ret0 rfl rfl ?_)
     exact ⟨by rw [eng_u h0 h1, ← Bool.not_or, h4, Bool.not_true, Bool.false_and, Bool.and_false]; rfl, rfl⟩
    ·
     have h4 : (badHeld e || badWaits e) = false := h4
     refine cx_skip ?_
     refine cx_keep rfl rfl (cx_seq (cx_ops ?_))
     refine ax_q (q_load1_ptr rfl rfl rfl) ?_
     refine ax_call rfl (vc_pure0 (c_hasRoom (e := e) ?_ ?_ ?_ ?_) hP rfl rfl ?_)
     ·
      assumption
     ·
      assumption
     ·
      assumption
     ·
      assumption
     refine ax_q (q_mov rfl) ?_
     refine ax_nil (cx_keep rfl rfl ?_)
     refine cx_ret (ret0 rfl rfl ?_)
     exact ⟨by rw [eng_u h0 h1, ← Bool.not_or, h4, hto]; rfl, rfl⟩


/- loop.example/g00332/impl.EngineOK -/
def k_c_EngineOK : XCode :=
 .seq (.ops [.op (some 1) (.box (.t 0)),
   .op (some 2) (.mov (.k (.bool false)))])
 (.keep [1] (.seq (.ops [.op (some 3) (.fadr (.t 1) 0),
   .op (some 4) (.loadN 9 (.t 3)),
   .call (some 5) 28 [.t 4],
   .op (some 6) (.mov (.t 5)),
   .andor 8 true 3 6 [.call (some 7) 43 [.t 1]] (.t 7),
   .op (some 2) (.mov (.t 8))])
 (.keep [2] (.ret))))
theorem k_c_EngineOK_fits : fitsF Tryz.prog 10 ⟨9, k_c_EngineOK, [.t 2]⟩ = true := by kernel_rfl
theorem c_EngineOK {e : GEngine} (hb : EnB e) : Con Tryz.prog noMv 10 [e.av] [] (fun r h => r = bool (engineOK e) ∧ h = []) := by
 refine con_of2 k_c_EngineOK_fits rfl fun C hP hmv => ?_
 unfold k_c_EngineOK
 refine cx_seq (cx_ops ?_)
 refine ax_e (e_box rfl rfl (by decide) rfl rfl rfl) ?_
 refine ax_q (q_mov rfl) ?_
 refine ax_nil (cx_keep rfl rfl (cx_seq (cx_ops ?_)))
 refine ax_q (q_fadr_ptr rfl) ?_
 refine ax_q (q_ldN rfl rfl rfl) ?_
 refine ax_call rfl (vc_pure0 (c_StoreOK (s := e.Store) ?_) hP rfl rfl ?_)
 ·
  exact hb.st
 refine ax_q (q_mov rfl) ?_
 apply ax_and rfl rfl
 ·
  intro g
  first | refine ax_call rfl (vc_pure0 (c_engineOK (e := e) ?_ ?_) hP rfl rfl ?_) | refine ax_call rfl (vc_lend0 (c_engineOK (e := e) ?_ ?_) hP (by repeat (first | exact lal_id _ rfl | exact LAL.nil | refine LAL.cons ?_ ?_ | exact la_id _ rfl | exact LA.lend (lend_whole rfl (by first | (simp; done) | (rw [List.length_map]; rfl))) | refine LA.agg ?_ | refine LA.fn ?_ | refine LA.lend ?_ | exact Lend.d _ | exact Lend.zs _ | exact lend_whole rfl (by first | (simp; done) | (rw [List.length_map]; rfl)) | refine Lend.ptr rfl ?_ | refine Lend.fn ?_ | exact LendL.nil | refine LendL.cons ?_ ?_)) rfl rfl ?_)
  ·
   assumption
  ·
   exact g
  exact ax_nil ⟨rfl, by repeat constructor⟩
 refine ax_q (q_mov rfl) ?_
 refine ax_nil (cx_keep rfl rfl ?_)
 refine cx_ret (ret0 rfl rfl ?_)
 exact ⟨rfl, rfl⟩


/- loop.example/g00332/impl.UndoNeeds -/
def k_c_UndoNeeds : XCode :=
 .seq (.ops [.op (some 1) (.box (.t 0)),
   .op (some 2) (.mov (.k (.int .i64 0))),
   .op (some 3) (.mov (.k (.int .i64 0)))])
 (.keep [1] (.seq (.seq (.ops [.op (some 4) (.loadN 14 (.t 1)),
   .call (some 5) 10 [.t 4],
   .op (some 6) (.not (.t 5))])
  (.keep [1, 6] (.cond (.t 6)
  (.seq (.ops [.op (some 2) (.mov (.k (.int .i64 0))),
    .op (some 3) (.mov (.k (.int .i64 1)))])
   (.keep [2, 3] (.ret)))
  (.skip))))
 (.keep [1] (.seq (.ops [.call (some 7) 46 [.t 1],
   .op (some 2) (.mov (.t 7)),
   .op (some 3) (.mov (.k (.int .i64 0)))])
 (.keep [2, 3] (.ret))))))
theorem k_c_UndoNeeds_fits : fitsF Tryz.prog 13 ⟨8, k_c_UndoNeeds, [.t 2, .t 3]⟩ = true := by kernel_rfl
theorem c_UndoNeeds {e : GEngine} (hb : EnB e) : Con Tryz.prog noMv 13 [e.av] [] (fun r h => r = .tup [int (undoNeeds e).1, int (undoNeeds e).2] ∧ h = []) := by
 refine con_of2 k_c_UndoNeeds_fits rfl fun C hP hmv => ?_
 unfold k_c_UndoNeeds
 refine cx_seq (cx_ops ?_)
 refine ax_e (e_box rfl rfl (by decide) rfl rfl rfl) ?_
 refine ax_q (q_mov rfl) ?_
 refine ax_q (q_mov rfl) ?_
 refine ax_nil (cx_keep rfl rfl (cx_seq (cx_seq (cx_ops ?_))))
 refine ax_q (q_ldN rfl rfl rfl) ?_
 refine ax_call rfl (vc_pure0 (c_EngineOK (e := e) ?_) hP rfl rfl ?_)
 ·
  assumption
 refine ax_q (q_not rfl) ?_
 refine ax_nil (cx_keep rfl rfl ?_)
 refine cx_cond rfl (fun h0 => ?_) (fun h0 => ?_)
 ·
  have h0 : engineOK e = false := by simpa using h0
  refine cx_seq (cx_ops ?_)
  refine ax_q (q_mov rfl) ?_
  refine ax_q (q_mov rfl) ?_
  refine ax_nil (cx_keep rfl rfl ?_)
  refine cx_ret (ret0 rfl rfl ?_)
  exact ⟨by rw [undoN_1 h0]; rfl, rfl⟩
 ·
  have h0 : engineOK e = true := by simpa using h0
  obtain ⟨HD, hg, hlast, ht10⟩ := engineOK_store h0
  refine cx_skip ?_
  refine cx_keep rfl rfl (cx_seq (cx_ops ?_))
  first | refine ax_call rfl (vc_pure0 (c_needsE (e := e) ?_ ?_ ?_ ?_) hP rfl rfl ?_) | refine ax_call rfl (vc_lend0 (c_needsE (e := e) ?_ ?_ ?_ ?_) hP (by repeat (first | exact lal_id _ rfl | exact LAL.nil | refine LAL.cons ?_ ?_ | exact la_id _ rfl | exact LA.lend (lend_whole rfl (by first | (simp; done) | (rw [List.length_map]; rfl))) | refine LA.agg ?_ | refine LA.fn ?_ | refine LA.lend ?_ | exact Lend.d _ | exact Lend.zs _ | exact lend_whole rfl (by first | (simp; done) | (rw [List.length_map]; rfl)) | refine Lend.ptr rfl ?_ | refine Lend.fn ?_ | exact LendL.nil | refine LendL.cons ?_ ?_)) rfl rfl ?_)
  ·
   exact HD.lo
  ·
   assumption
  ·
   assumption
  ·
   assumption
  refine ax_q (q_mov rfl) ?_
  refine ax_q (q_mov rfl) ?_
  refine ax_nil (cx_keep rfl rfl ?_)
  refine cx_ret (ret0 rfl rfl ?_)
  exact ⟨by rw [undoN_2 h0]; rfl, rfl⟩

end Go.Proofs.YtbanegjijhmojaaGreat
