/- The walks: what each function computes, as a contract without a world (part 0). -/
import Derived.Test.YtgfabnojbjnepaaProg
import Derived.Test.YtgfabnojbjnepaaD1
namespace Go.Proofs.Ytgfabnojbjnepaa
open Go Go.AM
set_option maxRecDepth 10000
set_option linter.unusedVariables false
set_option linter.unusedSimpArgs false
/- loop.example/g00332/laws.szLogRecord -/
def k_c_szLogRecord : XCode :=
 .seq (.ops [.op (some 2) (.box (.t 0)),
   .op (some 4) (.mov (.k (.int .i64 0)))])
 (.keep [1, 2] (.seq (.ops [.op (some 5) (.mov (.t 1)),
   .op (some 6) (.fadr (.t 2) 8),
   .op (some 7) (.load1 (.t 6)),
   .op (some 8) (.lenT (.t 7)),
   .op (some 9) (.bin .sub (.t 5) (.t 8)),
   .op (some 1) (.mov (.t 9))])
 (.keep [1, 2] (.seq (.seq (.ops [.op (some 10) (.mov (.t 1)),
   .op (some 11) (.bin .lss (.t 10) (.k (.int .i64 0)))])
  (.keep [1, 2, 11] (.cond (.t 11)
  (.seq (.ops [.op (some 4) (.mov (.k (.int .i64 (-1))))])
   (.keep [4] (.ret)))
  (.skip))))
 (.keep [1, 2] (.seq (.ops [.op (some 12) (.mov (.t 1)),
   .op (some 13) (.fadr (.t 2) 9),
   .op (some 14) (.load1 (.t 13)),
   .op (some 15) (.lenT (.t 14)),
   .op (some 16) (.bin .sub (.t 12) (.t 15)),
   .op (some 1) (.mov (.t 16))])
 (.keep [1] (.seq (.seq (.ops [.op (some 17) (.mov (.t 1)),
   .op (some 18) (.bin .lss (.t 17) (.k (.int .i64 0)))])
  (.keep [1, 18] (.cond (.t 18)
  (.seq (.ops [.op (some 4) (.mov (.k (.int .i64 (-1))))])
   (.keep [4] (.ret)))
  (.skip))))
 (.keep [1] (.seq (.ops [.op (some 19) (.mov (.t 1)),
   .op (some 4) (.mov (.t 19))])
 (.keep [4] (.ret))))))))))))
theorem k_c_szLogRecord_fits : fitsF Try.prog 16 ⟨20, k_c_szLogRecord, [.t 4]⟩ = true := by kernel_rfl
theorem c_szLogRecord {a : GLogRecord} {left : Int} (h0 : 0 ≤ left) (hl : left ≤ 1048576) (hw : a.wf) : Con Try.prog noMv 16 [a.av, int left] [] (fun r h => r = int (szF left (GLogRecord.sz a)) ∧ h = []) := by
 refine con_of2 k_c_szLogRecord_fits rfl fun C hP hmv => ?_
 unfold k_c_szLogRecord
 have sp := szF_spec left (GLogRecord.sz a)
 have e0 : GLogRecord.sz a = a.Before.length + a.After.length := rfl
 rw [e0] at sp ⊢
 obtain ⟨w0, w1, w2, w3, w4, w5, w6, w7, w8, w9⟩ := hw
 have w8x : a.Before.length ≤ 9223372036854775807 := w8
 have w9x : a.After.length ≤ 9223372036854775807 := w9
 refine cx_seq ?_
 refine cx_ops ?_
 refine ax_e (e_box rfl rfl (by decide) rfl rfl rfl) ?_
 refine ax_q (q_mov rfl) ?_
 refine ax_nil ?_
 refine cx_keep rfl rfl ?_
 refine cx_seq ?_
 refine cx_ops ?_
 refine ax_q (q_mov rfl) ?_
 refine ax_q (q_fadr_ptr rfl) ?_
 refine ax_q (q_load1_ptr rfl rfl rfl) ?_
 refine ax_q (q_lenT rfl) ?_
 refine ax_q (q_sub rfl rfl (by omega)) ?_
 refine ax_q (q_mov rfl) ?_
 refine ax_nil ?_
 refine cx_keep rfl rfl ?_
 refine cx_seq ?_
 refine cx_seq ?_
 refine cx_ops ?_
 refine ax_q (q_mov rfl) ?_
 refine ax_q (q_ibin rfl rfl rfl) ?_
 refine ax_nil ?_
 refine cx_keep rfl rfl ?_
 refine cx_cond rfl (fun h0 => ?_) (fun h0 => ?_)
 ·
  have h0 := dT h0
  refine cx_seq ?_
  refine cx_ops ?_
  refine ax_q (q_mov rfl) ?_
  refine ax_nil ?_
  refine cx_keep rfl rfl ?_
  refine cx_ret (ret0 rfl rfl ?_)
  exact ⟨congrArg int (by omega), rfl⟩
 ·
  have h0 := dF h0
  refine cx_skip ?_
  refine cx_keep rfl rfl ?_
  refine cx_seq ?_
  refine cx_ops ?_
  refine ax_q (q_mov rfl) ?_
  refine ax_q (q_fadr_ptr rfl) ?_
  refine ax_q (q_load1_ptr rfl rfl rfl) ?_
  refine ax_q (q_lenT rfl) ?_
  refine ax_q (q_sub rfl rfl (by omega)) ?_
  refine ax_q (q_mov rfl) ?_
  refine ax_nil ?_
  refine cx_keep rfl rfl ?_
  refine cx_seq ?_
  refine cx_seq ?_
  refine cx_ops ?_
  refine ax_q (q_mov rfl) ?_
  refine ax_q (q_ibin rfl rfl rfl) ?_
  refine ax_nil ?_
  refine cx_keep rfl rfl ?_
  refine cx_cond rfl (fun h1 => ?_) (fun h1 => ?_)
  ·
   have h1 := dT h1
   refine cx_seq ?_
   refine cx_ops ?_
   refine ax_q (q_mov rfl) ?_
   refine ax_nil ?_
   refine cx_keep rfl rfl ?_
   refine cx_ret (ret0 rfl rfl ?_)
   exact ⟨congrArg int (by omega), rfl⟩
  ·
   have h1 := dF h1
   refine cx_skip ?_
   refine cx_keep rfl rfl ?_
   refine cx_seq ?_
   refine cx_ops ?_
   refine ax_q (q_mov rfl) ?_
   refine ax_q (q_mov rfl) ?_
   refine ax_nil ?_
   refine cx_keep rfl rfl ?_
   refine cx_ret (ret0 rfl rfl ?_)
   exact ⟨congrArg int (by omega), rfl⟩


/- loop.example/g00332/laws.szLogRecordS -/
def k_c_szLogRecordS : XCode :=
 .seq (.ops [.op (some 4) (.mov (.k (.int .i64 0)))])
 (.keep [0, 1] (.seq (.ops [.op (some 6) (.mov (.t 1)),
   .op (some 7) (.mov (.t 0)),
   .op (some 8) (.lenS (.t 7)),
   .op (some 9) (.bin .sub (.t 6) (.t 8)),
   .op (some 1) (.mov (.t 9))])
 (.keep [0, 1] (.seq (.seq (.ops [.op (some 10) (.mov (.t 1)),
   .op (some 11) (.bin .lss (.t 10) (.k (.int .i64 0)))])
  (.keep [0, 1, 11] (.cond (.t 11)
  (.seq (.ops [.op (some 4) (.mov (.k (.int .i64 (-1))))])
   (.keep [4] (.ret)))
  (.skip))))
 (.keep [0, 1] (.seq (.seq (.ops [.op (some 5) (.mov (.k (.int .i64 0)))])
  (.keep [0, 1, 5] (.block 0 (.loop (.seq (.seq (.ops [.op (some 12) (.mov (.t 5)),
     .op (some 13) (.mov (.t 0)),
     .op (some 14) (.lenS (.t 13)),
     .op (some 15) (.bin .lss (.t 12) (.t 14))])
   (.keep [0, 1, 5, 15] (.cond (.t 15)
    (.skip)
    (.exit 0))))
   (.keep [0, 1, 5] (.seq (.block 1 (.seq (.ops [.op (some 18) (.mov (.t 0)),
     .op (some 19) (.mov (.t 5)),
     .op (some 20) (.iadr 10 (.t 18) (.t 19)),
     .op (some 21) (.loadN 10 (.t 20)),
     .op (some 22) (.mov (.t 1)),
     .call (some 23) 16 [.t 21, .t 22],
     .op (some 1) (.mov (.t 23))])
    (.keep [0, 1, 5] (.seq (.ops [.op (some 24) (.mov (.t 1)),
     .op (some 25) (.bin .lss (.t 24) (.k (.int .i64 0)))])
    (.keep [0, 1, 5, 25] (.cond (.t 25)
    (.seq (.ops [.op (some 4) (.mov (.k (.int .i64 (-1))))])
     (.keep [4] (.ret)))
    (.skip)))))))
   (.keep [0, 1, 5] (.ops [.op (some 16) (.mov (.t 5)),
    .op (some 17) (.bin .add (.t 16) (.k (.int .i64 1))),
    .op (some 5) (.mov (.t 17))])))))))))
 (.keep [1] (.seq (.ops [.op (some 26) (.mov (.t 1)),
   .op (some 4) (.mov (.t 26))])
 (.keep [4] (.ret))))))))))
theorem k_c_szLogRecordS_fits : fitsF Try.prog 4 ⟨27, k_c_szLogRecordS, [.t 4]⟩ = true := by kernel_rfl
theorem c_szLogRecordS {xs : List GLogRecord} {left : Int} (h0 : 0 ≤ left) (hl : left ≤ 1048576) (hw : wfL GLogRecord.wf xs) : Con Try.prog noMv 4 [.d (.sl 10 (xs.map GLogRecord.row)), int left] [] (fun r h => r = int (szF left (szL GLogRecord.sz xs)) ∧ h = []) := by
 refine con_of2 k_c_szLogRecordS_fits rfl fun C hP hmv => ?_
 unfold k_c_szLogRecordS
 have hw1 := hw.1; have hw2 := hw.2
 have sp := szF_spec left (szL GLogRecord.sz xs)
 refine cx_seq ?_
 refine cx_ops ?_
 refine ax_q (q_mov rfl) ?_
 refine ax_nil ?_
 refine cx_keep rfl rfl ?_
 refine cx_seq ?_
 refine cx_ops ?_
 refine ax_q (q_mov rfl) ?_
 refine ax_q (q_mov rfl) ?_
 first | refine ax_q (q_lenS_map rfl) ?_ | refine ax_q (q_lenS_osl rfl) ?_ | refine ax_q (q_lenS_zs rfl) ?_ | refine ax_q (q_lenS rfl) ?_
 refine ax_q (q_sub rfl rfl (by omega)) ?_
 refine ax_q (q_mov rfl) ?_
 refine ax_nil ?_
 refine cx_keep rfl rfl ?_
 refine cx_seq ?_
 refine cx_seq ?_
 refine cx_ops ?_
 refine ax_q (q_mov rfl) ?_
 refine ax_q (q_ibin rfl rfl rfl) ?_
 refine ax_nil ?_
 refine cx_keep rfl rfl ?_
 refine cx_cond rfl (fun h0 => ?_) (fun h0 => ?_)
 ·
  have h0 := dT h0
  refine cx_seq ?_
  refine cx_ops ?_
  refine ax_q (q_mov rfl) ?_
  refine ax_nil ?_
  refine cx_keep rfl rfl ?_
  refine cx_ret (ret0 rfl rfl ?_)
  exact ⟨congrArg int (by unfold szL at sp ⊢; omega), rfl⟩
 ·
  have h0 := dF h0
  refine cx_skip ?_
  refine cx_keep rfl rfl ?_
  refine cx_seq ?_
  refine cx_seq ?_
  refine cx_ops ?_
  refine ax_q (q_mov rfl) ?_
  refine ax_nil ?_
  refine cx_keep rfl rfl ?_
  refine cx_block ?_
  refine cx_loopU (fun n k => k ≤ xs.length ∧ n = xs.length - k ∧ 0 ≤ left - xs.length - sumBy GLogRecord.sz (xs.take k)) (fun k : Nat => [(1, int (left - xs.length - sumBy GLogRecord.sz (xs.take k))), (5, int k)]) (fun _ => [])
   ⟨_, 0, ⟨Nat.zero_le _, rfl, by simp [sumBy]; omega⟩, ⟨⟨rfl, congrArg (fun n => some (int n)) (by simp only [List.take_zero, sumBy]; omega), rfl, trivial⟩, trivial⟩⟩ ?_
  rintro n k ⟨hk, rfl, hs⟩
  refine cx_seq ?_
  refine cx_seq ?_
  refine cx_ops ?_
  refine ax_q (q_mov rfl) ?_
  refine ax_q (q_mov rfl) ?_
  first | refine ax_q (q_lenS_map rfl) ?_ | refine ax_q (q_lenS_osl rfl) ?_ | refine ax_q (q_lenS_zs rfl) ?_ | refine ax_q (q_lenS rfl) ?_
  refine ax_q (q_ibin rfl rfl rfl) ?_
  refine ax_nil ?_
  refine cx_keep rfl rfl ?_
  refine cx_cond rfl (fun h1 => ?_) (fun h1 => ?_)
  ·
   have h1 := dT h1
   have h1x : k < xs.length := by omega
   have hst := sumBy_take (f := GLogRecord.sz) h1x
   have hsl := sumBy_le (f := GLogRecord.sz) xs (k + 1)
   have hwk := hw2 _ (List.getElem_mem h1x)
   refine cx_skip ?_
   refine cx_keep rfl rfl ?_
   refine cx_seq ?_
   refine cx_block ?_
   refine cx_seq ?_
   refine cx_ops ?_
   refine ax_q (q_mov rfl) ?_
   refine ax_q (q_mov rfl) ?_
   refine ax_q (q_ix rfl rfl (mapAt h1x)) ?_
   first | refine ax_q (q_ldN rfl rfl rfl) ?_ | refine ax_q (q_loadN_ip rfl (Nat.le_refl _)) ?_ | refine ax_q (q_loadN_ip rfl (by decide)) ?_ | refine ax_q (q_loadN_rptr rfl rfl (by assumption) (by decide)) ?_ | refine ax_q (q_loadN_rptr rfl rfl (mapAt (by first | assumption | omega)) (by decide)) ?_
   refine ax_q (q_mov rfl) ?_
   have spk := szF_spec (left - xs.length - sumBy GLogRecord.sz (xs.take k)) (GLogRecord.sz xs[k])
   first | refine ax_call rfl (vc_pure0 (c_szLogRecord  ?_ ?_ ?_) hP rfl rfl ?_) | refine ax_call rfl (vc_lend0 (c_szLogRecord  ?_ ?_ ?_) hP (by repeat (first | exact lal_id _ rfl | exact LAL.nil | refine LAL.cons ?_ ?_ | exact la_id _ rfl | exact LA.lend (lend_whole rfl (by first | (simp; done) | (rw [List.length_map]; rfl))) | refine LA.agg ?_ | refine LA.fn ?_ | refine LA.lend ?_ | exact Lend.d _ | exact Lend.zs _ | exact lend_whole rfl (by first | (simp; done) | (rw [List.length_map]; rfl)) | refine Lend.ptr rfl ?_ | refine Lend.fn ?_ | exact LendL.nil | refine LendL.cons ?_ ?_)) rfl rfl ?_)
   ·
    first | assumption | omega | (simp; done) | (simp; omega)
   ·
    first | assumption | omega | (simp; done) | (simp; omega)
   ·
    first | assumption | omega | (simp; done) | (simp; omega)
   refine ax_q (q_mov rfl) ?_
   refine ax_nil ?_
   refine cx_keep rfl rfl ?_
   refine cx_seq ?_
   refine cx_ops ?_
   refine ax_q (q_mov rfl) ?_
   refine ax_q (q_ibin rfl rfl rfl) ?_
   refine ax_nil ?_
   refine cx_keep rfl rfl ?_
   refine cx_cond rfl (fun h2 => ?_) (fun h2 => ?_)
   ·
    have h2 := dT h2
    refine cx_seq ?_
    refine cx_ops ?_
    refine ax_q (q_mov rfl) ?_
    refine ax_nil ?_
    refine cx_keep rfl rfl ?_
    refine cx_ret (ret0 rfl rfl ?_)
    exact ⟨congrArg int (by unfold szL at sp ⊢; omega), rfl⟩
   ·
    have h2 := dF h2
    have e9 : szF (left - xs.length - sumBy GLogRecord.sz (xs.take k)) (GLogRecord.sz xs[k]) = left - xs.length - sumBy GLogRecord.sz (xs.take (k + 1)) := by omega
    refine cx_skip ?_
    refine cx_keep rfl rfl ?_
    refine cx_ops ?_
    refine ax_q (q_mov rfl) ?_
    refine ax_q (q_add rfl rfl (by omega)) ?_
    refine ax_q (q_mov rfl) ?_
    refine ax_nil ?_
    refine ⟨_, k + 1, by omega, ⟨by omega, rfl, by omega⟩, ?_⟩
    rw [e9]
    exact by repeat (first | exact trivial | refine ⟨rfl, ?_⟩ | refine ⟨?_, ?_⟩)
  ·
   have h1 := dF h1
   refine cx_exit rfl ?_
   refine cx_keep rfl rfl ?_
   refine cx_seq ?_
   refine cx_ops ?_
   refine ax_q (q_mov rfl) ?_
   refine ax_q (q_mov rfl) ?_
   refine ax_nil ?_
   refine cx_keep rfl rfl ?_
   refine cx_ret (ret0 rfl rfl ?_)
   have hk2 : k = xs.length := by omega
   subst hk2; rw [List.take_length] at hs ⊢
   exact ⟨congrArg int (by unfold szL at sp ⊢; omega), rfl⟩


/- loop.example/g00332/spec.l01In -/
def k_c_l01In : XCode :=
 .seq (.ops [.op (some 6) (.mov (.k (.bool false)))])
 (.keep [0, 1, 2] (.seq (.ops [.op (some 7) (.mov (.t 1)),
   .op (some 8) (.mov (.t 0)),
   .op (some 9) (.bin .leq (.t 7) (.t 8)),
   .op (some 10) (.mov (.t 9)),
   .andor 14 true 3 10 [.op (some 11) (.mov (.t 0)), .op (some 12) (.mov (.t 2)), .op (some 13) (.bin .leq (.t 11) (.t 12))] (.t 13),
   .op (some 6) (.mov (.t 14))])
 (.keep [6] (.ret))))
theorem k_c_l01In_fits : fitsF Try.prog 28 ⟨15, k_c_l01In, [.t 6]⟩ = true := by kernel_rfl
theorem c_l01In {n lo hi : Int} : Con Try.prog noMv 28 [int n, int lo, int hi] [] (fun r h => r = bool (inR n lo hi) ∧ h = []) := by
 refine con_of2 k_c_l01In_fits rfl fun C hP hmv => ?_
 unfold k_c_l01In
 refine cx_seq ?_
 refine cx_ops ?_
 refine ax_q (q_mov rfl) ?_
 refine ax_nil ?_
 refine cx_keep rfl rfl ?_
 refine cx_seq ?_
 refine cx_ops ?_
 refine ax_q (q_mov rfl) ?_
 refine ax_q (q_mov rfl) ?_
 refine ax_q (q_ibin rfl rfl rfl) ?_
 refine ax_q (q_mov rfl) ?_
 apply ax_and rfl rfl
 ·
  intro g
  have g := dT g
  refine ax_q (q_mov rfl) ?_
  refine ax_q (q_mov rfl) ?_
  refine ax_q (q_ibin rfl rfl rfl) ?_
  exact ax_nil ⟨rfl, by repeat (first | exact trivial | refine ⟨rfl, ?_⟩ | refine ⟨?_, ?_⟩)⟩
 refine ax_q (q_mov rfl) ?_
 refine ax_nil ?_
 refine cx_keep rfl rfl ?_
 refine cx_ret (ret0 rfl rfl ?_)
 exact ⟨rfl, rfl⟩


/- loop.example/g00332/spec.l04ReadCheck -/
def k_c_l04ReadCheck : XCode :=
 .seq (.ops [.op (some 2) (.mov (.k (.nils 2))),
   .op (some 3) (.mov (.k (.nils 2))),
   .op (some 4) (.mov (.k (.bool false)))])
 (.keep [0] (.seq (.ops [.op (some 10) (.bslice 2 []),
   .op (some 11) (.bslice 2 []),
   .op (some 12) (.bslice 1 [.t 10, .t 11]),
   .op (some 5) (.mov (.t 12))])
 (.keep [0, 5] (.seq (.ops [.op (some 6) (.mov (.k (.int .i64 0)))])
 (.keep [0, 5, 6] (.seq (.seq (.ops [.op (some 7) (.mov (.k (.int .i64 0)))])
  (.keep [0, 5, 6, 7] (.block 0 (.loop (.seq (.seq (.ops [.op (some 13) (.mov (.t 7)),
     .op (some 14) (.bin .lss (.t 13) (.k (.int .i64 2)))])
   (.keep [0, 5, 6, 7, 14] (.cond (.t 14)
    (.skip)
    (.exit 0))))
   (.keep [0, 5, 6, 7] (.seq (.block 1 (.seq (.seq (.ops [.op (some 17) (.mov (.t 6)),
      .op (some 18) (.mov (.t 0)),
      .op (some 19) (.lenT (.t 18)),
      .op (some 20) (.bin .geq (.t 17) (.t 19))])
    (.keep [0, 5, 6, 7, 20] (.cond (.t 20)
     (.seq (.draw [.op (some 21) (.mov (.t 5)),
       .op (some 22) (.iadr 1 (.t 21) (.k (.int .i64 0))),
       .op (some 23) (.load1 (.t 22)),
       .op (some 24) (.mov (.t 5)),
       .op (some 25) (.iadr 1 (.t 24) (.k (.int .i64 1))),
       .op (some 26) (.load1 (.t 25)),
       .op (some 2) (.mov (.t 23)),
       .op (some 3) (.mov (.t 26)),
       .op (some 4) (.mov (.k (.bool false)))])
     (.keep [2, 3, 4] (.ret)))
     (.skip))))
    (.keep [0, 5, 6, 7] (.seq (.ops [.op (some 27) (.mov (.t 0)),
     .op (some 28) (.mov (.t 6)),
     .op (some 29) (.idxS (.t 27) (.t 28)),
     .op (some 30) (.conv .i64 (.t 29)),
     .op (some 8) (.mov (.t 30))])
    (.keep [0, 5, 6, 7, 8] (.seq (.ops [.op (some 31) (.mov (.t 6)),
     .op (some 32) (.bin .add (.t 31) (.k (.int .i64 1))),
     .op (some 6) (.mov (.t 32))])
    (.keep [0, 5, 6, 7, 8] (.seq (.seq (.ops [.op (some 33) (.mov (.t 6)),
      .op (some 34) (.mov (.t 8)),
      .op (some 35) (.bin .mul (.k (.int .i64 2)) (.t 34)),
      .op (some 36) (.bin .add (.t 33) (.t 35)),
      .op (some 37) (.mov (.t 0)),
      .op (some 38) (.lenT (.t 37)),
      .op (some 39) (.bin .gtr (.t 36) (.t 38))])
    (.keep [0, 5, 6, 7, 8, 39] (.cond (.t 39)
     (.seq (.draw [.op (some 40) (.mov (.t 5)),
       .op (some 41) (.iadr 1 (.t 40) (.k (.int .i64 0))),
       .op (some 42) (.load1 (.t 41)),
       .op (some 43) (.mov (.t 5)),
       .op (some 44) (.iadr 1 (.t 43) (.k (.int .i64 1))),
       .op (some 45) (.load1 (.t 44)),
       .op (some 2) (.mov (.t 42)),
       .op (some 3) (.mov (.t 45)),
       .op (some 4) (.mov (.k (.bool false)))])
     (.keep [2, 3, 4] (.ret)))
     (.skip))))
    (.keep [0, 5, 6, 7, 8] (.seq (.ops [.op (some 9) (.mov (.k (.int .i64 0)))])
    (.keep [0, 5, 6, 7, 8, 9] (.block 2 (.loop (.seq (.seq (.ops [.op (some 46) (.mov (.t 9)),
       .op (some 47) (.mov (.t 8)),
       .op (some 48) (.bin .lss (.t 46) (.t 47))])
     (.keep [0, 5, 6, 7, 8, 9, 48] (.cond (.t 48)
      (.skip)
      (.exit 2))))
     (.keep [0, 5, 6, 7, 8, 9] (.seq (.block 3 (.seq (.drawE [[], [], [], [], [2, 3], [2, 3, 4], [], [], [6, 7], [6, 7, 8], [], [], [11], [10, 11, 12], [10, 11, 12, 13], [6, 7, 8, 9, 10, 11, 12, 13, 14], [6, 7, 8, 9, 10, 11, 12, 13, 14, 15], [2, 3, 4, 5, 6, 7, 8, 9, 10, 11, 12, 13, 14, 15, 16], [0, 1, 2, 3, 4, 5, 6, 7, 8, 9, 10, 11, 12, 13, 14, 15, 16, 17], [0, 1, 2, 3, 4, 5, 6, 7, 8, 9, 10, 11, 12, 13, 14, 15, 16, 17, 18]] [.op (some 51) (.mov (.t 5)),
       .op (some 52) (.mov (.t 7)),
       .op (some 53) (.mov (.t 5)),
       .op (some 54) (.mov (.t 7)),
       .op (some 55) (.iadr 1 (.t 53) (.t 54)),
       .op (some 56) (.load1 (.t 55)),
       .op (some 57) (.mov (.t 0)),
       .op (some 58) (.mov (.t 6)),
       .op (some 59) (.idxS (.t 57) (.t 58)),
       .op (some 60) (.conv .i64 (.t 59)),
       .op (some 61) (.mov (.t 0)),
       .op (some 62) (.mov (.t 6)),
       .op (some 63) (.bin .add (.t 62) (.k (.int .i64 1))),
       .op (some 64) (.idxS (.t 61) (.t 63)),
       .op (some 65) (.conv .i64 (.t 64)),
       .op (some 66) (.build [.int .i64 0, .int .i64 0] [(0, 1, .t 60), (1, 1, .t 65)]),
       .op (some 67) (.bslice 2 [.t 66]),
       .op (some 68) (.app 2 16 [.int .i64 0, .int .i64 0] (.t 56) (.t 67))]
       [.op (some 69) (.iadr 1 (.t 51) (.t 52)),
       .op none (.store 1 (.t 69) (.t 68))])
      (.keep [0, 5, 6, 7, 8, 9] (.ops [.op (some 70) (.mov (.t 6)),
       .op (some 71) (.bin .add (.t 70) (.k (.int .i64 2))),
       .op (some 6) (.mov (.t 71))]))))
     (.keep [0, 5, 6, 7, 8, 9] (.ops [.op (some 49) (.mov (.t 9)),
      .op (some 50) (.bin .add (.t 49) (.k (.int .i64 1))),
      .op (some 9) (.mov (.t 50))]))))))))))))))))))
   (.keep [0, 5, 6, 7] (.ops [.op (some 15) (.mov (.t 7)),
    .op (some 16) (.bin .add (.t 15) (.k (.int .i64 1))),
    .op (some 7) (.mov (.t 16))])))))))))
 (.keep [0, 5, 6] (.seq (.draw [.op (some 72) (.mov (.t 5)),
   .op (some 73) (.iadr 1 (.t 72) (.k (.int .i64 0))),
   .op (some 74) (.load1 (.t 73)),
   .op (some 75) (.mov (.t 5)),
   .op (some 76) (.iadr 1 (.t 75) (.k (.int .i64 1))),
   .op (some 77) (.load1 (.t 76)),
   .op (some 78) (.mov (.t 6)),
   .op (some 79) (.mov (.t 0)),
   .op (some 80) (.lenT (.t 79)),
   .op (some 81) (.bin .eql (.t 78) (.t 80)),
   .op (some 2) (.mov (.t 74)),
   .op (some 3) (.mov (.t 77)),
   .op (some 4) (.mov (.t 81))])
 (.keep [2, 3, 4] (.ret))))))))))
theorem k_c_l04ReadCheck_fits : fitsF Try.prog 30 ⟨82, k_c_l04ReadCheck, [.t 2, .t 3, .t 4]⟩ = true := by kernel_rfl
set_option maxHeartbeats 4000000 in
theorem c_l04ReadCheck {t : Str} (hl : t.length ≤ 1048576) : Con Try.prog noMv 30 [str t] [] (fun r h => r = .tup [.d (.sl 2 ((readX t).1.map prRow)), .d (.sl 2 ((readX t).2.1.map prRow)), bool (readX t).2.2] ∧ h = []) := by
 refine con_of2 k_c_l04ReadCheck_fits rfl fun C hP hmv => ?_
 unfold k_c_l04ReadCheck
 refine cx_seq ?_
 refine cx_ops ?_
 refine ax_q (q_mov rfl) ?_
 refine ax_q (q_mov rfl) ?_
 refine ax_q (q_mov rfl) ?_
 refine ax_nil ?_
 refine cx_keep rfl rfl ?_
 refine cx_seq ?_
 refine cx_ops ?_
 refine ax_e (e_bslice rfl (by decide) rfl rfl) ?_
 refine ax_e (e_bslice rfl (by decide) rfl rfl) ?_
 refine ax_e (e_bsliceB rfl rfl rfl (by decide) rfl rfl) ?_
 refine ax_q (q_mov rfl) ?_
 refine ax_nil ?_
 refine cx_keep rfl rfl ?_
 refine cx_seq ?_
 refine cx_ops ?_
 refine ax_q (q_mov rfl) ?_
 refine ax_nil ?_
 refine cx_keep rfl rfl ?_
 refine cx_seq ?_
 refine cx_seq ?_
 refine cx_ops ?_
 refine ax_q (q_mov rfl) ?_
 refine ax_nil ?_
 refine cx_keep rfl rfl ?_
 refine cx_block ?_
 refine cx_loopU (fun m (s : Nat × List Pr × List Pr × Nat) => m = 2 - s.1 ∧ CkInv t s.1 s.2.1 s.2.2.1 s.2.2.2) (fun s => [(6, int (s.2.2.2 : Nat)), (7, int (s.1 : Nat))]) (fun s => [(12, .box [.osl 10 2 0 s.2.1.length, .osl 11 2 0 s.2.2.1.length]), (10, .rows 2 (s.2.1.map prRow)), (11, .rows 2 (s.2.2.1.map prRow))]) ⟨_, (0, [], [], 0), ⟨rfl, ck0⟩, by repeat (first | exact trivial | refine ⟨rfl, ?_⟩ | refine ⟨?_, ?_⟩)⟩ ?_
 rintro m ⟨k, l1, l2, p⟩ ⟨rfl, hk⟩
 simp only at hk ⊢
 obtain ⟨hp, hl1, hl2, hk⟩ := hk
 refine cx_seq ?_
 refine cx_seq ?_
 refine cx_ops ?_
 refine ax_q (q_mov rfl) ?_
 refine ax_q (q_ibin rfl rfl rfl) ?_
 refine ax_nil ?_
 refine cx_keep rfl rfl ?_
 refine cx_cond rfl (fun h0 => ?_) (fun h0 => ?_)
 ·
  have h0 := dT h0
  have hk : (k = 0 ∧ l1 = [] ∧ l2 = [] ∧ p = 0) ∨ (k = 1 ∧ l2 = [] ∧ readX t = stage2 l1 (t.drop p)) := by
   rcases hk with h | h | ⟨h, _⟩
   ·
    exact .inl h
   ·
    exact .inr h
   ·
    omega
  rcases hk with ⟨rfl, rfl, rfl, rfl⟩ | ⟨rfl, rfl, hkk⟩
  ·
   skip
   refine cx_skip ?_
   refine cx_keep rfl rfl ?_
   refine cx_seq ?_
   refine cx_block ?_
   refine cx_seq ?_
   refine cx_seq ?_
   refine cx_ops ?_
   refine ax_q (q_mov rfl) ?_
   refine ax_q (q_mov rfl) ?_
   refine ax_q (q_lenT rfl) ?_
   refine ax_q (q_ibin rfl rfl rfl) ?_
   refine ax_nil ?_
   refine cx_keep rfl rfl ?_
   refine cx_cond rfl (fun h1 => ?_) (fun h1 => ?_)
   ·
    have h1 := dT h1
    refine cx_seq ?_
    refine cx_draw ?_
    refine ax_q (q_mov rfl) ?_
    refine ax_q (q_ixB rfl rfl (by decide)) ?_
    refine ax_q (q_load1_ptr rfl rfl rfl) ?_
    refine ax_q (q_mov rfl) ?_
    refine ax_q (q_ixB rfl rfl (by decide)) ?_
    refine ax_q (q_load1_ptr rfl rfl rfl) ?_
    refine ax_q (q_mov rfl) ?_
    refine ax_q (q_mov rfl) ?_
    refine ax_q (q_mov rfl) ?_
    refine ax_nil ?_
    refine cx_keep rfl rfl ?_
    refine cx_wk (wk_frz 2 10 rfl rfl (.whole (by simp)) rfl) ?_
    refine cx_wk (wk_frz 3 11 rfl rfl (.whole (by simp)) rfl) ?_
    refine cx_ret (ret0 rfl rfl ?_)
    rw [ck_a0 (by omega)]; exact ⟨rfl, rfl⟩
   ·
    have h1 := dF h1
    have h1x : 0 < t.length := by omega
    have hb := t[0].toNat_lt
    refine cx_skip ?_
    refine cx_keep rfl rfl ?_
    refine cx_seq ?_
    refine cx_ops ?_
    refine ax_q (q_mov rfl) ?_
    refine ax_q (q_mov rfl) ?_
    refine ax_q (q_idxN rfl rfl (by first | assumption | omega)) ?_
    first | refine ax_q (q_convB rfl) ?_ | refine ax_q (q_convI rfl (by omega)) ?_ | refine ax_q (q_convU8 rfl) ?_ | refine ax_q (q_conv rfl) ?_
    refine ax_q (q_mov rfl) ?_
    refine ax_nil ?_
    refine cx_keep rfl rfl ?_
    refine cx_seq ?_
    refine cx_ops ?_
    refine ax_q (q_mov rfl) ?_
    refine ax_q (q_add rfl rfl (by omega)) ?_
    refine ax_q (q_mov rfl) ?_
    refine ax_nil ?_
    refine cx_keep rfl rfl ?_
    refine cx_seq ?_
    refine cx_seq ?_
    refine cx_ops ?_
    refine ax_q (q_mov rfl) ?_
    refine ax_q (q_mov rfl) ?_
    refine ax_q (q_mul rfl rfl (by omega)) ?_
    refine ax_q (q_add rfl rfl (by omega)) ?_
    refine ax_q (q_mov rfl) ?_
    refine ax_q (q_lenT rfl) ?_
    refine ax_q (q_ibin rfl rfl rfl) ?_
    refine ax_nil ?_
    refine cx_keep rfl rfl ?_
    refine cx_cond rfl (fun h2 => ?_) (fun h2 => ?_)
    ·
     have h2 := dT h2
     refine cx_seq ?_
     refine cx_draw ?_
     refine ax_q (q_mov rfl) ?_
     refine ax_q (q_ixB rfl rfl (by decide)) ?_
     refine ax_q (q_load1_ptr rfl rfl rfl) ?_
     refine ax_q (q_mov rfl) ?_
     refine ax_q (q_ixB rfl rfl (by decide)) ?_
     refine ax_q (q_load1_ptr rfl rfl rfl) ?_
     refine ax_q (q_mov rfl) ?_
     refine ax_q (q_mov rfl) ?_
     refine ax_q (q_mov rfl) ?_
     refine ax_nil ?_
     refine cx_keep rfl rfl ?_
     refine cx_wk (wk_frz 2 10 rfl rfl (.whole (by simp)) rfl) ?_
     refine cx_wk (wk_frz 3 11 rfl rfl (.whole (by simp)) rfl) ?_
     refine cx_ret (ret0 rfl rfl ?_)
     rw [ck_a1 (h := h1x) (by omega)]; exact ⟨rfl, rfl⟩
    ·
     have h2 := dF h2
     refine cx_skip ?_
     refine cx_keep rfl rfl ?_
     refine cx_seq ?_
     refine cx_ops ?_
     refine ax_q (q_mov rfl) ?_
     refine ax_nil ?_
     refine cx_keep rfl rfl ?_
     refine cx_block ?_
     obtain ⟨l, q1, q2, q3⟩ := @ck_list t (0 + 1) t[0].toNat (by omega)
     refine cx_loopU (fun m i => i ≤ t[0].toNat ∧ m = t[0].toNat - i) (fun i : Nat => [(6, int (((0 + 1 + 2 * i : Nat)) : Int)), (9, int (i : Nat))]) (fun i => [(12, .box [.osl 10 2 0 (l.take i).length, .osl 11 2 0 0]), (10, .rows 2 ((l.take i).map prRow)), (11, .rows 2 [])]) ⟨_, 0, ⟨Nat.zero_le _, rfl⟩, by repeat (first | exact trivial | refine ⟨rfl, ?_⟩ | refine ⟨?_, ?_⟩)⟩ ?_
     rintro m i ⟨hi, rfl⟩
     refine cx_seq ?_
     refine cx_seq ?_
     refine cx_ops ?_
     refine ax_q (q_mov rfl) ?_
     refine ax_q (q_mov rfl) ?_
     refine ax_q (q_ibin rfl rfl rfl) ?_
     refine ax_nil ?_
     refine cx_keep rfl rfl ?_
     refine cx_cond rfl (fun h3 => ?_) (fun h3 => ?_)
     ·
      have h3 := dT h3
      have e3 := q3 i (by omega) (by omega)
      refine cx_skip ?_
      refine cx_keep rfl rfl ?_
      refine cx_seq ?_
      refine cx_block ?_
      refine cx_seq ?_
      refine cx_drawL 17 68 (Nat.beq 10) (nrA 10) [] ([(10, .rows 2 ((l.take (i + 1)).map prRow))]) [[5], [7], [5], [7], [53, 54], [55], [0], [6], [57, 58], [59], [0], [6], [62], [61, 63], [64], [60, 65], [66], [56, 67]] [[10, 12], [10, 12], [], [], [], [], [], [], [], [], [], [], [], [], [], [], [], [10, 12]] rfl ?_
      first | refine ⟨_, .inr ⟨rfl, _, rfl, .inr ⟨rfl, rfl, .inr rfl, rfl, rfl⟩, loc_q (q_mov rfl)⟩, ?_⟩
      first | refine ⟨_, .inr ⟨rfl, _, rfl, .inr ⟨rfl, rfl, .inr rfl, rfl, rfl⟩, loc_q (q_mov rfl)⟩, ?_⟩
      first | refine ⟨_, .inr ⟨rfl, _, rfl, .inl rfl, loc_q (q_mov rfl)⟩, ?_⟩
      first | refine ⟨_, .inr ⟨rfl, _, rfl, .inl rfl, loc_q (q_mov rfl)⟩, ?_⟩
      first | refine ⟨_, .inr ⟨rfl, _, rfl, .inl rfl, loc_q (q_ixB rfl rfl (by decide))⟩, ?_⟩
      first | refine ⟨_, .inr ⟨rfl, _, rfl, .inl rfl, loc_q (q_load1_ptr rfl rfl rfl)⟩, ?_⟩
      first | refine ⟨_, .inr ⟨rfl, _, rfl, .inl rfl, loc_q (q_mov rfl)⟩, ?_⟩
      first | refine ⟨_, .inr ⟨rfl, _, rfl, .inl rfl, loc_q (q_mov rfl)⟩, ?_⟩
      first | refine ⟨_, .inr ⟨rfl, _, rfl, .inl rfl, loc_q (q_idxN rfl rfl (by first | assumption | omega))⟩, ?_⟩
      first | refine ⟨_, .inr ⟨rfl, _, rfl, .inl rfl, loc_q (q_convB rfl)⟩, ?_⟩ | refine ⟨_, .inr ⟨rfl, _, rfl, .inl rfl, loc_q (q_convI rfl (by omega))⟩, ?_⟩ | refine ⟨_, .inr ⟨rfl, _, rfl, .inl rfl, loc_q (q_convU8 rfl)⟩, ?_⟩ | refine ⟨_, .inr ⟨rfl, _, rfl, .inl rfl, loc_q (q_conv rfl)⟩, ?_⟩
      first | refine ⟨_, .inr ⟨rfl, _, rfl, .inl rfl, loc_q (q_mov rfl)⟩, ?_⟩
      first | refine ⟨_, .inr ⟨rfl, _, rfl, .inl rfl, loc_q (q_mov rfl)⟩, ?_⟩
      first | refine ⟨_, .inr ⟨rfl, _, rfl, .inl rfl, loc_qe (r' := int ((0 + 1 + 2 * i + 1 : Nat) : Int)) (q_ibin rfl rfl rfl) (by rw [wi (by omega) (by omega)]; rfl)⟩, ?_⟩
      first | refine ⟨_, .inr ⟨rfl, _, rfl, .inl rfl, loc_q (q_idxN rfl rfl (by first | assumption | omega))⟩, ?_⟩
      first | refine ⟨_, .inr ⟨rfl, _, rfl, .inl rfl, loc_q (q_convB rfl)⟩, ?_⟩ | refine ⟨_, .inr ⟨rfl, _, rfl, .inl rfl, loc_q (q_convI rfl (by omega))⟩, ?_⟩ | refine ⟨_, .inr ⟨rfl, _, rfl, .inl rfl, loc_q (q_convU8 rfl)⟩, ?_⟩ | refine ⟨_, .inr ⟨rfl, _, rfl, .inl rfl, loc_q (q_conv rfl)⟩, ?_⟩
      first | refine ⟨_, .inr ⟨rfl, _, rfl, .inl rfl, loc_q (q_build rfl)⟩, ?_⟩
      first | refine ⟨_, .inr ⟨rfl, _, rfl, .inl rfl, loc_bslice rfl⟩, ?_⟩
      refine ⟨⟨68, _, []⟩, .inl ⟨rfl, rfl, rfl, locl_app (n' := (l.take (i + 1)).length) (rs' := (l.take (i + 1)).map prRow) rfl rfl (by simp) rfl (fun _ _ h => src_osl (h _ _ rfl) (by simp)) (.inl (by decide)) (hbnd (by simp only [List.length_take]; omega) (by simp) (by decide)) (by simp only [List.drop_zero, Nat.min_self, List.length_take, List.length_cons, List.length_nil, Nat.min_eq_left (show i ≤ l.length by omega), Nat.min_eq_left (show i + 1 ≤ l.length by omega)]) ((congrArg (· ++ _) (List.take_of_length_le (by simp))).trans (take_pr e3))⟩, ?_⟩
      refine ⟨rfl, ?_⟩
      refine ax_q (q_ixB rfl rfl (by decide)) ?_
      refine ax_e (e_st rfl rfl rfl rfl rfl rfl rfl) ?_
      refine ax_nil ?_
      refine cx_keep rfl rfl ?_
      refine cx_ops ?_
      refine ax_q (q_mov rfl) ?_
      refine ax_q (q_add rfl rfl (by omega)) ?_
      refine ax_q (q_mov rfl) ?_
      refine ax_nil ?_
      refine cx_keep rfl rfl ?_
      refine cx_ops ?_
      refine ax_q (q_mov rfl) ?_
      refine ax_q (q_add rfl rfl (by omega)) ?_
      refine ax_q (q_mov rfl) ?_
      refine ax_nil ?_
      exact ⟨_, i + 1, by omega, ⟨by omega, rfl⟩, by repeat (first | exact trivial | refine ⟨rfl, ?_⟩ | refine ⟨?_, ?_⟩)⟩
     ·
      have h3 := dF h3
      obtain rfl : i = t[0].toNat := by omega
      have e4 : l.take t[0].toNat = l := List.take_of_length_le (by omega)
      rw [e4]
      refine cx_exit rfl ?_
      refine cx_keep rfl rfl ?_
      refine cx_ops ?_
      refine ax_q (q_mov rfl) ?_
      refine ax_q (q_add rfl rfl (by omega)) ?_
      refine ax_q (q_mov rfl) ?_
      refine ax_nil ?_
      exact ⟨_, (1, l, [], 0 + 1 + 2 * t[0].toNat), by omega, ⟨rfl, ck_a2 q1 q2 (by omega)⟩, by repeat (first | exact trivial | refine ⟨rfl, ?_⟩ | refine ⟨?_, ?_⟩)⟩
  ·
   skip
   refine cx_skip ?_
   refine cx_keep rfl rfl ?_
   refine cx_seq ?_
   refine cx_block ?_
   refine cx_seq ?_
   refine cx_seq ?_
   refine cx_ops ?_
   refine ax_q (q_mov rfl) ?_
   refine ax_q (q_mov rfl) ?_
   refine ax_q (q_lenT rfl) ?_
   refine ax_q (q_ibin rfl rfl rfl) ?_
   refine ax_nil ?_
   refine cx_keep rfl rfl ?_
   refine cx_cond rfl (fun h1 => ?_) (fun h1 => ?_)
   ·
    have h1 := dT h1
    refine cx_seq ?_
    refine cx_draw ?_
    refine ax_q (q_mov rfl) ?_
    refine ax_q (q_ixB rfl rfl (by decide)) ?_
    refine ax_q (q_load1_ptr rfl rfl rfl) ?_
    refine ax_q (q_mov rfl) ?_
    refine ax_q (q_ixB rfl rfl (by decide)) ?_
    refine ax_q (q_load1_ptr rfl rfl rfl) ?_
    refine ax_q (q_mov rfl) ?_
    refine ax_q (q_mov rfl) ?_
    refine ax_q (q_mov rfl) ?_
    refine ax_nil ?_
    refine cx_keep rfl rfl ?_
    refine cx_wk (wk_frz 2 10 rfl rfl (.whole (by simp)) rfl) ?_
    refine cx_wk (wk_frz 3 11 rfl rfl (.whole (by simp)) rfl) ?_
    refine cx_ret (ret0 rfl rfl ?_)
    rw [ck_b0 hkk (by omega)]; exact ⟨rfl, rfl⟩
   ·
    have h1 := dF h1
    have h1x : p < t.length := by omega
    have hb := t[p].toNat_lt
    refine cx_skip ?_
    refine cx_keep rfl rfl ?_
    refine cx_seq ?_
    refine cx_ops ?_
    refine ax_q (q_mov rfl) ?_
    refine ax_q (q_mov rfl) ?_
    refine ax_q (q_idxN rfl rfl (by first | assumption | omega)) ?_
    first | refine ax_q (q_convB rfl) ?_ | refine ax_q (q_convI rfl (by omega)) ?_ | refine ax_q (q_convU8 rfl) ?_ | refine ax_q (q_conv rfl) ?_
    refine ax_q (q_mov rfl) ?_
    refine ax_nil ?_
    refine cx_keep rfl rfl ?_
    refine cx_seq ?_
    refine cx_ops ?_
    refine ax_q (q_mov rfl) ?_
    refine ax_q (q_add rfl rfl (by omega)) ?_
    refine ax_q (q_mov rfl) ?_
    refine ax_nil ?_
    refine cx_keep rfl rfl ?_
    refine cx_seq ?_
    refine cx_seq ?_
    refine cx_ops ?_
    refine ax_q (q_mov rfl) ?_
    refine ax_q (q_mov rfl) ?_
    refine ax_q (q_mul rfl rfl (by omega)) ?_
    refine ax_q (q_add rfl rfl (by omega)) ?_
    refine ax_q (q_mov rfl) ?_
    refine ax_q (q_lenT rfl) ?_
    refine ax_q (q_ibin rfl rfl rfl) ?_
    refine ax_nil ?_
    refine cx_keep rfl rfl ?_
    refine cx_cond rfl (fun h2 => ?_) (fun h2 => ?_)
    ·
     have h2 := dT h2
     refine cx_seq ?_
     refine cx_draw ?_
     refine ax_q (q_mov rfl) ?_
     refine ax_q (q_ixB rfl rfl (by decide)) ?_
     refine ax_q (q_load1_ptr rfl rfl rfl) ?_
     refine ax_q (q_mov rfl) ?_
     refine ax_q (q_ixB rfl rfl (by decide)) ?_
     refine ax_q (q_load1_ptr rfl rfl rfl) ?_
     refine ax_q (q_mov rfl) ?_
     refine ax_q (q_mov rfl) ?_
     refine ax_q (q_mov rfl) ?_
     refine ax_nil ?_
     refine cx_keep rfl rfl ?_
     refine cx_wk (wk_frz 2 10 rfl rfl (.whole (by simp)) rfl) ?_
     refine cx_wk (wk_frz 3 11 rfl rfl (.whole (by simp)) rfl) ?_
     refine cx_ret (ret0 rfl rfl ?_)
     rw [ck_b1 hkk (h := h1x) (by omega)]; exact ⟨rfl, rfl⟩
    ·
     have h2 := dF h2
     refine cx_skip ?_
     refine cx_keep rfl rfl ?_
     refine cx_seq ?_
     refine cx_ops ?_
     refine ax_q (q_mov rfl) ?_
     refine ax_nil ?_
     refine cx_keep rfl rfl ?_
     refine cx_block ?_
     obtain ⟨l, q1, q2, q3⟩ := @ck_list t (p + 1) t[p].toNat (by omega)
     refine cx_loopU (fun m i => i ≤ t[p].toNat ∧ m = t[p].toNat - i) (fun i : Nat => [(6, int (((p + 1 + 2 * i : Nat)) : Int)), (9, int (i : Nat))]) (fun i => [(12, .box [.osl 10 2 0 l1.length, .osl 11 2 0 (l.take i).length]), (10, .rows 2 (l1.map prRow)), (11, .rows 2 ((l.take i).map prRow))]) ⟨_, 0, ⟨Nat.zero_le _, rfl⟩, by repeat (first | exact trivial | refine ⟨rfl, ?_⟩ | refine ⟨?_, ?_⟩)⟩ ?_
     rintro m i ⟨hi, rfl⟩
     refine cx_seq ?_
     refine cx_seq ?_
     refine cx_ops ?_
     refine ax_q (q_mov rfl) ?_
     refine ax_q (q_mov rfl) ?_
     refine ax_q (q_ibin rfl rfl rfl) ?_
     refine ax_nil ?_
     refine cx_keep rfl rfl ?_
     refine cx_cond rfl (fun h3 => ?_) (fun h3 => ?_)
     ·
      have h3 := dT h3
      have e3 := q3 i (by omega) (by omega)
      refine cx_skip ?_
      refine cx_keep rfl rfl ?_
      refine cx_seq ?_
      refine cx_block ?_
      refine cx_seq ?_
      refine cx_drawL 17 68 (Nat.beq 11) (nrA 11) [] ([(11, .rows 2 ((l.take (i + 1)).map prRow))]) [[5], [7], [5], [7], [53, 54], [55], [0], [6], [57, 58], [59], [0], [6], [62], [61, 63], [64], [60, 65], [66], [56, 67]] [[11, 12], [11, 12], [], [], [], [], [], [], [], [], [], [], [], [], [], [], [], [11, 12]] rfl ?_
      first | refine ⟨_, .inr ⟨rfl, _, rfl, .inr ⟨rfl, rfl, .inr rfl, rfl, rfl⟩, loc_q (q_mov rfl)⟩, ?_⟩
      first | refine ⟨_, .inr ⟨rfl, _, rfl, .inr ⟨rfl, rfl, .inr rfl, rfl, rfl⟩, loc_q (q_mov rfl)⟩, ?_⟩
      first | refine ⟨_, .inr ⟨rfl, _, rfl, .inl rfl, loc_q (q_mov rfl)⟩, ?_⟩
      first | refine ⟨_, .inr ⟨rfl, _, rfl, .inl rfl, loc_q (q_mov rfl)⟩, ?_⟩
      first | refine ⟨_, .inr ⟨rfl, _, rfl, .inl rfl, loc_q (q_ixB rfl rfl (by decide))⟩, ?_⟩
      first | refine ⟨_, .inr ⟨rfl, _, rfl, .inl rfl, loc_q (q_load1_ptr rfl rfl rfl)⟩, ?_⟩
      first | refine ⟨_, .inr ⟨rfl, _, rfl, .inl rfl, loc_q (q_mov rfl)⟩, ?_⟩
      first | refine ⟨_, .inr ⟨rfl, _, rfl, .inl rfl, loc_q (q_mov rfl)⟩, ?_⟩
      first | refine ⟨_, .inr ⟨rfl, _, rfl, .inl rfl, loc_q (q_idxN rfl rfl (by first | assumption | omega))⟩, ?_⟩
      first | refine ⟨_, .inr ⟨rfl, _, rfl, .inl rfl, loc_q (q_convB rfl)⟩, ?_⟩ | refine ⟨_, .inr ⟨rfl, _, rfl, .inl rfl, loc_q (q_convI rfl (by omega))⟩, ?_⟩ | refine ⟨_, .inr ⟨rfl, _, rfl, .inl rfl, loc_q (q_convU8 rfl)⟩, ?_⟩ | refine ⟨_, .inr ⟨rfl, _, rfl, .inl rfl, loc_q (q_conv rfl)⟩, ?_⟩
      first | refine ⟨_, .inr ⟨rfl, _, rfl, .inl rfl, loc_q (q_mov rfl)⟩, ?_⟩
      first | refine ⟨_, .inr ⟨rfl, _, rfl, .inl rfl, loc_q (q_mov rfl)⟩, ?_⟩
      first | refine ⟨_, .inr ⟨rfl, _, rfl, .inl rfl, loc_qe (r' := int ((p + 1 + 2 * i + 1 : Nat) : Int)) (q_ibin rfl rfl rfl) (by rw [wi (by omega) (by omega)]; rfl)⟩, ?_⟩
      first | refine ⟨_, .inr ⟨rfl, _, rfl, .inl rfl, loc_q (q_idxN rfl rfl (by first | assumption | omega))⟩, ?_⟩
      first | refine ⟨_, .inr ⟨rfl, _, rfl, .inl rfl, loc_q (q_convB rfl)⟩, ?_⟩ | refine ⟨_, .inr ⟨rfl, _, rfl, .inl rfl, loc_q (q_convI rfl (by omega))⟩, ?_⟩ | refine ⟨_, .inr ⟨rfl, _, rfl, .inl rfl, loc_q (q_convU8 rfl)⟩, ?_⟩ | refine ⟨_, .inr ⟨rfl, _, rfl, .inl rfl, loc_q (q_conv rfl)⟩, ?_⟩
      first | refine ⟨_, .inr ⟨rfl, _, rfl, .inl rfl, loc_q (q_build rfl)⟩, ?_⟩
      first | refine ⟨_, .inr ⟨rfl, _, rfl, .inl rfl, loc_bslice rfl⟩, ?_⟩
      refine ⟨⟨68, _, []⟩, .inl ⟨rfl, rfl, rfl, locl_app (n' := (l.take (i + 1)).length) (rs' := (l.take (i + 1)).map prRow) rfl rfl (by simp) rfl (fun _ _ h => src_osl (h _ _ rfl) (by simp)) (.inl (by decide)) (hbnd (by simp only [List.length_take]; omega) (by simp) (by decide)) (by simp only [List.drop_zero, Nat.min_self, List.length_take, List.length_cons, List.length_nil, Nat.min_eq_left (show i ≤ l.length by omega), Nat.min_eq_left (show i + 1 ≤ l.length by omega)]) ((congrArg (· ++ _) (List.take_of_length_le (by simp))).trans (take_pr e3))⟩, ?_⟩
      refine ⟨rfl, ?_⟩
      refine ax_q (q_ixB rfl rfl (by decide)) ?_
      refine ax_e (e_st rfl rfl rfl rfl rfl rfl rfl) ?_
      refine ax_nil ?_
      refine cx_keep rfl rfl ?_
      refine cx_ops ?_
      refine ax_q (q_mov rfl) ?_
      refine ax_q (q_add rfl rfl (by omega)) ?_
      refine ax_q (q_mov rfl) ?_
      refine ax_nil ?_
      refine cx_keep rfl rfl ?_
      refine cx_ops ?_
      refine ax_q (q_mov rfl) ?_
      refine ax_q (q_add rfl rfl (by omega)) ?_
      refine ax_q (q_mov rfl) ?_
      refine ax_nil ?_
      exact ⟨_, i + 1, by omega, ⟨by omega, rfl⟩, by repeat (first | exact trivial | refine ⟨rfl, ?_⟩ | refine ⟨?_, ?_⟩)⟩
     ·
      have h3 := dF h3
      obtain rfl : i = t[p].toNat := by omega
      have e4 : l.take t[p].toNat = l := List.take_of_length_le (by omega)
      rw [e4]
      refine cx_exit rfl ?_
      refine cx_keep rfl rfl ?_
      refine cx_ops ?_
      refine ax_q (q_mov rfl) ?_
      refine ax_q (q_add rfl rfl (by omega)) ?_
      refine ax_q (q_mov rfl) ?_
      refine ax_nil ?_
      exact ⟨_, (2, l1, l, p + 1 + 2 * t[p].toNat), by omega, ⟨rfl, ck_b2 hkk hl1 q1 q2 (by omega)⟩, by repeat (first | exact trivial | refine ⟨rfl, ?_⟩ | refine ⟨?_, ?_⟩)⟩
 ·
  have h0 := dF h0
  obtain ⟨rfl, hkk⟩ : k = 2 ∧ readX t = (l1, l2, decide (p = t.length)) := by
   rcases hk with ⟨h, _⟩ | ⟨h, _⟩ | h
   ·
    omega
   ·
    omega
   ·
    exact h
  refine cx_exit rfl ?_
  refine cx_keep rfl rfl ?_
  refine cx_seq ?_
  refine cx_draw ?_
  refine ax_q (q_mov rfl) ?_
  refine ax_q (q_ixB rfl rfl (by decide)) ?_
  refine ax_q (q_load1_ptr rfl rfl rfl) ?_
  refine ax_q (q_mov rfl) ?_
  refine ax_q (q_ixB rfl rfl (by decide)) ?_
  refine ax_q (q_load1_ptr rfl rfl rfl) ?_
  refine ax_q (q_mov rfl) ?_
  refine ax_q (q_mov rfl) ?_
  refine ax_q (q_lenT rfl) ?_
  refine ax_q (q_ibin rfl rfl rfl) ?_
  refine ax_q (q_mov rfl) ?_
  refine ax_q (q_mov rfl) ?_
  refine ax_q (q_mov rfl) ?_
  refine ax_nil ?_
  refine cx_keep rfl rfl ?_
  refine cx_wk (wk_frz 2 10 rfl rfl (.whole (by simp)) rfl) ?_
  refine cx_wk (wk_frz 3 11 rfl rfl (.whole (by simp)) rfl) ?_
  refine cx_ret (ret0 rfl rfl ?_)
  have e : decide ((p : Int) = (t.length : Int)) = decide (p = t.length) := by congr 1; exact propext (by omega)
  rw [hkk]; exact ⟨by rw [e]; rfl, rfl⟩


/- loop.example/g00332/spec.l04CheckOK -/
def k_c_l04CheckOK : XCode :=
 .seq (.ops [.op (some 1) (.box (.t 0)),
   .op (some 2) (.mov (.k (.bool false)))])
 (.keep [1] (.seq (.ops [.op (some 9) (.fadr (.t 1) 9),
   .op (some 10) (.load1 (.t 9)),
   .call (some 11) 30 [.t 10],
   .op (some 8) (.mov (.t 11)),
   .op (some 12) (.ext (.t 8) 0),
   .op (some 13) (.ext (.t 8) 1),
   .op (some 14) (.ext (.t 8) 2),
   .op (some 3) (.mov (.t 12)),
   .op (some 4) (.mov (.t 13)),
   .op (some 5) (.mov (.t 14))])
 (.keep [1, 3, 4, 5] (.seq (.seq (.ops [.op (some 15) (.mov (.t 5)),
   .op (some 16) (.not (.t 15)),
   .op (some 17) (.mov (.t 16)),
   .andor 21 false 2 17 [.op (some 18) (.mov (.t 3)), .op (some 19) (.lenS (.t 18)), .op (some 20) (.bin .gtr (.t 19) (.k (.int .i64 8)))] (.t 20),
   .op (some 22) (.mov (.t 21)),
   .andor 26 false 7 22 [.op (some 23) (.mov (.t 4)), .op (some 24) (.lenS (.t 23)), .op (some 25) (.bin .gtr (.t 24) (.k (.int .i64 10)))] (.t 25)])
  (.keep [1, 3, 4, 26] (.cond (.t 26)
  (.seq (.ops [.op (some 2) (.mov (.k (.bool false)))])
   (.keep [2] (.ret)))
  (.skip))))
 (.keep [1, 3, 4] (.seq (.seq (.ops [.op (some 6) (.mov (.k (.int .i64 0)))])
  (.keep [1, 3, 4, 6] (.block 0 (.loop (.seq (.seq (.ops [.op (some 27) (.mov (.t 6)),
     .op (some 28) (.mov (.t 3)),
     .op (some 29) (.lenS (.t 28)),
     .op (some 30) (.bin .lss (.t 27) (.t 29))])
   (.keep [1, 3, 4, 6, 30] (.cond (.t 30)
    (.skip)
    (.exit 0))))
   (.keep [1, 3, 4, 6] (.seq (.block 1 (.seq (.draw [.op (some 33) (.mov (.t 3)),
     .op (some 34) (.mov (.t 6)),
     .op (some 35) (.iadr 2 (.t 33) (.t 34)),
     .op (some 36) (.iadrA 1 2 (.t 35) (.k (.int .i64 0))),
     .op (some 37) (.load1 (.t 36)),
     .call (some 38) 28 [.t 37, .k (.int .i64 0), .k (.int .i64 7)],
     .op (some 39) (.not (.t 38)),
     .op (some 40) (.mov (.t 39)),
     .andor 51 false 7 40 [.op (some 41) (.mov (.t 3)), .op (some 42) (.mov (.t 6)), .op (some 43) (.iadr 2 (.t 41) (.t 42)), .op (some 44) (.iadrA 1 2 (.t 43) (.k (.int .i64 1))), .op (some 45) (.load1 (.t 44)), .op (some 46) (.fadr (.t 1) 1), .op (some 47) (.load1 (.t 46)), .op (some 48) (.bin .sub (.t 47) (.k (.int .i64 1))), .call (some 49) 28 [.t 45, .k (.int .i64 1), .t 48], .op (some 50) (.not (.t 49))] (.t 50),
     .op (some 52) (.mov (.t 51)),
     .andor 69 false 19 52 [.op (some 53) (.mov (.t 6)), .op (some 54) (.bin .gtr (.t 53) (.k (.int .i64 0))), .op (some 55) (.mov (.t 54)), .andor 68 true 22 55 [.op (some 56) (.mov (.t 3)), .op (some 57) (.mov (.t 6)), .op (some 58) (.bin .sub (.t 57) (.k (.int .i64 1))), .op (some 59) (.iadr 2 (.t 56) (.t 58)), .op (some 60) (.iadrA 1 2 (.t 59) (.k (.int .i64 0))), .op (some 61) (.load1 (.t 60)), .op (some 62) (.mov (.t 3)), .op (some 63) (.mov (.t 6)), .op (some 64) (.iadr 2 (.t 62) (.t 63)), .op (some 65) (.iadrA 1 2 (.t 64) (.k (.int .i64 0))), .op (some 66) (.load1 (.t 65)), .op (some 67) (.bin .geq (.t 61) (.t 66))] (.t 67)] (.t 68)])
    (.keep [1, 3, 4, 6, 69] (.cond (.t 69)
    (.seq (.ops [.op (some 2) (.mov (.k (.bool false)))])
     (.keep [2] (.ret)))
    (.skip)))))
   (.keep [1, 3, 4, 6] (.ops [.op (some 31) (.mov (.t 6)),
    .op (some 32) (.bin .add (.t 31) (.k (.int .i64 1))),
    .op (some 6) (.mov (.t 32))])))))))))
 (.keep [1, 4] (.seq (.seq (.ops [.op (some 7) (.mov (.k (.int .i64 0)))])
  (.keep [1, 4, 7] (.block 2 (.loop (.seq (.seq (.ops [.op (some 70) (.mov (.t 7)),
     .op (some 71) (.mov (.t 4)),
     .op (some 72) (.lenS (.t 71)),
     .op (some 73) (.bin .lss (.t 70) (.t 72))])
   (.keep [1, 4, 7, 73] (.cond (.t 73)
    (.skip)
    (.exit 2))))
   (.keep [1, 4, 7] (.seq (.block 3 (.seq (.draw [.op (some 76) (.mov (.t 4)),
     .op (some 77) (.mov (.t 7)),
     .op (some 78) (.iadr 2 (.t 76) (.t 77)),
     .op (some 79) (.iadrA 1 2 (.t 78) (.k (.int .i64 0))),
     .op (some 80) (.load1 (.t 79)),
     .call (some 81) 28 [.t 80, .k (.int .i64 1), .k (.int .i64 60)],
     .op (some 82) (.not (.t 81)),
     .op (some 83) (.mov (.t 82)),
     .andor 94 false 7 83 [.op (some 84) (.mov (.t 4)), .op (some 85) (.mov (.t 7)), .op (some 86) (.iadr 2 (.t 84) (.t 85)), .op (some 87) (.iadrA 1 2 (.t 86) (.k (.int .i64 1))), .op (some 88) (.load1 (.t 87)), .op (some 89) (.fadr (.t 1) 1), .op (some 90) (.load1 (.t 89)), .op (some 91) (.bin .sub (.t 90) (.k (.int .i64 1))), .call (some 92) 28 [.t 88, .k (.int .i64 1), .t 91], .op (some 93) (.not (.t 92))] (.t 93),
     .op (some 95) (.mov (.t 94)),
     .andor 112 false 19 95 [.op (some 96) (.mov (.t 7)), .op (some 97) (.bin .gtr (.t 96) (.k (.int .i64 0))), .op (some 98) (.mov (.t 97)), .andor 111 true 22 98 [.op (some 99) (.mov (.t 4)), .op (some 100) (.mov (.t 7)), .op (some 101) (.bin .sub (.t 100) (.k (.int .i64 1))), .op (some 102) (.iadr 2 (.t 99) (.t 101)), .op (some 103) (.iadrA 1 2 (.t 102) (.k (.int .i64 0))), .op (some 104) (.load1 (.t 103)), .op (some 105) (.mov (.t 4)), .op (some 106) (.mov (.t 7)), .op (some 107) (.iadr 2 (.t 105) (.t 106)), .op (some 108) (.iadrA 1 2 (.t 107) (.k (.int .i64 0))), .op (some 109) (.load1 (.t 108)), .op (some 110) (.bin .geq (.t 104) (.t 109))] (.t 110)] (.t 111)])
    (.keep [1, 4, 7, 112] (.cond (.t 112)
    (.seq (.ops [.op (some 2) (.mov (.k (.bool false)))])
     (.keep [2] (.ret)))
    (.skip)))))
   (.keep [1, 4, 7] (.ops [.op (some 74) (.mov (.t 7)),
    .op (some 75) (.bin .add (.t 74) (.k (.int .i64 1))),
    .op (some 7) (.mov (.t 75))])))))))))
 (.keep [] (.seq (.ops [.op (some 2) (.mov (.k (.bool true)))])
 (.keep [2] (.ret))))))))))))
theorem k_c_l04CheckOK_fits : fitsF Try.prog 29 ⟨113, k_c_l04CheckOK, [.t 2]⟩ = true := by kernel_rfl
set_option maxHeartbeats 4000000 in
theorem c_l04CheckOK {x : GLogRecord} (hl : x.After.length ≤ 1048576) (hm : 1 ≤ x.Lsn ∧ x.Lsn ≤ 60) : Con Try.prog noMv 29 [x.av] [] (fun r h => r = bool (checkOK x.After x.Lsn) ∧ h = []) := by
 refine con_of2 k_c_l04CheckOK_fits rfl fun C hP hmv => ?_
 unfold k_c_l04CheckOK
 refine cx_seq ?_
 refine cx_ops ?_
 refine ax_e (e_box rfl rfl (by decide) rfl rfl rfl) ?_
 refine ax_q (q_mov rfl) ?_
 refine ax_nil ?_
 refine cx_keep rfl rfl ?_
 refine cx_seq ?_
 refine cx_ops ?_
 refine ax_q (q_fadr_ptr rfl) ?_
 refine ax_q (q_load1_ptr rfl rfl rfl) ?_
 first | refine ax_call rfl (vc_pure0 (c_l04ReadCheck (t := x.After) ?_) hP rfl rfl ?_) | refine ax_call rfl (vc_lend0 (c_l04ReadCheck (t := x.After) ?_) hP (by repeat (first | exact lal_id _ rfl | exact LAL.nil | refine LAL.cons ?_ ?_ | exact la_id _ rfl | exact LA.lend (lend_whole rfl (by first | (simp; done) | (rw [List.length_map]; rfl))) | refine LA.agg ?_ | refine LA.fn ?_ | refine LA.lend ?_ | exact Lend.d _ | exact Lend.zs _ | exact lend_whole rfl (by first | (simp; done) | (rw [List.length_map]; rfl)) | refine Lend.ptr rfl ?_ | refine Lend.fn ?_ | exact LendL.nil | refine LendL.cons ?_ ?_)) rfl rfl ?_)
 ·
  first | assumption | omega | (simp; done) | (simp; omega)
 have hl12 := @readX_len x.After
 refine ax_q (q_mov rfl) ?_
 refine ax_q (q_ext rfl rfl) ?_
 refine ax_q (q_ext rfl rfl) ?_
 refine ax_q (q_ext rfl rfl) ?_
 refine ax_q (q_mov rfl) ?_
 refine ax_q (q_mov rfl) ?_
 refine ax_q (q_mov rfl) ?_
 refine ax_nil ?_
 refine cx_keep rfl rfl ?_
 refine cx_seq ?_
 refine cx_seq ?_
 refine cx_ops ?_
 refine ax_q (q_mov rfl) ?_
 refine ax_q (q_not rfl) ?_
 refine ax_q (q_mov rfl) ?_
 apply ax_or rfl rfl
 ·
  intro g
  have g := bF g
  refine ax_q (q_mov rfl) ?_
  first | refine ax_q (q_lenS_map rfl) ?_ | refine ax_q (q_lenS_osl rfl) ?_ | refine ax_q (q_lenS_zs rfl) ?_ | refine ax_q (q_lenS rfl) ?_
  refine ax_q (q_ibin rfl rfl rfl) ?_
  exact ax_nil ⟨rfl, by repeat (first | exact trivial | refine ⟨rfl, ?_⟩ | refine ⟨?_, ?_⟩)⟩
 refine ax_q (q_mov rfl) ?_
 apply ax_or rfl rfl
 ·
  intro g
  have g := (fun h => And.intro (bF (or_F h).1) (dF (or_F h).2)) g
  refine ax_q (q_mov rfl) ?_
  first | refine ax_q (q_lenS_map rfl) ?_ | refine ax_q (q_lenS_osl rfl) ?_ | refine ax_q (q_lenS_zs rfl) ?_ | refine ax_q (q_lenS rfl) ?_
  refine ax_q (q_ibin rfl rfl rfl) ?_
  exact ax_nil ⟨rfl, by repeat (first | exact trivial | refine ⟨rfl, ?_⟩ | refine ⟨?_, ?_⟩)⟩
 refine ax_nil ?_
 refine cx_keep rfl rfl ?_
 refine cx_cond rfl (fun h0 => ?_) (fun h0 => ?_)
 ·
  have h0 : badX (readX x.After) = true := h0
  refine cx_seq ?_
  refine cx_ops ?_
  refine ax_q (q_mov rfl) ?_
  refine ax_nil ?_
  refine cx_keep rfl rfl ?_
  refine cx_ret (ret0 rfl rfl ?_)
  exact ⟨by rw [checkX, h0]; rfl, rfl⟩
 ·
  have h0 : badX (readX x.After) = false := h0
  refine cx_skip ?_
  refine cx_keep rfl rfl ?_
  refine cx_seq ?_
  refine cx_seq ?_
  refine cx_ops ?_
  refine ax_q (q_mov rfl) ?_
  refine ax_nil ?_
  refine cx_keep rfl rfl ?_
  refine cx_block ?_
  refine cx_loopU (fun m k => k ≤ (readX x.After).1.length ∧ m = (readX x.After).1.length - k ∧ checkOK x.After x.Lsn = (okL 7 x.Lsn ((readX x.After).1.drop k) (prevP (readX x.After).1 (-1) k) && okL 60 x.Lsn (readX x.After).2.1 0)) (fun k : Nat => [(6, int k)]) (fun _ => [(1, .box (x.row.map .d))]) ⟨_, 0, ⟨Nat.zero_le _, rfl, by rw [checkX, h0]; rfl⟩, by repeat (first | exact trivial | refine ⟨rfl, ?_⟩ | refine ⟨?_, ?_⟩)⟩ ?_
  rintro m k ⟨hk, rfl, hc⟩
  refine cx_seq ?_
  refine cx_seq ?_
  refine cx_ops ?_
  refine ax_q (q_mov rfl) ?_
  refine ax_q (q_mov rfl) ?_
  first | refine ax_q (q_lenS_map rfl) ?_ | refine ax_q (q_lenS_osl rfl) ?_ | refine ax_q (q_lenS_zs rfl) ?_ | refine ax_q (q_lenS rfl) ?_
  refine ax_q (q_ibin rfl rfl rfl) ?_
  refine ax_nil ?_
  refine cx_keep rfl rfl ?_
  refine cx_cond rfl (fun h1 => ?_) (fun h1 => ?_)
  ·
   have h1 := dT h1
   have hkx : k < (readX x.After).1.length := by omega
   refine cx_skip ?_
   refine cx_keep rfl rfl ?_
   refine cx_seq ?_
   refine cx_block ?_
   refine cx_seq ?_
   refine cx_draw ?_
   refine ax_q (q_mov rfl) ?_
   refine ax_q (q_mov rfl) ?_
   refine ax_q (q_ix rfl rfl (mapAt hkx)) ?_
   refine ax_q (q_iadrI rfl rfl (by decide) (by decide)) ?_
   first | refine ax_q (q_load1_ptr rfl rfl rfl) ?_ | refine ax_q (q_load1_ip rfl) ?_ | refine ax_q (q_load1_rptr rfl rfl rfl rfl) ?_ | refine ax_q (q_load1_rptr rfl rfl (by assumption) rfl) ?_ | refine ax_q (q_load1_rptr rfl rfl (mapAt (by first | assumption | omega)) rfl) ?_
   first | refine ax_callq rfl (c_l01In  ) hP (lal_id _ rfl) rfl ?_ | refine ax_callq rfl (c_l01In  ) hP (by repeat (first | exact lal_id _ rfl | exact LAL.nil | refine LAL.cons ?_ ?_ | exact la_id _ rfl | exact LA.lend (lend_whole rfl (by first | (simp; done) | (rw [List.length_map]; rfl))) | refine LA.agg ?_ | refine LA.fn ?_ | refine LA.lend ?_ | exact Lend.d _ | exact Lend.zs _ | exact lend_whole rfl (by first | (simp; done) | (rw [List.length_map]; rfl)) | refine Lend.ptr rfl ?_ | refine Lend.fn ?_ | exact LendL.nil | refine LendL.cons ?_ ?_)) rfl ?_
   refine ax_q (q_not rfl) ?_
   refine ax_q (q_mov rfl) ?_
   apply ax_or rfl rfl
   ·
    intro g
    have g := bF g
    refine ax_q (q_mov rfl) ?_
    refine ax_q (q_mov rfl) ?_
    refine ax_q (q_ix rfl rfl (mapAt hkx)) ?_
    refine ax_q (q_iadrI rfl rfl (by decide) (by decide)) ?_
    first | refine ax_q (q_load1_ptr rfl rfl rfl) ?_ | refine ax_q (q_load1_ip rfl) ?_ | refine ax_q (q_load1_rptr rfl rfl rfl rfl) ?_ | refine ax_q (q_load1_rptr rfl rfl (by assumption) rfl) ?_ | refine ax_q (q_load1_rptr rfl rfl (mapAt (by first | assumption | omega)) rfl) ?_
    refine ax_q (q_fadr_ptr rfl) ?_
    refine ax_q (q_load1_ptr rfl rfl rfl) ?_
    refine ax_qe (r' := int (x.Lsn - 1)) (q_ibin rfl rfl rfl) (by rw [wi (by omega) (by omega)]) ?_
    first | refine ax_callq rfl (c_l01In  ) hP (lal_id _ rfl) rfl ?_ | refine ax_callq rfl (c_l01In  ) hP (by repeat (first | exact lal_id _ rfl | exact LAL.nil | refine LAL.cons ?_ ?_ | exact la_id _ rfl | exact LA.lend (lend_whole rfl (by first | (simp; done) | (rw [List.length_map]; rfl))) | refine LA.agg ?_ | refine LA.fn ?_ | refine LA.lend ?_ | exact Lend.d _ | exact Lend.zs _ | exact lend_whole rfl (by first | (simp; done) | (rw [List.length_map]; rfl)) | refine Lend.ptr rfl ?_ | refine Lend.fn ?_ | exact LendL.nil | refine LendL.cons ?_ ?_)) rfl ?_
    refine ax_q (q_not rfl) ?_
    exact ax_nil ⟨rfl, by repeat (first | exact trivial | refine ⟨rfl, ?_⟩ | refine ⟨?_, ?_⟩)⟩
   refine ax_q (q_mov rfl) ?_
   apply ax_or rfl rfl
   ·
    intro g
    have g := (fun h => And.intro (bF (or_F h).1) (bF (or_F h).2)) g
    refine ax_q (q_mov rfl) ?_
    refine ax_q (q_ibin rfl rfl rfl) ?_
    refine ax_q (q_mov rfl) ?_
    apply ax_and rfl rfl
    ·
     intro g
     have g := dT g
     refine ax_q (q_mov rfl) ?_
     refine ax_q (q_mov rfl) ?_
     refine ax_qe (r' := int ((k - 1 : Nat) : Int)) (q_ibin rfl rfl rfl) (by rw [wi (by omega) (by omega)]; exact congrArg AM.int (by omega)) ?_
     refine ax_q (q_ix rfl rfl (mapAt (Nat.lt_of_le_of_lt (Nat.sub_le k 1) hkx))) ?_
     refine ax_q (q_iadrI rfl rfl (by decide) (by decide)) ?_
     first | refine ax_q (q_load1_ptr rfl rfl rfl) ?_ | refine ax_q (q_load1_ip rfl) ?_ | refine ax_q (q_load1_rptr rfl rfl rfl rfl) ?_ | refine ax_q (q_load1_rptr rfl rfl (by assumption) rfl) ?_ | refine ax_q (q_load1_rptr rfl rfl (mapAt (by first | assumption | omega)) rfl) ?_
     refine ax_q (q_mov rfl) ?_
     refine ax_q (q_mov rfl) ?_
     refine ax_q (q_ix rfl rfl (mapAt hkx)) ?_
     refine ax_q (q_iadrI rfl rfl (by decide) (by decide)) ?_
     first | refine ax_q (q_load1_ptr rfl rfl rfl) ?_ | refine ax_q (q_load1_ip rfl) ?_ | refine ax_q (q_load1_rptr rfl rfl rfl rfl) ?_ | refine ax_q (q_load1_rptr rfl rfl (by assumption) rfl) ?_ | refine ax_q (q_load1_rptr rfl rfl (mapAt (by first | assumption | omega)) rfl) ?_
     refine ax_q (q_ibin rfl rfl rfl) ?_
     exact ax_nil ⟨rfl, by repeat (first | exact trivial | refine ⟨rfl, ?_⟩ | refine ⟨?_, ?_⟩)⟩
    exact ax_nil ⟨rfl, by repeat (first | exact trivial | refine ⟨rfl, ?_⟩ | refine ⟨?_, ?_⟩)⟩
   refine ax_nil ?_
   refine cx_keep rfl rfl ?_
   refine cx_cond rfl (fun h2 => ?_) (fun h2 => ?_)
   ·
    have h2 : badPr 0 7 x.Lsn (readX x.After).1 k hkx = true := h2
    refine cx_seq ?_
    refine cx_ops ?_
    refine ax_q (q_mov rfl) ?_
    refine ax_nil ?_
    refine cx_keep rfl rfl ?_
    refine cx_ret (ret0 rfl rfl ?_)
    exact ⟨by rw [hc, okL_step hkx (by decide), show badPr ((-1) + 1) 7 x.Lsn (readX x.After).1 k hkx = true from h2]; rfl, rfl⟩
   ·
    have h2 : badPr 0 7 x.Lsn (readX x.After).1 k hkx = false := h2
    refine cx_skip ?_
    refine cx_keep rfl rfl ?_
    refine cx_ops ?_
    refine ax_q (q_mov rfl) ?_
    refine ax_qe (r' := int ((k + 1 : Nat) : Int)) (q_ibin rfl rfl rfl) (by rw [wi (by omega) (by omega)]; rfl) ?_
    refine ax_q (q_mov rfl) ?_
    refine ax_nil ?_
    exact ⟨_, k + 1, by omega, ⟨by omega, rfl, by rw [hc, okL_step hkx (by decide), show badPr ((-1) + 1) 7 x.Lsn (readX x.After).1 k hkx = false from h2, Bool.not_false, Bool.true_and]⟩, by repeat (first | exact trivial | refine ⟨rfl, ?_⟩ | refine ⟨?_, ?_⟩)⟩
  ·
   have h1 := dF h1
   obtain rfl : k = (readX x.After).1.length := by omega
   refine cx_exit rfl ?_
   refine cx_keep rfl rfl ?_
   refine cx_seq ?_
   refine cx_seq ?_
   refine cx_ops ?_
   refine ax_q (q_mov rfl) ?_
   refine ax_nil ?_
   refine cx_keep rfl rfl ?_
   refine cx_block ?_
   refine cx_loopU (fun m k => k ≤ (readX x.After).2.1.length ∧ m = (readX x.After).2.1.length - k ∧ checkOK x.After x.Lsn = (okL 60 x.Lsn ((readX x.After).2.1.drop k) (prevP (readX x.After).2.1 0 k))) (fun k : Nat => [(7, int k)]) (fun _ => [(1, .box (x.row.map .d))]) ⟨_, 0, ⟨Nat.zero_le _, rfl, by rw [hc, okL_end]; rfl⟩, by repeat (first | exact trivial | refine ⟨rfl, ?_⟩ | refine ⟨?_, ?_⟩)⟩ ?_
   rintro m k ⟨hk, rfl, hc⟩
   refine cx_seq ?_
   refine cx_seq ?_
   refine cx_ops ?_
   refine ax_q (q_mov rfl) ?_
   refine ax_q (q_mov rfl) ?_
   first | refine ax_q (q_lenS_map rfl) ?_ | refine ax_q (q_lenS_osl rfl) ?_ | refine ax_q (q_lenS_zs rfl) ?_ | refine ax_q (q_lenS rfl) ?_
   refine ax_q (q_ibin rfl rfl rfl) ?_
   refine ax_nil ?_
   refine cx_keep rfl rfl ?_
   refine cx_cond rfl (fun h3 => ?_) (fun h3 => ?_)
   ·
    have h3 := dT h3
    have hkx : k < (readX x.After).2.1.length := by omega
    refine cx_skip ?_
    refine cx_keep rfl rfl ?_
    refine cx_seq ?_
    refine cx_block ?_
    refine cx_seq ?_
    refine cx_draw ?_
    refine ax_q (q_mov rfl) ?_
    refine ax_q (q_mov rfl) ?_
    refine ax_q (q_ix rfl rfl (mapAt hkx)) ?_
    refine ax_q (q_iadrI rfl rfl (by decide) (by decide)) ?_
    first | refine ax_q (q_load1_ptr rfl rfl rfl) ?_ | refine ax_q (q_load1_ip rfl) ?_ | refine ax_q (q_load1_rptr rfl rfl rfl rfl) ?_ | refine ax_q (q_load1_rptr rfl rfl (by assumption) rfl) ?_ | refine ax_q (q_load1_rptr rfl rfl (mapAt (by first | assumption | omega)) rfl) ?_
    first | refine ax_callq rfl (c_l01In  ) hP (lal_id _ rfl) rfl ?_ | refine ax_callq rfl (c_l01In  ) hP (by repeat (first | exact lal_id _ rfl | exact LAL.nil | refine LAL.cons ?_ ?_ | exact la_id _ rfl | exact LA.lend (lend_whole rfl (by first | (simp; done) | (rw [List.length_map]; rfl))) | refine LA.agg ?_ | refine LA.fn ?_ | refine LA.lend ?_ | exact Lend.d _ | exact Lend.zs _ | exact lend_whole rfl (by first | (simp; done) | (rw [List.length_map]; rfl)) | refine Lend.ptr rfl ?_ | refine Lend.fn ?_ | exact LendL.nil | refine LendL.cons ?_ ?_)) rfl ?_
    refine ax_q (q_not rfl) ?_
    refine ax_q (q_mov rfl) ?_
    apply ax_or rfl rfl
    ·
     intro g
     have g := bF g
     refine ax_q (q_mov rfl) ?_
     refine ax_q (q_mov rfl) ?_
     refine ax_q (q_ix rfl rfl (mapAt hkx)) ?_
     refine ax_q (q_iadrI rfl rfl (by decide) (by decide)) ?_
     first | refine ax_q (q_load1_ptr rfl rfl rfl) ?_ | refine ax_q (q_load1_ip rfl) ?_ | refine ax_q (q_load1_rptr rfl rfl rfl rfl) ?_ | refine ax_q (q_load1_rptr rfl rfl (by assumption) rfl) ?_ | refine ax_q (q_load1_rptr rfl rfl (mapAt (by first | assumption | omega)) rfl) ?_
     refine ax_q (q_fadr_ptr rfl) ?_
     refine ax_q (q_load1_ptr rfl rfl rfl) ?_
     refine ax_qe (r' := int (x.Lsn - 1)) (q_ibin rfl rfl rfl) (by rw [wi (by omega) (by omega)]) ?_
     first | refine ax_callq rfl (c_l01In  ) hP (lal_id _ rfl) rfl ?_ | refine ax_callq rfl (c_l01In  ) hP (by repeat (first | exact lal_id _ rfl | exact LAL.nil | refine LAL.cons ?_ ?_ | exact la_id _ rfl | exact LA.lend (lend_whole rfl (by first | (simp; done) | (rw [List.length_map]; rfl))) | refine LA.agg ?_ | refine LA.fn ?_ | refine LA.lend ?_ | exact Lend.d _ | exact Lend.zs _ | exact lend_whole rfl (by first | (simp; done) | (rw [List.length_map]; rfl)) | refine Lend.ptr rfl ?_ | refine Lend.fn ?_ | exact LendL.nil | refine LendL.cons ?_ ?_)) rfl ?_
     refine ax_q (q_not rfl) ?_
     exact ax_nil ⟨rfl, by repeat (first | exact trivial | refine ⟨rfl, ?_⟩ | refine ⟨?_, ?_⟩)⟩
    refine ax_q (q_mov rfl) ?_
    apply ax_or rfl rfl
    ·
     intro g
     have g := (fun h => And.intro (bF (or_F h).1) (bF (or_F h).2)) g
     refine ax_q (q_mov rfl) ?_
     refine ax_q (q_ibin rfl rfl rfl) ?_
     refine ax_q (q_mov rfl) ?_
     apply ax_and rfl rfl
     ·
      intro g
      have g := dT g
      refine ax_q (q_mov rfl) ?_
      refine ax_q (q_mov rfl) ?_
      refine ax_qe (r' := int ((k - 1 : Nat) : Int)) (q_ibin rfl rfl rfl) (by rw [wi (by omega) (by omega)]; exact congrArg AM.int (by omega)) ?_
      refine ax_q (q_ix rfl rfl (mapAt (Nat.lt_of_le_of_lt (Nat.sub_le k 1) hkx))) ?_
      refine ax_q (q_iadrI rfl rfl (by decide) (by decide)) ?_
      first | refine ax_q (q_load1_ptr rfl rfl rfl) ?_ | refine ax_q (q_load1_ip rfl) ?_ | refine ax_q (q_load1_rptr rfl rfl rfl rfl) ?_ | refine ax_q (q_load1_rptr rfl rfl (by assumption) rfl) ?_ | refine ax_q (q_load1_rptr rfl rfl (mapAt (by first | assumption | omega)) rfl) ?_
      refine ax_q (q_mov rfl) ?_
      refine ax_q (q_mov rfl) ?_
      refine ax_q (q_ix rfl rfl (mapAt hkx)) ?_
      refine ax_q (q_iadrI rfl rfl (by decide) (by decide)) ?_
      first | refine ax_q (q_load1_ptr rfl rfl rfl) ?_ | refine ax_q (q_load1_ip rfl) ?_ | refine ax_q (q_load1_rptr rfl rfl rfl rfl) ?_ | refine ax_q (q_load1_rptr rfl rfl (by assumption) rfl) ?_ | refine ax_q (q_load1_rptr rfl rfl (mapAt (by first | assumption | omega)) rfl) ?_
      refine ax_q (q_ibin rfl rfl rfl) ?_
      exact ax_nil ⟨rfl, by repeat (first | exact trivial | refine ⟨rfl, ?_⟩ | refine ⟨?_, ?_⟩)⟩
     exact ax_nil ⟨rfl, by repeat (first | exact trivial | refine ⟨rfl, ?_⟩ | refine ⟨?_, ?_⟩)⟩
    refine ax_nil ?_
    refine cx_keep rfl rfl ?_
    refine cx_cond rfl (fun h4 => ?_) (fun h4 => ?_)
    ·
     have h4 : badPr 1 60 x.Lsn (readX x.After).2.1 k hkx = true := h4
     refine cx_seq ?_
     refine cx_ops ?_
     refine ax_q (q_mov rfl) ?_
     refine ax_nil ?_
     refine cx_keep rfl rfl ?_
     refine cx_ret (ret0 rfl rfl ?_)
     exact ⟨by rw [hc, okL_step hkx (by decide), show badPr (0 + 1) 60 x.Lsn (readX x.After).2.1 k hkx = true from h4]; rfl, rfl⟩
    ·
     have h4 : badPr 1 60 x.Lsn (readX x.After).2.1 k hkx = false := h4
     refine cx_skip ?_
     refine cx_keep rfl rfl ?_
     refine cx_ops ?_
     refine ax_q (q_mov rfl) ?_
     refine ax_qe (r' := int ((k + 1 : Nat) : Int)) (q_ibin rfl rfl rfl) (by rw [wi (by omega) (by omega)]; rfl) ?_
     refine ax_q (q_mov rfl) ?_
     refine ax_nil ?_
     exact ⟨_, k + 1, by omega, ⟨by omega, rfl, by rw [hc, okL_step hkx (by decide), show badPr (0 + 1) 60 x.Lsn (readX x.After).2.1 k hkx = false from h4, Bool.not_false, Bool.true_and]⟩, by repeat (first | exact trivial | refine ⟨rfl, ?_⟩ | refine ⟨?_, ?_⟩)⟩
   ·
    have h3 := dF h3
    obtain rfl : k = (readX x.After).2.1.length := by omega
    refine cx_exit rfl ?_
    refine cx_keep rfl rfl ?_
    refine cx_seq ?_
    refine cx_ops ?_
    refine ax_q (q_mov rfl) ?_
    refine ax_nil ?_
    refine cx_keep rfl rfl ?_
    refine cx_ret (ret0 rfl rfl ?_)
    exact ⟨by rw [hc, okL_end]; rfl, rfl⟩


/- loop.example/g00332/spec.RecordOK -/
def k_c_sRecordOK : XCode :=
 .seq (.ops [.op (some 1) (.box (.t 0)),
   .op (some 2) (.mov (.k (.bool false)))])
 (.keep [1] (.seq (.seq (.ops [.op (some 4) (.fadr (.t 1) 0),
   .op (some 5) (.load1 (.t 4)),
   .call (some 6) 28 [.t 5, .k (.int .i64 1), .k (.int .i64 60)],
   .op (some 7) (.not (.t 6)),
   .op (some 8) (.mov (.t 7)),
   .andor 13 false 4 8 [.op (some 9) (.fadr (.t 1) 1), .op (some 10) (.load1 (.t 9)), .call (some 11) 28 [.t 10, .k (.int .i64 1), .k (.int .i64 60)], .op (some 12) (.not (.t 11))] (.t 12),
   .op (some 14) (.mov (.t 13)),
   .andor 19 false 10 14 [.op (some 15) (.fadr (.t 1) 3), .op (some 16) (.load1 (.t 15)), .call (some 17) 28 [.t 16, .k (.int .i64 1), .k (.int .i64 6)], .op (some 18) (.not (.t 17))] (.t 18),
   .op (some 20) (.mov (.t 19)),
   .andor 28 false 16 20 [.op (some 21) (.fadr (.t 1) 4), .op (some 22) (.load1 (.t 21)), .op (some 23) (.fadr (.t 1) 1), .op (some 24) (.load1 (.t 23)), .op (some 25) (.bin .sub (.t 24) (.k (.int .i64 1))), .call (some 26) 28 [.t 22, .k (.int .i64 0), .t 25], .op (some 27) (.not (.t 26))] (.t 27),
   .op (some 29) (.mov (.t 28)),
   .andor 37 false 25 29 [.op (some 30) (.fadr (.t 1) 5), .op (some 31) (.load1 (.t 30)), .op (some 32) (.fadr (.t 1) 1), .op (some 33) (.load1 (.t 32)), .op (some 34) (.bin .sub (.t 33) (.k (.int .i64 1))), .call (some 35) 28 [.t 31, .k (.int .i64 0), .t 34], .op (some 36) (.not (.t 35))] (.t 36),
   .op (some 38) (.mov (.t 37)),
   .andor 43 false 34 38 [.op (some 39) (.fadr (.t 1) 6), .op (some 40) (.load1 (.t 39)), .call (some 41) 28 [.t 40, .k (.int .i64 0), .k (.int .i64 7)], .op (some 42) (.not (.t 41))] (.t 42),
   .op (some 44) (.mov (.t 43)),
   .andor 49 false 40 44 [.op (some 45) (.fadr (.t 1) 7), .op (some 46) (.load1 (.t 45)), .call (some 47) 28 [.t 46, .k (.int .i64 0), .k (.int .i64 3)], .op (some 48) (.not (.t 47))] (.t 48),
   .op (some 50) (.mov (.t 49)),
   .andor 55 false 46 50 [.op (some 51) (.fadr (.t 1) 8), .op (some 52) (.load1 (.t 51)), .op (some 53) (.lenT (.t 52)), .op (some 54) (.bin .gtr (.t 53) (.k (.int .i64 30)))] (.t 54)])
  (.keep [1, 55] (.cond (.t 55)
  (.seq (.ops [.op (some 2) (.mov (.k (.bool false)))])
   (.keep [2] (.ret)))
  (.skip))))
 (.keep [1] (.seq (.seq (.ops [.op (some 56) (.fadr (.t 1) 3),
   .op (some 57) (.load1 (.t 56)),
   .op (some 58) (.bin .eql (.t 57) (.k (.int .i64 6)))])
  (.keep [1, 58] (.cond (.t 58)
  (.seq (.ops [.op (some 59) (.fadr (.t 1) 2),
    .op (some 60) (.load1 (.t 59)),
    .op (some 61) (.bin .eql (.t 60) (.k (.int .i64 0))),
    .op (some 62) (.mov (.t 61)),
    .andor 66 true 3 62 [.op (some 63) (.fadr (.t 1) 4), .op (some 64) (.load1 (.t 63)), .op (some 65) (.bin .eql (.t 64) (.k (.int .i64 0)))] (.t 65),
    .op (some 67) (.mov (.t 66)),
    .andor 71 true 8 67 [.op (some 68) (.fadr (.t 1) 5), .op (some 69) (.load1 (.t 68)), .op (some 70) (.bin .eql (.t 69) (.k (.int .i64 0)))] (.t 70),
    .op (some 72) (.mov (.t 71)),
    .andor 76 true 13 72 [.op (some 73) (.fadr (.t 1) 6), .op (some 74) (.load1 (.t 73)), .op (some 75) (.bin .eql (.t 74) (.k (.int .i64 0)))] (.t 75),
    .op (some 77) (.mov (.t 76)),
    .andor 81 true 18 77 [.op (some 78) (.fadr (.t 1) 7), .op (some 79) (.load1 (.t 78)), .op (some 80) (.bin .eql (.t 79) (.k (.int .i64 0)))] (.t 80),
    .op (some 82) (.mov (.t 81)),
    .andor 86 true 23 82 [.op (some 83) (.fadr (.t 1) 8), .op (some 84) (.load1 (.t 83)), .op (some 85) (.bin .eql (.t 84) (.k (.str [])))] (.t 85),
    .op (some 87) (.mov (.t 86)),
    .andor 90 true 28 87 [.op (some 88) (.loadN 10 (.t 1)), .call (some 89) 29 [.t 88]] (.t 89),
    .op (some 2) (.mov (.t 90))])
   (.keep [2] (.ret)))
  (.skip))))
 (.keep [1] (.seq (.seq (.ops [.op (some 91) (.fadr (.t 1) 2),
   .op (some 92) (.load1 (.t 91)),
   .call (some 93) 28 [.t 92, .k (.int .i64 1), .k (.int .i64 60)],
   .op (some 94) (.not (.t 93)),
   .op (some 95) (.mov (.t 94)),
   .andor 100 false 4 95 [.op (some 96) (.fadr (.t 1) 9), .op (some 97) (.load1 (.t 96)), .op (some 98) (.lenT (.t 97)), .op (some 99) (.bin .gtr (.t 98) (.k (.int .i64 30)))] (.t 99)])
  (.keep [1, 100] (.cond (.t 100)
  (.seq (.ops [.op (some 2) (.mov (.k (.bool false)))])
   (.keep [2] (.ret)))
  (.skip))))
 (.keep [1] (.seq (.ops [.op (some 101) (.fadr (.t 1) 3),
   .op (some 102) (.load1 (.t 101)),
   .op (some 103) (.bin .eql (.t 102) (.k (.int .i64 2))),
   .op (some 104) (.mov (.t 103)),
   .andor 108 false 3 104 [.op (some 105) (.fadr (.t 1) 3), .op (some 106) (.load1 (.t 105)), .op (some 107) (.bin .eql (.t 106) (.k (.int .i64 3)))] (.t 107),
   .op (some 3) (.mov (.t 108))])
 (.keep [1, 3] (.seq (.seq (.ops [.op (some 109) (.mov (.t 3)),
   .op (some 110) (.not (.t 109)),
   .op (some 111) (.mov (.t 110)),
   .andor 130 true 2 111 [.op (some 112) (.fadr (.t 1) 6), .op (some 113) (.load1 (.t 112)), .op (some 114) (.bin .neq (.t 113) (.k (.int .i64 0))), .op (some 115) (.mov (.t 114)), .andor 119 false 6 115 [.op (some 116) (.fadr (.t 1) 7), .op (some 117) (.load1 (.t 116)), .op (some 118) (.bin .neq (.t 117) (.k (.int .i64 0)))] (.t 118), .op (some 120) (.mov (.t 119)), .andor 124 false 11 120 [.op (some 121) (.fadr (.t 1) 8), .op (some 122) (.load1 (.t 121)), .op (some 123) (.bin .neq (.t 122) (.k (.str [])))] (.t 123), .op (some 125) (.mov (.t 124)), .andor 129 false 16 125 [.op (some 126) (.fadr (.t 1) 9), .op (some 127) (.load1 (.t 126)), .op (some 128) (.bin .neq (.t 127) (.k (.str [])))] (.t 128)] (.t 129),
   .op (some 131) (.mov (.t 130)),
   .andor 140 false 22 131 [.op (some 132) (.fadr (.t 1) 3), .op (some 133) (.load1 (.t 132)), .op (some 134) (.bin .neq (.t 133) (.k (.int .i64 3))), .op (some 135) (.mov (.t 134)), .andor 139 true 26 135 [.op (some 136) (.fadr (.t 1) 5), .op (some 137) (.load1 (.t 136)), .op (some 138) (.bin .neq (.t 137) (.k (.int .i64 0)))] (.t 138)] (.t 139),
   .op (some 141) (.mov (.t 140)),
   .andor 150 false 32 141 [.op (some 142) (.fadr (.t 1) 3), .op (some 143) (.load1 (.t 142)), .op (some 144) (.bin .eql (.t 143) (.k (.int .i64 3))), .op (some 145) (.mov (.t 144)), .andor 149 true 36 145 [.op (some 146) (.fadr (.t 1) 8), .op (some 147) (.load1 (.t 146)), .op (some 148) (.bin .neq (.t 147) (.k (.str [])))] (.t 148)] (.t 149)])
  (.keep [1, 150] (.cond (.t 150)
  (.seq (.ops [.op (some 2) (.mov (.k (.bool false)))])
   (.keep [2] (.ret)))
  (.skip))))
 (.keep [1] (.seq (.ops [.op (some 151) (.fadr (.t 1) 3),
   .op (some 152) (.load1 (.t 151)),
   .op (some 153) (.bin .eql (.t 152) (.k (.int .i64 1))),
   .op (some 154) (.fadr (.t 1) 4),
   .op (some 155) (.load1 (.t 154)),
   .op (some 156) (.bin .eql (.t 155) (.k (.int .i64 0))),
   .op (some 157) (.eqb false (.t 153) (.t 156)),
   .op (some 2) (.mov (.t 157))])
 (.keep [2] (.ret))))))))))))))
theorem k_c_sRecordOK_fits : fitsF Try.prog 17 ⟨158, k_c_sRecordOK, [.t 2]⟩ = true := by kernel_rfl
set_option maxHeartbeats 4000000 in
theorem c_sRecordOK {x : GLogRecord} (hl : x.After.length ≤ 1048576) : Con Try.prog noMv 17 [x.av] [] (fun r h => r = bool (recOK x) ∧ h = []) := by
 refine con_of2 k_c_sRecordOK_fits rfl fun C hP hmv => ?_
 unfold k_c_sRecordOK
 refine cx_seq ?_
 refine cx_ops ?_
 refine ax_e (e_box rfl rfl (by decide) rfl rfl rfl) ?_
 refine ax_q (q_mov rfl) ?_
 refine ax_nil ?_
 refine cx_keep rfl rfl ?_
 refine cx_seq ?_
 refine cx_seq ?_
 refine cx_ops ?_
 refine ax_q (q_fadr_ptr rfl) ?_
 refine ax_q (q_load1_ptr rfl rfl rfl) ?_
 first | refine ax_call rfl (vc_pure0 (c_l01In  ) hP rfl rfl ?_) | refine ax_call rfl (vc_lend0 (c_l01In  ) hP (by repeat (first | exact lal_id _ rfl | exact LAL.nil | refine LAL.cons ?_ ?_ | exact la_id _ rfl | exact LA.lend (lend_whole rfl (by first | (simp; done) | (rw [List.length_map]; rfl))) | refine LA.agg ?_ | refine LA.fn ?_ | refine LA.lend ?_ | exact Lend.d _ | exact Lend.zs _ | exact lend_whole rfl (by first | (simp; done) | (rw [List.length_map]; rfl)) | refine Lend.ptr rfl ?_ | refine Lend.fn ?_ | exact LendL.nil | refine LendL.cons ?_ ?_)) rfl rfl ?_)
 refine ax_q (q_not rfl) ?_
 refine ax_q (q_mov rfl) ?_
 apply ax_or rfl rfl
 ·
  intro g
  have g := bF g
  refine ax_q (q_fadr_ptr rfl) ?_
  refine ax_q (q_load1_ptr rfl rfl rfl) ?_
  first | refine ax_call rfl (vc_pure0 (c_l01In  ) hP rfl rfl ?_) | refine ax_call rfl (vc_lend0 (c_l01In  ) hP (by repeat (first | exact lal_id _ rfl | exact LAL.nil | refine LAL.cons ?_ ?_ | exact la_id _ rfl | exact LA.lend (lend_whole rfl (by first | (simp; done) | (rw [List.length_map]; rfl))) | refine LA.agg ?_ | refine LA.fn ?_ | refine LA.lend ?_ | exact Lend.d _ | exact Lend.zs _ | exact lend_whole rfl (by first | (simp; done) | (rw [List.length_map]; rfl)) | refine Lend.ptr rfl ?_ | refine Lend.fn ?_ | exact LendL.nil | refine LendL.cons ?_ ?_)) rfl rfl ?_)
  refine ax_q (q_not rfl) ?_
  exact ax_nil ⟨rfl, by repeat (first | exact trivial | refine ⟨rfl, ?_⟩ | refine ⟨?_, ?_⟩)⟩
 refine ax_q (q_mov rfl) ?_
 apply ax_or rfl rfl
 ·
  intro g
  have g := (fun h => And.intro (bF (or_F h).1) (bF (or_F h).2)) g
  refine ax_q (q_fadr_ptr rfl) ?_
  refine ax_q (q_load1_ptr rfl rfl rfl) ?_
  first | refine ax_call rfl (vc_pure0 (c_l01In  ) hP rfl rfl ?_) | refine ax_call rfl (vc_lend0 (c_l01In  ) hP (by repeat (first | exact lal_id _ rfl | exact LAL.nil | refine LAL.cons ?_ ?_ | exact la_id _ rfl | exact LA.lend (lend_whole rfl (by first | (simp; done) | (rw [List.length_map]; rfl))) | refine LA.agg ?_ | refine LA.fn ?_ | refine LA.lend ?_ | exact Lend.d _ | exact Lend.zs _ | exact lend_whole rfl (by first | (simp; done) | (rw [List.length_map]; rfl)) | refine Lend.ptr rfl ?_ | refine Lend.fn ?_ | exact LendL.nil | refine LendL.cons ?_ ?_)) rfl rfl ?_)
  refine ax_q (q_not rfl) ?_
  exact ax_nil ⟨rfl, by repeat (first | exact trivial | refine ⟨rfl, ?_⟩ | refine ⟨?_, ?_⟩)⟩
 refine ax_q (q_mov rfl) ?_
 apply ax_or rfl rfl
 ·
  intro g
  have g := (fun h => And.intro ((fun h => And.intro (bF (or_F h).1) (bF (or_F h).2)) (or_F h).1) (bF (or_F h).2)) g
  refine ax_q (q_fadr_ptr rfl) ?_
  refine ax_q (q_load1_ptr rfl rfl rfl) ?_
  refine ax_q (q_fadr_ptr rfl) ?_
  refine ax_q (q_load1_ptr rfl rfl rfl) ?_
  refine ax_qe (r' := int (x.Lsn - 1)) (q_ibin rfl rfl rfl) (by have hL := inR_iff.1 g.1.2; rw [wi (by omega) (by omega)]) ?_
  first | refine ax_call rfl (vc_pure0 (c_l01In  ) hP rfl rfl ?_) | refine ax_call rfl (vc_lend0 (c_l01In  ) hP (by repeat (first | exact lal_id _ rfl | exact LAL.nil | refine LAL.cons ?_ ?_ | exact la_id _ rfl | exact LA.lend (lend_whole rfl (by first | (simp; done) | (rw [List.length_map]; rfl))) | refine LA.agg ?_ | refine LA.fn ?_ | refine LA.lend ?_ | exact Lend.d _ | exact Lend.zs _ | exact lend_whole rfl (by first | (simp; done) | (rw [List.length_map]; rfl)) | refine Lend.ptr rfl ?_ | refine Lend.fn ?_ | exact LendL.nil | refine LendL.cons ?_ ?_)) rfl rfl ?_)
  refine ax_q (q_not rfl) ?_
  exact ax_nil ⟨rfl, by repeat (first | exact trivial | refine ⟨rfl, ?_⟩ | refine ⟨?_, ?_⟩)⟩
 refine ax_q (q_mov rfl) ?_
 apply ax_or rfl rfl
 ·
  intro g
  have g := (fun h => And.intro ((fun h => And.intro ((fun h => And.intro (bF (or_F h).1) (bF (or_F h).2)) (or_F h).1) (bF (or_F h).2)) (or_F h).1) (bF (or_F h).2)) g
  refine ax_q (q_fadr_ptr rfl) ?_
  refine ax_q (q_load1_ptr rfl rfl rfl) ?_
  refine ax_q (q_fadr_ptr rfl) ?_
  refine ax_q (q_load1_ptr rfl rfl rfl) ?_
  refine ax_qe (r' := int (x.Lsn - 1)) (q_ibin rfl rfl rfl) (by have hL := inR_iff.1 g.1.1.2; rw [wi (by omega) (by omega)]) ?_
  first | refine ax_call rfl (vc_pure0 (c_l01In  ) hP rfl rfl ?_) | refine ax_call rfl (vc_lend0 (c_l01In  ) hP (by repeat (first | exact lal_id _ rfl | exact LAL.nil | refine LAL.cons ?_ ?_ | exact la_id _ rfl | exact LA.lend (lend_whole rfl (by first | (simp; done) | (rw [List.length_map]; rfl))) | refine LA.agg ?_ | refine LA.fn ?_ | refine LA.lend ?_ | exact Lend.d _ | exact Lend.zs _ | exact lend_whole rfl (by first | (simp; done) | (rw [List.length_map]; rfl)) | refine Lend.ptr rfl ?_ | refine Lend.fn ?_ | exact LendL.nil | refine LendL.cons ?_ ?_)) rfl rfl ?_)
  refine ax_q (q_not rfl) ?_
  exact ax_nil ⟨rfl, by repeat (first | exact trivial | refine ⟨rfl, ?_⟩ | refine ⟨?_, ?_⟩)⟩
 refine ax_q (q_mov rfl) ?_
 apply ax_or rfl rfl
 ·
  intro g
  have g := (fun h => And.intro ((fun h => And.intro ((fun h => And.intro ((fun h => And.intro (bF (or_F h).1) (bF (or_F h).2)) (or_F h).1) (bF (or_F h).2)) (or_F h).1) (bF (or_F h).2)) (or_F h).1) (bF (or_F h).2)) g
  refine ax_q (q_fadr_ptr rfl) ?_
  refine ax_q (q_load1_ptr rfl rfl rfl) ?_
  first | refine ax_call rfl (vc_pure0 (c_l01In  ) hP rfl rfl ?_) | refine ax_call rfl (vc_lend0 (c_l01In  ) hP (by repeat (first | exact lal_id _ rfl | exact LAL.nil | refine LAL.cons ?_ ?_ | exact la_id _ rfl | exact LA.lend (lend_whole rfl (by first | (simp; done) | (rw [List.length_map]; rfl))) | refine LA.agg ?_ | refine LA.fn ?_ | refine LA.lend ?_ | exact Lend.d _ | exact Lend.zs _ | exact lend_whole rfl (by first | (simp; done) | (rw [List.length_map]; rfl)) | refine Lend.ptr rfl ?_ | refine Lend.fn ?_ | exact LendL.nil | refine LendL.cons ?_ ?_)) rfl rfl ?_)
  refine ax_q (q_not rfl) ?_
  exact ax_nil ⟨rfl, by repeat (first | exact trivial | refine ⟨rfl, ?_⟩ | refine ⟨?_, ?_⟩)⟩
 refine ax_q (q_mov rfl) ?_
 apply ax_or rfl rfl
 ·
  intro g
  have g := (fun h => And.intro ((fun h => And.intro ((fun h => And.intro ((fun h => And.intro ((fun h => And.intro (bF (or_F h).1) (bF (or_F h).2)) (or_F h).1) (bF (or_F h).2)) (or_F h).1) (bF (or_F h).2)) (or_F h).1) (bF (or_F h).2)) (or_F h).1) (bF (or_F h).2)) g
  refine ax_q (q_fadr_ptr rfl) ?_
  refine ax_q (q_load1_ptr rfl rfl rfl) ?_
  first | refine ax_call rfl (vc_pure0 (c_l01In  ) hP rfl rfl ?_) | refine ax_call rfl (vc_lend0 (c_l01In  ) hP (by repeat (first | exact lal_id _ rfl | exact LAL.nil | refine LAL.cons ?_ ?_ | exact la_id _ rfl | exact LA.lend (lend_whole rfl (by first | (simp; done) | (rw [List.length_map]; rfl))) | refine LA.agg ?_ | refine LA.fn ?_ | refine LA.lend ?_ | exact Lend.d _ | exact Lend.zs _ | exact lend_whole rfl (by first | (simp; done) | (rw [List.length_map]; rfl)) | refine Lend.ptr rfl ?_ | refine Lend.fn ?_ | exact LendL.nil | refine LendL.cons ?_ ?_)) rfl rfl ?_)
  refine ax_q (q_not rfl) ?_
  exact ax_nil ⟨rfl, by repeat (first | exact trivial | refine ⟨rfl, ?_⟩ | refine ⟨?_, ?_⟩)⟩
 refine ax_q (q_mov rfl) ?_
 apply ax_or rfl rfl
 ·
  intro g
  have g := (fun h => And.intro ((fun h => And.intro ((fun h => And.intro ((fun h => And.intro ((fun h => And.intro ((fun h => And.intro (bF (or_F h).1) (bF (or_F h).2)) (or_F h).1) (bF (or_F h).2)) (or_F h).1) (bF (or_F h).2)) (or_F h).1) (bF (or_F h).2)) (or_F h).1) (bF (or_F h).2)) (or_F h).1) (bF (or_F h).2)) g
  refine ax_q (q_fadr_ptr rfl) ?_
  refine ax_q (q_load1_ptr rfl rfl rfl) ?_
  refine ax_q (q_lenT rfl) ?_
  refine ax_q (q_ibin rfl rfl rfl) ?_
  exact ax_nil ⟨rfl, by repeat (first | exact trivial | refine ⟨rfl, ?_⟩ | refine ⟨?_, ?_⟩)⟩
 refine ax_nil ?_
 refine cx_keep rfl rfl ?_
 refine cx_cond rfl (fun h0 => ?_) (fun h0 => ?_)
 ·
  have h0 : badS0 x = true := h0
  refine cx_seq ?_
  refine cx_ops ?_
  refine ax_q (q_mov rfl) ?_
  refine ax_nil ?_
  refine cx_keep rfl rfl ?_
  refine cx_ret (ret0 rfl rfl ?_)
  exact ⟨by rw [recS_0 h0]; rfl, rfl⟩
 ·
  have h0 : badS0 x = false := h0
  refine cx_skip ?_
  refine cx_keep rfl rfl ?_
  refine cx_seq ?_
  refine cx_seq ?_
  refine cx_ops ?_
  refine ax_q (q_fadr_ptr rfl) ?_
  refine ax_q (q_load1_ptr rfl rfl rfl) ?_
  have hS := badS0_no.1 h0
  refine ax_q (q_ibin rfl rfl rfl) ?_
  refine ax_nil ?_
  refine cx_keep rfl rfl ?_
  refine cx_cond rfl (fun h1 => ?_) (fun h1 => ?_)
  ·
   have h1 := dT h1
   refine cx_seq ?_
   refine cx_ops ?_
   refine ax_q (q_fadr_ptr rfl) ?_
   refine ax_q (q_load1_ptr rfl rfl rfl) ?_
   refine ax_q (q_ibin rfl rfl rfl) ?_
   refine ax_q (q_mov rfl) ?_
   apply ax_and rfl rfl
   ·
    intro g
    have g := dT g
    refine ax_q (q_fadr_ptr rfl) ?_
    refine ax_q (q_load1_ptr rfl rfl rfl) ?_
    refine ax_q (q_ibin rfl rfl rfl) ?_
    exact ax_nil ⟨rfl, by repeat (first | exact trivial | refine ⟨rfl, ?_⟩ | refine ⟨?_, ?_⟩)⟩
   refine ax_q (q_mov rfl) ?_
   apply ax_and rfl rfl
   ·
    intro g
    have g := (fun h => And.intro (dT (and_T h).1) (dT (and_T h).2)) g
    refine ax_q (q_fadr_ptr rfl) ?_
    refine ax_q (q_load1_ptr rfl rfl rfl) ?_
    refine ax_q (q_ibin rfl rfl rfl) ?_
    exact ax_nil ⟨rfl, by repeat (first | exact trivial | refine ⟨rfl, ?_⟩ | refine ⟨?_, ?_⟩)⟩
   refine ax_q (q_mov rfl) ?_
   apply ax_and rfl rfl
   ·
    intro g
    have g := (fun h => And.intro ((fun h => And.intro (dT (and_T h).1) (dT (and_T h).2)) (and_T h).1) (dT (and_T h).2)) g
    refine ax_q (q_fadr_ptr rfl) ?_
    refine ax_q (q_load1_ptr rfl rfl rfl) ?_
    refine ax_q (q_ibin rfl rfl rfl) ?_
    exact ax_nil ⟨rfl, by repeat (first | exact trivial | refine ⟨rfl, ?_⟩ | refine ⟨?_, ?_⟩)⟩
   refine ax_q (q_mov rfl) ?_
   apply ax_and rfl rfl
   ·
    intro g
    have g := (fun h => And.intro ((fun h => And.intro ((fun h => And.intro (dT (and_T h).1) (dT (and_T h).2)) (and_T h).1) (dT (and_T h).2)) (and_T h).1) (dT (and_T h).2)) g
    refine ax_q (q_fadr_ptr rfl) ?_
    refine ax_q (q_load1_ptr rfl rfl rfl) ?_
    refine ax_q (q_ibin rfl rfl rfl) ?_
    exact ax_nil ⟨rfl, by repeat (first | exact trivial | refine ⟨rfl, ?_⟩ | refine ⟨?_, ?_⟩)⟩
   refine ax_q (q_mov rfl) ?_
   apply ax_and rfl rfl
   ·
    intro g
    have g := (fun h => And.intro ((fun h => And.intro ((fun h => And.intro ((fun h => And.intro (dT (and_T h).1) (dT (and_T h).2)) (and_T h).1) (dT (and_T h).2)) (and_T h).1) (dT (and_T h).2)) (and_T h).1) (dT (and_T h).2)) g
    refine ax_q (q_fadr_ptr rfl) ?_
    refine ax_q (q_load1_ptr rfl rfl rfl) ?_
    refine ax_q (q_sbin rfl rfl rfl) ?_
    exact ax_nil ⟨rfl, by repeat (first | exact trivial | refine ⟨rfl, ?_⟩ | refine ⟨?_, ?_⟩)⟩
   refine ax_q (q_mov rfl) ?_
   apply ax_and rfl rfl
   ·
    intro g
    have g := (fun h => And.intro ((fun h => And.intro ((fun h => And.intro ((fun h => And.intro ((fun h => And.intro (dT (and_T h).1) (dT (and_T h).2)) (and_T h).1) (dT (and_T h).2)) (and_T h).1) (dT (and_T h).2)) (and_T h).1) (dT (and_T h).2)) (and_T h).1) (dT (and_T h).2)) g
    refine ax_q (q_ldN rfl rfl rfl) ?_
    first | refine ax_call rfl (vc_pure0 (c_l04CheckOK (x := x) ?_ ?_) hP rfl rfl ?_) | refine ax_call rfl (vc_lend0 (c_l04CheckOK (x := x) ?_ ?_) hP (by repeat (first | exact lal_id _ rfl | exact LAL.nil | refine LAL.cons ?_ ?_ | exact la_id _ rfl | exact LA.lend (lend_whole rfl (by first | (simp; done) | (rw [List.length_map]; rfl))) | refine LA.agg ?_ | refine LA.fn ?_ | refine LA.lend ?_ | exact Lend.d _ | exact Lend.zs _ | exact lend_whole rfl (by first | (simp; done) | (rw [List.length_map]; rfl)) | refine Lend.ptr rfl ?_ | refine Lend.fn ?_ | exact LendL.nil | refine LendL.cons ?_ ?_)) rfl rfl ?_)
    ·
     first | assumption | omega | (simp; done) | (simp; omega)
    ·
     exact hS.l
    exact ax_nil ⟨rfl, by repeat (first | exact trivial | refine ⟨rfl, ?_⟩ | refine ⟨?_, ?_⟩)⟩
   refine ax_q (q_mov rfl) ?_
   refine ax_nil ?_
   refine cx_keep rfl rfl ?_
   refine cx_ret (ret0 rfl rfl ?_)
   exact ⟨congrArg AM.bool (recS_6 hS h1), rfl⟩
  ·
   have h1 := dF h1
   refine cx_skip ?_
   refine cx_keep rfl rfl ?_
   refine cx_seq ?_
   refine cx_seq ?_
   refine cx_ops ?_
   refine ax_q (q_fadr_ptr rfl) ?_
   refine ax_q (q_load1_ptr rfl rfl rfl) ?_
   first | refine ax_call rfl (vc_pure0 (c_l01In  ) hP rfl rfl ?_) | refine ax_call rfl (vc_lend0 (c_l01In  ) hP (by repeat (first | exact lal_id _ rfl | exact LAL.nil | refine LAL.cons ?_ ?_ | exact la_id _ rfl | exact LA.lend (lend_whole rfl (by first | (simp; done) | (rw [List.length_map]; rfl))) | refine LA.agg ?_ | refine LA.fn ?_ | refine LA.lend ?_ | exact Lend.d _ | exact Lend.zs _ | exact lend_whole rfl (by first | (simp; done) | (rw [List.length_map]; rfl)) | refine Lend.ptr rfl ?_ | refine Lend.fn ?_ | exact LendL.nil | refine LendL.cons ?_ ?_)) rfl rfl ?_)
   refine ax_q (q_not rfl) ?_
   refine ax_q (q_mov rfl) ?_
   apply ax_or rfl rfl
   ·
    intro g
    have g := bF g
    refine ax_q (q_fadr_ptr rfl) ?_
    refine ax_q (q_load1_ptr rfl rfl rfl) ?_
    refine ax_q (q_lenT rfl) ?_
    refine ax_q (q_ibin rfl rfl rfl) ?_
    exact ax_nil ⟨rfl, by repeat (first | exact trivial | refine ⟨rfl, ?_⟩ | refine ⟨?_, ?_⟩)⟩
   refine ax_nil ?_
   refine cx_keep rfl rfl ?_
   refine cx_cond rfl (fun h2 => ?_) (fun h2 => ?_)
   ·
    have h2 : badS2 x = true := h2
    refine cx_seq ?_
    refine cx_ops ?_
    refine ax_q (q_mov rfl) ?_
    refine ax_nil ?_
    refine cx_keep rfl rfl ?_
    refine cx_ret (ret0 rfl rfl ?_)
    exact ⟨by rw [recS_2 h1 h2]; rfl, rfl⟩
   ·
    have h2 : badS2 x = false := h2
    refine cx_skip ?_
    refine cx_keep rfl rfl ?_
    refine cx_seq ?_
    refine cx_ops ?_
    refine ax_q (q_fadr_ptr rfl) ?_
    refine ax_q (q_load1_ptr rfl rfl rfl) ?_
    refine ax_q (q_ibin rfl rfl rfl) ?_
    refine ax_q (q_mov rfl) ?_
    apply ax_or rfl rfl
    ·
     intro g
     have g := dF g
     refine ax_q (q_fadr_ptr rfl) ?_
     refine ax_q (q_load1_ptr rfl rfl rfl) ?_
     refine ax_q (q_ibin rfl rfl rfl) ?_
     exact ax_nil ⟨rfl, by repeat (first | exact trivial | refine ⟨rfl, ?_⟩ | refine ⟨?_, ?_⟩)⟩
    refine ax_q (q_mov rfl) ?_
    refine ax_nil ?_
    refine cx_keep rfl rfl ?_
    refine cx_seq ?_
    refine cx_seq ?_
    refine cx_ops ?_
    refine ax_q (q_mov rfl) ?_
    refine ax_q (q_not rfl) ?_
    refine ax_q (q_mov rfl) ?_
    apply ax_and rfl rfl
    ·
     intro g
     have g := (fun h => (fun h => And.intro (dF (or_F h).1) (dF (or_F h).2)) (bT h)) g
     refine ax_q (q_fadr_ptr rfl) ?_
     refine ax_q (q_load1_ptr rfl rfl rfl) ?_
     refine ax_q (q_ibin rfl rfl rfl) ?_
     refine ax_q (q_mov rfl) ?_
     apply ax_or rfl rfl
     ·
      intro g
      have g := nF g
      refine ax_q (q_fadr_ptr rfl) ?_
      refine ax_q (q_load1_ptr rfl rfl rfl) ?_
      refine ax_q (q_ibin rfl rfl rfl) ?_
      exact ax_nil ⟨rfl, by repeat (first | exact trivial | refine ⟨rfl, ?_⟩ | refine ⟨?_, ?_⟩)⟩
     refine ax_q (q_mov rfl) ?_
     apply ax_or rfl rfl
     ·
      intro g
      have g := (fun h => And.intro (nF (or_F h).1) (nF (or_F h).2)) g
      refine ax_q (q_fadr_ptr rfl) ?_
      refine ax_q (q_load1_ptr rfl rfl rfl) ?_
      refine ax_q (q_sbin rfl rfl rfl) ?_
      exact ax_nil ⟨rfl, by repeat (first | exact trivial | refine ⟨rfl, ?_⟩ | refine ⟨?_, ?_⟩)⟩
     refine ax_q (q_mov rfl) ?_
     apply ax_or rfl rfl
     ·
      intro g
      have g := (fun h => And.intro ((fun h => And.intro (nF (or_F h).1) (nF (or_F h).2)) (or_F h).1) (nF (or_F h).2)) g
      refine ax_q (q_fadr_ptr rfl) ?_
      refine ax_q (q_load1_ptr rfl rfl rfl) ?_
      refine ax_q (q_sbin rfl rfl rfl) ?_
      exact ax_nil ⟨rfl, by repeat (first | exact trivial | refine ⟨rfl, ?_⟩ | refine ⟨?_, ?_⟩)⟩
     exact ax_nil ⟨rfl, by repeat (first | exact trivial | refine ⟨rfl, ?_⟩ | refine ⟨?_, ?_⟩)⟩
    refine ax_q (q_mov rfl) ?_
    apply ax_or rfl rfl
    ·
     intro g
     have g := (fun h => (and_F h).imp (fun h => (fun h => (or_T h).imp dT dT) (bF h)) (fun h => And.intro ((fun h => And.intro ((fun h => And.intro (nF (or_F h).1) (nF (or_F h).2)) (or_F h).1) (nF (or_F h).2)) (or_F h).1) (nF (or_F h).2))) g
     refine ax_q (q_fadr_ptr rfl) ?_
     refine ax_q (q_load1_ptr rfl rfl rfl) ?_
     refine ax_q (q_ibin rfl rfl rfl) ?_
     refine ax_q (q_mov rfl) ?_
     apply ax_and rfl rfl
     ·
      intro g
      have g := nT g
      refine ax_q (q_fadr_ptr rfl) ?_
      refine ax_q (q_load1_ptr rfl rfl rfl) ?_
      refine ax_q (q_ibin rfl rfl rfl) ?_
      exact ax_nil ⟨rfl, by repeat (first | exact trivial | refine ⟨rfl, ?_⟩ | refine ⟨?_, ?_⟩)⟩
     exact ax_nil ⟨rfl, by repeat (first | exact trivial | refine ⟨rfl, ?_⟩ | refine ⟨?_, ?_⟩)⟩
    refine ax_q (q_mov rfl) ?_
    apply ax_or rfl rfl
    ·
     intro g
     have g := (fun h => And.intro ((fun h => (and_F h).imp (fun h => (fun h => (or_T h).imp dT dT) (bF h)) (fun h => And.intro ((fun h => And.intro ((fun h => And.intro (nF (or_F h).1) (nF (or_F h).2)) (or_F h).1) (nF (or_F h).2)) (or_F h).1) (nF (or_F h).2))) (or_F h).1) ((fun h => (and_F h).imp nF nF) (or_F h).2)) g
     refine ax_q (q_fadr_ptr rfl) ?_
     refine ax_q (q_load1_ptr rfl rfl rfl) ?_
     refine ax_q (q_ibin rfl rfl rfl) ?_
     refine ax_q (q_mov rfl) ?_
     apply ax_and rfl rfl
     ·
      intro g
      have g := dT g
      refine ax_q (q_fadr_ptr rfl) ?_
      refine ax_q (q_load1_ptr rfl rfl rfl) ?_
      refine ax_q (q_sbin rfl rfl rfl) ?_
      exact ax_nil ⟨rfl, by repeat (first | exact trivial | refine ⟨rfl, ?_⟩ | refine ⟨?_, ?_⟩)⟩
     exact ax_nil ⟨rfl, by repeat (first | exact trivial | refine ⟨rfl, ?_⟩ | refine ⟨?_, ?_⟩)⟩
    refine ax_nil ?_
    refine cx_keep rfl rfl ?_
    refine cx_cond rfl (fun h3 => ?_) (fun h3 => ?_)
    ·
     have h3 : badS3 x = true := h3
     refine cx_seq ?_
     refine cx_ops ?_
     refine ax_q (q_mov rfl) ?_
     refine ax_nil ?_
     refine cx_keep rfl rfl ?_
     refine cx_ret (ret0 rfl rfl ?_)
     exact ⟨by rw [recS_3 h1 h3]; rfl, rfl⟩
    ·
     have h3 : badS3 x = false := h3
     refine cx_skip ?_
     refine cx_keep rfl rfl ?_
     refine cx_seq ?_
     refine cx_ops ?_
     refine ax_q (q_fadr_ptr rfl) ?_
     refine ax_q (q_load1_ptr rfl rfl rfl) ?_
     refine ax_q (q_ibin rfl rfl rfl) ?_
     refine ax_q (q_fadr_ptr rfl) ?_
     refine ax_q (q_load1_ptr rfl rfl rfl) ?_
     refine ax_q (q_ibin rfl rfl rfl) ?_
     refine ax_q (q_eqb rfl rfl) ?_
     refine ax_q (q_mov rfl) ?_
     refine ax_nil ?_
     refine cx_keep rfl rfl ?_
     refine cx_ret (ret0 rfl rfl ?_)
     exact ⟨congrArg AM.bool (recS_4 hS h1 h2 h3), rfl⟩


/- loop.example/g00332/spec.l08Analyze -/
def k_c_l08Analyze : XCode :=
 .seq (.ops [.op (some 2) (.mov (.k (.nils 2))),
   .op (some 3) (.mov (.k (.nils 2)))])
 (.keep [0] (.seq (.ops [.op (some 17) (.bslice 2 []),
   .op (some 4) (.mov (.t 17))])
 (.keep [0, 4] (.seq (.ops [.op (some 18) (.bslice 2 []),
   .op (some 5) (.mov (.t 18))])
 (.keep [0, 4, 5] (.seq (.ops [.op (some 6) (.mov (.k (.int .i64 0)))])
 (.keep [0, 4, 5, 6] (.seq (.seq (.ops [.op (some 7) (.mov (.k (.int .i64 0)))])
  (.keep [0, 4, 5, 6, 7] (.block 0 (.loop (.seq (.seq (.ops [.op (some 19) (.mov (.t 7)),
     .op (some 20) (.mov (.t 0)),
     .op (some 21) (.lenS (.t 20)),
     .op (some 22) (.bin .lss (.t 19) (.t 21))])
   (.keep [0, 4, 5, 6, 7, 22] (.cond (.t 22)
    (.skip)
    (.exit 0))))
   (.keep [0, 4, 5, 6, 7] (.seq (.block 1 (.seq (.ops [.op (some 25) (.mov (.t 0)),
     .op (some 26) (.mov (.t 7)),
     .op (some 27) (.iadr 10 (.t 25) (.t 26)),
     .op (some 28) (.fadr (.t 27) 3),
     .op (some 29) (.load1 (.t 28)),
     .op (some 30) (.bin .eql (.t 29) (.k (.int .i64 6)))])
    (.keep [0, 4, 5, 6, 7, 30] (.cond (.t 30)
    (.seq (.ops [.op (some 31) (.mov (.t 7)),
      .op (some 32) (.bin .add (.t 31) (.k (.int .i64 1))),
      .op (some 6) (.mov (.t 32))])
     (.keep [0, 6, 7] (.seq (.ops [.op (some 34) (.mov (.t 0)),
      .op (some 35) (.mov (.t 7)),
      .op (some 36) (.iadr 10 (.t 34) (.t 35)),
      .op (some 37) (.fadr (.t 36) 9),
      .op (some 38) (.load1 (.t 37)),
      .call (some 39) 30 [.t 38],
      .op (some 33) (.mov (.t 39)),
      .op (some 40) (.ext (.t 33) 0),
      .op (some 41) (.ext (.t 33) 1),
      .op (some 42) (.ext (.t 33) 2),
      .op (some 8) (.mov (.t 40)),
      .op (some 9) (.mov (.t 41)),
      .op (some 10) (.mov (.t 42))])
     (.keep [0, 6, 7, 8, 9] (.seq (.ops [.op (some 43) (.bslice 2 []),
      .op (some 4) (.mov (.t 43))])
     (.keep [0, 4, 6, 7, 8, 9] (.seq (.ops [.op (some 44) (.bslice 2 []),
      .op (some 5) (.mov (.t 44))])
     (.keep [0, 4, 5, 6, 7, 8, 9] (.seq (.seq (.ops [.op (some 11) (.mov (.k (.int .i64 0)))])
     (.keep [0, 4, 5, 6, 7, 8, 9, 11] (.block 2 (.loop (.seq (.seq (.ops [.op (some 45) (.mov (.t 11)),
        .op (some 46) (.mov (.t 8)),
        .op (some 47) (.lenS (.t 46)),
        .op (some 48) (.bin .lss (.t 45) (.t 47))])
       (.keep [0, 4, 5, 6, 7, 8, 9, 11, 48] (.cond (.t 48)
       (.skip)
       (.exit 2))))
      (.keep [0, 4, 5, 6, 7, 8, 9, 11] (.seq (.block 3 (.drawE [[], [], [], [1, 2], [1, 2, 3], [1, 2, 3, 4], [], [], [6, 7], [6, 7, 8], [6, 7, 8, 9], [1, 2, 3, 4, 5, 6, 7, 8, 9, 10], [1, 2, 3, 4, 5, 6, 7, 8, 9, 10, 11], [0, 1, 2, 3, 4, 5, 6, 7, 8, 9, 10, 11, 12], [0, 1, 2, 3, 4, 5, 6, 7, 8, 9, 10, 11, 12, 13]] [.op (some 51) (.mov (.t 4)),
        .op (some 52) (.mov (.t 8)),
        .op (some 53) (.mov (.t 11)),
        .op (some 54) (.iadr 2 (.t 52) (.t 53)),
        .op (some 55) (.iadrA 1 2 (.t 54) (.k (.int .i64 0))),
        .op (some 56) (.load1 (.t 55)),
        .op (some 57) (.mov (.t 8)),
        .op (some 58) (.mov (.t 11)),
        .op (some 59) (.iadr 2 (.t 57) (.t 58)),
        .op (some 60) (.iadrA 1 2 (.t 59) (.k (.int .i64 1))),
        .op (some 61) (.load1 (.t 60)),
        .op (some 62) (.build [.int .i64 0, .int .i64 0] [(0, 1, .t 56), (1, 1, .t 61)]),
        .op (some 63) (.bslice 2 [.t 62])]
        [.op (some 64) (.app 2 16 [.int .i64 0, .int .i64 0] (.t 51) (.t 63)),
        .op (some 4) (.mov (.t 64))]))
      (.keep [0, 4, 5, 6, 7, 8, 9, 11] (.ops [.op (some 49) (.mov (.t 11)),
       .op (some 50) (.bin .add (.t 49) (.k (.int .i64 1))),
       .op (some 11) (.mov (.t 50))])))))))))
     (.keep [0, 4, 5, 6, 7, 9] (.seq (.ops [.op (some 12) (.mov (.k (.int .i64 0)))])
     (.keep [0, 4, 5, 6, 7, 9, 12] (.block 4 (.loop (.seq (.seq (.ops [.op (some 65) (.mov (.t 12)),
        .op (some 66) (.mov (.t 9)),
        .op (some 67) (.lenS (.t 66)),
        .op (some 68) (.bin .lss (.t 65) (.t 67))])
      (.keep [0, 4, 5, 6, 7, 9, 12, 68] (.cond (.t 68)
       (.skip)
       (.exit 4))))
      (.keep [0, 4, 5, 6, 7, 9, 12] (.seq (.block 5 (.drawE [[], [], [], [1, 2], [1, 2, 3], [1, 2, 3, 4], [], [], [6, 7], [6, 7, 8], [6, 7, 8, 9], [1, 2, 3, 4, 5, 6, 7, 8, 9, 10], [1, 2, 3, 4, 5, 6, 7, 8, 9, 10, 11], [0, 1, 2, 3, 4, 5, 6, 7, 8, 9, 10, 11, 12], [0, 1, 2, 3, 4, 5, 6, 7, 8, 9, 10, 11, 12, 13]] [.op (some 71) (.mov (.t 5)),
        .op (some 72) (.mov (.t 9)),
        .op (some 73) (.mov (.t 12)),
        .op (some 74) (.iadr 2 (.t 72) (.t 73)),
        .op (some 75) (.iadrA 1 2 (.t 74) (.k (.int .i64 0))),
        .op (some 76) (.load1 (.t 75)),
        .op (some 77) (.mov (.t 9)),
        .op (some 78) (.mov (.t 12)),
        .op (some 79) (.iadr 2 (.t 77) (.t 78)),
        .op (some 80) (.iadrA 1 2 (.t 79) (.k (.int .i64 1))),
        .op (some 81) (.load1 (.t 80)),
        .op (some 82) (.build [.int .i64 0, .int .i64 0] [(0, 1, .t 76), (1, 1, .t 81)]),
        .op (some 83) (.bslice 2 [.t 82])]
       [.op (some 84) (.app 2 16 [.int .i64 0, .int .i64 0] (.t 71) (.t 83)),
        .op (some 5) (.mov (.t 84))]))
      (.keep [0, 4, 5, 6, 7, 9, 12] (.ops [.op (some 69) (.mov (.t 12)),
       .op (some 70) (.bin .add (.t 69) (.k (.int .i64 1))),
       .op (some 12) (.mov (.t 70))])))))))))))))))))))
    (.skip)))))
   (.keep [0, 4, 5, 6, 7] (.ops [.op (some 23) (.mov (.t 7)),
    .op (some 24) (.bin .add (.t 23) (.k (.int .i64 1))),
    .op (some 7) (.mov (.t 24))])))))))))
 (.keep [0, 4, 5, 6] (.seq (.seq (.ops [.op (some 85) (.mov (.t 6)),
   .op (some 13) (.mov (.t 85))])
  (.keep [0, 4, 5, 13] (.block 6 (.loop (.seq (.seq (.ops [.op (some 86) (.mov (.t 13)),
     .op (some 87) (.mov (.t 0)),
     .op (some 88) (.lenS (.t 87)),
     .op (some 89) (.bin .lss (.t 86) (.t 88))])
   (.keep [0, 4, 5, 13, 89] (.cond (.t 89)
    (.skip)
    (.exit 6))))
   (.keep [0, 4, 5, 13] (.seq (.block 7 (.seq (.ops [.op (some 92) (.mov (.t 0)),
     .op (some 93) (.mov (.t 13)),
     .op (some 94) (.iadr 10 (.t 92) (.t 93)),
     .op (some 95) (.loadN 10 (.t 94)),
     .op (some 14) (.alloc [.int .i64 0, .int .i64 0, .int .i64 0, .int .i64 0, .int .i64 0, .int .i64 0, .int .i64 0, .int .i64 0, .str [], .str []]),
     .op none (.store 10 (.t 14) (.t 95))])
    (.keep [0, 4, 5, 13, 14] (.seq (.ops [.op (some 15) (.mov (.k (.int .i64 0)))])
    (.keep [0, 4, 5, 13, 14, 15] (.seq (.block 8 (.loop (.seq (.seq (.draw [.op (some 96) (.mov (.t 15)),
       .op (some 97) (.mov (.t 5)),
       .op (some 98) (.lenS (.t 97)),
       .op (some 99) (.bin .lss (.t 96) (.t 98)),
       .op (some 100) (.mov (.t 99)),
       .andor 109 true 4 100 [.op (some 101) (.mov (.t 5)), .op (some 102) (.mov (.t 15)), .op (some 103) (.iadr 2 (.t 101) (.t 102)), .op (some 104) (.fadr (.t 103) 0), .op (some 105) (.load1 (.t 104)), .op (some 106) (.fadr (.t 14) 2), .op (some 107) (.load1 (.t 106)), .op (some 108) (.bin .lss (.t 105) (.t 107))] (.t 108)])
      (.keep [0, 4, 5, 13, 14, 15, 109] (.cond (.t 109)
      (.skip)
      (.exit 8))))
     (.keep [0, 4, 5, 13, 14, 15] (.block 9 (.ops [.op (some 110) (.mov (.t 15)),
       .op (some 111) (.bin .add (.t 110) (.k (.int .i64 1))),
       .op (some 15) (.mov (.t 111))]))))))
    (.keep [0, 4, 5, 13, 14, 15] (.seq (.draw [.op (some 112) (.mov (.t 15)),
     .op (some 113) (.mov (.t 5)),
     .op (some 114) (.lenS (.t 113)),
     .op (some 115) (.bin .lss (.t 112) (.t 114)),
     .op (some 116) (.mov (.t 115)),
     .andor 125 true 4 116 [.op (some 117) (.mov (.t 5)), .op (some 118) (.mov (.t 15)), .op (some 119) (.iadr 2 (.t 117) (.t 118)), .op (some 120) (.fadr (.t 119) 0), .op (some 121) (.load1 (.t 120)), .op (some 122) (.fadr (.t 14) 2), .op (some 123) (.load1 (.t 122)), .op (some 124) (.bin .eql (.t 121) (.t 123))] (.t 124),
     .op (some 16) (.mov (.t 125))])
    (.keep [0, 4, 5, 13, 14, 15, 16] (.seq (.block 10 (.seq (.ops [.op (some 143) (.fadr (.t 14) 3),
      .op (some 144) (.load1 (.t 143)),
      .op (some 145) (.bin .eql (.t 144) (.k (.int .i64 4))),
      .op (some 146) (.mov (.t 145)),
      .andor 150 false 3 146 [.op (some 147) (.fadr (.t 14) 3), .op (some 148) (.load1 (.t 147)), .op (some 149) (.bin .eql (.t 148) (.k (.int .i64 5)))] (.t 149),
      .op (some 142) (.mov (.t 150))])
     (.keep [0, 4, 5, 13, 14, 15, 16, 142] (.cond (.t 142)
     (.seq (.ops [.op (some 151) (.mov (.t 16))])
      (.keep [0, 4, 5, 13, 14, 15, 151] (.cond (.t 151)
      (.drawE [[], [], [], [1, 2], [0, 1, 2, 3], [], [], [6], [5, 6, 7], [0, 1, 2, 3, 4, 5, 6, 7, 8], [0, 1, 2, 3, 4, 5, 6, 7, 8, 9]] [.op (some 152) (.bslice 2 []),
        .op (some 153) (.mov (.t 5)),
        .op (some 154) (.mov (.t 15)),
        .op (some 155) (.slc 2 (.t 153) none (some (.t 154)) none),
        .op (some 156) (.app 2 16 [.int .i64 0, .int .i64 0] (.t 152) (.t 155)),
        .op (some 157) (.mov (.t 5)),
        .op (some 158) (.mov (.t 15)),
        .op (some 159) (.bin .add (.t 158) (.k (.int .i64 1))),
        .op (some 160) (.slc 2 (.t 157) (some (.t 159)) none none)]
       [.op (some 161) (.app 2 16 [.int .i64 0, .int .i64 0] (.t 156) (.t 160)),
        .op (some 5) (.mov (.t 161))])
      (.skip))))
     (.seq (.ops [.op (some 163) (.mov (.t 16)),
       .op (some 162) (.mov (.t 163))])
      (.keep [0, 4, 5, 13, 14, 15, 162] (.cond (.t 162)
      (.ops [.op (some 164) (.mov (.t 5)),
        .op (some 165) (.mov (.t 15)),
        .op (some 166) (.fadr (.t 14) 1),
        .op (some 167) (.load1 (.t 166)),
        .op (some 168) (.iadr 2 (.t 164) (.t 165)),
        .op (some 169) (.fadr (.t 168) 1),
        .op none (.store 1 (.t 169) (.t 167))])
      (.drawE [[], [], [], [1, 2], [0, 1, 2, 3], [], [5], [], [7], [5, 6, 7, 8], [5, 6, 7, 8, 9], [0, 1, 2, 3, 4, 5, 6, 7, 8, 9, 10], [], [], [12, 13], [0, 1, 2, 3, 4, 5, 6, 7, 8, 9, 10, 11, 12, 13, 14], [0, 1, 2, 3, 4, 5, 6, 7, 8, 9, 10, 11, 12, 13, 14, 15]] [.op (some 126) (.bslice 2 []),
        .op (some 127) (.mov (.t 5)),
        .op (some 128) (.mov (.t 15)),
        .op (some 129) (.slc 2 (.t 127) none (some (.t 128)) none),
        .op (some 130) (.app 2 16 [.int .i64 0, .int .i64 0] (.t 126) (.t 129)),
        .op (some 131) (.fadr (.t 14) 2),
        .op (some 132) (.load1 (.t 131)),
        .op (some 133) (.fadr (.t 14) 1),
        .op (some 134) (.load1 (.t 133)),
        .op (some 135) (.build [.int .i64 0, .int .i64 0] [(0, 1, .t 132), (1, 1, .t 134)]),
        .op (some 136) (.bslice 2 [.t 135]),
        .op (some 137) (.app 2 16 [.int .i64 0, .int .i64 0] (.t 130) (.t 136)),
        .op (some 138) (.mov (.t 5)),
        .op (some 139) (.mov (.t 15)),
        .op (some 140) (.slc 2 (.t 138) (some (.t 139)) none none)]
       [.op (some 141) (.app 2 16 [.int .i64 0, .int .i64 0] (.t 137) (.t 140)),
        .op (some 5) (.mov (.t 141))]))))))))
    (.keep [0, 4, 5, 13, 14] (.seq (.seq (.ops [.op (some 170) (.fadr (.t 14) 3),
      .op (some 171) (.load1 (.t 170)),
      .op (some 172) (.bin .neq (.t 171) (.k (.int .i64 2))),
      .op (some 173) (.mov (.t 172)),
      .andor 177 true 3 173 [.op (some 174) (.fadr (.t 14) 3), .op (some 175) (.load1 (.t 174)), .op (some 176) (.bin .neq (.t 175) (.k (.int .i64 3)))] (.t 176)])
    (.keep [0, 4, 5, 13, 14, 177] (.cond (.t 177)
     (.exit 7)
     (.skip))))
    (.keep [0, 4, 5, 13, 14] (.seq (.ops [.op (some 15) (.mov (.k (.int .i64 0)))])
    (.keep [0, 4, 5, 13, 14, 15] (.seq (.block 11 (.loop (.seq (.seq (.draw [.op (some 178) (.mov (.t 15)),
       .op (some 179) (.mov (.t 4)),
       .op (some 180) (.lenS (.t 179)),
       .op (some 181) (.bin .lss (.t 178) (.t 180)),
       .op (some 182) (.mov (.t 181)),
       .andor 191 true 4 182 [.op (some 183) (.mov (.t 4)), .op (some 184) (.mov (.t 15)), .op (some 185) (.iadr 2 (.t 183) (.t 184)), .op (some 186) (.fadr (.t 185) 0), .op (some 187) (.load1 (.t 186)), .op (some 188) (.fadr (.t 14) 6), .op (some 189) (.load1 (.t 188)), .op (some 190) (.bin .lss (.t 187) (.t 189))] (.t 190)])
      (.keep [0, 4, 5, 13, 14, 15, 191] (.cond (.t 191)
      (.skip)
      (.exit 11))))
     (.keep [0, 4, 5, 13, 14, 15] (.block 12 (.ops [.op (some 192) (.mov (.t 15)),
       .op (some 193) (.bin .add (.t 192) (.k (.int .i64 1))),
       .op (some 15) (.mov (.t 193))]))))))
    (.keep [0, 4, 5, 13, 14, 15] (.seq (.draw [.op (some 194) (.mov (.t 15)),
     .op (some 195) (.mov (.t 4)),
     .op (some 196) (.lenS (.t 195)),
     .op (some 197) (.bin .eql (.t 194) (.t 196)),
     .op (some 198) (.mov (.t 197)),
     .andor 207 false 4 198 [.op (some 199) (.mov (.t 4)), .op (some 200) (.mov (.t 15)), .op (some 201) (.iadr 2 (.t 199) (.t 200)), .op (some 202) (.fadr (.t 201) 0), .op (some 203) (.load1 (.t 202)), .op (some 204) (.fadr (.t 14) 6), .op (some 205) (.load1 (.t 204)), .op (some 206) (.bin .neq (.t 203) (.t 205))] (.t 206)])
    (.keep [0, 4, 5, 13, 14, 15, 207] (.cond (.t 207)
    (.drawE [[], [], [], [1, 2], [0, 1, 2, 3], [], [5], [], [7], [5, 6, 7, 8], [5, 6, 7, 8, 9], [0, 1, 2, 3, 4, 5, 6, 7, 8, 9, 10], [], [], [12, 13], [0, 1, 2, 3, 4, 5, 6, 7, 8, 9, 10, 11, 12, 13, 14], [0, 1, 2, 3, 4, 5, 6, 7, 8, 9, 10, 11, 12, 13, 14, 15]] [.op (some 208) (.bslice 2 []),
      .op (some 209) (.mov (.t 4)),
      .op (some 210) (.mov (.t 15)),
      .op (some 211) (.slc 2 (.t 209) none (some (.t 210)) none),
      .op (some 212) (.app 2 16 [.int .i64 0, .int .i64 0] (.t 208) (.t 211)),
      .op (some 213) (.fadr (.t 14) 6),
      .op (some 214) (.load1 (.t 213)),
      .op (some 215) (.fadr (.t 14) 1),
      .op (some 216) (.load1 (.t 215)),
      .op (some 217) (.build [.int .i64 0, .int .i64 0] [(0, 1, .t 214), (1, 1, .t 216)]),
      .op (some 218) (.bslice 2 [.t 217]),
      .op (some 219) (.app 2 16 [.int .i64 0, .int .i64 0] (.t 212) (.t 218)),
      .op (some 220) (.mov (.t 4)),
      .op (some 221) (.mov (.t 15)),
      .op (some 222) (.slc 2 (.t 220) (some (.t 221)) none none)]
     [.op (some 223) (.app 2 16 [.int .i64 0, .int .i64 0] (.t 219) (.t 222)),
      .op (some 4) (.mov (.t 223))])
    (.skip)))))))))))))))))))))
   (.keep [0, 4, 5, 13] (.ops [.op (some 90) (.mov (.t 13)),
    .op (some 91) (.bin .add (.t 90) (.k (.int .i64 1))),
    .op (some 13) (.mov (.t 91))])))))))))
 (.keep [4, 5] (.seq (.ops [.op (some 224) (.mov (.t 4)),
   .op (some 225) (.mov (.t 5)),
   .op (some 2) (.mov (.t 224)),
   .op (some 3) (.mov (.t 225))])
 (.keep [2, 3] (.ret))))))))))))))
theorem k_c_l08Analyze_fits : fitsF Try.prog 18 ⟨226, k_c_l08Analyze, [.t 2, .t 3]⟩ = true := by kernel_rfl
set_option maxHeartbeats 16000000 in
theorem c_l08Analyze {log : List GLogRecord} (hl : log.length ≤ 60) (hv : ∀ i (h : i < log.length), log[i].After.length ≤ 1048576) (hr : ∀ i (h : i < log.length), recOK log[i] = true) : Con Try.prog noMv 18 [.d (.sl 10 (log.map GLogRecord.row))] [] (fun r h => r = .tup [.osl 0 2 0 (anaF log log.length).1.length, .osl 1 2 0 (anaF log log.length).2.length] ∧ h = [(0, .rows 2 ((anaF log log.length).1.map GDirty.row)), (1, .rows 2 ((anaF log log.length).2.map GTx.row))]) := by
 refine con_of2 k_c_l08Analyze_fits rfl fun C hP hmv => ?_
 unfold k_c_l08Analyze
 refine cx_seq ?_
 refine cx_ops ?_
 refine ax_q (q_mov rfl) ?_
 refine ax_q (q_mov rfl) ?_
 refine ax_nil ?_
 refine cx_keep rfl rfl ?_
 refine cx_seq ?_
 refine cx_ops ?_
 refine ax_e (e_bslice rfl (by decide) rfl rfl) ?_
 refine ax_q (q_mov rfl) ?_
 refine ax_nil ?_
 refine cx_keep rfl rfl ?_
 refine cx_seq ?_
 refine cx_ops ?_
 refine ax_e (e_bslice rfl (by decide) rfl rfl) ?_
 refine ax_q (q_mov rfl) ?_
 refine ax_nil ?_
 refine cx_keep rfl rfl ?_
 refine cx_seq ?_
 refine cx_ops ?_
 refine ax_q (q_mov rfl) ?_
 refine ax_nil ?_
 refine cx_keep rfl rfl ?_
 refine cx_seq ?_
 refine cx_seq ?_
 refine cx_ops ?_
 refine ax_q (q_mov rfl) ?_
 refine ax_nil ?_
 refine cx_keep rfl rfl ?_
 refine cx_block ?_
 refine cx_loopU (fun m (s : Nat × Nat × AnS) => s.1 ≤ log.length ∧ m = log.length - s.1 ∧ s.2.1 ≤ s.1 ∧ anaF log s.2.1 = s.2.2 ∧ ∀ j (h : j < log.length), s.2.1 ≤ j → j < s.1 → ¬ log[j].Kind = 6) (fun s => [(7, int (s.1 : Nat)), (6, int (s.2.1 : Nat)), (4, .osl 17 2 0 s.2.2.1.length), (5, .osl 18 2 0 s.2.2.2.length)]) (fun s => [(17, .rows 2 (s.2.2.1.map GDirty.row)), (18, .rows 2 (s.2.2.2.map GTx.row))]) ⟨_, (0, 0, [], []), ⟨Nat.zero_le _, rfl, Nat.le_refl _, rfl, fun j h h1 h2 => by simp only at h2; omega⟩, by repeat (first | exact trivial | refine ⟨rfl, ?_⟩ | refine ⟨?_, ?_⟩)⟩ ?_
 rintro m ⟨i, f, d, t⟩ ⟨hi, rfl, hf, hs, hn⟩
 simp only at hi hf hs hn ⊢
 refine cx_seq ?_
 refine cx_seq ?_
 refine cx_ops ?_
 refine ax_q (q_mov rfl) ?_
 refine ax_q (q_mov rfl) ?_
 first | refine ax_q (q_lenS_map rfl) ?_ | refine ax_q (q_lenS_osl rfl) ?_ | refine ax_q (q_lenS_zs rfl) ?_ | refine ax_q (q_lenS rfl) ?_
 refine ax_q (q_ibin rfl rfl rfl) ?_
 refine ax_nil ?_
 refine cx_keep rfl rfl ?_
 refine cx_cond rfl (fun h0 => ?_) (fun h0 => ?_)
 ·
  have h0 := dT h0
  have hix : i < log.length := by omega
  refine cx_skip ?_
  refine cx_keep rfl rfl ?_
  refine cx_seq ?_
  refine cx_block ?_
  refine cx_seq ?_
  refine cx_ops ?_
  refine ax_q (q_mov rfl) ?_
  refine ax_q (q_mov rfl) ?_
  refine ax_q (q_ix rfl rfl (mapAt hix)) ?_
  first | refine ax_q (q_fadr_ptr rfl) ?_ | refine ax_q (q_fadr_rptr rfl) ?_ | refine ax_q (q_fadr_ip rfl) ?_
  first | refine ax_q (q_load1_ptr rfl rfl rfl) ?_ | refine ax_q (q_load1_ip rfl) ?_ | refine ax_q (q_load1_rptr rfl rfl rfl rfl) ?_ | refine ax_q (q_load1_rptr rfl rfl (by assumption) rfl) ?_ | refine ax_q (q_load1_rptr rfl rfl (mapAt (by first | assumption | omega)) rfl) ?_
  refine ax_q (q_ibin rfl rfl rfl) ?_
  refine ax_nil ?_
  refine cx_keep rfl rfl ?_
  refine cx_cond rfl (fun h1 => ?_) (fun h1 => ?_)
  ·
   have h1 := dT h1
   obtain ⟨g1, g2, g3⟩ := rec_lists (hr i hix) h1
   have hrl := @readX_len log[i].After
   have hvi := hv i hix
   refine cx_seq ?_
   refine cx_ops ?_
   refine ax_q (q_mov rfl) ?_
   refine ax_qe (r' := int ((i + 1 : Nat) : Int)) (q_ibin rfl rfl rfl) (by rw [wi (by omega) (by omega)]; rfl) ?_
   refine ax_q (q_mov rfl) ?_
   refine ax_nil ?_
   refine cx_keep rfl rfl ?_
   refine cx_seq ?_
   refine cx_ops ?_
   refine ax_q (q_mov rfl) ?_
   refine ax_q (q_mov rfl) ?_
   refine ax_q (q_ix rfl rfl (mapAt hix)) ?_
   first | refine ax_q (q_fadr_ptr rfl) ?_ | refine ax_q (q_fadr_rptr rfl) ?_ | refine ax_q (q_fadr_ip rfl) ?_
   first | refine ax_q (q_load1_ptr rfl rfl rfl) ?_ | refine ax_q (q_load1_ip rfl) ?_ | refine ax_q (q_load1_rptr rfl rfl rfl rfl) ?_ | refine ax_q (q_load1_rptr rfl rfl (by assumption) rfl) ?_ | refine ax_q (q_load1_rptr rfl rfl (mapAt (by first | assumption | omega)) rfl) ?_
   first | refine ax_call rfl (vc_pure0 (c_l04ReadCheck (t := log[i].After) ?_) hP rfl rfl ?_) | refine ax_call rfl (vc_lend0 (c_l04ReadCheck (t := log[i].After) ?_) hP (by repeat (first | exact lal_id _ rfl | exact LAL.nil | refine LAL.cons ?_ ?_ | exact la_id _ rfl | exact LA.lend (lend_whole rfl (by first | (simp; done) | (rw [List.length_map]; rfl))) | refine LA.agg ?_ | refine LA.fn ?_ | refine LA.lend ?_ | exact Lend.d _ | exact Lend.zs _ | exact lend_whole rfl (by first | (simp; done) | (rw [List.length_map]; rfl)) | refine Lend.ptr rfl ?_ | refine Lend.fn ?_ | exact LendL.nil | refine LendL.cons ?_ ?_)) rfl rfl ?_)
   ·
    exact hvi
   refine ax_q (q_mov rfl) ?_
   refine ax_q (q_ext rfl rfl) ?_
   refine ax_q (q_ext rfl rfl) ?_
   refine ax_q (q_ext rfl rfl) ?_
   refine ax_q (q_mov rfl) ?_
   refine ax_q (q_mov rfl) ?_
   refine ax_q (q_mov rfl) ?_
   refine ax_nil ?_
   refine cx_keep rfl rfl ?_
   refine cx_seq ?_
   refine cx_ops ?_
   refine ax_e (e_bslice rfl (by decide) rfl rfl) ?_
   refine ax_wk (wk_swap 43 17 rfl rfl) ?_
   refine ax_q (q_mov rfl) ?_
   refine ax_nil ?_
   refine cx_keep rfl rfl ?_
   refine cx_seq ?_
   refine cx_ops ?_
   refine ax_e (e_bslice rfl (by decide) rfl rfl) ?_
   refine ax_wk (wk_swap 44 18 rfl rfl) ?_
   refine ax_q (q_mov rfl) ?_
   refine ax_nil ?_
   refine cx_keep rfl rfl ?_
   refine cx_seq ?_
   refine cx_seq ?_
   refine cx_ops ?_
   refine ax_q (q_mov rfl) ?_
   refine ax_nil ?_
   refine cx_keep rfl rfl ?_
   refine cx_block ?_
   refine cx_loopU (fun m j => j ≤ (readX log[i].After).1.length ∧ m = (readX log[i].After).1.length - j) (fun j : Nat => [(11, int j), (4, .osl 17 2 0 j)]) (fun j => [(17, .rows 2 ((((readX log[i].After).1.take j).map dOf).map GDirty.row)), (18, .rows 2 [])]) ⟨_, 0, ⟨Nat.zero_le _, rfl⟩, by repeat (first | exact trivial | refine ⟨rfl, ?_⟩ | refine ⟨?_, ?_⟩)⟩ ?_
   rintro m j ⟨hj, rfl⟩
   refine cx_seq ?_
   refine cx_seq ?_
   refine cx_ops ?_
   refine ax_q (q_mov rfl) ?_
   refine ax_q (q_mov rfl) ?_
   first | refine ax_q (q_lenS_map rfl) ?_ | refine ax_q (q_lenS_osl rfl) ?_ | refine ax_q (q_lenS_zs rfl) ?_ | refine ax_q (q_lenS rfl) ?_
   refine ax_q (q_ibin rfl rfl rfl) ?_
   refine ax_nil ?_
   refine cx_keep rfl rfl ?_
   refine cx_cond rfl (fun h2 => ?_) (fun h2 => ?_)
   ·
    have h2 := dT h2
    have hjx : j < (readX log[i].After).1.length := by omega
    refine cx_skip ?_
    refine cx_keep rfl rfl ?_
    refine cx_seq ?_
    refine cx_block ?_
    refine cx_drawL 0 51 (fun _ => false) (fun _ => true) [] ([]) [[4], [8], [11], [52, 53], [54], [55], [8], [11], [57, 58], [59], [60], [56, 61], [62]] [[], [], [], [], [], [], [], [], [], [], [], [], []] rfl ?_
    first | refine ⟨⟨51, _, []⟩, .inl ⟨rfl, rfl, rfl, locl_of (loc_q (q_mov rfl))⟩, ?_⟩
    first | refine ⟨_, .inr ⟨rfl, _, rfl, .inr ⟨rfl, rfl, .inr rfl, rfl, rfl⟩, loc_q (q_mov rfl)⟩, ?_⟩
    first | refine ⟨_, .inr ⟨rfl, _, rfl, .inr ⟨rfl, rfl, .inr rfl, rfl, rfl⟩, loc_q (q_mov rfl)⟩, ?_⟩
    first | refine ⟨_, .inr ⟨rfl, _, rfl, .inr ⟨rfl, rfl, .inr rfl, rfl, rfl⟩, loc_q (q_ix rfl rfl (mapAt hjx))⟩, ?_⟩
    first | refine ⟨_, .inr ⟨rfl, _, rfl, .inr ⟨rfl, rfl, .inr rfl, rfl, rfl⟩, loc_q (q_iadrI rfl rfl (by decide) (by decide))⟩, ?_⟩
    first | refine ⟨_, .inr ⟨rfl, _, rfl, .inr ⟨rfl, rfl, .inr rfl, rfl, rfl⟩, loc_q (q_load1_ptr rfl rfl rfl)⟩, ?_⟩ | refine ⟨_, .inr ⟨rfl, _, rfl, .inr ⟨rfl, rfl, .inr rfl, rfl, rfl⟩, loc_q (q_load1_ip rfl)⟩, ?_⟩ | refine ⟨_, .inr ⟨rfl, _, rfl, .inr ⟨rfl, rfl, .inr rfl, rfl, rfl⟩, loc_q (q_load1_rptr rfl rfl rfl rfl)⟩, ?_⟩ | refine ⟨_, .inr ⟨rfl, _, rfl, .inr ⟨rfl, rfl, .inr rfl, rfl, rfl⟩, loc_q (q_load1_rptr rfl rfl (by assumption) rfl)⟩, ?_⟩ | refine ⟨_, .inr ⟨rfl, _, rfl, .inr ⟨rfl, rfl, .inr rfl, rfl, rfl⟩, loc_q (q_load1_rptr rfl rfl (mapAt (by first | assumption | omega)) rfl)⟩, ?_⟩
    first | refine ⟨_, .inr ⟨rfl, _, rfl, .inr ⟨rfl, rfl, .inr rfl, rfl, rfl⟩, loc_q (q_mov rfl)⟩, ?_⟩
    first | refine ⟨_, .inr ⟨rfl, _, rfl, .inr ⟨rfl, rfl, .inr rfl, rfl, rfl⟩, loc_q (q_mov rfl)⟩, ?_⟩
    first | refine ⟨_, .inr ⟨rfl, _, rfl, .inr ⟨rfl, rfl, .inr rfl, rfl, rfl⟩, loc_q (q_ix rfl rfl (mapAt hjx))⟩, ?_⟩
    first | refine ⟨_, .inr ⟨rfl, _, rfl, .inr ⟨rfl, rfl, .inr rfl, rfl, rfl⟩, loc_q (q_iadrI rfl rfl (by decide) (by decide))⟩, ?_⟩
    first | refine ⟨_, .inr ⟨rfl, _, rfl, .inr ⟨rfl, rfl, .inr rfl, rfl, rfl⟩, loc_q (q_load1_ptr rfl rfl rfl)⟩, ?_⟩ | refine ⟨_, .inr ⟨rfl, _, rfl, .inr ⟨rfl, rfl, .inr rfl, rfl, rfl⟩, loc_q (q_load1_ip rfl)⟩, ?_⟩ | refine ⟨_, .inr ⟨rfl, _, rfl, .inr ⟨rfl, rfl, .inr rfl, rfl, rfl⟩, loc_q (q_load1_rptr rfl rfl rfl rfl)⟩, ?_⟩ | refine ⟨_, .inr ⟨rfl, _, rfl, .inr ⟨rfl, rfl, .inr rfl, rfl, rfl⟩, loc_q (q_load1_rptr rfl rfl (by assumption) rfl)⟩, ?_⟩ | refine ⟨_, .inr ⟨rfl, _, rfl, .inr ⟨rfl, rfl, .inr rfl, rfl, rfl⟩, loc_q (q_load1_rptr rfl rfl (mapAt (by first | assumption | omega)) rfl)⟩, ?_⟩
    first | refine ⟨_, .inr ⟨rfl, _, rfl, .inr ⟨rfl, rfl, .inr rfl, rfl, rfl⟩, loc_q (q_build rfl)⟩, ?_⟩
    first | refine ⟨_, .inr ⟨rfl, _, rfl, .inr ⟨rfl, rfl, .inr rfl, rfl, rfl⟩, loc_bsliceD (rows := [prRow (readX log[i].After).1[j]]) rfl⟩, ?_⟩
    refine ⟨rfl, ?_⟩
    refine ax_e (e_appn (n' := j + 1) (rs' := (((readX log[i].After).1.take (j + 1)).map dOf).map GDirty.row) rfl rfl (by simp; omega) rfl (src_sl 2 _) (.inl (by decide)) (hbnd (by omega) (by simp) (by decide)) rfl (app_tk (f := dOf) (row := GDirty.row) (fun _ => rfl) hjx)) ?_
    refine ax_q (q_mov rfl) ?_
    refine ax_nil ?_
    refine cx_keep rfl rfl ?_
    refine cx_ops ?_
    refine ax_q (q_mov rfl) ?_
    refine ax_qe (r' := int ((j + 1 : Nat) : Int)) (q_ibin rfl rfl rfl) (by rw [wi (by omega) (by omega)]; rfl) ?_
    refine ax_q (q_mov rfl) ?_
    refine ax_nil ?_
    exact ⟨_, j + 1, by omega, ⟨by omega, rfl⟩, by repeat (first | exact trivial | refine ⟨rfl, ?_⟩ | refine ⟨?_, ?_⟩)⟩
   ·
    have h2 := dF h2
    obtain rfl : j = (readX log[i].After).1.length := by omega
    rw [List.take_length]
    refine cx_exit rfl ?_
    refine cx_keep rfl rfl ?_
    refine cx_seq ?_
    refine cx_ops ?_
    refine ax_q (q_mov rfl) ?_
    refine ax_nil ?_
    refine cx_keep rfl rfl ?_
    refine cx_block ?_
    refine cx_loopU (fun m j => j ≤ (readX log[i].After).2.1.length ∧ m = (readX log[i].After).2.1.length - j) (fun j : Nat => [(12, int j), (5, .osl 18 2 0 j)]) (fun j => [(18, .rows 2 ((((readX log[i].After).2.1.take j).map tOf).map GTx.row)), (17, .rows 2 (((readX log[i].After).1.map dOf).map GDirty.row))]) ⟨_, 0, ⟨Nat.zero_le _, rfl⟩, by repeat (first | exact trivial | refine ⟨rfl, ?_⟩ | refine ⟨?_, ?_⟩)⟩ ?_
    rintro m j ⟨hj, rfl⟩
    refine cx_seq ?_
    refine cx_seq ?_
    refine cx_ops ?_
    refine ax_q (q_mov rfl) ?_
    refine ax_q (q_mov rfl) ?_
    first | refine ax_q (q_lenS_map rfl) ?_ | refine ax_q (q_lenS_osl rfl) ?_ | refine ax_q (q_lenS_zs rfl) ?_ | refine ax_q (q_lenS rfl) ?_
    refine ax_q (q_ibin rfl rfl rfl) ?_
    refine ax_nil ?_
    refine cx_keep rfl rfl ?_
    refine cx_cond rfl (fun h3 => ?_) (fun h3 => ?_)
    ·
     have h3 := dT h3
     have hjx : j < (readX log[i].After).2.1.length := by omega
     refine cx_skip ?_
     refine cx_keep rfl rfl ?_
     refine cx_seq ?_
     refine cx_block ?_
     refine cx_drawL 0 71 (fun _ => false) (fun _ => true) [] ([]) [[5], [9], [12], [72, 73], [74], [75], [9], [12], [77, 78], [79], [80], [76, 81], [82]] [[], [], [], [], [], [], [], [], [], [], [], [], []] rfl ?_
     first | refine ⟨⟨71, _, []⟩, .inl ⟨rfl, rfl, rfl, locl_of (loc_q (q_mov rfl))⟩, ?_⟩
     first | refine ⟨_, .inr ⟨rfl, _, rfl, .inr ⟨rfl, rfl, .inr rfl, rfl, rfl⟩, loc_q (q_mov rfl)⟩, ?_⟩
     first | refine ⟨_, .inr ⟨rfl, _, rfl, .inr ⟨rfl, rfl, .inr rfl, rfl, rfl⟩, loc_q (q_mov rfl)⟩, ?_⟩
     first | refine ⟨_, .inr ⟨rfl, _, rfl, .inr ⟨rfl, rfl, .inr rfl, rfl, rfl⟩, loc_q (q_ix rfl rfl (mapAt hjx))⟩, ?_⟩
     first | refine ⟨_, .inr ⟨rfl, _, rfl, .inr ⟨rfl, rfl, .inr rfl, rfl, rfl⟩, loc_q (q_iadrI rfl rfl (by decide) (by decide))⟩, ?_⟩
     first | refine ⟨_, .inr ⟨rfl, _, rfl, .inr ⟨rfl, rfl, .inr rfl, rfl, rfl⟩, loc_q (q_load1_ptr rfl rfl rfl)⟩, ?_⟩ | refine ⟨_, .inr ⟨rfl, _, rfl, .inr ⟨rfl, rfl, .inr rfl, rfl, rfl⟩, loc_q (q_load1_ip rfl)⟩, ?_⟩ | refine ⟨_, .inr ⟨rfl, _, rfl, .inr ⟨rfl, rfl, .inr rfl, rfl, rfl⟩, loc_q (q_load1_rptr rfl rfl rfl rfl)⟩, ?_⟩ | refine ⟨_, .inr ⟨rfl, _, rfl, .inr ⟨rfl, rfl, .inr rfl, rfl, rfl⟩, loc_q (q_load1_rptr rfl rfl (by assumption) rfl)⟩, ?_⟩ | refine ⟨_, .inr ⟨rfl, _, rfl, .inr ⟨rfl, rfl, .inr rfl, rfl, rfl⟩, loc_q (q_load1_rptr rfl rfl (mapAt (by first | assumption | omega)) rfl)⟩, ?_⟩
     first | refine ⟨_, .inr ⟨rfl, _, rfl, .inr ⟨rfl, rfl, .inr rfl, rfl, rfl⟩, loc_q (q_mov rfl)⟩, ?_⟩
     first | refine ⟨_, .inr ⟨rfl, _, rfl, .inr ⟨rfl, rfl, .inr rfl, rfl, rfl⟩, loc_q (q_mov rfl)⟩, ?_⟩
     first | refine ⟨_, .inr ⟨rfl, _, rfl, .inr ⟨rfl, rfl, .inr rfl, rfl, rfl⟩, loc_q (q_ix rfl rfl (mapAt hjx))⟩, ?_⟩
     first | refine ⟨_, .inr ⟨rfl, _, rfl, .inr ⟨rfl, rfl, .inr rfl, rfl, rfl⟩, loc_q (q_iadrI rfl rfl (by decide) (by decide))⟩, ?_⟩
     first | refine ⟨_, .inr ⟨rfl, _, rfl, .inr ⟨rfl, rfl, .inr rfl, rfl, rfl⟩, loc_q (q_load1_ptr rfl rfl rfl)⟩, ?_⟩ | refine ⟨_, .inr ⟨rfl, _, rfl, .inr ⟨rfl, rfl, .inr rfl, rfl, rfl⟩, loc_q (q_load1_ip rfl)⟩, ?_⟩ | refine ⟨_, .inr ⟨rfl, _, rfl, .inr ⟨rfl, rfl, .inr rfl, rfl, rfl⟩, loc_q (q_load1_rptr rfl rfl rfl rfl)⟩, ?_⟩ | refine ⟨_, .inr ⟨rfl, _, rfl, .inr ⟨rfl, rfl, .inr rfl, rfl, rfl⟩, loc_q (q_load1_rptr rfl rfl (by assumption) rfl)⟩, ?_⟩ | refine ⟨_, .inr ⟨rfl, _, rfl, .inr ⟨rfl, rfl, .inr rfl, rfl, rfl⟩, loc_q (q_load1_rptr rfl rfl (mapAt (by first | assumption | omega)) rfl)⟩, ?_⟩
     first | refine ⟨_, .inr ⟨rfl, _, rfl, .inr ⟨rfl, rfl, .inr rfl, rfl, rfl⟩, loc_q (q_build rfl)⟩, ?_⟩
     first | refine ⟨_, .inr ⟨rfl, _, rfl, .inr ⟨rfl, rfl, .inr rfl, rfl, rfl⟩, loc_bsliceD (rows := [prRow (readX log[i].After).2.1[j]]) rfl⟩, ?_⟩
     refine ⟨rfl, ?_⟩
     refine ax_e (e_appn (n' := j + 1) (rs' := (((readX log[i].After).2.1.take (j + 1)).map tOf).map GTx.row) rfl rfl (by simp; omega) rfl (src_sl 2 _) (.inl (by decide)) (hbnd (by omega) (by simp) (by decide)) rfl (app_tk (f := tOf) (row := GTx.row) (fun _ => rfl) hjx)) ?_
     refine ax_q (q_mov rfl) ?_
     refine ax_nil ?_
     refine cx_keep rfl rfl ?_
     refine cx_ops ?_
     refine ax_q (q_mov rfl) ?_
     refine ax_qe (r' := int ((j + 1 : Nat) : Int)) (q_ibin rfl rfl rfl) (by rw [wi (by omega) (by omega)]; rfl) ?_
     refine ax_q (q_mov rfl) ?_
     refine ax_nil ?_
     exact ⟨_, j + 1, by omega, ⟨by omega, rfl⟩, by repeat (first | exact trivial | refine ⟨rfl, ?_⟩ | refine ⟨?_, ?_⟩)⟩
    ·
     have h3 := dF h3
     obtain rfl : j = (readX log[i].After).2.1.length := by omega
     rw [List.take_length]
     refine cx_exit rfl ?_
     refine cx_keep rfl rfl ?_
     refine cx_ops ?_
     refine ax_q (q_mov rfl) ?_
     refine ax_qe (r' := int ((i + 1 : Nat) : Int)) (q_ibin rfl rfl rfl) (by rw [wi (by omega) (by omega)]; rfl) ?_
     refine ax_q (q_mov rfl) ?_
     refine ax_nil ?_
     exact ⟨_, (i + 1, i + 1, ((readX log[i].After).1.map dOf, (readX log[i].After).2.1.map tOf)), by omega, ⟨by simp only; omega, rfl, Nat.le_refl _, (by rw [anaF_succ hix, step_6 h1]; rfl), fun j h a b => by simp only at a b; omega⟩, by simp only [List.length_map]; exact (by repeat (first | exact trivial | refine ⟨rfl, ?_⟩ | refine ⟨?_, ?_⟩))⟩
  ·
   have h1 := dF h1
   refine cx_skip ?_
   refine cx_keep rfl rfl ?_
   refine cx_ops ?_
   refine ax_q (q_mov rfl) ?_
   refine ax_qe (r' := int ((i + 1 : Nat) : Int)) (q_ibin rfl rfl rfl) (by rw [wi (by omega) (by omega)]; rfl) ?_
   refine ax_q (q_mov rfl) ?_
   refine ax_nil ?_
   exact ⟨_, (i + 1, f, d, t), by omega, ⟨by simp only; omega, rfl, by simp only; omega, hs, fun j h a b => by
    rcases Nat.lt_succ_iff_lt_or_eq.1 b with q | q
    ·
     exact hn j h a q
    ·
     subst q; exact h1⟩, by repeat (first | exact trivial | refine ⟨rfl, ?_⟩ | refine ⟨?_, ?_⟩)⟩
 ·
  have h0 := dF h0
  obtain rfl : i = log.length := by omega
  refine cx_exit rfl ?_
  refine cx_keep rfl rfl ?_
  refine cx_seq ?_
  refine cx_seq ?_
  refine cx_ops ?_
  refine ax_q (q_mov rfl) ?_
  refine ax_q (q_mov rfl) ?_
  refine ax_nil ?_
  refine cx_keep rfl rfl ?_
  refine cx_block ?_
  refine cx_loopU (fun m k => f ≤ k ∧ k ≤ log.length ∧ m = log.length - k) (fun k : Nat => [(13, int k), (4, .osl 17 2 0 (anaF log k).1.length), (5, .osl 18 2 0 (anaF log k).2.length)]) (fun k => [(17, .rows 2 ((anaF log k).1.map GDirty.row)), (18, .rows 2 ((anaF log k).2.map GTx.row))]) ⟨_, f, ⟨Nat.le_refl _, by omega, rfl⟩, by rw [hs]; exact (by repeat (first | exact trivial | refine ⟨rfl, ?_⟩ | refine ⟨?_, ?_⟩))⟩ ?_
  rintro m k ⟨hfk, hk, rfl⟩
  clear hs
  refine cx_seq ?_
  refine cx_seq ?_
  refine cx_ops ?_
  refine ax_q (q_mov rfl) ?_
  refine ax_q (q_mov rfl) ?_
  first | refine ax_q (q_lenS_map rfl) ?_ | refine ax_q (q_lenS_osl rfl) ?_ | refine ax_q (q_lenS_zs rfl) ?_ | refine ax_q (q_lenS rfl) ?_
  refine ax_q (q_ibin rfl rfl rfl) ?_
  refine ax_nil ?_
  refine cx_keep rfl rfl ?_
  refine cx_cond rfl (fun h4 => ?_) (fun h4 => ?_)
  ·
   have h4 := dT h4
   have hkx : k < log.length := by omega
   have hrk := hr k hkx
   have hvk := hv k hkx
   have hI := anaI hr k (by omega)
   obtain ⟨p, t, hs⟩ : ∃ p t, anaF log k = (p, t) := ⟨_, _, rfl⟩
   obtain ⟨i1, i2, i3, i4⟩ := hI
   rw [hs] at i1 i2 i3 i4 ⊢
   simp only at i1 i2 i3 i4 ⊢
   have hk6 := hn k hkx hfk hkx
   refine cx_skip ?_
   refine cx_keep rfl rfl ?_
   refine cx_seq ?_
   refine cx_block ?_
   refine cx_seq ?_
   refine cx_ops ?_
   refine ax_q (q_mov rfl) ?_
   refine ax_q (q_mov rfl) ?_
   refine ax_q (q_ix rfl rfl (mapAt hkx)) ?_
   first | refine ax_q (q_ldN rfl rfl rfl) ?_ | refine ax_q (q_loadN_ip rfl (Nat.le_refl _)) ?_ | refine ax_q (q_loadN_ip rfl (by decide)) ?_ | refine ax_q (q_loadN_rptr rfl rfl (by assumption) (by decide)) ?_ | refine ax_q (q_loadN_rptr rfl rfl (mapAt (by first | assumption | omega)) (by decide)) ?_
   refine ax_e (e_alloc (by decide) rfl rfl) ?_
   refine ax_e (e_st rfl rfl rfl rfl rfl rfl rfl) ?_
   refine ax_nil ?_
   refine cx_keep rfl rfl ?_
   refine cx_seq ?_
   refine cx_ops ?_
   refine ax_q (q_mov rfl) ?_
   refine ax_nil ?_
   refine cx_keep rfl rfl ?_
   refine cx_seq ?_
   refine cx_block ?_
   refine cx_loopU (fun m j => j ≤ t.length ∧ m = t.length - j ∧ ∀ i (h : i < t.length), i < j → GTx.Id t[i] < log[k].Tx) (fun j : Nat => [(15, int j)]) (fun _ => [(17, .rows 2 (p.map GDirty.row)), (18, .rows 2 (t.map GTx.row)), (14, .box (log[k].row.map .d))]) ⟨_, 0, ⟨Nat.zero_le _, rfl, fun i h hi => by omega⟩, by repeat (first | exact trivial | refine ⟨rfl, ?_⟩ | refine ⟨?_, ?_⟩)⟩ ?_
   rintro m j ⟨hj, rfl, hb⟩
   refine cx_seq ?_
   refine cx_seq ?_
   refine cx_draw ?_
   refine ax_q (q_mov rfl) ?_
   refine ax_q (q_mov rfl) ?_
   first | refine ax_q (q_lenS_map rfl) ?_ | refine ax_q (q_lenS_osl rfl) ?_ | refine ax_q (q_lenS_zs rfl) ?_ | refine ax_q (q_lenS rfl) ?_
   refine ax_q (q_ibin rfl rfl rfl) ?_
   refine ax_q (q_mov rfl) ?_
   apply ax_and rfl rfl
   ·
    intro g
    have g := dT g
    refine ax_q (q_mov rfl) ?_
    refine ax_q (q_mov rfl) ?_
    refine ax_q (q_ixo rfl rfl (by omega)) ?_
    first | refine ax_q (q_fadr_ptr rfl) ?_ | refine ax_q (q_fadr_rptr rfl) ?_ | refine ax_q (q_fadr_ip rfl) ?_
    refine ax_q (q_load1_rptr rfl rfl (mapAtZ (z := .zero) (by omega)) rfl) ?_
    refine ax_q (q_fadr_ptr rfl) ?_
    refine ax_q (q_load1_ptr rfl rfl rfl) ?_
    refine ax_q (q_ibin rfl rfl rfl) ?_
    exact ax_nil ⟨rfl, by repeat (first | exact trivial | refine ⟨rfl, ?_⟩ | refine ⟨?_, ?_⟩)⟩
   refine ax_nil ?_
   refine cx_keep rfl rfl ?_
   refine cx_cond rfl (fun h5 => ?_) (fun h5 => ?_)
   ·
    have h5 := (fun h => And.intro (dT (and_T h).1) (dT (and_T h).2)) h5
    refine cx_skip ?_
    refine cx_keep rfl rfl ?_
    refine cx_block ?_
    refine cx_ops ?_
    refine ax_q (q_mov rfl) ?_
    refine ax_qe (r' := int ((j + 1 : Nat) : Int)) (q_ibin rfl rfl rfl) (by rw [wi (by omega) (by omega)]; rfl) ?_
    refine ax_q (q_mov rfl) ?_
    refine ax_nil ?_
    exact ⟨_, j + 1, by omega, ⟨by omega, rfl, fun i h hi => by
     rcases Nat.lt_succ_iff_lt_or_eq.1 hi with q | rfl
     ·
      exact hb i h q
     ·
      have := h5.2; rwa [getD_z h] at this⟩, by repeat (first | exact trivial | refine ⟨rfl, ?_⟩ | refine ⟨?_, ?_⟩)⟩
   ·
    have h5 := (fun h => (and_F h).imp dF dF) h5
    have hjp := posK_of (κ := GTx.Id) (x := log[k].Tx) hj hb (fun h => by
     rcases h5 with q | q
     ·
      omega
     ·
      rwa [getD_z h] at q)
    subst hjp
    refine cx_exit rfl ?_
    refine cx_keep rfl rfl ?_
    refine cx_seq ?_
    refine cx_draw ?_
    refine ax_q (q_mov rfl) ?_
    refine ax_q (q_mov rfl) ?_
    first | refine ax_q (q_lenS_map rfl) ?_ | refine ax_q (q_lenS_osl rfl) ?_ | refine ax_q (q_lenS_zs rfl) ?_ | refine ax_q (q_lenS rfl) ?_
    refine ax_q (q_ibin rfl rfl rfl) ?_
    refine ax_q (q_mov rfl) ?_
    apply ax_and rfl rfl
    ·
     intro g
     have g := dT g
     refine ax_q (q_mov rfl) ?_
     refine ax_q (q_mov rfl) ?_
     refine ax_q (q_ixo rfl rfl (by omega)) ?_
     first | refine ax_q (q_fadr_ptr rfl) ?_ | refine ax_q (q_fadr_rptr rfl) ?_ | refine ax_q (q_fadr_ip rfl) ?_
     refine ax_q (q_load1_rptr rfl rfl (mapAtZ (z := .zero) (by omega)) rfl) ?_
     refine ax_q (q_fadr_ptr rfl) ?_
     refine ax_q (q_load1_ptr rfl rfl rfl) ?_
     refine ax_q (q_ibin rfl rfl rfl) ?_
     exact ax_nil ⟨rfl, by repeat (first | exact trivial | refine ⟨rfl, ?_⟩ | refine ⟨?_, ?_⟩)⟩
    refine ax_q (q_mov rfl) ?_
    refine ax_nil ?_
    refine cx_keep rfl rfl ?_
    refine cx_seq ?_
    refine cx_block ?_
    refine cx_seq ?_
    refine cx_ops ?_
    refine ax_q (q_fadr_ptr rfl) ?_
    refine ax_q (q_load1_ptr rfl rfl rfl) ?_
    refine ax_q (q_ibin rfl rfl rfl) ?_
    refine ax_q (q_mov rfl) ?_
    apply ax_or rfl rfl
    ·
     intro g
     have g := dF g
     refine ax_q (q_fadr_ptr rfl) ?_
     refine ax_q (q_load1_ptr rfl rfl rfl) ?_
     refine ax_q (q_ibin rfl rfl rfl) ?_
     exact ax_nil ⟨rfl, by repeat (first | exact trivial | refine ⟨rfl, ?_⟩ | refine ⟨?_, ?_⟩)⟩
    refine ax_q (q_mov rfl) ?_
    refine ax_nil ?_
    refine cx_keep rfl rfl ?_
    refine cx_cond rfl (fun h6 => ?_) (fun h6 => ?_)
    ·
     have h6 := (fun h => (or_T h).imp dT dT) h6
     refine cx_seq ?_
     refine cx_ops ?_
     refine ax_q (q_mov rfl) ?_
     refine ax_nil ?_
     refine cx_keep rfl rfl ?_
     refine cx_cond rfl (fun h7 => ?_) (fun h7 => ?_)
     ·
      have h7 := (fun h => And.intro (dT (and_T h).1) (dT (and_T h).2)) h7
      have ha := atK_t h7
      obtain ⟨hP, hE⟩ := atK_iff.1 ha
      refine cx_drawL 1 153 (fun _ => false) (fun _ => true) [] ([]) [[], [5], [15], [153, 154], [152, 155], [5], [15], [158], [157, 159]] [[], [], [], [], [], [], [], [], []] rfl ?_
      first | refine ⟨_, .inr ⟨rfl, _, rfl, .inr ⟨rfl, rfl, .inr rfl, rfl, rfl⟩, loc_bsliceZ⟩, ?_⟩
      first | refine ⟨⟨153, _, []⟩, .inl ⟨rfl, rfl, rfl, locl_of (loc_q (q_mov rfl))⟩, ?_⟩
      first | refine ⟨_, .inr ⟨rfl, _, rfl, .inr ⟨rfl, rfl, .inr rfl, rfl, rfl⟩, loc_q (q_mov rfl)⟩, ?_⟩
      first | refine ⟨_, .inr ⟨rfl, _, rfl, .inr ⟨rfl, rfl, .inl rfl, rfl, rfl⟩, loc_qe (r' := .osl 18 2 0 (posK GTx.Id t log[k].Tx)) (q_slc_osl rfl rfl rfl (by omega) (by omega) (by omega)) (oslE0 (by omega) (by omega))⟩, ?_⟩
      first | refine ⟨_, .inr ⟨rfl, _, rfl, .inr ⟨rfl, rfl, .inl rfl, rfl, rfl⟩, loc_appZ (n := (posK GTx.Id t log[k].Tx)) (rs := (t.take (posK GTx.Id t log[k].Tx)).map GTx.row) rfl rfl (fun _ _ h => src_osl (s := 0) (h _ _ rfl) (by simp; omega)) (bnd0 (by simp; omega) (by decide)) (by simp; omega) take_row⟩, ?_⟩
      first | refine ⟨_, .inr ⟨rfl, _, rfl, .inr ⟨rfl, rfl, .inr rfl, rfl, rfl⟩, loc_q (q_mov rfl)⟩, ?_⟩
      first | refine ⟨_, .inr ⟨rfl, _, rfl, .inr ⟨rfl, rfl, .inr rfl, rfl, rfl⟩, loc_q (q_mov rfl)⟩, ?_⟩
      first | refine ⟨_, .inr ⟨rfl, _, rfl, .inr ⟨rfl, rfl, .inr rfl, rfl, rfl⟩, loc_qe (r' := int (((posK GTx.Id t log[k].Tx) + 1 : Nat) : Int)) (q_ibin rfl rfl rfl) (by rw [wi (by omega) (by omega)]; rfl)⟩, ?_⟩
      first | refine ⟨_, .inr ⟨rfl, _, rfl, .inr ⟨rfl, rfl, .inr rfl, rfl, rfl⟩, loc_qe (r' := .osl 18 2 ((posK GTx.Id t log[k].Tx) + 1) (t.length - ((posK GTx.Id t log[k].Tx) + 1))) (q_slc_osl rfl rfl rfl (by omega) (by omega) (by omega)) (oslE0 (by omega) (by omega))⟩, ?_⟩
      refine ⟨rfl, ?_⟩
      refine ax_e (e_appn (n' := (delA t (posK GTx.Id t log[k].Tx)).length) (rs' := (delA t (posK GTx.Id t log[k].Tx)).map GTx.row) rfl rfl (by simp; omega) rfl (src_osl rfl (by simp only [List.length_map]; omega)) (.inl (by decide)) (hbnd (by omega) (by simp only [List.length_take, List.length_drop, List.length_map]; omega) (by decide)) (delA_cnt (hP)) (delA_rows (hP))) ?_
      refine ax_wk (wk_swap 156 18 rfl rfl) ?_
      refine ax_q (q_mov rfl) ?_
      refine ax_nil ?_
      refine cx_keep rfl rfl ?_
      refine cx_seq ?_
      refine cx_seq ?_
      refine cx_ops ?_
      refine ax_q (q_fadr_ptr rfl) ?_
      refine ax_q (q_load1_ptr rfl rfl rfl) ?_
      refine ax_q (q_ibin rfl rfl rfl) ?_
      refine ax_q (q_mov rfl) ?_
      apply ax_and rfl rfl
      ·
       intro g
       have g := nT g
       refine ax_q (q_fadr_ptr rfl) ?_
       refine ax_q (q_load1_ptr rfl rfl rfl) ?_
       refine ax_q (q_ibin rfl rfl rfl) ?_
       exact ax_nil ⟨rfl, by repeat (first | exact trivial | refine ⟨rfl, ?_⟩ | refine ⟨?_, ?_⟩)⟩
      refine ax_nil ?_
      refine cx_keep rfl rfl ?_
      refine cx_cond rfl (fun h9 => ?_) (fun h9 => ?_)
      ·
       have h9 := (fun h => And.intro (nT (and_T h).1) (nT (and_T h).2)) h9
       refine cx_exit rfl ?_
       refine cx_keep rfl rfl ?_
       refine cx_ops ?_
       refine ax_q (q_mov rfl) ?_
       refine ax_qe (r' := int ((k + 1 : Nat) : Int)) (q_ibin rfl rfl rfl) (by rw [wi (by omega) (by omega)]; rfl) ?_
       refine ax_q (q_mov rfl) ?_
       refine ax_nil ?_
       have hF : anaF log (k + 1) = (p, (delA t (posK GTx.Id t log[k].Tx))) := by rw [anaF_succ hkx, hs, step_d hk6 h6, delK_1 ha]
       exact ⟨_, k + 1, by omega, ⟨by omega, by omega, rfl⟩, by rw [hF]; exact (by repeat (first | exact trivial | refine ⟨rfl, ?_⟩ | refine ⟨?_, ?_⟩))⟩
      ·
       have h9 := (fun h => (and_F h).imp nF nF) h9
       exfalso; omega
     ·
      have h7 := (fun h => (and_F h).imp dF dF) h7
      have ha := atK_f h7
      refine cx_skip ?_
      refine cx_keep rfl rfl ?_
      refine cx_seq ?_
      refine cx_seq ?_
      refine cx_ops ?_
      refine ax_q (q_fadr_ptr rfl) ?_
      refine ax_q (q_load1_ptr rfl rfl rfl) ?_
      refine ax_q (q_ibin rfl rfl rfl) ?_
      refine ax_q (q_mov rfl) ?_
      apply ax_and rfl rfl
      ·
       intro g
       have g := nT g
       refine ax_q (q_fadr_ptr rfl) ?_
       refine ax_q (q_load1_ptr rfl rfl rfl) ?_
       refine ax_q (q_ibin rfl rfl rfl) ?_
       exact ax_nil ⟨rfl, by repeat (first | exact trivial | refine ⟨rfl, ?_⟩ | refine ⟨?_, ?_⟩)⟩
      refine ax_nil ?_
      refine cx_keep rfl rfl ?_
      refine cx_cond rfl (fun h9 => ?_) (fun h9 => ?_)
      ·
       have h9 := (fun h => And.intro (nT (and_T h).1) (nT (and_T h).2)) h9
       refine cx_exit rfl ?_
       refine cx_keep rfl rfl ?_
       refine cx_ops ?_
       refine ax_q (q_mov rfl) ?_
       refine ax_qe (r' := int ((k + 1 : Nat) : Int)) (q_ibin rfl rfl rfl) (by rw [wi (by omega) (by omega)]; rfl) ?_
       refine ax_q (q_mov rfl) ?_
       refine ax_nil ?_
       have hF : anaF log (k + 1) = (p, t) := by rw [anaF_succ hkx, hs, step_d hk6 h6, delK_2 ha]
       exact ⟨_, k + 1, by omega, ⟨by omega, by omega, rfl⟩, by rw [hF]; exact (by repeat (first | exact trivial | refine ⟨rfl, ?_⟩ | refine ⟨?_, ?_⟩))⟩
      ·
       have h9 := (fun h => (and_F h).imp nF nF) h9
       exfalso; omega
    ·
     have h6 := (fun h => And.intro (dF (or_F h).1) (dF (or_F h).2)) h6
     refine cx_seq ?_
     refine cx_ops ?_
     refine ax_q (q_mov rfl) ?_
     refine ax_q (q_mov rfl) ?_
     refine ax_nil ?_
     refine cx_keep rfl rfl ?_
     refine cx_cond rfl (fun h8 => ?_) (fun h8 => ?_)
     ·
      have h8 := (fun h => And.intro (dT (and_T h).1) (dT (and_T h).2)) h8
      have ha := atK_t h8
      obtain ⟨hP, hE⟩ := atK_iff.1 ha
      refine cx_ops ?_
      refine ax_q (q_mov rfl) ?_
      refine ax_q (q_mov rfl) ?_
      refine ax_q (q_fadr_ptr rfl) ?_
      refine ax_q (q_load1_ptr rfl rfl rfl) ?_
      refine ax_q (q_ixo rfl rfl hP) ?_
      first | refine ax_q (q_fadr_ptr rfl) ?_ | refine ax_q (q_fadr_rptr rfl) ?_ | refine ax_q (q_fadr_ip rfl) ?_
      refine ax_e (e_str (q := GTx.row (⟨log[k].Tx, log[k].Lsn⟩ : GTx)) (row := GTx.row t[(posK GTx.Id t log[k].Tx)]) (rs' := (t.set (posK GTx.Id t log[k].Tx) (⟨log[k].Tx, log[k].Lsn⟩ : GTx)).map GTx.row) rfl rfl rfl rfl rfl rfl (mapAt hP) rfl (setTx hE) (by rw [List.map_set])) ?_
      refine ax_nil ?_
      refine cx_keep rfl rfl ?_
      refine cx_seq ?_
      refine cx_seq ?_
      refine cx_ops ?_
      refine ax_q (q_fadr_ptr rfl) ?_
      refine ax_q (q_load1_ptr rfl rfl rfl) ?_
      refine ax_q (q_ibin rfl rfl rfl) ?_
      refine ax_q (q_mov rfl) ?_
      apply ax_and rfl rfl
      ·
       intro g
       have g := nT g
       refine ax_q (q_fadr_ptr rfl) ?_
       refine ax_q (q_load1_ptr rfl rfl rfl) ?_
       refine ax_q (q_ibin rfl rfl rfl) ?_
       exact ax_nil ⟨rfl, by repeat (first | exact trivial | refine ⟨rfl, ?_⟩ | refine ⟨?_, ?_⟩)⟩
      refine ax_nil ?_
      refine cx_keep rfl rfl ?_
      refine cx_cond rfl (fun h9 => ?_) (fun h9 => ?_)
      ·
       have h9 := (fun h => And.intro (nT (and_T h).1) (nT (and_T h).2)) h9
       refine cx_exit rfl ?_
       refine cx_keep rfl rfl ?_
       refine cx_ops ?_
       refine ax_q (q_mov rfl) ?_
       refine ax_qe (r' := int ((k + 1 : Nat) : Int)) (q_ibin rfl rfl rfl) (by rw [wi (by omega) (by omega)]; rfl) ?_
       refine ax_q (q_mov rfl) ?_
       refine ax_nil ?_
       have hF : anaF log (k + 1) = (p, (t.set (posK GTx.Id t log[k].Tx) (⟨log[k].Tx, log[k].Lsn⟩ : GTx))) := by rw [anaF_succ hkx, hs, step_o hk6 (by omega) (by omega), putKx_1 (a := (⟨log[k].Tx, log[k].Lsn⟩ : GTx)) ha]
       exact ⟨_, k + 1, by omega, ⟨by omega, by omega, rfl⟩, by rw [hF, List.length_set]; exact (by repeat (first | exact trivial | refine ⟨rfl, ?_⟩ | refine ⟨?_, ?_⟩))⟩
      ·
       have h9 := (fun h => (and_F h).imp nF nF) h9
       refine cx_skip ?_
       refine cx_keep rfl rfl ?_
       refine cx_seq ?_
       refine cx_ops ?_
       refine ax_q (q_mov rfl) ?_
       refine ax_nil ?_
       refine cx_keep rfl rfl ?_
       refine cx_seq ?_
       refine cx_block ?_
       refine cx_loopU (fun m j => j ≤ p.length ∧ m = p.length - j ∧ ∀ i (h : i < p.length), i < j → GDirty.No p[i] < log[k].Page) (fun j : Nat => [(15, int j)]) (fun _ => [(17, .rows 2 (p.map GDirty.row)), (18, .rows 2 ((t.set (posK GTx.Id t log[k].Tx) (⟨log[k].Tx, log[k].Lsn⟩ : GTx)).map GTx.row)), (14, .box (log[k].row.map .d))]) ⟨_, 0, ⟨Nat.zero_le _, rfl, fun i h hi => by omega⟩, by repeat (first | exact trivial | refine ⟨rfl, ?_⟩ | refine ⟨?_, ?_⟩)⟩ ?_
       rintro m j ⟨hj, rfl, hb⟩
       refine cx_seq ?_
       refine cx_seq ?_
       refine cx_draw ?_
       refine ax_q (q_mov rfl) ?_
       refine ax_q (q_mov rfl) ?_
       first | refine ax_q (q_lenS_map rfl) ?_ | refine ax_q (q_lenS_osl rfl) ?_ | refine ax_q (q_lenS_zs rfl) ?_ | refine ax_q (q_lenS rfl) ?_
       refine ax_q (q_ibin rfl rfl rfl) ?_
       refine ax_q (q_mov rfl) ?_
       apply ax_and rfl rfl
       ·
        intro g
        have g := dT g
        refine ax_q (q_mov rfl) ?_
        refine ax_q (q_mov rfl) ?_
        refine ax_q (q_ixo rfl rfl (by omega)) ?_
        first | refine ax_q (q_fadr_ptr rfl) ?_ | refine ax_q (q_fadr_rptr rfl) ?_ | refine ax_q (q_fadr_ip rfl) ?_
        refine ax_q (q_load1_rptr rfl rfl (mapAtZ (z := .zero) (by omega)) rfl) ?_
        refine ax_q (q_fadr_ptr rfl) ?_
        refine ax_q (q_load1_ptr rfl rfl rfl) ?_
        refine ax_q (q_ibin rfl rfl rfl) ?_
        exact ax_nil ⟨rfl, by repeat (first | exact trivial | refine ⟨rfl, ?_⟩ | refine ⟨?_, ?_⟩)⟩
       refine ax_nil ?_
       refine cx_keep rfl rfl ?_
       refine cx_cond rfl (fun h10 => ?_) (fun h10 => ?_)
       ·
        have h10 := (fun h => And.intro (dT (and_T h).1) (dT (and_T h).2)) h10
        refine cx_skip ?_
        refine cx_keep rfl rfl ?_
        refine cx_block ?_
        refine cx_ops ?_
        refine ax_q (q_mov rfl) ?_
        refine ax_qe (r' := int ((j + 1 : Nat) : Int)) (q_ibin rfl rfl rfl) (by rw [wi (by omega) (by omega)]; rfl) ?_
        refine ax_q (q_mov rfl) ?_
        refine ax_nil ?_
        exact ⟨_, j + 1, by omega, ⟨by omega, rfl, fun i h hi => by
         rcases Nat.lt_succ_iff_lt_or_eq.1 hi with q | rfl
         ·
          exact hb i h q
         ·
          have := h10.2; rwa [getD_z h] at this⟩, by repeat (first | exact trivial | refine ⟨rfl, ?_⟩ | refine ⟨?_, ?_⟩)⟩
       ·
        have h10 := (fun h => (and_F h).imp dF dF) h10
        have hjp := posK_of (κ := GDirty.No) (x := log[k].Page) hj hb (fun h => by
         rcases h10 with q | q
         ·
          omega
         ·
          rwa [getD_z h] at q)
        subst hjp
        refine cx_exit rfl ?_
        refine cx_keep rfl rfl ?_
        refine cx_seq ?_
        refine cx_draw ?_
        refine ax_q (q_mov rfl) ?_
        refine ax_q (q_mov rfl) ?_
        first | refine ax_q (q_lenS_map rfl) ?_ | refine ax_q (q_lenS_osl rfl) ?_ | refine ax_q (q_lenS_zs rfl) ?_ | refine ax_q (q_lenS rfl) ?_
        refine ax_q (q_ibin rfl rfl rfl) ?_
        refine ax_q (q_mov rfl) ?_
        apply ax_or rfl rfl
        ·
         intro g
         have g := dF g
         refine ax_q (q_mov rfl) ?_
         refine ax_q (q_mov rfl) ?_
         refine ax_q (q_ixo rfl rfl (by omega)) ?_
         first | refine ax_q (q_fadr_ptr rfl) ?_ | refine ax_q (q_fadr_rptr rfl) ?_ | refine ax_q (q_fadr_ip rfl) ?_
         refine ax_q (q_load1_rptr rfl rfl (mapAtZ (z := .zero) (by omega)) rfl) ?_
         refine ax_q (q_fadr_ptr rfl) ?_
         refine ax_q (q_load1_ptr rfl rfl rfl) ?_
         refine ax_q (q_ibin rfl rfl rfl) ?_
         exact ax_nil ⟨rfl, by repeat (first | exact trivial | refine ⟨rfl, ?_⟩ | refine ⟨?_, ?_⟩)⟩
        refine ax_nil ?_
        refine cx_keep rfl rfl ?_
        refine cx_cond rfl (fun h11 => ?_) (fun h11 => ?_)
        ·
         have h11 := (fun h => (or_T h).imp dT nT) h11
         have hb2 := atK_f (κ := GDirty.No) (l := p) (x := log[k].Page) (z := .zero) (h11.imp (fun q => by omega) id)
         refine cx_drawL 11 219 (Nat.beq 212) (nrA 212) [] ([(212, .rows 2 ((p.take (posK GDirty.No p log[k].Page) ++ [(⟨log[k].Page, log[k].Lsn⟩ : GDirty)]).map GDirty.row))]) [[], [4], [15], [209, 210], [208, 211], [14], [213], [14], [215], [214, 216], [217], [212, 218], [4], [15], [220, 221]] [[], [], [], [], [], [], [], [], [], [], [], [212], [212], [212], [212]] rfl ?_
         first | refine ⟨_, .inr ⟨rfl, _, rfl, .inl rfl, loc_bsliceZ⟩, ?_⟩
         first | refine ⟨_, .inr ⟨rfl, _, rfl, .inl rfl, loc_q (q_mov rfl)⟩, ?_⟩
         first | refine ⟨_, .inr ⟨rfl, _, rfl, .inl rfl, loc_q (q_mov rfl)⟩, ?_⟩
         first | refine ⟨_, .inr ⟨rfl, _, rfl, .inl rfl, loc_qe (r' := .osl 17 2 0 (posK GDirty.No p log[k].Page)) (q_slc_osl rfl rfl rfl (by omega) (by omega) (by omega)) (oslE0 (by omega) (by omega))⟩, ?_⟩
         first | refine ⟨_, .inr ⟨rfl, _, rfl, .inl rfl, loc_appZ (n := (posK GDirty.No p log[k].Page)) (rs := (p.take (posK GDirty.No p log[k].Page)).map GDirty.row) rfl rfl (fun _ _ h => src_osl (s := 0) (h _ _ rfl) (by simp; omega)) (bnd0 (by simp; omega) (by decide)) (by simp; omega) take_row⟩, ?_⟩
         first | refine ⟨_, .inr ⟨rfl, _, rfl, .inl rfl, loc_q (q_fadr_ptr rfl)⟩, ?_⟩
         first | refine ⟨_, .inr ⟨rfl, _, rfl, .inl rfl, loc_q (q_load1_ptr rfl rfl rfl)⟩, ?_⟩
         first | refine ⟨_, .inr ⟨rfl, _, rfl, .inl rfl, loc_q (q_fadr_ptr rfl)⟩, ?_⟩
         first | refine ⟨_, .inr ⟨rfl, _, rfl, .inl rfl, loc_q (q_load1_ptr rfl rfl rfl)⟩, ?_⟩
         first | refine ⟨_, .inr ⟨rfl, _, rfl, .inl rfl, loc_q (q_build rfl)⟩, ?_⟩
         first | refine ⟨_, .inr ⟨rfl, _, rfl, .inl rfl, loc_bsliceD (rows := [GDirty.row (⟨log[k].Page, log[k].Lsn⟩ : GDirty)]) rfl⟩, ?_⟩
         refine ⟨⟨219, _, []⟩, .inl ⟨rfl, rfl, rfl, locl_app (n' := (posK GDirty.No p log[k].Page) + 1) (rs' := (p.take (posK GDirty.No p log[k].Page) ++ [(⟨log[k].Page, log[k].Lsn⟩ : GDirty)]).map GDirty.row) rfl rfl (by simp; omega) rfl (fun _ _ _ => src_sl 2 _) (.inl (by decide)) (hbnd (by omega) (by simp) (by decide)) rfl (insA_mid (a := (⟨log[k].Page, log[k].Lsn⟩ : GDirty)) (by omega))⟩, ?_⟩
         first | refine ⟨_, .inr ⟨rfl, _, rfl, .inr ⟨rfl, rfl, .inr rfl, rfl, rfl⟩, loc_q (q_mov rfl)⟩, ?_⟩
         first | refine ⟨_, .inr ⟨rfl, _, rfl, .inr ⟨rfl, rfl, .inr rfl, rfl, rfl⟩, loc_q (q_mov rfl)⟩, ?_⟩
         first | refine ⟨_, .inr ⟨rfl, _, rfl, .inr ⟨rfl, rfl, .inr rfl, rfl, rfl⟩, loc_qe (r' := .osl 17 2 (posK GDirty.No p log[k].Page) (p.length - (posK GDirty.No p log[k].Page))) (q_slc_osl rfl rfl rfl (by omega) (by omega) (by omega)) (oslE0 (by omega) (by omega))⟩, ?_⟩
         refine ⟨rfl, ?_⟩
         refine ax_e (e_appn (n' := (insA p (posK GDirty.No p log[k].Page) (⟨log[k].Page, log[k].Lsn⟩ : GDirty)).length) (rs' := (insA p (posK GDirty.No p log[k].Page) (⟨log[k].Page, log[k].Lsn⟩ : GDirty)).map GDirty.row) rfl rfl (by simp; omega) rfl (src_osl rfl (by simp only [List.length_map]; omega)) (.inl (by decide)) (hbnd (by omega) (by simp only [List.length_take, List.length_drop, List.length_map]; omega) (by decide)) (insA_cnt (a := (⟨log[k].Page, log[k].Lsn⟩ : GDirty)) (by omega)) (insA_rows (a := (⟨log[k].Page, log[k].Lsn⟩ : GDirty)) (by omega))) ?_
         refine ax_wk (wk_swap 212 17 rfl rfl) ?_
         refine ax_q (q_mov rfl) ?_
         refine ax_nil ?_
         refine cx_keep rfl rfl ?_
         refine cx_ops ?_
         refine ax_q (q_mov rfl) ?_
         refine ax_qe (r' := int ((k + 1 : Nat) : Int)) (q_ibin rfl rfl rfl) (by rw [wi (by omega) (by omega)]; rfl) ?_
         refine ax_q (q_mov rfl) ?_
         refine ax_nil ?_
         have hF : anaF log (k + 1) = ((insA p (posK GDirty.No p log[k].Page) (⟨log[k].Page, log[k].Lsn⟩ : GDirty)), (t.set (posK GTx.Id t log[k].Tx) (⟨log[k].Tx, log[k].Lsn⟩ : GTx))) := by rw [anaF_succ hkx, hs, step_u hk6 (by omega) (by omega), insK_2 (a := (⟨log[k].Page, log[k].Lsn⟩ : GDirty)) hb2, putKx_1 (a := (⟨log[k].Tx, log[k].Lsn⟩ : GTx)) ha]
         exact ⟨_, k + 1, by omega, ⟨by omega, by omega, rfl⟩, by rw [hF, List.length_set]; exact (by repeat (first | exact trivial | refine ⟨rfl, ?_⟩ | refine ⟨?_, ?_⟩))⟩
        ·
         have h11 := (fun h => And.intro (dF (or_F h).1) (nF (or_F h).2)) h11
         have hb2 := atK_t (κ := GDirty.No) (l := p) (x := log[k].Page) (z := .zero) ⟨by omega, h11.2⟩
         refine cx_skip ?_
         refine cx_keep rfl rfl ?_
         refine cx_ops ?_
         refine ax_q (q_mov rfl) ?_
         refine ax_qe (r' := int ((k + 1 : Nat) : Int)) (q_ibin rfl rfl rfl) (by rw [wi (by omega) (by omega)]; rfl) ?_
         refine ax_q (q_mov rfl) ?_
         refine ax_nil ?_
         have hF : anaF log (k + 1) = (p, (t.set (posK GTx.Id t log[k].Tx) (⟨log[k].Tx, log[k].Lsn⟩ : GTx))) := by rw [anaF_succ hkx, hs, step_u hk6 (by omega) (by omega), insK_1 (a := (⟨log[k].Page, log[k].Lsn⟩ : GDirty)) hb2, putKx_1 (a := (⟨log[k].Tx, log[k].Lsn⟩ : GTx)) ha]
         exact ⟨_, k + 1, by omega, ⟨by omega, by omega, rfl⟩, by rw [hF, List.length_set]; exact (by repeat (first | exact trivial | refine ⟨rfl, ?_⟩ | refine ⟨?_, ?_⟩))⟩
     ·
      have h8 := (fun h => (and_F h).imp dF dF) h8
      have ha := atK_f h8
      refine cx_drawL 11 137 (Nat.beq 130) (nrA 130) [] ([(130, .rows 2 ((t.take (posK GTx.Id t log[k].Tx) ++ [(⟨log[k].Tx, log[k].Lsn⟩ : GTx)]).map GTx.row))]) [[], [5], [15], [127, 128], [126, 129], [14], [131], [14], [133], [132, 134], [135], [130, 136], [5], [15], [138, 139]] [[], [], [], [], [], [], [], [], [], [], [], [130], [130], [130], [130]] rfl ?_
      first | refine ⟨_, .inr ⟨rfl, _, rfl, .inl rfl, loc_bsliceZ⟩, ?_⟩
      first | refine ⟨_, .inr ⟨rfl, _, rfl, .inl rfl, loc_q (q_mov rfl)⟩, ?_⟩
      first | refine ⟨_, .inr ⟨rfl, _, rfl, .inl rfl, loc_q (q_mov rfl)⟩, ?_⟩
      first | refine ⟨_, .inr ⟨rfl, _, rfl, .inl rfl, loc_qe (r' := .osl 18 2 0 (posK GTx.Id t log[k].Tx)) (q_slc_osl rfl rfl rfl (by omega) (by omega) (by omega)) (oslE0 (by omega) (by omega))⟩, ?_⟩
      first | refine ⟨_, .inr ⟨rfl, _, rfl, .inl rfl, loc_appZ (n := (posK GTx.Id t log[k].Tx)) (rs := (t.take (posK GTx.Id t log[k].Tx)).map GTx.row) rfl rfl (fun _ _ h => src_osl (s := 0) (h _ _ rfl) (by simp; omega)) (bnd0 (by simp; omega) (by decide)) (by simp; omega) take_row⟩, ?_⟩
      first | refine ⟨_, .inr ⟨rfl, _, rfl, .inl rfl, loc_q (q_fadr_ptr rfl)⟩, ?_⟩
      first | refine ⟨_, .inr ⟨rfl, _, rfl, .inl rfl, loc_q (q_load1_ptr rfl rfl rfl)⟩, ?_⟩
      first | refine ⟨_, .inr ⟨rfl, _, rfl, .inl rfl, loc_q (q_fadr_ptr rfl)⟩, ?_⟩
      first | refine ⟨_, .inr ⟨rfl, _, rfl, .inl rfl, loc_q (q_load1_ptr rfl rfl rfl)⟩, ?_⟩
      first | refine ⟨_, .inr ⟨rfl, _, rfl, .inl rfl, loc_q (q_build rfl)⟩, ?_⟩
      first | refine ⟨_, .inr ⟨rfl, _, rfl, .inl rfl, loc_bsliceD (rows := [GTx.row (⟨log[k].Tx, log[k].Lsn⟩ : GTx)]) rfl⟩, ?_⟩
      refine ⟨⟨137, _, []⟩, .inl ⟨rfl, rfl, rfl, locl_app (n' := (posK GTx.Id t log[k].Tx) + 1) (rs' := (t.take (posK GTx.Id t log[k].Tx) ++ [(⟨log[k].Tx, log[k].Lsn⟩ : GTx)]).map GTx.row) rfl rfl (by simp; omega) rfl (fun _ _ _ => src_sl 2 _) (.inl (by decide)) (hbnd (by omega) (by simp) (by decide)) rfl (insA_mid (a := (⟨log[k].Tx, log[k].Lsn⟩ : GTx)) (by omega))⟩, ?_⟩
      first | refine ⟨_, .inr ⟨rfl, _, rfl, .inr ⟨rfl, rfl, .inr rfl, rfl, rfl⟩, loc_q (q_mov rfl)⟩, ?_⟩
      first | refine ⟨_, .inr ⟨rfl, _, rfl, .inr ⟨rfl, rfl, .inr rfl, rfl, rfl⟩, loc_q (q_mov rfl)⟩, ?_⟩
      first | refine ⟨_, .inr ⟨rfl, _, rfl, .inr ⟨rfl, rfl, .inr rfl, rfl, rfl⟩, loc_qe (r' := .osl 18 2 (posK GTx.Id t log[k].Tx) (t.length - (posK GTx.Id t log[k].Tx))) (q_slc_osl rfl rfl rfl (by omega) (by omega) (by omega)) (oslE0 (by omega) (by omega))⟩, ?_⟩
      refine ⟨rfl, ?_⟩
      refine ax_e (e_appn (n' := (insA t (posK GTx.Id t log[k].Tx) (⟨log[k].Tx, log[k].Lsn⟩ : GTx)).length) (rs' := (insA t (posK GTx.Id t log[k].Tx) (⟨log[k].Tx, log[k].Lsn⟩ : GTx)).map GTx.row) rfl rfl (by simp; omega) rfl (src_osl rfl (by simp only [List.length_map]; omega)) (.inl (by decide)) (hbnd (by omega) (by simp only [List.length_take, List.length_drop, List.length_map]; omega) (by decide)) (insA_cnt (a := (⟨log[k].Tx, log[k].Lsn⟩ : GTx)) (by omega)) (insA_rows (a := (⟨log[k].Tx, log[k].Lsn⟩ : GTx)) (by omega))) ?_
      refine ax_wk (wk_swap 130 18 rfl rfl) ?_
      refine ax_q (q_mov rfl) ?_
      refine ax_nil ?_
      refine cx_keep rfl rfl ?_
      refine cx_seq ?_
      refine cx_seq ?_
      refine cx_ops ?_
      refine ax_q (q_fadr_ptr rfl) ?_
      refine ax_q (q_load1_ptr rfl rfl rfl) ?_
      refine ax_q (q_ibin rfl rfl rfl) ?_
      refine ax_q (q_mov rfl) ?_
      apply ax_and rfl rfl
      ·
       intro g
       have g := nT g
       refine ax_q (q_fadr_ptr rfl) ?_
       refine ax_q (q_load1_ptr rfl rfl rfl) ?_
       refine ax_q (q_ibin rfl rfl rfl) ?_
       exact ax_nil ⟨rfl, by repeat (first | exact trivial | refine ⟨rfl, ?_⟩ | refine ⟨?_, ?_⟩)⟩
      refine ax_nil ?_
      refine cx_keep rfl rfl ?_
      refine cx_cond rfl (fun h9 => ?_) (fun h9 => ?_)
      ·
       have h9 := (fun h => And.intro (nT (and_T h).1) (nT (and_T h).2)) h9
       refine cx_exit rfl ?_
       refine cx_keep rfl rfl ?_
       refine cx_ops ?_
       refine ax_q (q_mov rfl) ?_
       refine ax_qe (r' := int ((k + 1 : Nat) : Int)) (q_ibin rfl rfl rfl) (by rw [wi (by omega) (by omega)]; rfl) ?_
       refine ax_q (q_mov rfl) ?_
       refine ax_nil ?_
       have hF : anaF log (k + 1) = (p, (insA t (posK GTx.Id t log[k].Tx) (⟨log[k].Tx, log[k].Lsn⟩ : GTx))) := by rw [anaF_succ hkx, hs, step_o hk6 (by omega) (by omega), putKx_2 (a := (⟨log[k].Tx, log[k].Lsn⟩ : GTx)) ha]
       exact ⟨_, k + 1, by omega, ⟨by omega, by omega, rfl⟩, by rw [hF]; exact (by repeat (first | exact trivial | refine ⟨rfl, ?_⟩ | refine ⟨?_, ?_⟩))⟩
      ·
       have h9 := (fun h => (and_F h).imp nF nF) h9
       refine cx_skip ?_
       refine cx_keep rfl rfl ?_
       refine cx_seq ?_
       refine cx_ops ?_
       refine ax_q (q_mov rfl) ?_
       refine ax_nil ?_
       refine cx_keep rfl rfl ?_
       refine cx_seq ?_
       refine cx_block ?_
       refine cx_loopU (fun m j => j ≤ p.length ∧ m = p.length - j ∧ ∀ i (h : i < p.length), i < j → GDirty.No p[i] < log[k].Page) (fun j : Nat => [(15, int j)]) (fun _ => [(17, .rows 2 (p.map GDirty.row)), (18, .rows 2 ((insA t (posK GTx.Id t log[k].Tx) (⟨log[k].Tx, log[k].Lsn⟩ : GTx)).map GTx.row)), (14, .box (log[k].row.map .d))]) ⟨_, 0, ⟨Nat.zero_le _, rfl, fun i h hi => by omega⟩, by repeat (first | exact trivial | refine ⟨rfl, ?_⟩ | refine ⟨?_, ?_⟩)⟩ ?_
       rintro m j ⟨hj, rfl, hb⟩
       refine cx_seq ?_
       refine cx_seq ?_
       refine cx_draw ?_
       refine ax_q (q_mov rfl) ?_
       refine ax_q (q_mov rfl) ?_
       first | refine ax_q (q_lenS_map rfl) ?_ | refine ax_q (q_lenS_osl rfl) ?_ | refine ax_q (q_lenS_zs rfl) ?_ | refine ax_q (q_lenS rfl) ?_
       refine ax_q (q_ibin rfl rfl rfl) ?_
       refine ax_q (q_mov rfl) ?_
       apply ax_and rfl rfl
       ·
        intro g
        have g := dT g
        refine ax_q (q_mov rfl) ?_
        refine ax_q (q_mov rfl) ?_
        refine ax_q (q_ixo rfl rfl (by omega)) ?_
        first | refine ax_q (q_fadr_ptr rfl) ?_ | refine ax_q (q_fadr_rptr rfl) ?_ | refine ax_q (q_fadr_ip rfl) ?_
        refine ax_q (q_load1_rptr rfl rfl (mapAtZ (z := .zero) (by omega)) rfl) ?_
        refine ax_q (q_fadr_ptr rfl) ?_
        refine ax_q (q_load1_ptr rfl rfl rfl) ?_
        refine ax_q (q_ibin rfl rfl rfl) ?_
        exact ax_nil ⟨rfl, by repeat (first | exact trivial | refine ⟨rfl, ?_⟩ | refine ⟨?_, ?_⟩)⟩
       refine ax_nil ?_
       refine cx_keep rfl rfl ?_
       refine cx_cond rfl (fun h10 => ?_) (fun h10 => ?_)
       ·
        have h10 := (fun h => And.intro (dT (and_T h).1) (dT (and_T h).2)) h10
        refine cx_skip ?_
        refine cx_keep rfl rfl ?_
        refine cx_block ?_
        refine cx_ops ?_
        refine ax_q (q_mov rfl) ?_
        refine ax_qe (r' := int ((j + 1 : Nat) : Int)) (q_ibin rfl rfl rfl) (by rw [wi (by omega) (by omega)]; rfl) ?_
        refine ax_q (q_mov rfl) ?_
        refine ax_nil ?_
        exact ⟨_, j + 1, by omega, ⟨by omega, rfl, fun i h hi => by
         rcases Nat.lt_succ_iff_lt_or_eq.1 hi with q | rfl
         ·
          exact hb i h q
         ·
          have := h10.2; rwa [getD_z h] at this⟩, by repeat (first | exact trivial | refine ⟨rfl, ?_⟩ | refine ⟨?_, ?_⟩)⟩
       ·
        have h10 := (fun h => (and_F h).imp dF dF) h10
        have hjp := posK_of (κ := GDirty.No) (x := log[k].Page) hj hb (fun h => by
         rcases h10 with q | q
         ·
          omega
         ·
          rwa [getD_z h] at q)
        subst hjp
        refine cx_exit rfl ?_
        refine cx_keep rfl rfl ?_
        refine cx_seq ?_
        refine cx_draw ?_
        refine ax_q (q_mov rfl) ?_
        refine ax_q (q_mov rfl) ?_
        first | refine ax_q (q_lenS_map rfl) ?_ | refine ax_q (q_lenS_osl rfl) ?_ | refine ax_q (q_lenS_zs rfl) ?_ | refine ax_q (q_lenS rfl) ?_
        refine ax_q (q_ibin rfl rfl rfl) ?_
        refine ax_q (q_mov rfl) ?_
        apply ax_or rfl rfl
        ·
         intro g
         have g := dF g
         refine ax_q (q_mov rfl) ?_
         refine ax_q (q_mov rfl) ?_
         refine ax_q (q_ixo rfl rfl (by omega)) ?_
         first | refine ax_q (q_fadr_ptr rfl) ?_ | refine ax_q (q_fadr_rptr rfl) ?_ | refine ax_q (q_fadr_ip rfl) ?_
         refine ax_q (q_load1_rptr rfl rfl (mapAtZ (z := .zero) (by omega)) rfl) ?_
         refine ax_q (q_fadr_ptr rfl) ?_
         refine ax_q (q_load1_ptr rfl rfl rfl) ?_
         refine ax_q (q_ibin rfl rfl rfl) ?_
         exact ax_nil ⟨rfl, by repeat (first | exact trivial | refine ⟨rfl, ?_⟩ | refine ⟨?_, ?_⟩)⟩
        refine ax_nil ?_
        refine cx_keep rfl rfl ?_
        refine cx_cond rfl (fun h11 => ?_) (fun h11 => ?_)
        ·
         have h11 := (fun h => (or_T h).imp dT nT) h11
         have hb2 := atK_f (κ := GDirty.No) (l := p) (x := log[k].Page) (z := .zero) (h11.imp (fun q => by omega) id)
         refine cx_drawL 11 219 (Nat.beq 212) (nrA 212) [] ([(212, .rows 2 ((p.take (posK GDirty.No p log[k].Page) ++ [(⟨log[k].Page, log[k].Lsn⟩ : GDirty)]).map GDirty.row))]) [[], [4], [15], [209, 210], [208, 211], [14], [213], [14], [215], [214, 216], [217], [212, 218], [4], [15], [220, 221]] [[], [], [], [], [], [], [], [], [], [], [], [212], [212], [212], [212]] rfl ?_
         first | refine ⟨_, .inr ⟨rfl, _, rfl, .inl rfl, loc_bsliceZ⟩, ?_⟩
         first | refine ⟨_, .inr ⟨rfl, _, rfl, .inl rfl, loc_q (q_mov rfl)⟩, ?_⟩
         first | refine ⟨_, .inr ⟨rfl, _, rfl, .inl rfl, loc_q (q_mov rfl)⟩, ?_⟩
         first | refine ⟨_, .inr ⟨rfl, _, rfl, .inl rfl, loc_qe (r' := .osl 17 2 0 (posK GDirty.No p log[k].Page)) (q_slc_osl rfl rfl rfl (by omega) (by omega) (by omega)) (oslE0 (by omega) (by omega))⟩, ?_⟩
         first | refine ⟨_, .inr ⟨rfl, _, rfl, .inl rfl, loc_appZ (n := (posK GDirty.No p log[k].Page)) (rs := (p.take (posK GDirty.No p log[k].Page)).map GDirty.row) rfl rfl (fun _ _ h => src_osl (s := 0) (h _ _ rfl) (by simp; omega)) (bnd0 (by simp; omega) (by decide)) (by simp; omega) take_row⟩, ?_⟩
         first | refine ⟨_, .inr ⟨rfl, _, rfl, .inl rfl, loc_q (q_fadr_ptr rfl)⟩, ?_⟩
         first | refine ⟨_, .inr ⟨rfl, _, rfl, .inl rfl, loc_q (q_load1_ptr rfl rfl rfl)⟩, ?_⟩
         first | refine ⟨_, .inr ⟨rfl, _, rfl, .inl rfl, loc_q (q_fadr_ptr rfl)⟩, ?_⟩
         first | refine ⟨_, .inr ⟨rfl, _, rfl, .inl rfl, loc_q (q_load1_ptr rfl rfl rfl)⟩, ?_⟩
         first | refine ⟨_, .inr ⟨rfl, _, rfl, .inl rfl, loc_q (q_build rfl)⟩, ?_⟩
         first | refine ⟨_, .inr ⟨rfl, _, rfl, .inl rfl, loc_bsliceD (rows := [GDirty.row (⟨log[k].Page, log[k].Lsn⟩ : GDirty)]) rfl⟩, ?_⟩
         refine ⟨⟨219, _, []⟩, .inl ⟨rfl, rfl, rfl, locl_app (n' := (posK GDirty.No p log[k].Page) + 1) (rs' := (p.take (posK GDirty.No p log[k].Page) ++ [(⟨log[k].Page, log[k].Lsn⟩ : GDirty)]).map GDirty.row) rfl rfl (by simp; omega) rfl (fun _ _ _ => src_sl 2 _) (.inl (by decide)) (hbnd (by omega) (by simp) (by decide)) rfl (insA_mid (a := (⟨log[k].Page, log[k].Lsn⟩ : GDirty)) (by omega))⟩, ?_⟩
         first | refine ⟨_, .inr ⟨rfl, _, rfl, .inr ⟨rfl, rfl, .inr rfl, rfl, rfl⟩, loc_q (q_mov rfl)⟩, ?_⟩
         first | refine ⟨_, .inr ⟨rfl, _, rfl, .inr ⟨rfl, rfl, .inr rfl, rfl, rfl⟩, loc_q (q_mov rfl)⟩, ?_⟩
         first | refine ⟨_, .inr ⟨rfl, _, rfl, .inr ⟨rfl, rfl, .inr rfl, rfl, rfl⟩, loc_qe (r' := .osl 17 2 (posK GDirty.No p log[k].Page) (p.length - (posK GDirty.No p log[k].Page))) (q_slc_osl rfl rfl rfl (by omega) (by omega) (by omega)) (oslE0 (by omega) (by omega))⟩, ?_⟩
         refine ⟨rfl, ?_⟩
         refine ax_e (e_appn (n' := (insA p (posK GDirty.No p log[k].Page) (⟨log[k].Page, log[k].Lsn⟩ : GDirty)).length) (rs' := (insA p (posK GDirty.No p log[k].Page) (⟨log[k].Page, log[k].Lsn⟩ : GDirty)).map GDirty.row) rfl rfl (by simp; omega) rfl (src_osl rfl (by simp only [List.length_map]; omega)) (.inl (by decide)) (hbnd (by omega) (by simp only [List.length_take, List.length_drop, List.length_map]; omega) (by decide)) (insA_cnt (a := (⟨log[k].Page, log[k].Lsn⟩ : GDirty)) (by omega)) (insA_rows (a := (⟨log[k].Page, log[k].Lsn⟩ : GDirty)) (by omega))) ?_
         refine ax_wk (wk_swap 212 17 rfl rfl) ?_
         refine ax_q (q_mov rfl) ?_
         refine ax_nil ?_
         refine cx_keep rfl rfl ?_
         refine cx_ops ?_
         refine ax_q (q_mov rfl) ?_
         refine ax_qe (r' := int ((k + 1 : Nat) : Int)) (q_ibin rfl rfl rfl) (by rw [wi (by omega) (by omega)]; rfl) ?_
         refine ax_q (q_mov rfl) ?_
         refine ax_nil ?_
         have hF : anaF log (k + 1) = ((insA p (posK GDirty.No p log[k].Page) (⟨log[k].Page, log[k].Lsn⟩ : GDirty)), (insA t (posK GTx.Id t log[k].Tx) (⟨log[k].Tx, log[k].Lsn⟩ : GTx))) := by rw [anaF_succ hkx, hs, step_u hk6 (by omega) (by omega), insK_2 (a := (⟨log[k].Page, log[k].Lsn⟩ : GDirty)) hb2, putKx_2 (a := (⟨log[k].Tx, log[k].Lsn⟩ : GTx)) ha]
         exact ⟨_, k + 1, by omega, ⟨by omega, by omega, rfl⟩, by rw [hF]; exact (by repeat (first | exact trivial | refine ⟨rfl, ?_⟩ | refine ⟨?_, ?_⟩))⟩
        ·
         have h11 := (fun h => And.intro (dF (or_F h).1) (nF (or_F h).2)) h11
         have hb2 := atK_t (κ := GDirty.No) (l := p) (x := log[k].Page) (z := .zero) ⟨by omega, h11.2⟩
         refine cx_skip ?_
         refine cx_keep rfl rfl ?_
         refine cx_ops ?_
         refine ax_q (q_mov rfl) ?_
         refine ax_qe (r' := int ((k + 1 : Nat) : Int)) (q_ibin rfl rfl rfl) (by rw [wi (by omega) (by omega)]; rfl) ?_
         refine ax_q (q_mov rfl) ?_
         refine ax_nil ?_
         have hF : anaF log (k + 1) = (p, (insA t (posK GTx.Id t log[k].Tx) (⟨log[k].Tx, log[k].Lsn⟩ : GTx))) := by rw [anaF_succ hkx, hs, step_u hk6 (by omega) (by omega), insK_1 (a := (⟨log[k].Page, log[k].Lsn⟩ : GDirty)) hb2, putKx_2 (a := (⟨log[k].Tx, log[k].Lsn⟩ : GTx)) ha]
         exact ⟨_, k + 1, by omega, ⟨by omega, by omega, rfl⟩, by rw [hF]; exact (by repeat (first | exact trivial | refine ⟨rfl, ?_⟩ | refine ⟨?_, ?_⟩))⟩
  ·
   have h4 := dF h4
   obtain rfl : k = log.length := by omega
   refine cx_exit rfl ?_
   refine cx_keep rfl rfl ?_
   refine cx_seq ?_
   refine cx_ops ?_
   refine ax_q (q_mov rfl) ?_
   refine ax_q (q_mov rfl) ?_
   refine ax_q (q_mov rfl) ?_
   refine ax_q (q_mov rfl) ?_
   refine ax_nil ?_
   refine cx_keep rfl rfl ?_
   refine cx_ret (retN (fun e => bif Nat.beq e 18 then 1 else 0) [17, 18] rfl rfl rfl rfl rfl ?_)
   exact ⟨rfl, rfl⟩


/- loop.example/g00332/spec.AnalyzeLog -/
def k_c_sAnalyzeLog : XCode :=
 .seq (.ops [.op (some 2) (.mov (.k (.nils 2))),
   .op (some 3) (.mov (.k (.nils 2))),
   .op (some 4) (.mov (.k (.int .i64 0)))])
 (.keep [0] (.seq (.seq (.ops [.op (some 8) (.mov (.t 0)),
   .op (some 9) (.lenS (.t 8)),
   .op (some 10) (.bin .gtr (.t 9) (.k (.int .i64 4096)))])
  (.keep [0, 10] (.cond (.t 10)
  (.seq (.ops [.op (some 11) (.bslice 2 []),
    .op (some 12) (.bslice 2 []),
    .op (some 2) (.mov (.t 11)),
    .op (some 3) (.mov (.t 12)),
    .op (some 4) (.mov (.k (.int .i64 2)))])
   (.keep [2, 3, 4] (.ret)))
  (.skip))))
 (.keep [0] (.seq (.seq (.ops [.op (some 13) (.mov (.t 0)),
   .op (some 14) (.lenS (.t 13)),
   .op (some 15) (.bin .gtr (.t 14) (.k (.int .i64 60)))])
  (.keep [0, 15] (.cond (.t 15)
  (.seq (.ops [.op (some 16) (.bslice 2 []),
    .op (some 17) (.bslice 2 []),
    .op (some 2) (.mov (.t 16)),
    .op (some 3) (.mov (.t 17)),
    .op (some 4) (.mov (.k (.int .i64 6)))])
   (.keep [2, 3, 4] (.ret)))
  (.skip))))
 (.keep [0] (.seq (.seq (.ops [.op (some 5) (.mov (.k (.int .i64 0)))])
  (.keep [0, 5] (.block 0 (.loop (.seq (.seq (.ops [.op (some 18) (.mov (.t 5)),
     .op (some 19) (.mov (.t 0)),
     .op (some 20) (.lenS (.t 19)),
     .op (some 21) (.bin .lss (.t 18) (.t 20))])
   (.keep [0, 5, 21] (.cond (.t 21)
    (.skip)
    (.exit 0))))
   (.keep [0, 5] (.seq (.block 1 (.seq (.ops [.op (some 24) (.mov (.t 0)),
     .op (some 25) (.mov (.t 5)),
     .op (some 26) (.iadr 10 (.t 24) (.t 25)),
     .op (some 27) (.loadN 10 (.t 26)),
     .call (some 28) 17 [.t 27],
     .op (some 29) (.not (.t 28)),
     .op (some 30) (.mov (.t 29)),
     .andor 39 false 6 30 [.op (some 31) (.mov (.t 0)), .op (some 32) (.mov (.t 5)), .op (some 33) (.iadr 10 (.t 31) (.t 32)), .op (some 34) (.fadr (.t 33) 1), .op (some 35) (.load1 (.t 34)), .op (some 36) (.mov (.t 5)), .op (some 37) (.bin .add (.t 36) (.k (.int .i64 1))), .op (some 38) (.bin .neq (.t 35) (.t 37))] (.t 38)])
    (.keep [0, 5, 39] (.cond (.t 39)
    (.seq (.ops [.op (some 40) (.bslice 2 []),
      .op (some 41) (.bslice 2 []),
      .op (some 2) (.mov (.t 40)),
      .op (some 3) (.mov (.t 41)),
      .op (some 4) (.mov (.k (.int .i64 1)))])
     (.keep [2, 3, 4] (.ret)))
    (.skip)))))
   (.keep [0, 5] (.ops [.op (some 22) (.mov (.t 5)),
    .op (some 23) (.bin .add (.t 22) (.k (.int .i64 1))),
    .op (some 5) (.mov (.t 23))])))))))))
 (.keep [0] (.seq (.ops [.op (some 43) (.mov (.t 0)),
   .call (some 44) 18 [.t 43],
   .op (some 42) (.mov (.t 44)),
   .op (some 45) (.ext (.t 42) 0),
   .op (some 46) (.ext (.t 42) 1),
   .op (some 6) (.mov (.t 45)),
   .op (some 7) (.mov (.t 46))])
 (.keep [6, 7] (.seq (.ops [.op (some 47) (.mov (.t 6)),
   .op (some 48) (.mov (.t 7)),
   .op (some 2) (.mov (.t 47)),
   .op (some 3) (.mov (.t 48)),
   .op (some 4) (.mov (.k (.int .i64 0)))])
 (.keep [2, 3, 4] (.ret))))))))))))
theorem k_c_sAnalyzeLog_fits : fitsF Try.prog 5 ⟨49, k_c_sAnalyzeLog, [.t 2, .t 3, .t 4]⟩ = true := by kernel_rfl
theorem c_sAnalyzeLog {log : List GLogRecord} (hl0 : log.length ≤ 1048576) (hv : ∀ i (h : i < log.length), log[i].After.length ≤ 1048576) : Con Try.prog noMv 5 [.d (.sl 10 (log.map GLogRecord.row))] [] (fun r h => r = .tup [.osl 0 2 0 (analyzeF log).1.1.length, .osl 1 2 0 (analyzeF log).1.2.length, int (analyzeF log).2] ∧ h = [(0, .rows 2 ((analyzeF log).1.1.map GDirty.row)), (1, .rows 2 ((analyzeF log).1.2.map GTx.row))]) := by
 refine con_of2 k_c_sAnalyzeLog_fits rfl fun C hP hmv => ?_
 unfold k_c_sAnalyzeLog
 refine cx_seq ?_
 refine cx_ops ?_
 refine ax_q (q_mov rfl) ?_
 refine ax_q (q_mov rfl) ?_
 refine ax_q (q_mov rfl) ?_
 refine ax_nil ?_
 refine cx_keep rfl rfl ?_
 refine cx_seq ?_
 refine cx_seq ?_
 refine cx_ops ?_
 refine ax_q (q_mov rfl) ?_
 first | refine ax_q (q_lenS_map rfl) ?_ | refine ax_q (q_lenS_osl rfl) ?_ | refine ax_q (q_lenS_zs rfl) ?_ | refine ax_q (q_lenS rfl) ?_
 refine ax_q (q_ibin rfl rfl rfl) ?_
 refine ax_nil ?_
 refine cx_keep rfl rfl ?_
 refine cx_cond rfl (fun h0 => ?_) (fun h0 => ?_)
 ·
  have h0 := dT h0
  refine cx_seq ?_
  refine cx_ops ?_
  refine ax_e (e_bslice rfl (by decide) rfl rfl) ?_
  refine ax_e (e_bslice rfl (by decide) rfl rfl) ?_
  refine ax_q (q_mov rfl) ?_
  refine ax_q (q_mov rfl) ?_
  refine ax_q (q_mov rfl) ?_
  refine ax_nil ?_
  refine cx_keep rfl rfl ?_
  refine cx_ret (retN (fun e => bif Nat.beq e 12 then 1 else 0) [11, 12] rfl rfl rfl rfl rfl ?_)
  rw [analyzeF_0 (by omega)]; exact ⟨rfl, rfl⟩
 ·
  have h0 := dF h0
  refine cx_skip ?_
  refine cx_keep rfl rfl ?_
  refine cx_seq ?_
  refine cx_seq ?_
  refine cx_ops ?_
  refine ax_q (q_mov rfl) ?_
  first | refine ax_q (q_lenS_map rfl) ?_ | refine ax_q (q_lenS_osl rfl) ?_ | refine ax_q (q_lenS_zs rfl) ?_ | refine ax_q (q_lenS rfl) ?_
  refine ax_q (q_ibin rfl rfl rfl) ?_
  refine ax_nil ?_
  refine cx_keep rfl rfl ?_
  refine cx_cond rfl (fun h1 => ?_) (fun h1 => ?_)
  ·
   have h1 := dT h1
   refine cx_seq ?_
   refine cx_ops ?_
   refine ax_e (e_bslice rfl (by decide) rfl rfl) ?_
   refine ax_e (e_bslice rfl (by decide) rfl rfl) ?_
   refine ax_q (q_mov rfl) ?_
   refine ax_q (q_mov rfl) ?_
   refine ax_q (q_mov rfl) ?_
   refine ax_nil ?_
   refine cx_keep rfl rfl ?_
   refine cx_ret (retN (fun e => bif Nat.beq e 17 then 1 else 0) [16, 17] rfl rfl rfl rfl rfl ?_)
   rw [analyzeF_1 (by omega) (by omega)]; exact ⟨rfl, rfl⟩
  ·
   have h1 := dF h1
   refine cx_skip ?_
   refine cx_keep rfl rfl ?_
   refine cx_seq ?_
   refine cx_seq ?_
   refine cx_ops ?_
   refine ax_q (q_mov rfl) ?_
   refine ax_nil ?_
   refine cx_keep rfl rfl ?_
   refine cx_block ?_
   refine cx_loopU (fun m k => k ≤ log.length ∧ m = log.length - k ∧ ∀ i (h : i < log.length), i < k → recOK log[i] = true ∧ log[i].Lsn = ((i + 1 : Nat) : Int)) (fun k : Nat => [(5, int k)]) (fun _ => []) ⟨_, 0, ⟨Nat.zero_le _, rfl, fun i h hi => by omega⟩, by repeat (first | exact trivial | refine ⟨rfl, ?_⟩ | refine ⟨?_, ?_⟩)⟩ ?_
   rintro m k ⟨hk, rfl, hb⟩
   refine cx_seq ?_
   refine cx_seq ?_
   refine cx_ops ?_
   refine ax_q (q_mov rfl) ?_
   refine ax_q (q_mov rfl) ?_
   first | refine ax_q (q_lenS_map rfl) ?_ | refine ax_q (q_lenS_osl rfl) ?_ | refine ax_q (q_lenS_zs rfl) ?_ | refine ax_q (q_lenS rfl) ?_
   refine ax_q (q_ibin rfl rfl rfl) ?_
   refine ax_nil ?_
   refine cx_keep rfl rfl ?_
   refine cx_cond rfl (fun h2 => ?_) (fun h2 => ?_)
   ·
    have h2 := dT h2
    have hkx : k < log.length := by omega
    refine cx_skip ?_
    refine cx_keep rfl rfl ?_
    refine cx_seq ?_
    refine cx_block ?_
    refine cx_seq ?_
    refine cx_ops ?_
    refine ax_q (q_mov rfl) ?_
    refine ax_q (q_mov rfl) ?_
    refine ax_q (q_ix rfl rfl (mapAt hkx)) ?_
    first | refine ax_q (q_ldN rfl rfl rfl) ?_ | refine ax_q (q_loadN_ip rfl (Nat.le_refl _)) ?_ | refine ax_q (q_loadN_ip rfl (by decide)) ?_ | refine ax_q (q_loadN_rptr rfl rfl (by assumption) (by decide)) ?_ | refine ax_q (q_loadN_rptr rfl rfl (mapAt (by first | assumption | omega)) (by decide)) ?_
    first | refine ax_call rfl (vc_pure0 (c_sRecordOK (x := log[k]) ?_) hP rfl rfl ?_) | refine ax_call rfl (vc_lend0 (c_sRecordOK (x := log[k]) ?_) hP (by repeat (first | exact lal_id _ rfl | exact LAL.nil | refine LAL.cons ?_ ?_ | exact la_id _ rfl | exact LA.lend (lend_whole rfl (by first | (simp; done) | (rw [List.length_map]; rfl))) | refine LA.agg ?_ | refine LA.fn ?_ | refine LA.lend ?_ | exact Lend.d _ | exact Lend.zs _ | exact lend_whole rfl (by first | (simp; done) | (rw [List.length_map]; rfl)) | refine Lend.ptr rfl ?_ | refine Lend.fn ?_ | exact LendL.nil | refine LendL.cons ?_ ?_)) rfl rfl ?_)
    ·
     exact hv k hkx
    refine ax_q (q_not rfl) ?_
    refine ax_q (q_mov rfl) ?_
    apply ax_or rfl rfl
    ·
     intro g
     have g := bF g
     refine ax_q (q_mov rfl) ?_
     refine ax_q (q_mov rfl) ?_
     refine ax_q (q_ix rfl rfl (mapAt hkx)) ?_
     first | refine ax_q (q_fadr_ptr rfl) ?_ | refine ax_q (q_fadr_rptr rfl) ?_ | refine ax_q (q_fadr_ip rfl) ?_
     first | refine ax_q (q_load1_ptr rfl rfl rfl) ?_ | refine ax_q (q_load1_ip rfl) ?_ | refine ax_q (q_load1_rptr rfl rfl rfl rfl) ?_ | refine ax_q (q_load1_rptr rfl rfl (by assumption) rfl) ?_ | refine ax_q (q_load1_rptr rfl rfl (mapAt (by first | assumption | omega)) rfl) ?_
     refine ax_q (q_mov rfl) ?_
     refine ax_qe (r' := int ((k + 1 : Nat) : Int)) (q_ibin rfl rfl rfl) (by rw [wi (by omega) (by omega)]; rfl) ?_
     refine ax_q (q_ibin rfl rfl rfl) ?_
     exact ax_nil ⟨rfl, by repeat (first | exact trivial | refine ⟨rfl, ?_⟩ | refine ⟨?_, ?_⟩)⟩
    refine ax_nil ?_
    refine cx_keep rfl rfl ?_
    refine cx_cond rfl (fun h3 => ?_) (fun h3 => ?_)
    ·
     have h3 := (fun h => (or_T h).imp bT nT) h3
     refine cx_seq ?_
     refine cx_ops ?_
     refine ax_e (e_bslice rfl (by decide) rfl rfl) ?_
     refine ax_e (e_bslice rfl (by decide) rfl rfl) ?_
     refine ax_q (q_mov rfl) ?_
     refine ax_q (q_mov rfl) ?_
     refine ax_q (q_mov rfl) ?_
     refine ax_nil ?_
     refine cx_keep rfl rfl ?_
     have e : goodA log = false := goodA_no hkx (by
      rintro ⟨a, b⟩
      rcases h3 with h | h
      ·
       rw [a] at h; cases h
      ·
       exact h b)
     refine cx_ret (retN (fun e => bif Nat.beq e 41 then 1 else 0) [40, 41] rfl rfl rfl rfl rfl ?_)
     rw [analyzeF_2 (by omega) (by omega) e]; exact ⟨rfl, rfl⟩
    ·
     have h3 := (fun h => And.intro (bF (or_F h).1) (nF (or_F h).2)) h3
     refine cx_skip ?_
     refine cx_keep rfl rfl ?_
     refine cx_ops ?_
     refine ax_q (q_mov rfl) ?_
     refine ax_qe (r' := int ((k + 1 : Nat) : Int)) (q_ibin rfl rfl rfl) (by rw [wi (by omega) (by omega)]; rfl) ?_
     refine ax_q (q_mov rfl) ?_
     refine ax_nil ?_
     exact ⟨_, k + 1, by omega, ⟨by omega, rfl, fun i h hi => by
      rcases Nat.lt_succ_iff_lt_or_eq.1 hi with q | rfl
      ·
       exact hb i h q
      ·
       exact h3⟩, by repeat (first | exact trivial | refine ⟨rfl, ?_⟩ | refine ⟨?_, ?_⟩)⟩
   ·
    have h2 := dF h2
    obtain rfl : k = log.length := by omega
    refine cx_exit rfl ?_
    refine cx_keep rfl rfl ?_
    refine cx_seq ?_
    refine cx_ops ?_
    refine ax_q (q_mov rfl) ?_
    have hg := goodA_iff.2 (fun i h => hb i h h)
    first | refine ax_call rfl (vc_pure (c_l08Analyze (log := log) ?_ ?_ ?_) hP rfl ?_) | refine ax_call rfl (vc_lend (c_l08Analyze (log := log) ?_ ?_ ?_) hP (by repeat (first | exact lal_id _ rfl | exact LAL.nil | refine LAL.cons ?_ ?_ | exact la_id _ rfl | exact LA.lend (lend_whole rfl (by first | (simp; done) | (rw [List.length_map]; rfl))) | refine LA.agg ?_ | refine LA.fn ?_ | refine LA.lend ?_ | exact Lend.d _ | exact Lend.zs _ | exact lend_whole rfl (by first | (simp; done) | (rw [List.length_map]; rfl)) | refine Lend.ptr rfl ?_ | refine Lend.fn ?_ | exact LendL.nil | refine LendL.cons ?_ ?_)) ?_)
    ·
     first | assumption | omega | (simp; done) | (simp; omega)
    ·
     first | assumption | omega | (simp; done) | (simp; omega)
    ·
     exact goodA_rec hg
    rintro r h ⟨rfl, rfl⟩
    refine ⟨fun i => 44 + 200 * i, [0, 1], ⟨rfl, rfl, rfl, rfl, rfl, (by first | exact (fun h => absurd h Bool.false_ne_true) | exact (fun _ => ⟨rfl, (noisl_of (by repeat (first | exact trivial | refine ⟨noisl_map (fun _ => rfl), ?_⟩ | refine ⟨?_, ?_⟩)))⟩))⟩, ?_⟩
    skip
    refine ax_q (q_mov rfl) ?_
    refine ax_q (q_ext rfl rfl) ?_
    refine ax_q (q_ext rfl rfl) ?_
    refine ax_q (q_mov rfl) ?_
    refine ax_q (q_mov rfl) ?_
    refine ax_nil ?_
    refine cx_keep rfl rfl ?_
    refine cx_seq ?_
    refine cx_ops ?_
    refine ax_q (q_mov rfl) ?_
    refine ax_q (q_mov rfl) ?_
    refine ax_q (q_mov rfl) ?_
    refine ax_q (q_mov rfl) ?_
    refine ax_q (q_mov rfl) ?_
    refine ax_nil ?_
    refine cx_keep rfl rfl ?_
    refine cx_ret (retN (fun e => bif Nat.beq e 244 then 1 else 0) [44, 244] rfl rfl rfl rfl rfl ?_)
    rw [analyzeF_3 (by omega) (by omega) hg]; exact ⟨rfl, rfl⟩


/- loop.example/g00332/laws.toLogRecord -/
def k_c_toLogRecord : XCode :=
 .seq (.ops [.op (some 1) (.box (.t 0)),
   .op (some 2) (.alloc [.int .i64 0, .int .i64 0, .int .i64 0, .int .i64 0, .int .i64 0, .int .i64 0, .int .i64 0, .int .i64 0, .str [], .str []])])
 (.keep [1, 2] (.seq (.ops [.op (some 3) (.alloc [.int .i64 0, .int .i64 0, .int .i64 0, .int .i64 0, .int .i64 0, .int .i64 0, .int .i64 0, .int .i64 0, .str [], .str []])])
 (.keep [1, 2, 3] (.seq (.ops [.op (some 4) (.fadr (.t 1) 0),
   .op (some 5) (.load1 (.t 4)),
   .op (some 6) (.fadr (.t 3) 0),
   .op none (.store 1 (.t 6) (.t 5))])
 (.keep [1, 2, 3] (.seq (.ops [.op (some 7) (.fadr (.t 1) 1),
   .op (some 8) (.load1 (.t 7)),
   .op (some 9) (.fadr (.t 3) 1),
   .op none (.store 1 (.t 9) (.t 8))])
 (.keep [1, 2, 3] (.seq (.ops [.op (some 10) (.fadr (.t 1) 2),
   .op (some 11) (.load1 (.t 10)),
   .op (some 12) (.fadr (.t 3) 2),
   .op none (.store 1 (.t 12) (.t 11))])
 (.keep [1, 2, 3] (.seq (.ops [.op (some 13) (.fadr (.t 1) 3),
   .op (some 14) (.load1 (.t 13)),
   .op (some 15) (.fadr (.t 3) 3),
   .op none (.store 1 (.t 15) (.t 14))])
 (.keep [1, 2, 3] (.seq (.ops [.op (some 16) (.fadr (.t 1) 4),
   .op (some 17) (.load1 (.t 16)),
   .op (some 18) (.fadr (.t 3) 4),
   .op none (.store 1 (.t 18) (.t 17))])
 (.keep [1, 2, 3] (.seq (.ops [.op (some 19) (.fadr (.t 1) 5),
   .op (some 20) (.load1 (.t 19)),
   .op (some 21) (.fadr (.t 3) 5),
   .op none (.store 1 (.t 21) (.t 20))])
 (.keep [1, 2, 3] (.seq (.ops [.op (some 22) (.fadr (.t 1) 6),
   .op (some 23) (.load1 (.t 22)),
   .op (some 24) (.fadr (.t 3) 6),
   .op none (.store 1 (.t 24) (.t 23))])
 (.keep [1, 2, 3] (.seq (.ops [.op (some 25) (.fadr (.t 1) 7),
   .op (some 26) (.load1 (.t 25)),
   .op (some 27) (.fadr (.t 3) 7),
   .op none (.store 1 (.t 27) (.t 26))])
 (.keep [1, 2, 3] (.seq (.ops [.op (some 28) (.fadr (.t 1) 8),
   .op (some 29) (.load1 (.t 28)),
   .op (some 30) (.fadr (.t 3) 8),
   .op none (.store 1 (.t 30) (.t 29))])
 (.keep [1, 2, 3] (.seq (.ops [.op (some 31) (.fadr (.t 1) 9),
   .op (some 32) (.load1 (.t 31)),
   .op (some 33) (.fadr (.t 3) 9),
   .op none (.store 1 (.t 33) (.t 32))])
 (.keep [2, 3] (.seq (.ops [.op (some 34) (.loadN 10 (.t 3)),
   .op none (.store 10 (.t 2) (.t 34))])
 (.keep [2] (.ret))))))))))))))))))))))))))
theorem k_c_toLogRecord_fits : fitsF Try.prog 19 ⟨35, k_c_toLogRecord, [.cN 2 10]⟩ = true := by kernel_rfl
theorem c_toLogRecord {a : GLogRecord} : Con Try.prog noMv 19 [a.av] [] (fun r h => r = a.av ∧ h = []) := by
 refine con_of2 k_c_toLogRecord_fits rfl fun C hP hmv => ?_
 unfold k_c_toLogRecord
 refine cx_seq ?_
 refine cx_ops ?_
 refine ax_e (e_box rfl rfl (by decide) rfl rfl rfl) ?_
 refine ax_e (e_alloc (by decide) rfl rfl) ?_
 refine ax_nil ?_
 refine cx_keep rfl rfl ?_
 refine cx_seq ?_
 refine cx_ops ?_
 refine ax_e (e_alloc (by decide) rfl rfl) ?_
 refine ax_nil ?_
 refine cx_keep rfl rfl ?_
 refine cx_seq ?_
 refine cx_ops ?_
 refine ax_q (q_fadr_ptr rfl) ?_
 refine ax_q (q_load1_ptr rfl rfl rfl) ?_
 refine ax_q (q_fadr_ptr rfl) ?_
 refine ax_e (e_st rfl rfl rfl rfl rfl rfl rfl) ?_
 refine ax_nil ?_
 refine cx_keep rfl rfl ?_
 refine cx_seq ?_
 refine cx_ops ?_
 refine ax_q (q_fadr_ptr rfl) ?_
 refine ax_q (q_load1_ptr rfl rfl rfl) ?_
 refine ax_q (q_fadr_ptr rfl) ?_
 refine ax_e (e_st rfl rfl rfl rfl rfl rfl rfl) ?_
 refine ax_nil ?_
 refine cx_keep rfl rfl ?_
 refine cx_seq ?_
 refine cx_ops ?_
 refine ax_q (q_fadr_ptr rfl) ?_
 refine ax_q (q_load1_ptr rfl rfl rfl) ?_
 refine ax_q (q_fadr_ptr rfl) ?_
 refine ax_e (e_st rfl rfl rfl rfl rfl rfl rfl) ?_
 refine ax_nil ?_
 refine cx_keep rfl rfl ?_
 refine cx_seq ?_
 refine cx_ops ?_
 refine ax_q (q_fadr_ptr rfl) ?_
 refine ax_q (q_load1_ptr rfl rfl rfl) ?_
 refine ax_q (q_fadr_ptr rfl) ?_
 refine ax_e (e_st rfl rfl rfl rfl rfl rfl rfl) ?_
 refine ax_nil ?_
 refine cx_keep rfl rfl ?_
 refine cx_seq ?_
 refine cx_ops ?_
 refine ax_q (q_fadr_ptr rfl) ?_
 refine ax_q (q_load1_ptr rfl rfl rfl) ?_
 refine ax_q (q_fadr_ptr rfl) ?_
 refine ax_e (e_st rfl rfl rfl rfl rfl rfl rfl) ?_
 refine ax_nil ?_
 refine cx_keep rfl rfl ?_
 refine cx_seq ?_
 refine cx_ops ?_
 refine ax_q (q_fadr_ptr rfl) ?_
 refine ax_q (q_load1_ptr rfl rfl rfl) ?_
 refine ax_q (q_fadr_ptr rfl) ?_
 refine ax_e (e_st rfl rfl rfl rfl rfl rfl rfl) ?_
 refine ax_nil ?_
 refine cx_keep rfl rfl ?_
 refine cx_seq ?_
 refine cx_ops ?_
 refine ax_q (q_fadr_ptr rfl) ?_
 refine ax_q (q_load1_ptr rfl rfl rfl) ?_
 refine ax_q (q_fadr_ptr rfl) ?_
 refine ax_e (e_st rfl rfl rfl rfl rfl rfl rfl) ?_
 refine ax_nil ?_
 refine cx_keep rfl rfl ?_
 refine cx_seq ?_
 refine cx_ops ?_
 refine ax_q (q_fadr_ptr rfl) ?_
 refine ax_q (q_load1_ptr rfl rfl rfl) ?_
 refine ax_q (q_fadr_ptr rfl) ?_
 refine ax_e (e_st rfl rfl rfl rfl rfl rfl rfl) ?_
 refine ax_nil ?_
 refine cx_keep rfl rfl ?_
 refine cx_seq ?_
 refine cx_ops ?_
 refine ax_q (q_fadr_ptr rfl) ?_
 refine ax_q (q_load1_ptr rfl rfl rfl) ?_
 refine ax_q (q_fadr_ptr rfl) ?_
 refine ax_e (e_st rfl rfl rfl rfl rfl rfl rfl) ?_
 refine ax_nil ?_
 refine cx_keep rfl rfl ?_
 refine cx_seq ?_
 refine cx_ops ?_
 refine ax_q (q_fadr_ptr rfl) ?_
 refine ax_q (q_load1_ptr rfl rfl rfl) ?_
 refine ax_q (q_fadr_ptr rfl) ?_
 refine ax_e (e_st rfl rfl rfl rfl rfl rfl rfl) ?_
 refine ax_nil ?_
 refine cx_keep rfl rfl ?_
 refine cx_seq ?_
 refine cx_ops ?_
 refine ax_q (q_ldN rfl rfl rfl) ?_
 refine ax_e (e_st rfl rfl rfl rfl rfl rfl rfl) ?_
 refine ax_nil ?_
 refine cx_keep rfl rfl ?_
 refine cx_ret (ret0 rfl rfl ?_)
 exact ⟨rfl, rfl⟩


/- loop.example/g00332/laws.toLogRecordS -/
def k_c_toLogRecordS : XCode :=
 .seq (.ops [.op (some 2) (.mov (.k (.nils 10)))])
 (.keep [0] (.seq (.ops [.op (some 5) (.mov (.t 0)),
   .op (some 6) (.lenS (.t 5)),
   .op (some 7) (.mkslice 10 96 [.int .i64 0, .int .i64 0, .int .i64 0, .int .i64 0, .int .i64 0, .int .i64 0, .int .i64 0, .int .i64 0, .str [], .str []] (.t 6) (.t 6)),
   .op (some 3) (.mov (.t 7))])
 (.keep [0, 3] (.seq (.seq (.ops [.op (some 4) (.mov (.k (.int .i64 0)))])
  (.keep [0, 3, 4] (.block 0 (.loop (.seq (.seq (.ops [.op (some 8) (.mov (.t 4)),
     .op (some 9) (.mov (.t 0)),
     .op (some 10) (.lenS (.t 9)),
     .op (some 11) (.bin .lss (.t 8) (.t 10))])
   (.keep [0, 3, 4, 11] (.cond (.t 11)
    (.skip)
    (.exit 0))))
   (.keep [0, 3, 4] (.seq (.block 1 (.ops [.op (some 14) (.mov (.t 3)),
     .op (some 15) (.mov (.t 4)),
     .op (some 16) (.mov (.t 0)),
     .op (some 17) (.mov (.t 4)),
     .op (some 18) (.iadr 10 (.t 16) (.t 17)),
     .op (some 19) (.loadN 10 (.t 18)),
     .call (some 20) 19 [.t 19],
     .op (some 21) (.iadr 10 (.t 14) (.t 15)),
     .op none (.store 10 (.t 21) (.t 20))]))
   (.keep [0, 3, 4] (.ops [.op (some 12) (.mov (.t 4)),
    .op (some 13) (.bin .add (.t 12) (.k (.int .i64 1))),
    .op (some 4) (.mov (.t 13))])))))))))
 (.keep [3] (.seq (.ops [.op (some 22) (.mov (.t 3)),
   .op (some 2) (.mov (.t 22))])
 (.keep [2] (.ret))))))))
theorem k_c_toLogRecordS_fits : fitsF Try.prog 6 ⟨23, k_c_toLogRecordS, [.t 2]⟩ = true := by kernel_rfl
theorem c_toLogRecordS {xs : List GLogRecord} (hw : xs.length ≤ 1048576) : Con Try.prog noMv 6 [.d (.sl 10 (xs.map GLogRecord.row))] [] (fun r h => r = .osl 0 10 0 xs.length ∧ h = [(0, .rows 10 (xs.map GLogRecord.row))]) := by
 refine con_of2 k_c_toLogRecordS_fits rfl fun C hP hmv => ?_
 unfold k_c_toLogRecordS
 refine cx_seq ?_
 refine cx_ops ?_
 refine ax_q (q_mov rfl) ?_
 refine ax_nil ?_
 refine cx_keep rfl rfl ?_
 refine cx_seq ?_
 refine cx_ops ?_
 refine ax_q (q_mov rfl) ?_
 first | refine ax_q (q_lenS_map rfl) ?_ | refine ax_q (q_lenS_osl rfl) ?_ | refine ax_q (q_lenS_zs rfl) ?_ | refine ax_q (q_lenS rfl) ?_
 refine ax_ee (e_mkslice rfl rfl rfl (by omega) (by omega) (by omega) (by decide) rfl rfl) (by rw [Int.toNat_natCast]) ?_
 refine ax_q (q_mov rfl) ?_
 refine ax_nil ?_
 refine cx_keep rfl rfl ?_
 refine cx_seq ?_
 refine cx_seq ?_
 refine cx_ops ?_
 refine ax_q (q_mov rfl) ?_
 refine ax_nil ?_
 refine cx_keep rfl rfl ?_
 refine cx_block ?_
 refine cx_loopU (fun n k => k ≤ xs.length ∧ n = xs.length - k) (fun k : Nat => [(4, int k)]) (fun k => [(7, .rows 10 ((xs.take k).map GLogRecord.row ++ List.replicate (xs.length - k) [.int .i64 0, .int .i64 0, .int .i64 0, .int .i64 0, .int .i64 0, .int .i64 0, .int .i64 0, .int .i64 0, .str [], .str []]))]) ⟨_, 0, ⟨Nat.zero_le _, rfl⟩, by repeat (first | exact trivial | refine ⟨rfl, ?_⟩ | refine ⟨?_, ?_⟩)⟩ ?_
 rintro n k ⟨hk, rfl⟩
 refine cx_seq ?_
 refine cx_seq ?_
 refine cx_ops ?_
 refine ax_q (q_mov rfl) ?_
 refine ax_q (q_mov rfl) ?_
 first | refine ax_q (q_lenS_map rfl) ?_ | refine ax_q (q_lenS_osl rfl) ?_ | refine ax_q (q_lenS_zs rfl) ?_ | refine ax_q (q_lenS rfl) ?_
 refine ax_q (q_ibin rfl rfl rfl) ?_
 refine ax_nil ?_
 refine cx_keep rfl rfl ?_
 refine cx_cond rfl (fun h0 => ?_) (fun h0 => ?_)
 ·
  have h0 := dT h0
  have h1x : k < xs.length := by omega
  refine cx_skip ?_
  refine cx_keep rfl rfl ?_
  refine cx_seq ?_
  refine cx_block ?_
  refine cx_ops ?_
  refine ax_q (q_mov rfl) ?_
  refine ax_q (q_mov rfl) ?_
  refine ax_q (q_mov rfl) ?_
  refine ax_q (q_mov rfl) ?_
  refine ax_q (q_ix rfl rfl (mapAt h1x)) ?_
  first | refine ax_q (q_ldN rfl rfl rfl) ?_ | refine ax_q (q_loadN_ip rfl (Nat.le_refl _)) ?_ | refine ax_q (q_loadN_ip rfl (by decide)) ?_ | refine ax_q (q_loadN_rptr rfl rfl (by assumption) (by decide)) ?_ | refine ax_q (q_loadN_rptr rfl rfl (mapAt (by first | assumption | omega)) (by decide)) ?_
  first | refine ax_call rfl (vc_pure0 (c_toLogRecord  ) hP rfl rfl ?_) | refine ax_call rfl (vc_lend0 (c_toLogRecord  ) hP (by repeat (first | exact lal_id _ rfl | exact LAL.nil | refine LAL.cons ?_ ?_ | exact la_id _ rfl | exact LA.lend (lend_whole rfl (by first | (simp; done) | (rw [List.length_map]; rfl))) | refine LA.agg ?_ | refine LA.fn ?_ | refine LA.lend ?_ | exact Lend.d _ | exact Lend.zs _ | exact lend_whole rfl (by first | (simp; done) | (rw [List.length_map]; rfl)) | refine Lend.ptr rfl ?_ | refine Lend.fn ?_ | exact LendL.nil | refine LendL.cons ?_ ?_)) rfl rfl ?_)
  refine ax_q (q_ixo rfl rfl h1x) ?_
  refine ax_e (e_str (q := GLogRecord.row xs[k]) rfl rfl rfl rfl rfl rfl (fillAtL h1x) rfl rfl (fillSetL h1x)) ?_
  refine ax_nil ?_
  refine cx_keep rfl rfl ?_
  refine cx_ops ?_
  refine ax_q (q_mov rfl) ?_
  refine ax_q (q_add rfl rfl (by omega)) ?_
  refine ax_q (q_mov rfl) ?_
  refine ax_nil ?_
  exact ⟨_, k + 1, by omega, ⟨by omega, rfl⟩, by repeat (first | exact trivial | refine ⟨rfl, ?_⟩ | refine ⟨?_, ?_⟩)⟩
 ·
  have h0 := dF h0
  refine cx_exit rfl ?_
  refine cx_keep rfl rfl ?_
  refine cx_seq ?_
  refine cx_ops ?_
  refine ax_q (q_mov rfl) ?_
  refine ax_q (q_mov rfl) ?_
  refine ax_nil ?_
  refine cx_keep rfl rfl ?_
  refine cx_ret (retN (fun _ => 0) [7] rfl rfl rfl rfl rfl ?_)
  exact ⟨rfl, by rw [show k = xs.length from by omega, List.take_length, Nat.sub_self, List.replicate_zero, List.append_nil]; rfl⟩


/- loop.example/g00332/impl.inRange -/
def k_c_inRange : XCode :=
 .seq (.ops [.op (some 6) (.mov (.k (.bool false)))])
 (.keep [0, 1, 2] (.seq (.ops [.op (some 7) (.mov (.t 1)),
   .op (some 8) (.mov (.t 0)),
   .op (some 9) (.bin .leq (.t 7) (.t 8)),
   .op (some 10) (.mov (.t 9)),
   .andor 14 true 3 10 [.op (some 11) (.mov (.t 0)), .op (some 12) (.mov (.t 2)), .op (some 13) (.bin .leq (.t 11) (.t 12))] (.t 13),
   .op (some 6) (.mov (.t 14))])
 (.keep [6] (.ret))))
theorem k_c_inRange_fits : fitsF Try.prog 39 ⟨15, k_c_inRange, [.t 6]⟩ = true := by kernel_rfl
theorem c_inRange {n lo hi : Int} : Con Try.prog noMv 39 [int n, int lo, int hi] [] (fun r h => r = bool (inR n lo hi) ∧ h = []) := by
 refine con_of2 k_c_inRange_fits rfl fun C hP hmv => ?_
 unfold k_c_inRange
 refine cx_seq ?_
 refine cx_ops ?_
 refine ax_q (q_mov rfl) ?_
 refine ax_nil ?_
 refine cx_keep rfl rfl ?_
 refine cx_seq ?_
 refine cx_ops ?_
 refine ax_q (q_mov rfl) ?_
 refine ax_q (q_mov rfl) ?_
 refine ax_q (q_ibin rfl rfl rfl) ?_
 refine ax_q (q_mov rfl) ?_
 apply ax_and rfl rfl
 ·
  intro g
  have g := dT g
  refine ax_q (q_mov rfl) ?_
  refine ax_q (q_mov rfl) ?_
  refine ax_q (q_ibin rfl rfl rfl) ?_
  exact ax_nil ⟨rfl, by repeat (first | exact trivial | refine ⟨rfl, ?_⟩ | refine ⟨?_, ?_⟩)⟩
 refine ax_q (q_mov rfl) ?_
 refine ax_nil ?_
 refine cx_keep rfl rfl ?_
 refine cx_ret (ret0 rfl rfl ?_)
 exact ⟨rfl, rfl⟩


/- (ptr loop.example/g00332/impl.byteReader).take -/
def k_c_take : XCode :=
 .seq (.ops [.op (some 4) (.mov (.k (.nils 1)))])
 (.keep [0, 1] (.seq (.seq (.ops [.op (some 6) (.mov (.t 1)),
   .op (some 7) (.mov (.t 0)),
   .op (some 8) (.nilck (.t 7)),
   .op (some 9) (.fadr (.t 8) 0),
   .op (some 10) (.load1 (.t 9)),
   .op (some 11) (.lenS (.t 10)),
   .op (some 12) (.bin .gtr (.t 6) (.t 11))])
  (.keep [0, 1, 12] (.cond (.t 12)
  (.seq (.ops [.op (some 13) (.mov (.t 0)),
    .op (some 14) (.nilck (.t 13)),
    .op (some 15) (.fadr (.t 14) 1),
    .op none (.store 1 (.t 15) (.k (.bool true)))])
   (.keep [1] (.seq (.ops [.op (some 16) (.mov (.t 1)),
    .op (some 17) (.mkslice 1 1 [.int .u8 0] (.t 16) (.t 16)),
    .op (some 4) (.mov (.t 17))])
   (.keep [4] (.ret)))))
  (.skip))))
 (.keep [0, 1] (.seq (.ops [.op (some 18) (.mov (.t 0)),
   .op (some 19) (.nilck (.t 18)),
   .op (some 20) (.fadr (.t 19) 0),
   .op (some 21) (.load1 (.t 20)),
   .op (some 22) (.mov (.t 1)),
   .op (some 23) (.slc 1 (.t 21) none (some (.t 22)) none),
   .op (some 5) (.mov (.t 23))])
 (.keep [0, 1, 5] (.seq (.ops [.op (some 24) (.mov (.t 0)),
   .op (some 25) (.mov (.t 0)),
   .op (some 26) (.nilck (.t 25)),
   .op (some 27) (.fadr (.t 26) 0),
   .op (some 28) (.load1 (.t 27)),
   .op (some 29) (.mov (.t 1)),
   .op (some 30) (.slc 1 (.t 28) (some (.t 29)) none none),
   .op (some 31) (.nilck (.t 24)),
   .op (some 32) (.fadr (.t 31) 0),
   .op none (.store 1 (.t 32) (.t 30))])
 (.keep [5] (.seq (.ops [.op (some 33) (.mov (.t 5)),
   .op (some 4) (.mov (.t 33))])
 (.keep [4] (.ret))))))))))
theorem k_c_take_fits : fitsF Try.prog 54 ⟨34, k_c_take, [.t 4]⟩ = true := by kernel_rfl
theorem c_take {r0 : Rd} {n : Nat} (hn : n ≤ 1048576) (hl : r0.rest.length ≤ 1048576) : Con Try.prog noMv 54 [.ptr 1000 0, int n] [(1000, r0.box)] (fun r h => r = .d (.sl 1 ((takeF r0 n).1.map byteRow)) ∧ h = [(1000, ((takeF r0 n).2).box)]) := by
 refine con_of2 k_c_take_fits rfl fun C hP hmv => ?_
 unfold k_c_take
 refine cx_seq ?_
 refine cx_ops ?_
 refine ax_q (q_mov rfl) ?_
 refine ax_nil ?_
 refine cx_keep rfl rfl ?_
 refine cx_seq ?_
 refine cx_seq ?_
 refine cx_ops ?_
 refine ax_q (q_mov rfl) ?_
 refine ax_q (q_mov rfl) ?_
 first | refine ax_q (q_nilck_ptr rfl) ?_ | refine ax_q (q_nilck_rptr rfl) ?_ | refine ax_q (q_nilck_ip rfl) ?_
 first | refine ax_q (q_fadr_ptr rfl) ?_ | refine ax_q (q_fadr_rptr rfl) ?_ | refine ax_q (q_fadr_ip rfl) ?_
 first | refine ax_q (q_load1_ptr rfl rfl rfl) ?_ | refine ax_q (q_load1_ip rfl) ?_ | refine ax_q (q_load1_rptr rfl rfl rfl rfl) ?_ | refine ax_q (q_load1_rptr rfl rfl (by assumption) rfl) ?_ | refine ax_q (q_load1_rptr rfl rfl (mapAt (by first | assumption | omega)) rfl) ?_
 first | refine ax_q (q_lenS_map rfl) ?_ | refine ax_q (q_lenS_osl rfl) ?_ | refine ax_q (q_lenS_zs rfl) ?_ | refine ax_q (q_lenS rfl) ?_
 refine ax_q (q_ibin rfl rfl rfl) ?_
 refine ax_nil ?_
 refine cx_keep rfl rfl ?_
 refine cx_cond rfl (fun h0 => ?_) (fun h0 => ?_)
 ·
  have h0 := dT h0
  refine cx_seq ?_
  refine cx_ops ?_
  refine ax_q (q_mov rfl) ?_
  first | refine ax_q (q_nilck_ptr rfl) ?_ | refine ax_q (q_nilck_rptr rfl) ?_ | refine ax_q (q_nilck_ip rfl) ?_
  first | refine ax_q (q_fadr_ptr rfl) ?_ | refine ax_q (q_fadr_rptr rfl) ?_ | refine ax_q (q_fadr_ip rfl) ?_
  refine ax_e (e_st rfl rfl rfl rfl rfl rfl rfl) ?_
  refine ax_nil ?_
  refine cx_keep rfl rfl ?_
  refine cx_seq ?_
  refine cx_ops ?_
  refine ax_q (q_mov rfl) ?_
  refine ax_ee (st'' := ⟨(17, .osl 17 1 0 n) :: _, (17, .rows 1 ((List.replicate n (0 : UInt8)).map byteRow)) :: _⟩) (e_mkslice rfl rfl rfl (by omega) (by omega) (by omega) (by decide) rfl rfl) (by rw [Int.toNat_natCast, List.map_replicate]; rfl) ?_
  refine ax_q (q_mov rfl) ?_
  refine ax_nil ?_
  refine cx_keep rfl rfl ?_
  refine cx_wk (wk_frz 4 17 rfl rfl (.whole (by simp)) rfl) ?_
  refine cx_ret (retN id [1000] rfl rfl rfl rfl rfl ?_)
  rw [takeF_1 h0]; exact ⟨rfl, rfl⟩
 ·
  have h0 := dF h0
  refine cx_skip ?_
  refine cx_keep rfl rfl ?_
  refine cx_seq ?_
  refine cx_ops ?_
  refine ax_q (q_mov rfl) ?_
  first | refine ax_q (q_nilck_ptr rfl) ?_ | refine ax_q (q_nilck_rptr rfl) ?_ | refine ax_q (q_nilck_ip rfl) ?_
  first | refine ax_q (q_fadr_ptr rfl) ?_ | refine ax_q (q_fadr_rptr rfl) ?_ | refine ax_q (q_fadr_ip rfl) ?_
  first | refine ax_q (q_load1_ptr rfl rfl rfl) ?_ | refine ax_q (q_load1_ip rfl) ?_ | refine ax_q (q_load1_rptr rfl rfl rfl rfl) ?_ | refine ax_q (q_load1_rptr rfl rfl (by assumption) rfl) ?_ | refine ax_q (q_load1_rptr rfl rfl (mapAt (by first | assumption | omega)) rfl) ?_
  refine ax_q (q_mov rfl) ?_
  refine ax_qe (r' := .d (.sl 1 ((r0.rest.take n).map byteRow))) (q_slc rfl rfl rfl (by omega) (by omega) (by simp; omega)) (by simp [List.map_take]) ?_
  refine ax_q (q_mov rfl) ?_
  refine ax_nil ?_
  refine cx_keep rfl rfl ?_
  refine cx_seq ?_
  refine cx_ops ?_
  refine ax_q (q_mov rfl) ?_
  refine ax_q (q_mov rfl) ?_
  first | refine ax_q (q_nilck_ptr rfl) ?_ | refine ax_q (q_nilck_rptr rfl) ?_ | refine ax_q (q_nilck_ip rfl) ?_
  first | refine ax_q (q_fadr_ptr rfl) ?_ | refine ax_q (q_fadr_rptr rfl) ?_ | refine ax_q (q_fadr_ip rfl) ?_
  first | refine ax_q (q_load1_ptr rfl rfl rfl) ?_ | refine ax_q (q_load1_ip rfl) ?_ | refine ax_q (q_load1_rptr rfl rfl rfl rfl) ?_ | refine ax_q (q_load1_rptr rfl rfl (by assumption) rfl) ?_ | refine ax_q (q_load1_rptr rfl rfl (mapAt (by first | assumption | omega)) rfl) ?_
  refine ax_q (q_mov rfl) ?_
  refine ax_qe (r' := .d (.sl 1 ((r0.rest.drop n).map byteRow))) (q_slc rfl rfl rfl (by omega) (by simp; omega) (by simp)) (slc_drop) ?_
  first | refine ax_q (q_nilck_ptr rfl) ?_ | refine ax_q (q_nilck_rptr rfl) ?_ | refine ax_q (q_nilck_ip rfl) ?_
  first | refine ax_q (q_fadr_ptr rfl) ?_ | refine ax_q (q_fadr_rptr rfl) ?_ | refine ax_q (q_fadr_ip rfl) ?_
  refine ax_e (e_st rfl rfl rfl rfl rfl rfl rfl) ?_
  refine ax_nil ?_
  refine cx_keep rfl rfl ?_
  refine cx_seq ?_
  refine cx_ops ?_
  refine ax_q (q_mov rfl) ?_
  refine ax_q (q_mov rfl) ?_
  refine ax_nil ?_
  refine cx_keep rfl rfl ?_
  refine cx_ret (retN id [1000] rfl rfl rfl rfl rfl ?_)
  rw [takeF_2 h0]; exact ⟨rfl, rfl⟩


/- (ptr loop.example/g00332/impl.byteReader).num -/
def k_c_num : XCode :=
 .seq (.ops [.op (some 2) (.mov (.k (.int .i64 0)))])
 (.keep [0] (.seq (.ops [.op (some 3) (.mov (.t 0)),
   .call (some 4) 54 [.t 3, .k (.int .i64 1)],
   .op (some 5) (.iadr 1 (.t 4) (.k (.int .i64 0))),
   .op (some 6) (.load1 (.t 5)),
   .op (some 7) (.conv .i64 (.t 6)),
   .op (some 2) (.mov (.t 7))])
 (.keep [2] (.ret))))
theorem k_c_num_fits : fitsF Try.prog 43 ⟨8, k_c_num, [.t 2]⟩ = true := by kernel_rfl
theorem c_num {r0 : Rd} (hl : r0.rest.length ≤ 1048576) : Con Try.prog noMv 43 [.ptr 1000 0] [(1000, r0.box)] (fun r h => r = int (numF r0).1 ∧ h = [(1000, ((numF r0).2).box)]) := by
 refine con_of2 k_c_num_fits rfl fun C hP hmv => ?_
 unfold k_c_num
 refine cx_seq ?_
 refine cx_ops ?_
 refine ax_q (q_mov rfl) ?_
 refine ax_nil ?_
 refine cx_keep rfl rfl ?_
 refine cx_seq ?_
 refine cx_ops ?_
 refine ax_q (q_mov rfl) ?_
 refine ax_call rfl (vcall_own (c_take (n := 1) ?_ ?_) hP hmv false (fun _ => 1000) [1000] ⟨rfl, rfl, rfl, rfl, ⟨rfl, trivial⟩, rfl, rfl, rfl⟩ (.pass rfl rfl (.pass rfl rfl .nil)) ?_)
 ·
  first | assumption | omega | (simp; done) | (simp; omega)
 ·
  first | assumption | omega | (simp; done) | (simp; omega)
 rintro r h ⟨rfl, rfl⟩
 refine ⟨fun _ => 1000, [], ⟨rfl, rfl, rfl, rfl, mem1 rfl, rfl, rfl, fun h => absurd h Bool.false_ne_true⟩, ?_⟩
 have ht1 : (takeF r0 1).1.length = 1 := takeF_len.1
 refine ax_q (q_ixI rfl rfl (by omega) (mapAt (by omega))) ?_
 first | refine ax_q (q_load1_ptr rfl rfl rfl) ?_ | refine ax_q (q_load1_ip rfl) ?_ | refine ax_q (q_load1_rptr rfl rfl rfl rfl) ?_ | refine ax_q (q_load1_rptr rfl rfl (by assumption) rfl) ?_ | refine ax_q (q_load1_rptr rfl rfl (mapAt (by first | assumption | omega)) rfl) ?_
 first | refine ax_q (q_convB rfl) ?_ | refine ax_q (q_convI rfl (by omega)) ?_ | refine ax_q (q_convU8 rfl) ?_ | refine ax_q (q_conv rfl) ?_
 refine ax_q (q_mov rfl) ?_
 refine ax_nil ?_
 refine cx_keep rfl rfl ?_
 refine cx_ret (retN id [1000] rfl rfl rfl rfl rfl ?_)
 unfold numF; rw [getD_at (by omega)]; exact ⟨rfl, rfl⟩


/- (ptr loop.example/g00332/impl.byteReader).checkList -/
def k_c_checkList : XCode :=
 .seq (.ops [.op (some 10) (.mov (.k (.bool false)))])
 (.keep [0, 1, 2, 3, 4] (.seq (.ops [.op (some 16) (.mov (.t 0)),
   .call (some 17) 43 [.t 16],
   .op (some 11) (.mov (.t 17))])
 (.keep [0, 1, 2, 3, 4, 11] (.seq (.ops [.op (some 18) (.mov (.t 11)),
   .op (some 19) (.mov (.t 1)),
   .op (some 20) (.bin .leq (.t 18) (.t 19)),
   .op (some 21) (.mov (.t 2)),
   .op (some 22) (.bin .sub (.t 21) (.k (.int .i64 1))),
   .op (some 12) (.mov (.t 20)),
   .op (some 13) (.mov (.t 22))])
 (.keep [0, 3, 4, 11, 12, 13] (.seq (.seq (.ops [.op (some 23) (.mov (.t 11)),
   .op (some 24) (.mov (.k (.int .i64 0)))])
  (.keep [0, 3, 4, 12, 13, 23, 24] (.block 0 (.loop (.seq (.ops [.op (some 25) (.bin .lss (.t 24) (.t 23))])
   (.keep [0, 3, 4, 12, 13, 23, 24, 25] (.seq (.cond (.t 25)
    (.skip)
    (.exit 0))
   (.keep [0, 3, 4, 12, 13, 23, 24] (.seq (.block 1 (.seq (.ops [.op (some 26) (.mov (.t 0)),
     .call (some 27) 43 [.t 26],
     .op (some 28) (.mov (.t 0)),
     .call (some 29) 43 [.t 28],
     .op (some 14) (.mov (.t 27)),
     .op (some 15) (.mov (.t 29))])
    (.keep [0, 3, 4, 12, 13, 14, 15, 23, 24] (.seq (.ops [.op (some 30) (.mov (.t 12)),
     .op (some 31) (.mov (.t 30)),
     .andor 37 true 1 31 [.op (some 32) (.mov (.t 14)), .op (some 33) (.mov (.t 13)), .op (some 34) (.bin .add (.t 33) (.k (.int .i64 1))), .op (some 35) (.mov (.t 3)), .call (some 36) 39 [.t 32, .t 34, .t 35]] (.t 36),
     .op (some 38) (.mov (.t 37)),
     .andor 43 true 8 38 [.op (some 39) (.mov (.t 15)), .op (some 40) (.mov (.t 4)), .op (some 41) (.bin .sub (.t 40) (.k (.int .i64 1))), .call (some 42) 39 [.t 39, .k (.int .i64 1), .t 41]] (.t 42),
     .op (some 12) (.mov (.t 43))])
    (.keep [0, 3, 4, 12, 14, 23, 24] (.ops [.op (some 44) (.mov (.t 14)),
     .op (some 13) (.mov (.t 44))]))))))
   (.keep [0, 3, 4, 12, 13, 23, 24] (.ops [.op (some 45) (.bin .add (.t 24) (.k (.int .i64 1))),
    .op (some 24) (.mov (.t 45))])))))))))))
 (.keep [0, 12] (.seq (.ops [.op (some 46) (.mov (.t 12)),
   .op (some 47) (.mov (.t 46)),
   .andor 53 true 1 47 [.op (some 48) (.mov (.t 0)), .op (some 49) (.nilck (.t 48)), .op (some 50) (.fadr (.t 49) 1), .op (some 51) (.load1 (.t 50)), .op (some 52) (.not (.t 51))] (.t 52),
   .op (some 10) (.mov (.t 53))])
 (.keep [10] (.ret))))))))))
theorem k_c_checkList_fits : fitsF Try.prog 52 ⟨54, k_c_checkList, [.t 10]⟩ = true := by kernel_rfl
theorem c_checkList {r0 : Rd} {most low high lsn : Int} (hl : r0.rest.length ≤ 1048576) (hlo : 0 ≤ low ∧ low ≤ 1) (hhi : 0 ≤ high ∧ high ≤ 100) (hm : 1 ≤ lsn ∧ lsn ≤ 60) : Con Try.prog noMv 52 [.ptr 1000 0, int most, int low, int high, int lsn] [(1000, r0.box)] (fun r h => r = bool (chkF most low high lsn r0).1 ∧ h = [(1000, ((chkF most low high lsn r0).2).box)]) := by
 refine con_of2 k_c_checkList_fits rfl fun C hP hmv => ?_
 unfold k_c_checkList
 refine cx_seq ?_
 refine cx_ops ?_
 refine ax_q (q_mov rfl) ?_
 refine ax_nil ?_
 refine cx_keep rfl rfl ?_
 refine cx_seq ?_
 refine cx_ops ?_
 refine ax_q (q_mov rfl) ?_
 refine ax_call rfl (vcall_own (c_num  ?_) hP hmv false (fun _ => 1000) [1000] ⟨rfl, rfl, rfl, rfl, ⟨rfl, trivial⟩, rfl, rfl, rfl⟩ (.pass rfl rfl .nil) ?_)
 ·
  first | assumption | omega | (simp; done) | (simp; omega)
 rintro r h ⟨rfl, rfl⟩
 refine ⟨fun _ => 1000, [], ⟨rfl, rfl, rfl, rfl, mem1 rfl, rfl, rfl, fun h => absurd h Bool.false_ne_true⟩, ?_⟩
 obtain ⟨q1, q2⟩ := @numF_lt r0
 obtain ⟨T, hT⟩ : ∃ T, chkL high lsn (numF r0).1 (numF r0).2 (decide (((numF r0).1 : Int) ≤ most)) (low - 1) = T := ⟨_, rfl⟩
 refine ax_q (q_mov rfl) ?_
 refine ax_nil ?_
 refine cx_keep rfl rfl ?_
 refine cx_seq ?_
 refine cx_ops ?_
 refine ax_q (q_mov rfl) ?_
 refine ax_q (q_mov rfl) ?_
 refine ax_q (q_ibin rfl rfl rfl) ?_
 refine ax_q (q_mov rfl) ?_
 refine ax_qe (r' := int (low - 1)) (q_ibin rfl rfl rfl) (by rw [wi (by omega) (by omega)]) ?_
 refine ax_q (q_mov rfl) ?_
 refine ax_q (q_mov rfl) ?_
 refine ax_nil ?_
 refine cx_keep rfl rfl ?_
 refine cx_seq ?_
 refine cx_seq ?_
 refine cx_ops ?_
 refine ax_q (q_mov rfl) ?_
 refine ax_q (q_mov rfl) ?_
 refine ax_nil ?_
 refine cx_keep rfl rfl ?_
 refine cx_block ?_
 refine cx_loopU (fun m (p : Nat × Rd × Bool × Int) => p.1 ≤ (numF r0).1 ∧ m = p.1 ∧ p.2.1.rest.length ≤ 1048576 ∧ -1 ≤ p.2.2.2 ∧ p.2.2.2 ≤ 256 ∧ chkL high lsn p.1 p.2.1 p.2.2.1 p.2.2.2 = T) (fun p => [(24, int (((numF r0).1 - p.1 : Nat) : Int)), (12, bool p.2.2.1), (13, int p.2.2.2)]) (fun p => [(1000, p.2.1.box)])
  ⟨_, ((numF r0).1, (numF r0).2, decide (((numF r0).1 : Int) ≤ most), low - 1), ⟨Nat.le_refl _, rfl, by simp only; omega, by simp only; omega, by simp only; omega, hT⟩, by simp only [Nat.sub_self]; exact (by repeat (first | exact trivial | refine ⟨rfl, ?_⟩ | refine ⟨?_, ?_⟩))⟩ ?_
 rintro m ⟨n, u, ok, b⟩ ⟨hn, hmn, hu, hb0, hb1, hc⟩
 simp only at hn hmn hu hb0 hb1 hc ⊢
 refine cx_seq ?_
 refine cx_ops ?_
 refine ax_q (q_ibin rfl rfl rfl) ?_
 refine ax_nil ?_
 refine cx_keep rfl rfl ?_
 refine cx_seq ?_
 refine cx_cond rfl (fun h0 => ?_) (fun h0 => ?_)
 ·
  have h0 := dT h0
  obtain ⟨n, rfl⟩ : ∃ n2, n = n2 + 1 := ⟨n - 1, by omega⟩
  rw [chkL] at hc
  obtain ⟨k1, k2⟩ := @numF_lt u
  obtain ⟨k3, k4⟩ := @numF_lt (numF u).2
  refine cx_skip ?_
  refine cx_keep rfl rfl ?_
  refine cx_seq ?_
  refine cx_block ?_
  refine cx_seq ?_
  refine cx_ops ?_
  refine ax_q (q_mov rfl) ?_
  refine ax_call rfl (vcall_own (c_num  ?_) hP hmv false (fun _ => 1000) [1000] ⟨rfl, rfl, rfl, rfl, ⟨rfl, trivial⟩, rfl, rfl, rfl⟩ (.pass rfl rfl .nil) ?_)
  ·
   first | assumption | omega | (simp; done) | (simp; omega)
  rintro r h ⟨rfl, rfl⟩
  refine ⟨fun _ => 1000, [], ⟨rfl, rfl, rfl, rfl, mem1 rfl, rfl, rfl, fun h => absurd h Bool.false_ne_true⟩, ?_⟩
  refine ax_q (q_mov rfl) ?_
  refine ax_call rfl (vcall_own (c_num  ?_) hP hmv false (fun _ => 1000) [1000] ⟨rfl, rfl, rfl, rfl, ⟨rfl, trivial⟩, rfl, rfl, rfl⟩ (.pass rfl rfl .nil) ?_)
  ·
   first | assumption | omega | (simp; done) | (simp; omega)
  rintro r h ⟨rfl, rfl⟩
  refine ⟨fun _ => 1000, [], ⟨rfl, rfl, rfl, rfl, mem1 rfl, rfl, rfl, fun h => absurd h Bool.false_ne_true⟩, ?_⟩
  refine ax_q (q_mov rfl) ?_
  refine ax_q (q_mov rfl) ?_
  refine ax_nil ?_
  refine cx_keep rfl rfl ?_
  refine cx_seq ?_
  refine cx_ops ?_
  refine ax_q (q_mov rfl) ?_
  refine ax_q (q_mov rfl) ?_
  apply ax_and rfl rfl
  ·
   intro g
   refine ax_q (q_mov rfl) ?_
   refine ax_q (q_mov rfl) ?_
   refine ax_q (q_add rfl rfl (by omega)) ?_
   refine ax_q (q_mov rfl) ?_
   first | refine ax_call rfl (vc_pure0 (c_inRange  ) hP rfl rfl ?_) | refine ax_call rfl (vc_lend0 (c_inRange  ) hP (by repeat (first | exact lal_id _ rfl | exact LAL.nil | refine LAL.cons ?_ ?_ | exact la_id _ rfl | exact LA.lend (lend_whole rfl (by first | (simp; done) | (rw [List.length_map]; rfl))) | refine LA.agg ?_ | refine LA.fn ?_ | refine LA.lend ?_ | exact Lend.d _ | exact Lend.zs _ | exact lend_whole rfl (by first | (simp; done) | (rw [List.length_map]; rfl)) | refine Lend.ptr rfl ?_ | refine Lend.fn ?_ | exact LendL.nil | refine LendL.cons ?_ ?_)) rfl rfl ?_)
   exact ax_nil ⟨rfl, by repeat (first | exact trivial | refine ⟨rfl, ?_⟩ | refine ⟨?_, ?_⟩)⟩
  refine ax_q (q_mov rfl) ?_
  apply ax_and rfl rfl
  ·
   intro g
   have g := (fun h => And.intro (id (and_T h).1) (id (and_T h).2)) g
   refine ax_q (q_mov rfl) ?_
   refine ax_q (q_mov rfl) ?_
   refine ax_q (q_sub rfl rfl (by omega)) ?_
   first | refine ax_call rfl (vc_pure0 (c_inRange  ) hP rfl rfl ?_) | refine ax_call rfl (vc_lend0 (c_inRange  ) hP (by repeat (first | exact lal_id _ rfl | exact LAL.nil | refine LAL.cons ?_ ?_ | exact la_id _ rfl | exact LA.lend (lend_whole rfl (by first | (simp; done) | (rw [List.length_map]; rfl))) | refine LA.agg ?_ | refine LA.fn ?_ | refine LA.lend ?_ | exact Lend.d _ | exact Lend.zs _ | exact lend_whole rfl (by first | (simp; done) | (rw [List.length_map]; rfl)) | refine Lend.ptr rfl ?_ | refine Lend.fn ?_ | exact LendL.nil | refine LendL.cons ?_ ?_)) rfl rfl ?_)
   exact ax_nil ⟨rfl, by repeat (first | exact trivial | refine ⟨rfl, ?_⟩ | refine ⟨?_, ?_⟩)⟩
  refine ax_q (q_mov rfl) ?_
  refine ax_nil ?_
  refine cx_keep rfl rfl ?_
  refine cx_ops ?_
  refine ax_q (q_mov rfl) ?_
  refine ax_q (q_mov rfl) ?_
  refine ax_nil ?_
  refine cx_keep rfl rfl ?_
  refine cx_ops ?_
  refine ax_qe (r' := int (((numF r0).1 - n : Nat) : Int)) (q_ibin rfl rfl rfl) (by rw [wi (by omega) (by omega)]; exact congrArg AM.int (by omega)) ?_
  refine ax_q (q_mov rfl) ?_
  refine ax_nil ?_
  exact ⟨_, (n, (numF (numF u).2).2, (ok && inR (numF u).1 (b + 1) high) && inR (numF (numF u).2).1 1 (lsn - 1), ((numF u).1 : Int)), by omega, ⟨by simp only; omega, rfl, by simp only; omega, by simp only; omega, by simp only; omega, hc⟩, by simp only; exact (by repeat (first | exact trivial | refine ⟨rfl, ?_⟩ | refine ⟨?_, ?_⟩))⟩
 ·
  have h0 := dF h0
  obtain rfl : n = 0 := by omega
  subst hc
  refine cx_exit rfl ?_
  refine cx_keep rfl rfl ?_
  refine cx_seq ?_
  refine cx_ops ?_
  refine ax_q (q_mov rfl) ?_
  refine ax_q (q_mov rfl) ?_
  apply ax_and rfl rfl
  ·
   intro g
   refine ax_q (q_mov rfl) ?_
   first | refine ax_q (q_nilck_ptr rfl) ?_ | refine ax_q (q_nilck_rptr rfl) ?_ | refine ax_q (q_nilck_ip rfl) ?_
   first | refine ax_q (q_fadr_ptr rfl) ?_ | refine ax_q (q_fadr_rptr rfl) ?_ | refine ax_q (q_fadr_ip rfl) ?_
   first | refine ax_q (q_load1_ptr rfl rfl rfl) ?_ | refine ax_q (q_load1_ip rfl) ?_ | refine ax_q (q_load1_rptr rfl rfl rfl rfl) ?_ | refine ax_q (q_load1_rptr rfl rfl (by assumption) rfl) ?_ | refine ax_q (q_load1_rptr rfl rfl (mapAt (by first | assumption | omega)) rfl) ?_
   refine ax_q (q_not rfl) ?_
   exact ax_nil ⟨rfl, by repeat (first | exact trivial | refine ⟨rfl, ?_⟩ | refine ⟨?_, ?_⟩)⟩
  refine ax_q (q_mov rfl) ?_
  refine ax_nil ?_
  refine cx_keep rfl rfl ?_
  refine cx_ret (retN id [1000] rfl rfl rfl rfl rfl ?_)
  have e : chkF most low high lsn r0 = (ok && !u.fail, u) := by unfold chkF; simp only; rw [hT]; rfl
  rw [e]; exact ⟨rfl, rfl⟩


/- (ptr loop.example/g00332/impl.byteReader).isDone -/
def k_c_isDone : XCode :=
 .seq (.ops [.op (some 2) (.mov (.k (.bool false)))])
 (.keep [0] (.seq (.ops [.op (some 3) (.mov (.t 0)),
   .op (some 4) (.nilck (.t 3)),
   .op (some 5) (.fadr (.t 4) 1),
   .op (some 6) (.load1 (.t 5)),
   .op (some 7) (.not (.t 6)),
   .op (some 8) (.mov (.t 7)),
   .andor 15 true 5 8 [.op (some 9) (.mov (.t 0)), .op (some 10) (.nilck (.t 9)), .op (some 11) (.fadr (.t 10) 0), .op (some 12) (.load1 (.t 11)), .op (some 13) (.lenS (.t 12)), .op (some 14) (.bin .eql (.t 13) (.k (.int .i64 0)))] (.t 14),
   .op (some 2) (.mov (.t 15))])
 (.keep [2] (.ret))))
theorem k_c_isDone_fits : fitsF Try.prog 53 ⟨16, k_c_isDone, [.t 2]⟩ = true := by kernel_rfl
theorem c_isDone {r0 : Rd}  : Con Try.prog noMv 53 [.ptr 1000 0] [(1000, r0.box)] (fun r h => r = bool (doneF r0) ∧ h = [(1000, (r0).box)]) := by
 refine con_of2 k_c_isDone_fits rfl fun C hP hmv => ?_
 unfold k_c_isDone
 refine cx_seq ?_
 refine cx_ops ?_
 refine ax_q (q_mov rfl) ?_
 refine ax_nil ?_
 refine cx_keep rfl rfl ?_
 refine cx_seq ?_
 refine cx_ops ?_
 refine ax_q (q_mov rfl) ?_
 first | refine ax_q (q_nilck_ptr rfl) ?_ | refine ax_q (q_nilck_rptr rfl) ?_ | refine ax_q (q_nilck_ip rfl) ?_
 first | refine ax_q (q_fadr_ptr rfl) ?_ | refine ax_q (q_fadr_rptr rfl) ?_ | refine ax_q (q_fadr_ip rfl) ?_
 first | refine ax_q (q_load1_ptr rfl rfl rfl) ?_ | refine ax_q (q_load1_ip rfl) ?_ | refine ax_q (q_load1_rptr rfl rfl rfl rfl) ?_ | refine ax_q (q_load1_rptr rfl rfl (by assumption) rfl) ?_ | refine ax_q (q_load1_rptr rfl rfl (mapAt (by first | assumption | omega)) rfl) ?_
 refine ax_q (q_not rfl) ?_
 refine ax_q (q_mov rfl) ?_
 apply ax_and rfl rfl
 ·
  intro g
  have g := bT g
  refine ax_q (q_mov rfl) ?_
  first | refine ax_q (q_nilck_ptr rfl) ?_ | refine ax_q (q_nilck_rptr rfl) ?_ | refine ax_q (q_nilck_ip rfl) ?_
  first | refine ax_q (q_fadr_ptr rfl) ?_ | refine ax_q (q_fadr_rptr rfl) ?_ | refine ax_q (q_fadr_ip rfl) ?_
  first | refine ax_q (q_load1_ptr rfl rfl rfl) ?_ | refine ax_q (q_load1_ip rfl) ?_ | refine ax_q (q_load1_rptr rfl rfl rfl rfl) ?_ | refine ax_q (q_load1_rptr rfl rfl (by assumption) rfl) ?_ | refine ax_q (q_load1_rptr rfl rfl (mapAt (by first | assumption | omega)) rfl) ?_
  first | refine ax_q (q_lenS_map rfl) ?_ | refine ax_q (q_lenS_osl rfl) ?_ | refine ax_q (q_lenS_zs rfl) ?_ | refine ax_q (q_lenS rfl) ?_
  refine ax_q (q_ibin rfl rfl rfl) ?_
  exact ax_nil ⟨rfl, by repeat (first | exact trivial | refine ⟨rfl, ?_⟩ | refine ⟨?_, ?_⟩)⟩
 refine ax_q (q_mov rfl) ?_
 refine ax_nil ?_
 refine cx_keep rfl rfl ?_
 refine cx_ret (retN id [1000] rfl rfl rfl rfl rfl ?_)
 exact ⟨rfl, rfl⟩


/- loop.example/g00332/impl.isCheck -/
def k_c_isCheck : XCode :=
 .seq (.ops [.op (some 4) (.mov (.k (.bool false)))])
 (.keep [0, 1] (.seq (.ops [.op (some 8) (.mov (.t 0)),
   .op (some 9) (.s2b (.t 8)),
   .op (some 10) (.build [.nils 1, .bool false] [(0, 1, .t 9)]),
   .op (some 11) (.box (.t 10)),
   .op (some 5) (.mov (.t 11))])
 (.keep [1, 5] (.seq (.ops [.op (some 12) (.mov (.t 5)),
   .op (some 13) (.mov (.t 1)),
   .call (some 14) 52 [.t 12, .k (.int .i64 8), .k (.int .i64 0), .k (.int .i64 7), .t 13],
   .op (some 6) (.mov (.t 14))])
 (.keep [1, 5, 6] (.seq (.ops [.op (some 15) (.mov (.t 5)),
   .op (some 16) (.mov (.t 1)),
   .call (some 17) 52 [.t 15, .k (.int .i64 10), .k (.int .i64 1), .k (.int .i64 60), .t 16],
   .op (some 7) (.mov (.t 17))])
 (.keep [5, 6, 7] (.seq (.ops [.op (some 18) (.mov (.t 6)),
   .op (some 19) (.mov (.t 18)),
   .andor 21 true 1 19 [.op (some 20) (.mov (.t 7))] (.t 20),
   .op (some 22) (.mov (.t 21)),
   .andor 25 true 4 22 [.op (some 23) (.mov (.t 5)), .call (some 24) 53 [.t 23]] (.t 24),
   .op (some 4) (.mov (.t 25))])
 (.keep [4] (.ret))))))))))
theorem k_c_isCheck_fits : fitsF Try.prog 40 ⟨26, k_c_isCheck, [.t 4]⟩ = true := by kernel_rfl
theorem c_isCheck {t : Str} {lsn : Int} (hl : t.length ≤ 1048576) (hm : 1 ≤ lsn ∧ lsn ≤ 60) : Con Try.prog noMv 40 [str t, int lsn] [] (fun r h => r = bool (isCheckF t lsn) ∧ h = []) := by
 refine con_of2 k_c_isCheck_fits rfl fun C hP hmv => ?_
 unfold k_c_isCheck
 refine cx_seq ?_
 refine cx_ops ?_
 refine ax_q (q_mov rfl) ?_
 refine ax_nil ?_
 refine cx_keep rfl rfl ?_
 refine cx_seq ?_
 refine cx_ops ?_
 refine ax_q (q_mov rfl) ?_
 refine ax_e (e_s2b rfl (by decide) rfl rfl) ?_
 refine ax_wk (wk_frz 9 9 rfl rfl (.whole (by simp)) rfl) ?_
 refine ax_q (q_build rfl) ?_
 refine ax_e (e_box rfl rfl (by decide) rfl rfl rfl) ?_
 refine ax_q (q_mov rfl) ?_
 refine ax_nil ?_
 refine cx_keep rfl rfl ?_
 refine cx_seq ?_
 refine cx_ops ?_
 refine ax_q (q_mov rfl) ?_
 refine ax_q (q_mov rfl) ?_
 refine ax_call rfl (vcall_own (c_checkList (r0 := ⟨t, false⟩) (most := 8) (low := 0) (high := 7) (lsn := lsn) hl (by omega) (by omega) hm) hP hmv false (fun _ => 11) [1000] ⟨rfl, rfl, rfl, rfl, ⟨rfl, trivial⟩, rfl, rfl, rfl⟩ (.pass rfl rfl (.pass rfl rfl (.pass rfl rfl (.pass rfl rfl (.pass rfl rfl .nil))))) ?_)
 rintro r h ⟨rfl, rfl⟩
 refine ⟨fun _ => 11, [], ⟨rfl, rfl, rfl, rfl, mem1 rfl, rfl, rfl, fun h => absurd h Bool.false_ne_true⟩, ?_⟩
 have hl2 := @chkF_len 8 0 7 lsn ⟨t, false⟩
 simp only at hl2
 refine ax_q (q_mov rfl) ?_
 refine ax_nil ?_
 refine cx_keep rfl rfl ?_
 refine cx_seq ?_
 refine cx_ops ?_
 refine ax_q (q_mov rfl) ?_
 refine ax_q (q_mov rfl) ?_
 refine ax_call rfl (vcall_own (c_checkList (r0 := (chkF 8 0 7 lsn ⟨t, false⟩).2) (most := 10) (low := 1) (high := 60) (lsn := lsn) (by omega) (by omega) (by omega) hm) hP hmv false (fun _ => 11) [1000] ⟨rfl, rfl, rfl, rfl, ⟨rfl, trivial⟩, rfl, rfl, rfl⟩ (.pass rfl rfl (.pass rfl rfl (.pass rfl rfl (.pass rfl rfl (.pass rfl rfl .nil))))) ?_)
 rintro r h ⟨rfl, rfl⟩
 refine ⟨fun _ => 11, [], ⟨rfl, rfl, rfl, rfl, mem1 rfl, rfl, rfl, fun h => absurd h Bool.false_ne_true⟩, ?_⟩
 refine ax_q (q_mov rfl) ?_
 refine ax_nil ?_
 refine cx_keep rfl rfl ?_
 refine cx_seq ?_
 refine cx_ops ?_
 refine ax_q (q_mov rfl) ?_
 refine ax_q (q_mov rfl) ?_
 apply ax_and rfl rfl
 ·
  intro g
  refine ax_q (q_mov rfl) ?_
  exact ax_nil ⟨rfl, by repeat (first | exact trivial | refine ⟨rfl, ?_⟩ | refine ⟨?_, ?_⟩)⟩
 refine ax_q (q_mov rfl) ?_
 apply ax_and rfl rfl
 ·
  intro g
  have g := (fun h => And.intro (id (and_T h).1) (id (and_T h).2)) g
  refine ax_q (q_mov rfl) ?_
  refine ax_call rfl (vcall_own (c_isDone (r0 := (chkF 10 1 60 lsn (chkF 8 0 7 lsn ⟨t, false⟩).2).2)) hP hmv false (fun _ => 11) [1000] ⟨rfl, rfl, rfl, rfl, ⟨rfl, trivial⟩, rfl, rfl, rfl⟩ (.pass rfl rfl .nil) ?_)
  rintro r h ⟨rfl, rfl⟩
  refine ⟨fun _ => 11, [], ⟨rfl, rfl, rfl, rfl, mem1 rfl, rfl, rfl, fun h => absurd h Bool.false_ne_true⟩, ?_⟩
  exact ax_nil ⟨rfl, by repeat (first | exact trivial | refine ⟨rfl, ?_⟩ | refine ⟨?_, ?_⟩)⟩
 refine ax_q (q_mov rfl) ?_
 refine ax_nil ?_
 refine cx_keep rfl rfl ?_
 refine cx_ret (ret0 rfl rfl ?_)
 exact ⟨rfl, rfl⟩


/- loop.example/g00332/impl.isPlace -/
def k_c_isPlace : XCode :=
 .seq (.ops [.op (some 4) (.mov (.k (.bool false)))])
 (.keep [0, 1] (.seq (.ops [.op (some 5) (.mov (.t 0)),
   .op (some 6) (.mov (.t 1)),
   .op (some 7) (.bin .sub (.t 6) (.k (.int .i64 1))),
   .call (some 8) 39 [.t 5, .k (.int .i64 0), .t 7],
   .op (some 4) (.mov (.t 8))])
 (.keep [4] (.ret))))
theorem k_c_isPlace_fits : fitsF Try.prog 41 ⟨9, k_c_isPlace, [.t 4]⟩ = true := by kernel_rfl
theorem c_isPlace {n k : Int} (hk : 0 ≤ k ∧ k ≤ 1048576) : Con Try.prog noMv 41 [int n, int k] [] (fun r h => r = bool (inR n 0 (k - 1)) ∧ h = []) := by
 refine con_of2 k_c_isPlace_fits rfl fun C hP hmv => ?_
 unfold k_c_isPlace
 refine cx_seq ?_
 refine cx_ops ?_
 refine ax_q (q_mov rfl) ?_
 refine ax_nil ?_
 refine cx_keep rfl rfl ?_
 refine cx_seq ?_
 refine cx_ops ?_
 refine ax_q (q_mov rfl) ?_
 refine ax_q (q_mov rfl) ?_
 refine ax_q (q_sub rfl rfl (by omega)) ?_
 first | refine ax_call rfl (vc_pure0 (c_inRange  ) hP rfl rfl ?_) | refine ax_call rfl (vc_lend0 (c_inRange  ) hP (by repeat (first | exact lal_id _ rfl | exact LAL.nil | refine LAL.cons ?_ ?_ | exact la_id _ rfl | exact LA.lend (lend_whole rfl (by first | (simp; done) | (rw [List.length_map]; rfl))) | refine LA.agg ?_ | refine LA.fn ?_ | refine LA.lend ?_ | exact Lend.d _ | exact Lend.zs _ | exact lend_whole rfl (by first | (simp; done) | (rw [List.length_map]; rfl)) | refine Lend.ptr rfl ?_ | refine Lend.fn ?_ | exact LendL.nil | refine LendL.cons ?_ ?_)) rfl rfl ?_)
 refine ax_q (q_mov rfl) ?_
 refine ax_nil ?_
 refine cx_keep rfl rfl ?_
 refine cx_ret (ret0 rfl rfl ?_)
 exact ⟨rfl, rfl⟩


/- loop.example/g00332/impl.RecordOK -/
def k_c_RecordOK : XCode :=
 .seq (.ops [.op (some 1) (.box (.t 0)),
   .op (some 2) (.mov (.k (.bool false)))])
 (.keep [1] (.seq (.seq (.ops [.op (some 5) (.fadr (.t 1) 0),
   .op (some 6) (.load1 (.t 5)),
   .call (some 7) 39 [.t 6, .k (.int .i64 1), .k (.int .i64 60)],
   .op (some 8) (.not (.t 7)),
   .op (some 9) (.mov (.t 8)),
   .andor 14 false 4 9 [.op (some 10) (.fadr (.t 1) 1), .op (some 11) (.load1 (.t 10)), .call (some 12) 39 [.t 11, .k (.int .i64 1), .k (.int .i64 60)], .op (some 13) (.not (.t 12))] (.t 13)])
  (.keep [1, 14] (.cond (.t 14)
  (.seq (.ops [.op (some 2) (.mov (.k (.bool false)))])
   (.keep [2] (.ret)))
  (.skip))))
 (.keep [1] (.seq (.ops [.op (some 15) (.loadN 10 (.t 1)),
   .op (some 3) (.alloc [.int .i64 0, .int .i64 0, .int .i64 0, .int .i64 0, .int .i64 0, .int .i64 0, .int .i64 0, .int .i64 0, .str [], .str []]),
   .op none (.store 10 (.t 3) (.t 15))])
 (.keep [1, 3] (.seq (.ops [.op (some 16) (.fadr (.t 3) 0),
   .op none (.store 1 (.t 16) (.k (.int .i64 0))),
   .op (some 17) (.fadr (.t 3) 1),
   .op none (.store 1 (.t 17) (.k (.int .i64 0))),
   .op (some 18) (.fadr (.t 3) 2),
   .op none (.store 1 (.t 18) (.k (.int .i64 0))),
   .op (some 19) (.fadr (.t 3) 3),
   .op none (.store 1 (.t 19) (.k (.int .i64 0))),
   .op (some 20) (.fadr (.t 3) 4),
   .op none (.store 1 (.t 20) (.k (.int .i64 0)))])
 (.keep [1, 3] (.seq (.seq (.ops [.op (some 21) (.fadr (.t 1) 3),
   .op (some 22) (.load1 (.t 21))])
  (.keep [1, 3, 22] (.block 0 (.seq (.ops [.op (some 24) (.bin .eql (.t 22) (.k (.int .i64 6))),
    .op (some 23) (.mov (.t 24))])
  (.keep [1, 3, 22, 23] (.cond (.t 23)
   (.seq (.ops [.op (some 25) (.fadr (.t 3) 9),
     .op none (.store 1 (.t 25) (.k (.str [])))])
   (.keep [1, 3] (.seq (.ops [.op (some 26) (.fadr (.t 1) 2),
     .op (some 27) (.load1 (.t 26)),
     .op (some 28) (.bin .eql (.t 27) (.k (.int .i64 0))),
     .op (some 29) (.mov (.t 28)),
     .andor 33 true 3 29 [.op (some 30) (.fadr (.t 1) 4), .op (some 31) (.load1 (.t 30)), .op (some 32) (.bin .eql (.t 31) (.k (.int .i64 0)))] (.t 32),
     .op (some 34) (.mov (.t 33)),
     .andor 38 true 8 34 [.op (some 35) (.loadN 10 (.t 3)), .op (some 36) (.build [.int .i64 0, .int .i64 0, .int .i64 0, .int .i64 0, .int .i64 0, .int .i64 0, .int .i64 0, .int .i64 0, .str [], .str []] []), .op (some 37) (.eqs false [0, 0, 0, 0, 0, 0, 0, 0, 2, 2] (.t 35) (.t 36))] (.t 37),
     .op (some 39) (.mov (.t 38)),
     .andor 45 true 13 39 [.op (some 40) (.fadr (.t 1) 9), .op (some 41) (.load1 (.t 40)), .op (some 42) (.fadr (.t 1) 1), .op (some 43) (.load1 (.t 42)), .call (some 44) 40 [.t 41, .t 43]] (.t 44),
     .op (some 2) (.mov (.t 45))])
   (.keep [2] (.ret)))))
   (.seq (.seq (.ops [.op (some 47) (.bin .eql (.t 22) (.k (.int .i64 2))),
     .op (some 46) (.mov (.t 47))])
    (.keep [1, 3, 22, 46] (.cond (.t 46)
    (.skip)
    (.ops [.op (some 48) (.bin .eql (.t 22) (.k (.int .i64 3))),
      .op (some 46) (.mov (.t 48))]))))
   (.keep [1, 3, 46] (.cond (.t 46)
    (.seq (.ops [.op (some 49) (.fadr (.t 1) 6),
      .op (some 50) (.load1 (.t 49)),
      .call (some 51) 41 [.t 50, .k (.int .i64 8)],
      .op (some 52) (.mov (.t 51)),
      .andor 56 true 3 52 [.op (some 53) (.fadr (.t 1) 7), .op (some 54) (.load1 (.t 53)), .call (some 55) 41 [.t 54, .k (.int .i64 4)]] (.t 55),
      .op (some 4) (.mov (.t 56))])
    (.keep [1, 3, 4] (.seq (.seq (.ops [.op (some 57) (.mov (.t 4)),
      .op (some 58) (.not (.t 57)),
      .op (some 59) (.mov (.t 58)),
      .andor 64 false 2 59 [.op (some 60) (.fadr (.t 1) 8), .op (some 61) (.load1 (.t 60)), .op (some 62) (.lenT (.t 61)), .op (some 63) (.bin .gtr (.t 62) (.k (.int .i64 30)))] (.t 63),
      .op (some 65) (.mov (.t 64)),
      .andor 70 false 8 65 [.op (some 66) (.fadr (.t 1) 9), .op (some 67) (.load1 (.t 66)), .op (some 68) (.lenT (.t 67)), .op (some 69) (.bin .gtr (.t 68) (.k (.int .i64 30)))] (.t 69),
      .op (some 71) (.mov (.t 70)),
      .andor 84 false 14 71 [.op (some 72) (.fadr (.t 1) 3), .op (some 73) (.load1 (.t 72)), .op (some 74) (.bin .eql (.t 73) (.k (.int .i64 3))), .op (some 75) (.mov (.t 74)), .andor 83 true 18 75 [.op (some 76) (.fadr (.t 1) 5), .op (some 77) (.load1 (.t 76)), .op (some 78) (.fadr (.t 1) 1), .op (some 79) (.load1 (.t 78)), .op (some 80) (.bin .sub (.t 79) (.k (.int .i64 1))), .call (some 81) 39 [.t 77, .k (.int .i64 0), .t 80], .op (some 82) (.not (.t 81))] (.t 82)] (.t 83)])
     (.keep [1, 3, 84] (.cond (.t 84)
     (.seq (.ops [.op (some 2) (.mov (.k (.bool false)))])
      (.keep [2] (.ret)))
     (.skip))))
    (.keep [1, 3] (.seq (.ops [.op (some 85) (.fadr (.t 3) 6),
      .op none (.store 1 (.t 85) (.k (.int .i64 0))),
      .op (some 86) (.fadr (.t 3) 7),
      .op none (.store 1 (.t 86) (.k (.int .i64 0))),
      .op (some 87) (.fadr (.t 3) 9),
      .op none (.store 1 (.t 87) (.k (.str [])))])
    (.keep [1, 3] (.seq (.ops [.op (some 88) (.fadr (.t 1) 3),
      .op (some 89) (.load1 (.t 88)),
      .op (some 90) (.bin .eql (.t 89) (.k (.int .i64 2)))])
    (.keep [1, 3, 90] (.cond (.t 90)
     (.ops [.op (some 91) (.fadr (.t 3) 8),
      .op none (.store 1 (.t 91) (.k (.str [])))])
     (.ops [.op (some 92) (.fadr (.t 3) 5),
      .op none (.store 1 (.t 92) (.k (.int .i64 0)))]))))))))))
    (.skip))))))))))
 (.keep [1, 3] (.seq (.ops [.op (some 93) (.fadr (.t 1) 3),
   .op (some 94) (.load1 (.t 93)),
   .call (some 95) 39 [.t 94, .k (.int .i64 1), .k (.int .i64 5)],
   .op (some 96) (.mov (.t 95)),
   .andor 100 true 3 96 [.op (some 97) (.loadN 10 (.t 3)), .op (some 98) (.build [.int .i64 0, .int .i64 0, .int .i64 0, .int .i64 0, .int .i64 0, .int .i64 0, .int .i64 0, .int .i64 0, .str [], .str []] []), .op (some 99) (.eqs false [0, 0, 0, 0, 0, 0, 0, 0, 2, 2] (.t 97) (.t 98))] (.t 99),
   .op (some 101) (.mov (.t 100)),
   .andor 105 true 8 101 [.op (some 102) (.fadr (.t 1) 2), .op (some 103) (.load1 (.t 102)), .call (some 104) 39 [.t 103, .k (.int .i64 1), .k (.int .i64 60)]] (.t 104),
   .op (some 106) (.mov (.t 105)),
   .andor 113 true 13 106 [.op (some 107) (.fadr (.t 1) 4), .op (some 108) (.load1 (.t 107)), .op (some 109) (.fadr (.t 1) 1), .op (some 110) (.load1 (.t 109)), .op (some 111) (.bin .sub (.t 110) (.k (.int .i64 1))), .call (some 112) 39 [.t 108, .k (.int .i64 0), .t 111]] (.t 112),
   .op (some 114) (.mov (.t 113)),
   .andor 122 true 21 114 [.op (some 115) (.fadr (.t 1) 4), .op (some 116) (.load1 (.t 115)), .op (some 117) (.bin .eql (.t 116) (.k (.int .i64 0))), .op (some 118) (.fadr (.t 1) 3), .op (some 119) (.load1 (.t 118)), .op (some 120) (.bin .eql (.t 119) (.k (.int .i64 1))), .op (some 121) (.eqb false (.t 117) (.t 120))] (.t 121),
   .op (some 2) (.mov (.t 122))])
 (.keep [2] (.ret))))))))))))
theorem k_c_RecordOK_fits : fitsF Try.prog 31 ⟨123, k_c_RecordOK, [.t 2]⟩ = true := by kernel_rfl
set_option maxHeartbeats 4000000 in
theorem c_RecordOK {x : GLogRecord} (hl : x.After.length ≤ 1048576) : Con Try.prog noMv 31 [x.av] [] (fun r h => r = bool (recOK x) ∧ h = []) := by
 refine con_of2 k_c_RecordOK_fits rfl fun C hP hmv => ?_
 unfold k_c_RecordOK
 refine cx_seq ?_
 refine cx_ops ?_
 refine ax_e (e_box rfl rfl (by decide) rfl rfl rfl) ?_
 refine ax_q (q_mov rfl) ?_
 refine ax_nil ?_
 refine cx_keep rfl rfl ?_
 refine cx_seq ?_
 refine cx_seq ?_
 refine cx_ops ?_
 refine ax_q (q_fadr_ptr rfl) ?_
 refine ax_q (q_load1_ptr rfl rfl rfl) ?_
 first | refine ax_call rfl (vc_pure0 (c_inRange  ) hP rfl rfl ?_) | refine ax_call rfl (vc_lend0 (c_inRange  ) hP (by repeat (first | exact lal_id _ rfl | exact LAL.nil | refine LAL.cons ?_ ?_ | exact la_id _ rfl | exact LA.lend (lend_whole rfl (by first | (simp; done) | (rw [List.length_map]; rfl))) | refine LA.agg ?_ | refine LA.fn ?_ | refine LA.lend ?_ | exact Lend.d _ | exact Lend.zs _ | exact lend_whole rfl (by first | (simp; done) | (rw [List.length_map]; rfl)) | refine Lend.ptr rfl ?_ | refine Lend.fn ?_ | exact LendL.nil | refine LendL.cons ?_ ?_)) rfl rfl ?_)
 refine ax_q (q_not rfl) ?_
 refine ax_q (q_mov rfl) ?_
 apply ax_or rfl rfl
 ·
  intro g
  have g := bF g
  refine ax_q (q_fadr_ptr rfl) ?_
  refine ax_q (q_load1_ptr rfl rfl rfl) ?_
  first | refine ax_call rfl (vc_pure0 (c_inRange  ) hP rfl rfl ?_) | refine ax_call rfl (vc_lend0 (c_inRange  ) hP (by repeat (first | exact lal_id _ rfl | exact LAL.nil | refine LAL.cons ?_ ?_ | exact la_id _ rfl | exact LA.lend (lend_whole rfl (by first | (simp; done) | (rw [List.length_map]; rfl))) | refine LA.agg ?_ | refine LA.fn ?_ | refine LA.lend ?_ | exact Lend.d _ | exact Lend.zs _ | exact lend_whole rfl (by first | (simp; done) | (rw [List.length_map]; rfl)) | refine Lend.ptr rfl ?_ | refine Lend.fn ?_ | exact LendL.nil | refine LendL.cons ?_ ?_)) rfl rfl ?_)
  refine ax_q (q_not rfl) ?_
  exact ax_nil ⟨rfl, by repeat (first | exact trivial | refine ⟨rfl, ?_⟩ | refine ⟨?_, ?_⟩)⟩
 refine ax_nil ?_
 refine cx_keep rfl rfl ?_
 refine cx_cond rfl (fun h0 => ?_) (fun h0 => ?_)
 ·
  have h0 : (!inR x.Epoch 1 60 || !inR x.Lsn 1 60) = true := h0
  have e0 : recOK x = false := hd_in (by
   rw [Bool.or_eq_true, Bool.not_eq_true', Bool.not_eq_true'] at h0
   exact h0.imp (fun q => fun c => by rw [inR_iff.2 c] at q; cases q) (fun q => fun c => by rw [inR_iff.2 c] at q; cases q))
  refine cx_seq ?_
  refine cx_ops ?_
  refine ax_q (q_mov rfl) ?_
  refine ax_nil ?_
  refine cx_keep rfl rfl ?_
  refine cx_ret (ret0 rfl rfl ?_)
  exact ⟨by rw [e0]; rfl, rfl⟩
 ·
  have h0 : (!inR x.Epoch 1 60 || !inR x.Lsn 1 60) = false := h0
  have hi : (1 ≤ x.Epoch ∧ x.Epoch ≤ 60) ∧ (1 ≤ x.Lsn ∧ x.Lsn ≤ 60) := by
   rw [Bool.or_eq_false_iff, Bool.not_eq_false', Bool.not_eq_false', inR_iff, inR_iff] at h0
   exact h0
  refine cx_skip ?_
  refine cx_keep rfl rfl ?_
  refine cx_seq ?_
  refine cx_ops ?_
  refine ax_q (q_ldN rfl rfl rfl) ?_
  refine ax_e (e_alloc (by decide) rfl rfl) ?_
  refine ax_e (e_st rfl rfl rfl rfl rfl rfl rfl) ?_
  refine ax_nil ?_
  refine cx_keep rfl rfl ?_
  refine cx_seq ?_
  refine cx_ops ?_
  refine ax_q (q_fadr_ptr rfl) ?_
  refine ax_e (e_st rfl rfl rfl rfl rfl rfl rfl) ?_
  refine ax_q (q_fadr_ptr rfl) ?_
  refine ax_e (e_st rfl rfl rfl rfl rfl rfl rfl) ?_
  refine ax_q (q_fadr_ptr rfl) ?_
  refine ax_e (e_st rfl rfl rfl rfl rfl rfl rfl) ?_
  refine ax_q (q_fadr_ptr rfl) ?_
  refine ax_e (e_st rfl rfl rfl rfl rfl rfl rfl) ?_
  refine ax_q (q_fadr_ptr rfl) ?_
  refine ax_e (e_st rfl rfl rfl rfl rfl rfl rfl) ?_
  refine ax_nil ?_
  refine cx_keep rfl rfl ?_
  refine cx_seq ?_
  refine cx_seq ?_
  refine cx_ops ?_
  refine ax_q (q_fadr_ptr rfl) ?_
  refine ax_q (q_load1_ptr rfl rfl rfl) ?_
  refine ax_nil ?_
  refine cx_keep rfl rfl ?_
  refine cx_block ?_
  refine cx_seq ?_
  refine cx_ops ?_
  refine ax_q (q_ibin rfl rfl rfl) ?_
  refine ax_q (q_mov rfl) ?_
  refine ax_nil ?_
  refine cx_keep rfl rfl ?_
  refine cx_cond rfl (fun h1 => ?_) (fun h1 => ?_)
  ·
   have h1 := dT h1
   refine cx_seq ?_
   refine cx_ops ?_
   refine ax_q (q_fadr_ptr rfl) ?_
   refine ax_e (e_st rfl rfl rfl rfl rfl rfl rfl) ?_
   refine ax_nil ?_
   refine cx_keep rfl rfl ?_
   refine cx_seq ?_
   refine cx_ops ?_
   refine ax_q (q_fadr_ptr rfl) ?_
   refine ax_q (q_load1_ptr rfl rfl rfl) ?_
   refine ax_q (q_ibin rfl rfl rfl) ?_
   refine ax_q (q_mov rfl) ?_
   apply ax_and rfl rfl
   ·
    intro g
    have g := dT g
    refine ax_q (q_fadr_ptr rfl) ?_
    refine ax_q (q_load1_ptr rfl rfl rfl) ?_
    refine ax_q (q_ibin rfl rfl rfl) ?_
    exact ax_nil ⟨rfl, by repeat (first | exact trivial | refine ⟨rfl, ?_⟩ | refine ⟨?_, ?_⟩)⟩
   refine ax_q (q_mov rfl) ?_
   apply ax_and rfl rfl
   ·
    intro g
    have g := (fun h => And.intro (dT (and_T h).1) (dT (and_T h).2)) g
    refine ax_q (q_ldN rfl rfl rfl) ?_
    refine ax_q (q_build rfl) ?_
    refine ax_q (GLogRecord.q_eqs (a := rest6 x) (b := .zero) rfl rfl) ?_
    exact ax_nil ⟨rfl, by repeat (first | exact trivial | refine ⟨rfl, ?_⟩ | refine ⟨?_, ?_⟩)⟩
   refine ax_q (q_mov rfl) ?_
   apply ax_and rfl rfl
   ·
    intro g
    have g := (fun h => And.intro ((fun h => And.intro (dT (and_T h).1) (dT (and_T h).2)) (and_T h).1) (id (and_T h).2)) g
    refine ax_q (q_fadr_ptr rfl) ?_
    refine ax_q (q_load1_ptr rfl rfl rfl) ?_
    refine ax_q (q_fadr_ptr rfl) ?_
    refine ax_q (q_load1_ptr rfl rfl rfl) ?_
    first | refine ax_call rfl (vc_pure0 (c_isCheck (t := x.After) (lsn := x.Lsn) ?_ ?_) hP rfl rfl ?_) | refine ax_call rfl (vc_lend0 (c_isCheck (t := x.After) (lsn := x.Lsn) ?_ ?_) hP (by repeat (first | exact lal_id _ rfl | exact LAL.nil | refine LAL.cons ?_ ?_ | exact la_id _ rfl | exact LA.lend (lend_whole rfl (by first | (simp; done) | (rw [List.length_map]; rfl))) | refine LA.agg ?_ | refine LA.fn ?_ | refine LA.lend ?_ | exact Lend.d _ | exact Lend.zs _ | exact lend_whole rfl (by first | (simp; done) | (rw [List.length_map]; rfl)) | refine Lend.ptr rfl ?_ | refine Lend.fn ?_ | exact LendL.nil | refine LendL.cons ?_ ?_)) rfl rfl ?_)
    ·
     first | assumption | omega | (simp; done) | (simp; omega)
    ·
     first | assumption | omega | (simp; done) | (simp; omega)
    exact ax_nil ⟨rfl, by repeat (first | exact trivial | refine ⟨rfl, ?_⟩ | refine ⟨?_, ?_⟩)⟩
   refine ax_q (q_mov rfl) ?_
   refine ax_nil ?_
   refine cx_keep rfl rfl ?_
   refine cx_ret (ret0 rfl rfl ?_)
   exact ⟨congrArg AM.bool (recI_6 hi h1), rfl⟩
  ·
   have h1 := dF h1
   refine cx_seq ?_
   refine cx_seq ?_
   refine cx_ops ?_
   refine ax_q (q_ibin rfl rfl rfl) ?_
   refine ax_q (q_mov rfl) ?_
   refine ax_nil ?_
   refine cx_keep rfl rfl ?_
   refine cx_cond rfl (fun h2 => ?_) (fun h2 => ?_)
   ·
    have h2 := dT h2
    refine cx_skip ?_
    refine cx_keep rfl rfl ?_
    refine cx_cond rfl (fun h3 => ?_) (fun h3 => ?_)
    ·
     have h3 := dT h3
     skip
     refine cx_seq ?_
     refine cx_ops ?_
     refine ax_q (q_fadr_ptr rfl) ?_
     refine ax_q (q_load1_ptr rfl rfl rfl) ?_
     first | refine ax_call rfl (vc_pure0 (c_isPlace (n := x.Page) (k := 8) ?_) hP rfl rfl ?_) | refine ax_call rfl (vc_lend0 (c_isPlace (n := x.Page) (k := 8) ?_) hP (by repeat (first | exact lal_id _ rfl | exact LAL.nil | refine LAL.cons ?_ ?_ | exact la_id _ rfl | exact LA.lend (lend_whole rfl (by first | (simp; done) | (rw [List.length_map]; rfl))) | refine LA.agg ?_ | refine LA.fn ?_ | refine LA.lend ?_ | exact Lend.d _ | exact Lend.zs _ | exact lend_whole rfl (by first | (simp; done) | (rw [List.length_map]; rfl)) | refine Lend.ptr rfl ?_ | refine Lend.fn ?_ | exact LendL.nil | refine LendL.cons ?_ ?_)) rfl rfl ?_)
     ·
      first | assumption | omega | (simp; done) | (simp; omega)
     refine ax_q (q_mov rfl) ?_
     apply ax_and rfl rfl
     ·
      intro g
      refine ax_q (q_fadr_ptr rfl) ?_
      refine ax_q (q_load1_ptr rfl rfl rfl) ?_
      first | refine ax_call rfl (vc_pure0 (c_isPlace (n := x.Slot) (k := 4) ?_) hP rfl rfl ?_) | refine ax_call rfl (vc_lend0 (c_isPlace (n := x.Slot) (k := 4) ?_) hP (by repeat (first | exact lal_id _ rfl | exact LAL.nil | refine LAL.cons ?_ ?_ | exact la_id _ rfl | exact LA.lend (lend_whole rfl (by first | (simp; done) | (rw [List.length_map]; rfl))) | refine LA.agg ?_ | refine LA.fn ?_ | refine LA.lend ?_ | exact Lend.d _ | exact Lend.zs _ | exact lend_whole rfl (by first | (simp; done) | (rw [List.length_map]; rfl)) | refine Lend.ptr rfl ?_ | refine Lend.fn ?_ | exact LendL.nil | refine LendL.cons ?_ ?_)) rfl rfl ?_)
      ·
       first | assumption | omega | (simp; done) | (simp; omega)
      exact ax_nil ⟨rfl, by repeat (first | exact trivial | refine ⟨rfl, ?_⟩ | refine ⟨?_, ?_⟩)⟩
     refine ax_q (q_mov rfl) ?_
     refine ax_nil ?_
     refine cx_keep rfl rfl ?_
     refine cx_seq ?_
     refine cx_seq ?_
     refine cx_ops ?_
     refine ax_q (q_mov rfl) ?_
     refine ax_q (q_not rfl) ?_
     refine ax_q (q_mov rfl) ?_
     apply ax_or rfl rfl
     ·
      intro g
      have g := (fun h => (fun h => And.intro (id (and_T h).1) (id (and_T h).2)) (bF h)) g
      refine ax_q (q_fadr_ptr rfl) ?_
      refine ax_q (q_load1_ptr rfl rfl rfl) ?_
      refine ax_q (q_lenT rfl) ?_
      refine ax_q (q_ibin rfl rfl rfl) ?_
      exact ax_nil ⟨rfl, by repeat (first | exact trivial | refine ⟨rfl, ?_⟩ | refine ⟨?_, ?_⟩)⟩
     refine ax_q (q_mov rfl) ?_
     apply ax_or rfl rfl
     ·
      intro g
      have g := (fun h => And.intro ((fun h => (fun h => And.intro (id (and_T h).1) (id (and_T h).2)) (bF h)) (or_F h).1) (dF (or_F h).2)) g
      refine ax_q (q_fadr_ptr rfl) ?_
      refine ax_q (q_load1_ptr rfl rfl rfl) ?_
      refine ax_q (q_lenT rfl) ?_
      refine ax_q (q_ibin rfl rfl rfl) ?_
      exact ax_nil ⟨rfl, by repeat (first | exact trivial | refine ⟨rfl, ?_⟩ | refine ⟨?_, ?_⟩)⟩
     refine ax_q (q_mov rfl) ?_
     apply ax_or rfl rfl
     ·
      intro g
      have g := (fun h => And.intro ((fun h => And.intro ((fun h => (fun h => And.intro (id (and_T h).1) (id (and_T h).2)) (bF h)) (or_F h).1) (dF (or_F h).2)) (or_F h).1) (dF (or_F h).2)) g
      refine ax_q (q_fadr_ptr rfl) ?_
      refine ax_q (q_load1_ptr rfl rfl rfl) ?_
      refine ax_q (q_ibin rfl rfl rfl) ?_
      refine ax_q (q_mov rfl) ?_
      apply ax_and rfl rfl
      ·
       intro g
       have g := dT g
       refine ax_q (q_fadr_ptr rfl) ?_
       refine ax_q (q_load1_ptr rfl rfl rfl) ?_
       refine ax_q (q_fadr_ptr rfl) ?_
       refine ax_q (q_load1_ptr rfl rfl rfl) ?_
       refine ax_q (q_sub rfl rfl (by omega)) ?_
       first | refine ax_call rfl (vc_pure0 (c_inRange  ) hP rfl rfl ?_) | refine ax_call rfl (vc_lend0 (c_inRange  ) hP (by repeat (first | exact lal_id _ rfl | exact LAL.nil | refine LAL.cons ?_ ?_ | exact la_id _ rfl | exact LA.lend (lend_whole rfl (by first | (simp; done) | (rw [List.length_map]; rfl))) | refine LA.agg ?_ | refine LA.fn ?_ | refine LA.lend ?_ | exact Lend.d _ | exact Lend.zs _ | exact lend_whole rfl (by first | (simp; done) | (rw [List.length_map]; rfl)) | refine Lend.ptr rfl ?_ | refine Lend.fn ?_ | exact LendL.nil | refine LendL.cons ?_ ?_)) rfl rfl ?_)
       refine ax_q (q_not rfl) ?_
       exact ax_nil ⟨rfl, by repeat (first | exact trivial | refine ⟨rfl, ?_⟩ | refine ⟨?_, ?_⟩)⟩
      exact ax_nil ⟨rfl, by repeat (first | exact trivial | refine ⟨rfl, ?_⟩ | refine ⟨?_, ?_⟩)⟩
     refine ax_nil ?_
     refine cx_keep rfl rfl ?_
     refine cx_cond rfl (fun h4 => ?_) (fun h4 => ?_)
     ·
      have h4 : badU x = true := h4
      refine cx_seq ?_
      refine cx_ops ?_
      refine ax_q (q_mov rfl) ?_
      refine ax_nil ?_
      refine cx_keep rfl rfl ?_
      refine cx_ret (ret0 rfl rfl ?_)
      exact ⟨by rw [recI_bad (.inl h2) h4]; rfl, rfl⟩
     ·
      have h4 : badU x = false := h4
      refine cx_skip ?_
      refine cx_keep rfl rfl ?_
      refine cx_seq ?_
      refine cx_ops ?_
      refine ax_q (q_fadr_ptr rfl) ?_
      refine ax_e (e_st rfl rfl rfl rfl rfl rfl rfl) ?_
      refine ax_q (q_fadr_ptr rfl) ?_
      refine ax_e (e_st rfl rfl rfl rfl rfl rfl rfl) ?_
      refine ax_q (q_fadr_ptr rfl) ?_
      refine ax_e (e_st rfl rfl rfl rfl rfl rfl rfl) ?_
      refine ax_nil ?_
      refine cx_keep rfl rfl ?_
      refine cx_seq ?_
      refine cx_ops ?_
      refine ax_q (q_fadr_ptr rfl) ?_
      refine ax_q (q_load1_ptr rfl rfl rfl) ?_
      refine ax_q (q_ibin rfl rfl rfl) ?_
      refine ax_nil ?_
      refine cx_keep rfl rfl ?_
      refine cx_cond rfl (fun h5 => ?_) (fun h5 => ?_)
      ·
       have h5 := dT h5
       refine cx_ops ?_
       refine ax_q (q_fadr_ptr rfl) ?_
       refine ax_e (e_st rfl rfl rfl rfl rfl rfl rfl) ?_
       refine ax_nil ?_
       refine cx_keep rfl rfl ?_
       refine cx_seq ?_
       refine cx_ops ?_
       refine ax_q (q_fadr_ptr rfl) ?_
       refine ax_q (q_load1_ptr rfl rfl rfl) ?_
       first | refine ax_call rfl (vc_pure0 (c_inRange  ) hP rfl rfl ?_) | refine ax_call rfl (vc_lend0 (c_inRange  ) hP (by repeat (first | exact lal_id _ rfl | exact LAL.nil | refine LAL.cons ?_ ?_ | exact la_id _ rfl | exact LA.lend (lend_whole rfl (by first | (simp; done) | (rw [List.length_map]; rfl))) | refine LA.agg ?_ | refine LA.fn ?_ | refine LA.lend ?_ | exact Lend.d _ | exact Lend.zs _ | exact lend_whole rfl (by first | (simp; done) | (rw [List.length_map]; rfl)) | refine Lend.ptr rfl ?_ | refine Lend.fn ?_ | exact LendL.nil | refine LendL.cons ?_ ?_)) rfl rfl ?_)
       refine ax_q (q_mov rfl) ?_
       apply ax_and rfl rfl
       ·
        intro g
        refine ax_q (q_ldN rfl rfl rfl) ?_
        refine ax_q (q_build rfl) ?_
        refine ax_q (GLogRecord.q_eqs (a := rest2 x) (b := .zero) rfl rfl) ?_
        exact ax_nil ⟨rfl, by repeat (first | exact trivial | refine ⟨rfl, ?_⟩ | refine ⟨?_, ?_⟩)⟩
       refine ax_q (q_mov rfl) ?_
       apply ax_and rfl rfl
       ·
        intro g
        have g := (fun h => And.intro (id (and_T h).1) (id (and_T h).2)) g
        refine ax_q (q_fadr_ptr rfl) ?_
        refine ax_q (q_load1_ptr rfl rfl rfl) ?_
        first | refine ax_call rfl (vc_pure0 (c_inRange  ) hP rfl rfl ?_) | refine ax_call rfl (vc_lend0 (c_inRange  ) hP (by repeat (first | exact lal_id _ rfl | exact LAL.nil | refine LAL.cons ?_ ?_ | exact la_id _ rfl | exact LA.lend (lend_whole rfl (by first | (simp; done) | (rw [List.length_map]; rfl))) | refine LA.agg ?_ | refine LA.fn ?_ | refine LA.lend ?_ | exact Lend.d _ | exact Lend.zs _ | exact lend_whole rfl (by first | (simp; done) | (rw [List.length_map]; rfl)) | refine Lend.ptr rfl ?_ | refine Lend.fn ?_ | exact LendL.nil | refine LendL.cons ?_ ?_)) rfl rfl ?_)
        exact ax_nil ⟨rfl, by repeat (first | exact trivial | refine ⟨rfl, ?_⟩ | refine ⟨?_, ?_⟩)⟩
       refine ax_q (q_mov rfl) ?_
       apply ax_and rfl rfl
       ·
        intro g
        have g := (fun h => And.intro ((fun h => And.intro (id (and_T h).1) (id (and_T h).2)) (and_T h).1) (id (and_T h).2)) g
        refine ax_q (q_fadr_ptr rfl) ?_
        refine ax_q (q_load1_ptr rfl rfl rfl) ?_
        refine ax_q (q_fadr_ptr rfl) ?_
        refine ax_q (q_load1_ptr rfl rfl rfl) ?_
        refine ax_q (q_sub rfl rfl (by omega)) ?_
        first | refine ax_call rfl (vc_pure0 (c_inRange  ) hP rfl rfl ?_) | refine ax_call rfl (vc_lend0 (c_inRange  ) hP (by repeat (first | exact lal_id _ rfl | exact LAL.nil | refine LAL.cons ?_ ?_ | exact la_id _ rfl | exact LA.lend (lend_whole rfl (by first | (simp; done) | (rw [List.length_map]; rfl))) | refine LA.agg ?_ | refine LA.fn ?_ | refine LA.lend ?_ | exact Lend.d _ | exact Lend.zs _ | exact lend_whole rfl (by first | (simp; done) | (rw [List.length_map]; rfl)) | refine Lend.ptr rfl ?_ | refine Lend.fn ?_ | exact LendL.nil | refine LendL.cons ?_ ?_)) rfl rfl ?_)
        exact ax_nil ⟨rfl, by repeat (first | exact trivial | refine ⟨rfl, ?_⟩ | refine ⟨?_, ?_⟩)⟩
       refine ax_q (q_mov rfl) ?_
       apply ax_and rfl rfl
       ·
        intro g
        have g := (fun h => And.intro ((fun h => And.intro ((fun h => And.intro (id (and_T h).1) (id (and_T h).2)) (and_T h).1) (id (and_T h).2)) (and_T h).1) (id (and_T h).2)) g
        refine ax_q (q_fadr_ptr rfl) ?_
        refine ax_q (q_load1_ptr rfl rfl rfl) ?_
        refine ax_q (q_ibin rfl rfl rfl) ?_
        refine ax_q (q_fadr_ptr rfl) ?_
        refine ax_q (q_load1_ptr rfl rfl rfl) ?_
        refine ax_q (q_ibin rfl rfl rfl) ?_
        refine ax_q (q_eqb rfl rfl) ?_
        exact ax_nil ⟨rfl, by repeat (first | exact trivial | refine ⟨rfl, ?_⟩ | refine ⟨?_, ?_⟩)⟩
       refine ax_q (q_mov rfl) ?_
       refine ax_nil ?_
       refine cx_keep rfl rfl ?_
       refine cx_ret (ret0 rfl rfl ?_)
       exact ⟨congrArg AM.bool (recI_2 hi h2 h4), rfl⟩
      ·
       have h5 := dF h5
       exact absurd h2 h5
    ·
     have h3 := dF h3
     exact absurd h2 h3
   ·
    have h2 := dF h2
    refine cx_ops ?_
    refine ax_q (q_ibin rfl rfl rfl) ?_
    refine ax_q (q_mov rfl) ?_
    refine ax_nil ?_
    refine cx_keep rfl rfl ?_
    refine cx_cond rfl (fun h3 => ?_) (fun h3 => ?_)
    ·
     have h3 := dT h3
     refine cx_seq ?_
     refine cx_ops ?_
     refine ax_q (q_fadr_ptr rfl) ?_
     refine ax_q (q_load1_ptr rfl rfl rfl) ?_
     first | refine ax_call rfl (vc_pure0 (c_isPlace (n := x.Page) (k := 8) ?_) hP rfl rfl ?_) | refine ax_call rfl (vc_lend0 (c_isPlace (n := x.Page) (k := 8) ?_) hP (by repeat (first | exact lal_id _ rfl | exact LAL.nil | refine LAL.cons ?_ ?_ | exact la_id _ rfl | exact LA.lend (lend_whole rfl (by first | (simp; done) | (rw [List.length_map]; rfl))) | refine LA.agg ?_ | refine LA.fn ?_ | refine LA.lend ?_ | exact Lend.d _ | exact Lend.zs _ | exact lend_whole rfl (by first | (simp; done) | (rw [List.length_map]; rfl)) | refine Lend.ptr rfl ?_ | refine Lend.fn ?_ | exact LendL.nil | refine LendL.cons ?_ ?_)) rfl rfl ?_)
     ·
      first | assumption | omega | (simp; done) | (simp; omega)
     refine ax_q (q_mov rfl) ?_
     apply ax_and rfl rfl
     ·
      intro g
      refine ax_q (q_fadr_ptr rfl) ?_
      refine ax_q (q_load1_ptr rfl rfl rfl) ?_
      first | refine ax_call rfl (vc_pure0 (c_isPlace (n := x.Slot) (k := 4) ?_) hP rfl rfl ?_) | refine ax_call rfl (vc_lend0 (c_isPlace (n := x.Slot) (k := 4) ?_) hP (by repeat (first | exact lal_id _ rfl | exact LAL.nil | refine LAL.cons ?_ ?_ | exact la_id _ rfl | exact LA.lend (lend_whole rfl (by first | (simp; done) | (rw [List.length_map]; rfl))) | refine LA.agg ?_ | refine LA.fn ?_ | refine LA.lend ?_ | exact Lend.d _ | exact Lend.zs _ | exact lend_whole rfl (by first | (simp; done) | (rw [List.length_map]; rfl)) | refine Lend.ptr rfl ?_ | refine Lend.fn ?_ | exact LendL.nil | refine LendL.cons ?_ ?_)) rfl rfl ?_)
      ·
       first | assumption | omega | (simp; done) | (simp; omega)
      exact ax_nil ⟨rfl, by repeat (first | exact trivial | refine ⟨rfl, ?_⟩ | refine ⟨?_, ?_⟩)⟩
     refine ax_q (q_mov rfl) ?_
     refine ax_nil ?_
     refine cx_keep rfl rfl ?_
     refine cx_seq ?_
     refine cx_seq ?_
     refine cx_ops ?_
     refine ax_q (q_mov rfl) ?_
     refine ax_q (q_not rfl) ?_
     refine ax_q (q_mov rfl) ?_
     apply ax_or rfl rfl
     ·
      intro g
      have g := (fun h => (fun h => And.intro (id (and_T h).1) (id (and_T h).2)) (bF h)) g
      refine ax_q (q_fadr_ptr rfl) ?_
      refine ax_q (q_load1_ptr rfl rfl rfl) ?_
      refine ax_q (q_lenT rfl) ?_
      refine ax_q (q_ibin rfl rfl rfl) ?_
      exact ax_nil ⟨rfl, by repeat (first | exact trivial | refine ⟨rfl, ?_⟩ | refine ⟨?_, ?_⟩)⟩
     refine ax_q (q_mov rfl) ?_
     apply ax_or rfl rfl
     ·
      intro g
      have g := (fun h => And.intro ((fun h => (fun h => And.intro (id (and_T h).1) (id (and_T h).2)) (bF h)) (or_F h).1) (dF (or_F h).2)) g
      refine ax_q (q_fadr_ptr rfl) ?_
      refine ax_q (q_load1_ptr rfl rfl rfl) ?_
      refine ax_q (q_lenT rfl) ?_
      refine ax_q (q_ibin rfl rfl rfl) ?_
      exact ax_nil ⟨rfl, by repeat (first | exact trivial | refine ⟨rfl, ?_⟩ | refine ⟨?_, ?_⟩)⟩
     refine ax_q (q_mov rfl) ?_
     apply ax_or rfl rfl
     ·
      intro g
      have g := (fun h => And.intro ((fun h => And.intro ((fun h => (fun h => And.intro (id (and_T h).1) (id (and_T h).2)) (bF h)) (or_F h).1) (dF (or_F h).2)) (or_F h).1) (dF (or_F h).2)) g
      refine ax_q (q_fadr_ptr rfl) ?_
      refine ax_q (q_load1_ptr rfl rfl rfl) ?_
      refine ax_q (q_ibin rfl rfl rfl) ?_
      refine ax_q (q_mov rfl) ?_
      apply ax_and rfl rfl
      ·
       intro g
       have g := dT g
       refine ax_q (q_fadr_ptr rfl) ?_
       refine ax_q (q_load1_ptr rfl rfl rfl) ?_
       refine ax_q (q_fadr_ptr rfl) ?_
       refine ax_q (q_load1_ptr rfl rfl rfl) ?_
       refine ax_q (q_sub rfl rfl (by omega)) ?_
       first | refine ax_call rfl (vc_pure0 (c_inRange  ) hP rfl rfl ?_) | refine ax_call rfl (vc_lend0 (c_inRange  ) hP (by repeat (first | exact lal_id _ rfl | exact LAL.nil | refine LAL.cons ?_ ?_ | exact la_id _ rfl | exact LA.lend (lend_whole rfl (by first | (simp; done) | (rw [List.length_map]; rfl))) | refine LA.agg ?_ | refine LA.fn ?_ | refine LA.lend ?_ | exact Lend.d _ | exact Lend.zs _ | exact lend_whole rfl (by first | (simp; done) | (rw [List.length_map]; rfl)) | refine Lend.ptr rfl ?_ | refine Lend.fn ?_ | exact LendL.nil | refine LendL.cons ?_ ?_)) rfl rfl ?_)
       refine ax_q (q_not rfl) ?_
       exact ax_nil ⟨rfl, by repeat (first | exact trivial | refine ⟨rfl, ?_⟩ | refine ⟨?_, ?_⟩)⟩
      exact ax_nil ⟨rfl, by repeat (first | exact trivial | refine ⟨rfl, ?_⟩ | refine ⟨?_, ?_⟩)⟩
     refine ax_nil ?_
     refine cx_keep rfl rfl ?_
     refine cx_cond rfl (fun h4 => ?_) (fun h4 => ?_)
     ·
      have h4 : badU x = true := h4
      refine cx_seq ?_
      refine cx_ops ?_
      refine ax_q (q_mov rfl) ?_
      refine ax_nil ?_
      refine cx_keep rfl rfl ?_
      refine cx_ret (ret0 rfl rfl ?_)
      exact ⟨by rw [recI_bad (.inr h3) h4]; rfl, rfl⟩
     ·
      have h4 : badU x = false := h4
      refine cx_skip ?_
      refine cx_keep rfl rfl ?_
      refine cx_seq ?_
      refine cx_ops ?_
      refine ax_q (q_fadr_ptr rfl) ?_
      refine ax_e (e_st rfl rfl rfl rfl rfl rfl rfl) ?_
      refine ax_q (q_fadr_ptr rfl) ?_
      refine ax_e (e_st rfl rfl rfl rfl rfl rfl rfl) ?_
      refine ax_q (q_fadr_ptr rfl) ?_
      refine ax_e (e_st rfl rfl rfl rfl rfl rfl rfl) ?_
      refine ax_nil ?_
      refine cx_keep rfl rfl ?_
      refine cx_seq ?_
      refine cx_ops ?_
      refine ax_q (q_fadr_ptr rfl) ?_
      refine ax_q (q_load1_ptr rfl rfl rfl) ?_
      refine ax_q (q_ibin rfl rfl rfl) ?_
      refine ax_nil ?_
      refine cx_keep rfl rfl ?_
      refine cx_cond rfl (fun h5 => ?_) (fun h5 => ?_)
      ·
       have h5 := dT h5
       exact absurd h5 h2
      ·
       have h5 := dF h5
       refine cx_ops ?_
       refine ax_q (q_fadr_ptr rfl) ?_
       refine ax_e (e_st rfl rfl rfl rfl rfl rfl rfl) ?_
       refine ax_nil ?_
       refine cx_keep rfl rfl ?_
       refine cx_seq ?_
       refine cx_ops ?_
       refine ax_q (q_fadr_ptr rfl) ?_
       refine ax_q (q_load1_ptr rfl rfl rfl) ?_
       first | refine ax_call rfl (vc_pure0 (c_inRange  ) hP rfl rfl ?_) | refine ax_call rfl (vc_lend0 (c_inRange  ) hP (by repeat (first | exact lal_id _ rfl | exact LAL.nil | refine LAL.cons ?_ ?_ | exact la_id _ rfl | exact LA.lend (lend_whole rfl (by first | (simp; done) | (rw [List.length_map]; rfl))) | refine LA.agg ?_ | refine LA.fn ?_ | refine LA.lend ?_ | exact Lend.d _ | exact Lend.zs _ | exact lend_whole rfl (by first | (simp; done) | (rw [List.length_map]; rfl)) | refine Lend.ptr rfl ?_ | refine Lend.fn ?_ | exact LendL.nil | refine LendL.cons ?_ ?_)) rfl rfl ?_)
       refine ax_q (q_mov rfl) ?_
       apply ax_and rfl rfl
       ·
        intro g
        refine ax_q (q_ldN rfl rfl rfl) ?_
        refine ax_q (q_build rfl) ?_
        refine ax_q (GLogRecord.q_eqs (a := rest3 x) (b := .zero) rfl rfl) ?_
        exact ax_nil ⟨rfl, by repeat (first | exact trivial | refine ⟨rfl, ?_⟩ | refine ⟨?_, ?_⟩)⟩
       refine ax_q (q_mov rfl) ?_
       apply ax_and rfl rfl
       ·
        intro g
        have g := (fun h => And.intro (id (and_T h).1) (id (and_T h).2)) g
        refine ax_q (q_fadr_ptr rfl) ?_
        refine ax_q (q_load1_ptr rfl rfl rfl) ?_
        first | refine ax_call rfl (vc_pure0 (c_inRange  ) hP rfl rfl ?_) | refine ax_call rfl (vc_lend0 (c_inRange  ) hP (by repeat (first | exact lal_id _ rfl | exact LAL.nil | refine LAL.cons ?_ ?_ | exact la_id _ rfl | exact LA.lend (lend_whole rfl (by first | (simp; done) | (rw [List.length_map]; rfl))) | refine LA.agg ?_ | refine LA.fn ?_ | refine LA.lend ?_ | exact Lend.d _ | exact Lend.zs _ | exact lend_whole rfl (by first | (simp; done) | (rw [List.length_map]; rfl)) | refine Lend.ptr rfl ?_ | refine Lend.fn ?_ | exact LendL.nil | refine LendL.cons ?_ ?_)) rfl rfl ?_)
        exact ax_nil ⟨rfl, by repeat (first | exact trivial | refine ⟨rfl, ?_⟩ | refine ⟨?_, ?_⟩)⟩
       refine ax_q (q_mov rfl) ?_
       apply ax_and rfl rfl
       ·
        intro g
        have g := (fun h => And.intro ((fun h => And.intro (id (and_T h).1) (id (and_T h).2)) (and_T h).1) (id (and_T h).2)) g
        refine ax_q (q_fadr_ptr rfl) ?_
        refine ax_q (q_load1_ptr rfl rfl rfl) ?_
        refine ax_q (q_fadr_ptr rfl) ?_
        refine ax_q (q_load1_ptr rfl rfl rfl) ?_
        refine ax_q (q_sub rfl rfl (by omega)) ?_
        first | refine ax_call rfl (vc_pure0 (c_inRange  ) hP rfl rfl ?_) | refine ax_call rfl (vc_lend0 (c_inRange  ) hP (by repeat (first | exact lal_id _ rfl | exact LAL.nil | refine LAL.cons ?_ ?_ | exact la_id _ rfl | exact LA.lend (lend_whole rfl (by first | (simp; done) | (rw [List.length_map]; rfl))) | refine LA.agg ?_ | refine LA.fn ?_ | refine LA.lend ?_ | exact Lend.d _ | exact Lend.zs _ | exact lend_whole rfl (by first | (simp; done) | (rw [List.length_map]; rfl)) | refine Lend.ptr rfl ?_ | refine Lend.fn ?_ | exact LendL.nil | refine LendL.cons ?_ ?_)) rfl rfl ?_)
        exact ax_nil ⟨rfl, by repeat (first | exact trivial | refine ⟨rfl, ?_⟩ | refine ⟨?_, ?_⟩)⟩
       refine ax_q (q_mov rfl) ?_
       apply ax_and rfl rfl
       ·
        intro g
        have g := (fun h => And.intro ((fun h => And.intro ((fun h => And.intro (id (and_T h).1) (id (and_T h).2)) (and_T h).1) (id (and_T h).2)) (and_T h).1) (id (and_T h).2)) g
        refine ax_q (q_fadr_ptr rfl) ?_
        refine ax_q (q_load1_ptr rfl rfl rfl) ?_
        refine ax_q (q_ibin rfl rfl rfl) ?_
        refine ax_q (q_fadr_ptr rfl) ?_
        refine ax_q (q_load1_ptr rfl rfl rfl) ?_
        refine ax_q (q_ibin rfl rfl rfl) ?_
        refine ax_q (q_eqb rfl rfl) ?_
        exact ax_nil ⟨rfl, by repeat (first | exact trivial | refine ⟨rfl, ?_⟩ | refine ⟨?_, ?_⟩)⟩
       refine ax_q (q_mov rfl) ?_
       refine ax_nil ?_
       refine cx_keep rfl rfl ?_
       refine cx_ret (ret0 rfl rfl ?_)
       exact ⟨congrArg AM.bool (recI_3 hi h3 h4), rfl⟩
    ·
     have h3 := dF h3
     refine cx_skip ?_
     refine cx_keep rfl rfl ?_
     refine cx_seq ?_
     refine cx_ops ?_
     refine ax_q (q_fadr_ptr rfl) ?_
     refine ax_q (q_load1_ptr rfl rfl rfl) ?_
     first | refine ax_call rfl (vc_pure0 (c_inRange  ) hP rfl rfl ?_) | refine ax_call rfl (vc_lend0 (c_inRange  ) hP (by repeat (first | exact lal_id _ rfl | exact LAL.nil | refine LAL.cons ?_ ?_ | exact la_id _ rfl | exact LA.lend (lend_whole rfl (by first | (simp; done) | (rw [List.length_map]; rfl))) | refine LA.agg ?_ | refine LA.fn ?_ | refine LA.lend ?_ | exact Lend.d _ | exact Lend.zs _ | exact lend_whole rfl (by first | (simp; done) | (rw [List.length_map]; rfl)) | refine Lend.ptr rfl ?_ | refine Lend.fn ?_ | exact LendL.nil | refine LendL.cons ?_ ?_)) rfl rfl ?_)
     refine ax_q (q_mov rfl) ?_
     apply ax_and rfl rfl
     ·
      intro g
      refine ax_q (q_ldN rfl rfl rfl) ?_
      refine ax_q (q_build rfl) ?_
      refine ax_q (GLogRecord.q_eqs (a := restO x) (b := .zero) rfl rfl) ?_
      exact ax_nil ⟨rfl, by repeat (first | exact trivial | refine ⟨rfl, ?_⟩ | refine ⟨?_, ?_⟩)⟩
     refine ax_q (q_mov rfl) ?_
     apply ax_and rfl rfl
     ·
      intro g
      have g := (fun h => And.intro (id (and_T h).1) (id (and_T h).2)) g
      refine ax_q (q_fadr_ptr rfl) ?_
      refine ax_q (q_load1_ptr rfl rfl rfl) ?_
      first | refine ax_call rfl (vc_pure0 (c_inRange  ) hP rfl rfl ?_) | refine ax_call rfl (vc_lend0 (c_inRange  ) hP (by repeat (first | exact lal_id _ rfl | exact LAL.nil | refine LAL.cons ?_ ?_ | exact la_id _ rfl | exact LA.lend (lend_whole rfl (by first | (simp; done) | (rw [List.length_map]; rfl))) | refine LA.agg ?_ | refine LA.fn ?_ | refine LA.lend ?_ | exact Lend.d _ | exact Lend.zs _ | exact lend_whole rfl (by first | (simp; done) | (rw [List.length_map]; rfl)) | refine Lend.ptr rfl ?_ | refine Lend.fn ?_ | exact LendL.nil | refine LendL.cons ?_ ?_)) rfl rfl ?_)
      exact ax_nil ⟨rfl, by repeat (first | exact trivial | refine ⟨rfl, ?_⟩ | refine ⟨?_, ?_⟩)⟩
     refine ax_q (q_mov rfl) ?_
     apply ax_and rfl rfl
     ·
      intro g
      have g := (fun h => And.intro ((fun h => And.intro (id (and_T h).1) (id (and_T h).2)) (and_T h).1) (id (and_T h).2)) g
      refine ax_q (q_fadr_ptr rfl) ?_
      refine ax_q (q_load1_ptr rfl rfl rfl) ?_
      refine ax_q (q_fadr_ptr rfl) ?_
      refine ax_q (q_load1_ptr rfl rfl rfl) ?_
      refine ax_q (q_sub rfl rfl (by omega)) ?_
      first | refine ax_call rfl (vc_pure0 (c_inRange  ) hP rfl rfl ?_) | refine ax_call rfl (vc_lend0 (c_inRange  ) hP (by repeat (first | exact lal_id _ rfl | exact LAL.nil | refine LAL.cons ?_ ?_ | exact la_id _ rfl | exact LA.lend (lend_whole rfl (by first | (simp; done) | (rw [List.length_map]; rfl))) | refine LA.agg ?_ | refine LA.fn ?_ | refine LA.lend ?_ | exact Lend.d _ | exact Lend.zs _ | exact lend_whole rfl (by first | (simp; done) | (rw [List.length_map]; rfl)) | refine Lend.ptr rfl ?_ | refine Lend.fn ?_ | exact LendL.nil | refine LendL.cons ?_ ?_)) rfl rfl ?_)
      exact ax_nil ⟨rfl, by repeat (first | exact trivial | refine ⟨rfl, ?_⟩ | refine ⟨?_, ?_⟩)⟩
     refine ax_q (q_mov rfl) ?_
     apply ax_and rfl rfl
     ·
      intro g
      have g := (fun h => And.intro ((fun h => And.intro ((fun h => And.intro (id (and_T h).1) (id (and_T h).2)) (and_T h).1) (id (and_T h).2)) (and_T h).1) (id (and_T h).2)) g
      refine ax_q (q_fadr_ptr rfl) ?_
      refine ax_q (q_load1_ptr rfl rfl rfl) ?_
      refine ax_q (q_ibin rfl rfl rfl) ?_
      refine ax_q (q_fadr_ptr rfl) ?_
      refine ax_q (q_load1_ptr rfl rfl rfl) ?_
      refine ax_q (q_ibin rfl rfl rfl) ?_
      refine ax_q (q_eqb rfl rfl) ?_
      exact ax_nil ⟨rfl, by repeat (first | exact trivial | refine ⟨rfl, ?_⟩ | refine ⟨?_, ?_⟩)⟩
     refine ax_q (q_mov rfl) ?_
     refine ax_nil ?_
     refine cx_keep rfl rfl ?_
     refine cx_ret (ret0 rfl rfl ?_)
     exact ⟨congrArg AM.bool (recI_o hi h1 h2 h3), rfl⟩


/- slices.IndexFunc[[]loop.example/g00332/impl.LogRecord,loop.example/g00332/impl.LogRecord] -/
def k_c_IndexFunc_LogRecord : XCode :=
 .seq (.ops [.op (some 4) (.mov (.k (.int .i64 0)))])
 (.keep [0, 1] (.seq (.seq (.ops [.op (some 6) (.mov (.t 0)),
   .op (some 7) (.lenS (.t 6)),
   .op (some 8) (.mov (.k (.int .i64 0)))])
  (.keep [0, 1, 7, 8] (.block 0 (.loop (.seq (.ops [.op (some 9) (.bin .lss (.t 8) (.t 7))])
   (.keep [0, 1, 7, 8, 9] (.seq (.cond (.t 9)
    (.skip)
    (.exit 0))
   (.keep [0, 1, 7, 8] (.seq (.block 1 (.seq (.ops [.op (some 10) (.mov (.t 8)),
     .op (some 5) (.mov (.t 10))])
    (.keep [0, 1, 5, 7, 8] (.seq (.ops [.op (some 11) (.mov (.t 1)),
     .op (some 12) (.mov (.t 0)),
     .op (some 13) (.mov (.t 5)),
     .op (some 14) (.iadr 10 (.t 12) (.t 13)),
     .op (some 15) (.loadN 10 (.t 14)),
     .callv (some 16) (.t 11) [.t 15]])
    (.keep [0, 1, 5, 7, 8, 16] (.cond (.t 16)
    (.seq (.ops [.op (some 17) (.mov (.t 5)),
      .op (some 4) (.mov (.t 17))])
     (.keep [4] (.ret)))
    (.skip)))))))
   (.keep [0, 1, 7, 8] (.ops [.op (some 18) (.bin .add (.t 8) (.k (.int .i64 1))),
    .op (some 8) (.mov (.t 18))])))))))))))
 (.keep [] (.seq (.ops [.op (some 4) (.mov (.k (.int .i64 (-1))))])
 (.keep [4] (.ret))))))
theorem k_c_IndexFunc_LogRecord_fits : fitsF Try.prog 42 ⟨19, k_c_IndexFunc_LogRecord, [.t 4]⟩ = true := by kernel_rfl
theorem c_IndexFunc_LogRecord {xs : List GLogRecord} {f : Nat} {ds : List D} (p : GLogRecord → Bool) (hw : xs.length ≤ 9223372036854775807) (hb : hasBody Try.prog f = true) (hf : ∀ s ∈ xs, Con Try.prog noMv f (s.av :: ds.map AV.d) [] (fun r h => r = bool (p s) ∧ h = [])) : Con Try.prog noMv 42 [.d (.sl 10 (xs.map GLogRecord.row)), .d (.fn (.func f) ds)] [] (fun r h => r = int (idxOf p xs 0) ∧ h = []) := by
 refine con_of2 k_c_IndexFunc_LogRecord_fits rfl fun C hP hmv => ?_
 unfold k_c_IndexFunc_LogRecord
 refine cx_seq ?_
 refine cx_ops ?_
 refine ax_q (q_mov rfl) ?_
 refine ax_nil ?_
 refine cx_keep rfl rfl ?_
 refine cx_seq ?_
 refine cx_seq ?_
 refine cx_ops ?_
 refine ax_q (q_mov rfl) ?_
 first | refine ax_q (q_lenS_map rfl) ?_ | refine ax_q (q_lenS_osl rfl) ?_ | refine ax_q (q_lenS_zs rfl) ?_ | refine ax_q (q_lenS rfl) ?_
 refine ax_q (q_mov rfl) ?_
 refine ax_nil ?_
 refine cx_keep rfl rfl ?_
 refine cx_block ?_
 refine cx_loopU (fun n k => k ≤ xs.length ∧ n = xs.length - k ∧ ∀ i, i < k → ∀ x, xs[i]? = some x → p x = false) (fun k : Nat => [(8, int k)]) (fun _ => []) ⟨_, 0, ⟨by omega, rfl, fun i hi => by omega⟩, by repeat (first | exact trivial | refine ⟨rfl, ?_⟩ | refine ⟨?_, ?_⟩)⟩ ?_
 rintro n k ⟨hk, rfl, ht⟩
 refine cx_seq ?_
 refine cx_ops ?_
 refine ax_q (q_ibin rfl rfl rfl) ?_
 refine ax_nil ?_
 refine cx_keep rfl rfl ?_
 refine cx_seq ?_
 refine cx_cond rfl (fun h0 => ?_) (fun h0 => ?_)
 ·
  have h0 := dT h0
  have h0x : k < xs.length := by omega
  refine cx_skip ?_
  refine cx_keep rfl rfl ?_
  refine cx_seq ?_
  refine cx_block ?_
  refine cx_seq ?_
  refine cx_ops ?_
  refine ax_q (q_mov rfl) ?_
  refine ax_q (q_mov rfl) ?_
  refine ax_nil ?_
  refine cx_keep rfl rfl ?_
  refine cx_seq ?_
  refine cx_ops ?_
  refine ax_q (q_mov rfl) ?_
  refine ax_q (q_mov rfl) ?_
  refine ax_q (q_mov rfl) ?_
  refine ax_q (q_ix rfl rfl (mapAt h0x)) ?_
  first | refine ax_q (q_ldN rfl rfl rfl) ?_ | refine ax_q (q_loadN_ip rfl (Nat.le_refl _)) ?_ | refine ax_q (q_loadN_ip rfl (by decide)) ?_ | refine ax_q (q_loadN_rptr rfl rfl (by assumption) (by decide)) ?_ | refine ax_q (q_loadN_rptr rfl rfl (mapAt (by first | assumption | omega)) (by decide)) ?_
  refine ax_callvD rfl (by rw [hP]; exact hb) rfl (vc_pure0 (hf _ (List.getElem_mem h0x)) hP (refs_cons rfl ds) rfl ?_)
  refine ax_nil ?_
  refine cx_keep rfl rfl ?_
  refine cx_cond rfl (fun h1 => ?_) (fun h1 => ?_)
  ·
   skip
   refine cx_seq ?_
   refine cx_ops ?_
   refine ax_q (q_mov rfl) ?_
   refine ax_q (q_mov rfl) ?_
   refine ax_nil ?_
   refine cx_keep rfl rfl ?_
   refine cx_ret (ret0 rfl rfl ?_)
   exact ⟨by rw [idxOf_hit h0x ht h1]; rfl, rfl⟩
  ·
   skip
   refine cx_skip ?_
   refine cx_keep rfl rfl ?_
   refine cx_ops ?_
   refine ax_qe (r' := int ((k + 1 : Nat) : Int)) (q_ibin rfl rfl rfl) (by rw [wi (by omega) (by omega)]; rfl) ?_
   refine ax_q (q_mov rfl) ?_
   refine ax_nil ?_
   exact ⟨_, k + 1, by omega, ⟨by omega, rfl, before_step h0x ht h1⟩, by repeat (first | exact trivial | refine ⟨rfl, ?_⟩ | refine ⟨?_, ?_⟩)⟩
 ·
  have h0 := dF h0
  have h0x : k = xs.length := by omega
  refine cx_exit rfl ?_
  refine cx_keep rfl rfl ?_
  refine cx_seq ?_
  refine cx_ops ?_
  refine ax_q (q_mov rfl) ?_
  refine ax_nil ?_
  refine cx_keep rfl rfl ?_
  refine cx_ret (ret0 rfl rfl ?_)
  exact ⟨by rw [idxOf_none (fun i hi => ht i (by omega))]; rfl, rfl⟩


/- slices.ContainsFunc[[]loop.example/g00332/impl.LogRecord,loop.example/g00332/impl.LogRecord] -/
def k_c_ContainsFunc_LogRecord : XCode :=
 .seq (.ops [.op (some 4) (.mov (.k (.bool false)))])
 (.keep [0, 1] (.seq (.ops [.op (some 5) (.mov (.t 0)),
   .op (some 6) (.mov (.t 1)),
   .call (some 7) 42 [.t 5, .t 6],
   .op (some 8) (.bin .geq (.t 7) (.k (.int .i64 0))),
   .op (some 4) (.mov (.t 8))])
 (.keep [4] (.ret))))
theorem k_c_ContainsFunc_LogRecord_fits : fitsF Try.prog 32 ⟨9, k_c_ContainsFunc_LogRecord, [.t 4]⟩ = true := by kernel_rfl
theorem c_ContainsFunc_LogRecord {xs : List GLogRecord} {f : Nat} {ds : List D} (p : GLogRecord → Bool) (hw : xs.length ≤ 9223372036854775807) (hb : hasBody Try.prog f = true) (hf : ∀ s ∈ xs, Con Try.prog noMv f (s.av :: ds.map AV.d) [] (fun r h => r = bool (p s) ∧ h = [])) : Con Try.prog noMv 32 [.d (.sl 10 (xs.map GLogRecord.row)), .d (.fn (.func f) ds)] [] (fun r h => r = bool (xs.any p) ∧ h = []) := by
 refine con_of2 k_c_ContainsFunc_LogRecord_fits rfl fun C hP hmv => ?_
 unfold k_c_ContainsFunc_LogRecord
 refine cx_seq ?_
 refine cx_ops ?_
 refine ax_q (q_mov rfl) ?_
 refine ax_nil ?_
 refine cx_keep rfl rfl ?_
 refine cx_seq ?_
 refine cx_ops ?_
 refine ax_q (q_mov rfl) ?_
 refine ax_q (q_mov rfl) ?_
 refine ax_call rfl (vc_pure0 (c_IndexFunc_LogRecord p hw hb hf) hP rfl rfl ?_)
 refine ax_qe (r' := bool (xs.any p)) (q_ibin rfl rfl rfl) (congrArg AM.bool any_idxOf) ?_
 refine ax_q (q_mov rfl) ?_
 refine ax_nil ?_
 refine cx_keep rfl rfl ?_
 refine cx_ret (ret0 rfl rfl ?_)
 exact ⟨rfl, rfl⟩


/- loop.example/g00332/impl.areRecords$1 -/
def k_c_areRecords1 : XCode :=
 .seq (.ops [.op (some 1) (.box (.t 0)),
   .op (some 2) (.mov (.k (.bool false)))])
 (.keep [1] (.seq (.ops [.op (some 3) (.fadr (.t 1) 1),
   .op (some 4) (.load1 (.t 3)),
   .op (some 5) (.bin .gtr (.t 4) (.k (.int .i64 60))),
   .op (some 2) (.mov (.t 5))])
 (.keep [2] (.ret))))
theorem k_c_areRecords1_fits : fitsF Try.prog 33 ⟨6, k_c_areRecords1, [.t 2]⟩ = true := by kernel_rfl
theorem c_areRecords1 {a : GLogRecord} : Con Try.prog noMv 33 [a.av] [] (fun r h => r = bool (decide ((60 : Int) < a.Lsn)) ∧ h = []) := by
 refine con_of2 k_c_areRecords1_fits rfl fun C hP hmv => ?_
 unfold k_c_areRecords1
 refine cx_seq ?_
 refine cx_ops ?_
 refine ax_e (e_box rfl rfl (by decide) rfl rfl rfl) ?_
 refine ax_q (q_mov rfl) ?_
 refine ax_nil ?_
 refine cx_keep rfl rfl ?_
 refine cx_seq ?_
 refine cx_ops ?_
 refine ax_q (q_fadr_ptr rfl) ?_
 refine ax_q (q_load1_ptr rfl rfl rfl) ?_
 refine ax_q (q_ibin rfl rfl rfl) ?_
 refine ax_q (q_mov rfl) ?_
 refine ax_nil ?_
 refine cx_keep rfl rfl ?_
 refine cx_ret (ret0 rfl rfl ?_)
 exact ⟨rfl, rfl⟩


/- loop.example/g00332/impl.areRecords -/
def k_c_areRecords : XCode :=
 .seq (.ops [.op (some 2) (.mov (.k (.bool false)))])
 (.keep [0] (.seq (.seq (.ops [.op (some 5) (.mov (.t 0)),
   .op (some 6) (.lenS (.t 5)),
   .op (some 7) (.mov (.k (.int .i64 0)))])
  (.keep [0, 5, 6, 7] (.block 0 (.loop (.seq (.ops [.op (some 8) (.bin .lss (.t 7) (.t 6))])
   (.keep [0, 5, 6, 7, 8] (.seq (.cond (.t 8)
    (.skip)
    (.exit 0))
   (.keep [0, 5, 6, 7] (.seq (.block 1 (.seq (.ops [.op (some 9) (.mov (.t 7)),
     .op (some 10) (.iadr 10 (.t 5) (.t 7)),
     .op (some 11) (.loadN 10 (.t 10)),
     .op (some 4) (.alloc [.int .i64 0, .int .i64 0, .int .i64 0, .int .i64 0, .int .i64 0, .int .i64 0, .int .i64 0, .int .i64 0, .str [], .str []]),
     .op (some 3) (.mov (.t 9)),
     .op none (.store 10 (.t 4) (.t 11))])
    (.keep [0, 3, 4, 5, 6, 7] (.seq (.ops [.op (some 12) (.loadN 10 (.t 4)),
     .call (some 13) 31 [.t 12],
     .op (some 14) (.not (.t 13)),
     .op (some 15) (.mov (.t 14)),
     .andor 21 false 3 15 [.op (some 16) (.fadr (.t 4) 1), .op (some 17) (.load1 (.t 16)), .op (some 18) (.mov (.t 3)), .op (some 19) (.bin .add (.t 18) (.k (.int .i64 1))), .op (some 20) (.bin .neq (.t 17) (.t 19))] (.t 20)])
    (.keep [0, 5, 6, 7, 21] (.cond (.t 21)
    (.seq (.ops [.op (some 2) (.mov (.k (.bool false)))])
     (.keep [2] (.ret)))
    (.skip)))))))
   (.keep [0, 5, 6, 7] (.ops [.op (some 22) (.bin .add (.t 7) (.k (.int .i64 1))),
    .op (some 7) (.mov (.t 22))])))))))))))
 (.keep [0] (.seq (.ops [.op (some 23) (.mov (.t 0)),
   .call (some 24) 32 [.t 23, .f 33],
   .op (some 25) (.not (.t 24)),
   .op (some 2) (.mov (.t 25))])
 (.keep [2] (.ret))))))
theorem k_c_areRecords_fits : fitsF Try.prog 20 ⟨26, k_c_areRecords, [.t 2]⟩ = true := by kernel_rfl
theorem c_areRecords {log : List GLogRecord} (hl : log.length ≤ 60) (hv : ∀ i (h : i < log.length), log[i].After.length ≤ 1048576) : Con Try.prog noMv 20 [.d (.sl 10 (log.map GLogRecord.row))] [] (fun r h => r = bool (goodA log) ∧ h = []) := by
 refine con_of2 k_c_areRecords_fits rfl fun C hP hmv => ?_
 unfold k_c_areRecords
 refine cx_seq ?_
 refine cx_ops ?_
 refine ax_q (q_mov rfl) ?_
 refine ax_nil ?_
 refine cx_keep rfl rfl ?_
 refine cx_seq ?_
 refine cx_seq ?_
 refine cx_ops ?_
 refine ax_q (q_mov rfl) ?_
 first | refine ax_q (q_lenS_map rfl) ?_ | refine ax_q (q_lenS_osl rfl) ?_ | refine ax_q (q_lenS_zs rfl) ?_ | refine ax_q (q_lenS rfl) ?_
 refine ax_q (q_mov rfl) ?_
 refine ax_nil ?_
 refine cx_keep rfl rfl ?_
 refine cx_block ?_
 refine cx_loopU (fun m k => k ≤ log.length ∧ m = log.length - k ∧ ∀ i (h : i < log.length), i < k → recOK log[i] = true ∧ log[i].Lsn = ((i + 1 : Nat) : Int)) (fun k : Nat => [(7, int k)]) (fun _ => []) ⟨_, 0, ⟨Nat.zero_le _, rfl, fun i h hi => by omega⟩, by repeat (first | exact trivial | refine ⟨rfl, ?_⟩ | refine ⟨?_, ?_⟩)⟩ ?_
 rintro m k ⟨hk, rfl, hb⟩
 refine cx_seq ?_
 refine cx_ops ?_
 refine ax_q (q_ibin rfl rfl rfl) ?_
 refine ax_nil ?_
 refine cx_keep rfl rfl ?_
 refine cx_seq ?_
 refine cx_cond rfl (fun h0 => ?_) (fun h0 => ?_)
 ·
  have h0 := dT h0
  have hkx : k < log.length := by omega
  refine cx_skip ?_
  refine cx_keep rfl rfl ?_
  refine cx_seq ?_
  refine cx_block ?_
  refine cx_seq ?_
  refine cx_ops ?_
  refine ax_q (q_mov rfl) ?_
  refine ax_q (q_ix rfl rfl (mapAt hkx)) ?_
  first | refine ax_q (q_ldN rfl rfl rfl) ?_ | refine ax_q (q_loadN_ip rfl (Nat.le_refl _)) ?_ | refine ax_q (q_loadN_ip rfl (by decide)) ?_ | refine ax_q (q_loadN_rptr rfl rfl (by assumption) (by decide)) ?_ | refine ax_q (q_loadN_rptr rfl rfl (mapAt (by first | assumption | omega)) (by decide)) ?_
  refine ax_e (e_alloc (by decide) rfl rfl) ?_
  refine ax_q (q_mov rfl) ?_
  refine ax_e (e_st rfl rfl rfl rfl rfl rfl rfl) ?_
  refine ax_nil ?_
  refine cx_keep rfl rfl ?_
  refine cx_seq ?_
  refine cx_ops ?_
  refine ax_q (q_ldN rfl rfl rfl) ?_
  first | refine ax_call rfl (vc_pure0 (c_RecordOK (x := log[k]) ?_) hP rfl rfl ?_) | refine ax_call rfl (vc_lend0 (c_RecordOK (x := log[k]) ?_) hP (by repeat (first | exact lal_id _ rfl | exact LAL.nil | refine LAL.cons ?_ ?_ | exact la_id _ rfl | exact LA.lend (lend_whole rfl (by first | (simp; done) | (rw [List.length_map]; rfl))) | refine LA.agg ?_ | refine LA.fn ?_ | refine LA.lend ?_ | exact Lend.d _ | exact Lend.zs _ | exact lend_whole rfl (by first | (simp; done) | (rw [List.length_map]; rfl)) | refine Lend.ptr rfl ?_ | refine Lend.fn ?_ | exact LendL.nil | refine LendL.cons ?_ ?_)) rfl rfl ?_)
  ·
   exact hv k hkx
  refine ax_q (q_not rfl) ?_
  refine ax_q (q_mov rfl) ?_
  apply ax_or rfl rfl
  ·
   intro g
   have g := bF g
   refine ax_q (q_fadr_ptr rfl) ?_
   refine ax_q (q_load1_ptr rfl rfl rfl) ?_
   refine ax_q (q_mov rfl) ?_
   refine ax_qe (r' := int ((k + 1 : Nat) : Int)) (q_ibin rfl rfl rfl) (by rw [wi (by omega) (by omega)]; rfl) ?_
   refine ax_q (q_ibin rfl rfl rfl) ?_
   exact ax_nil ⟨rfl, by repeat (first | exact trivial | refine ⟨rfl, ?_⟩ | refine ⟨?_, ?_⟩)⟩
  refine ax_nil ?_
  refine cx_keep rfl rfl ?_
  refine cx_cond rfl (fun h1 => ?_) (fun h1 => ?_)
  ·
   have h1 := (fun h => (or_T h).imp bT nT) h1
   refine cx_seq ?_
   refine cx_ops ?_
   refine ax_q (q_mov rfl) ?_
   refine ax_nil ?_
   refine cx_keep rfl rfl ?_
   refine cx_ret (ret0 rfl rfl ?_)
   have e : goodA log = false := goodA_no hkx (by
    rintro ⟨a, b⟩
    rcases h1 with h | h
    ·
     rw [a] at h; cases h
    ·
     exact h b)
   exact ⟨by rw [e]; rfl, rfl⟩
  ·
   have h1 := (fun h => And.intro (bF (or_F h).1) (nF (or_F h).2)) h1
   refine cx_skip ?_
   refine cx_keep rfl rfl ?_
   refine cx_ops ?_
   refine ax_qe (r' := int ((k + 1 : Nat) : Int)) (q_ibin rfl rfl rfl) (by rw [wi (by omega) (by omega)]; rfl) ?_
   refine ax_q (q_mov rfl) ?_
   refine ax_nil ?_
   exact ⟨_, k + 1, by omega, ⟨by omega, rfl, fun i h hi => by
    rcases Nat.lt_succ_iff_lt_or_eq.1 hi with q | rfl
    ·
     exact hb i h q
    ·
     exact h1⟩, by repeat (first | exact trivial | refine ⟨rfl, ?_⟩ | refine ⟨?_, ?_⟩)⟩
 ·
  have h0 := dF h0
  obtain rfl : k = log.length := by omega
  refine cx_exit rfl ?_
  refine cx_keep rfl rfl ?_
  refine cx_seq ?_
  refine cx_ops ?_
  refine ax_q (q_mov rfl) ?_
  refine ax_call rfl (vc_lend0 (c_ContainsFunc_LogRecord (xs := log) (ds := []) (fun r => decide ((60 : Int) < r.Lsn)) (by omega) (by kernel_rfl) (fun s _ => c_areRecords1)) hP (by repeat (first | exact lal_id _ rfl | exact LAL.nil | refine LAL.cons ?_ ?_ | exact la_id _ rfl | exact LA.lend (lend_whole rfl (by first | (simp; done) | (rw [List.length_map]; rfl))) | refine LA.agg ?_ | refine LA.fn ?_ | refine LA.lend ?_ | exact Lend.d _ | exact Lend.zs _ | exact lend_whole rfl (by first | (simp; done) | (rw [List.length_map]; rfl)) | refine Lend.ptr rfl ?_ | refine Lend.fn ?_ | exact LendL.nil | refine LendL.cons ?_ ?_)) rfl rfl ?_)
  refine ax_q (q_not rfl) ?_
  refine ax_q (q_mov rfl) ?_
  refine ax_nil ?_
  refine cx_keep rfl rfl ?_
  refine cx_ret (ret0 rfl rfl ?_)
  have e := goodA_iff.2 (fun i h => hb i h h)
  exact ⟨by rw [goodA_lsn e, e]; rfl, rfl⟩

end Go.Proofs.Ytgfabnojbjnepaa
