/- The walks: what each function computes, as a contract without a world (part 0). -/
import Derived.Test.YthdafcdhnjapnaaGreatDoorProg
import Derived.Test.YthdafcdhnjapnaaGreatDoorR
namespace Go.Proofs.YthdafcdhnjapnaaGreatDoor
open Go Go.AM
set_option maxRecDepth 10000
set_option linter.unusedVariables false
set_option linter.unusedSimpArgs false
/- slices.IndexFunc[[]string,string] -/
def k_c_IndexFunc_Str : XCode :=
 .seq (.ops [.op (some 4) (.mov (.k (.int .i64 0)))])
 (.keep [0, 1] (.seq (.seq (.ops [.op (some 6) (.mov (.t 0)),
   .op (some 7) (.lenS (.t 6)),
   .op (some 8) (.mov (.k (.int .i64 0)))])
  (.keep [0, 1, 7, 8] (.block 0 (.loop (.seq (.ops [.op (some 9) (.bin .lss (.t 8) (.t 7))])
   (.keep [0, 1, 7, 8, 9] (.seq (.cond (.t 9)
    (.skip)
    (.exit 0))
   (.keep [0, 1, 7, 8] (.seq (.block 1 (.seq (.ops [.op (some 10) (.mov (.t 8)),
     .op (some 5) (.mov (.t 10))])
    (.keep [0, 1, 5, 7, 8] (.seq (.ops [.op (some 11) (.mov (.t 1)),
     .op (some 12) (.mov (.t 0)),
     .op (some 13) (.mov (.t 5)),
     .op (some 14) (.iadr 1 (.t 12) (.t 13)),
     .op (some 15) (.load1 (.t 14)),
     .callv (some 16) (.t 11) [.t 15]])
    (.keep [0, 1, 5, 7, 8, 16] (.cond (.t 16)
    (.seq (.ops [.op (some 17) (.mov (.t 5)),
      .op (some 4) (.mov (.t 17))])
     (.keep [4] (.ret)))
    (.skip)))))))
   (.keep [0, 1, 7, 8] (.ops [.op (some 18) (.bin .add (.t 8) (.k (.int .i64 1))),
    .op (some 8) (.mov (.t 18))])))))))))))
 (.keep [] (.seq (.ops [.op (some 4) (.mov (.k (.int .i64 (-1))))])
 (.keep [4] (.ret))))))
theorem k_c_IndexFunc_Str_fits : fitsF Tryz.prog 89 ⟨19, k_c_IndexFunc_Str, [.t 4]⟩ = true := by kernel_rfl
theorem c_IndexFunc_Str {xs : List Str} {f : Nat} {ds : List D} (p : Str → Bool) (hw : xs.length ≤ 9223372036854775807) (hb : hasBody Tryz.prog f = true) (hf : ∀ s ∈ xs, Con Tryz.prog noMv f (str s :: ds.map AV.d) [] (fun r h => r = bool (p s) ∧ h = [])) : Con Tryz.prog noMv 89 [.d (.sl 1 (xs.map strRow)), .d (.fn (.func f) ds)] [] (fun r h => r = int (idxOf p xs 0) ∧ h = []) := by
 refine con_of2 k_c_IndexFunc_Str_fits rfl fun C hP hmv => ?_
 unfold k_c_IndexFunc_Str
 refine cx_seq ?_
 refine cx_ops ?_
 refine ax_q (q_mov rfl) ?_
 refine ax_nil ?_
 refine cx_keep rfl rfl ?_
 refine cx_seq ?_
 refine cx_seq ?_
 refine cx_ops ?_
 refine ax_q (q_mov rfl) ?_
 first | refine ax_q (q_lenS_map rfl) ?_ | refine ax_q (q_lenS_osl rfl) ?_ | refine ax_q (q_lenS_zs rfl) ?_ | refine ax_q (q_lenS rfl) ?_
 refine ax_q (q_mov rfl) ?_
 refine ax_nil ?_
 refine cx_keep rfl rfl ?_
 refine cx_block ?_
 refine cx_loopU (fun n k => k ≤ xs.length ∧ n = xs.length - k ∧ ∀ i, i < k → ∀ x, xs[i]? = some x → p x = false) (fun k : Nat => [(8, int k)]) (fun _ => []) ⟨_, 0, ⟨by omega, rfl, fun i hi => by omega⟩, by repeat (first | exact trivial | refine ⟨rfl, ?_⟩ | refine ⟨?_, ?_⟩)⟩ ?_
 rintro n k ⟨hk, rfl, ht⟩
 refine cx_seq ?_
 refine cx_ops ?_
 refine ax_q (q_ibin rfl rfl rfl) ?_
 refine ax_nil ?_
 refine cx_keep rfl rfl ?_
 refine cx_seq ?_
 refine cx_cond rfl (fun h0 => ?_) (fun h0 => ?_)
 ·
  have h0 := dT h0
  have h0x : k < xs.length := by omega
  refine cx_skip ?_
  refine cx_keep rfl rfl ?_
  refine cx_seq ?_
  refine cx_block ?_
  refine cx_seq ?_
  refine cx_ops ?_
  refine ax_q (q_mov rfl) ?_
  refine ax_q (q_mov rfl) ?_
  refine ax_nil ?_
  refine cx_keep rfl rfl ?_
  refine cx_seq ?_
  refine cx_ops ?_
  refine ax_q (q_mov rfl) ?_
  refine ax_q (q_mov rfl) ?_
  refine ax_q (q_mov rfl) ?_
  refine ax_q (q_ix rfl rfl (mapAt h0x)) ?_
  first | refine ax_q (q_load1_ptr rfl rfl rfl) ?_ | refine ax_q (q_load1_ip rfl) ?_ | refine ax_q (q_load1_rptr rfl rfl rfl rfl) ?_ | refine ax_q (q_load1_rptr rfl rfl (by assumption) rfl) ?_ | refine ax_q (q_load1_rptr rfl rfl (mapAt (by first | assumption | omega)) rfl) ?_
  refine ax_callvD rfl (by rw [hP]; exact hb) rfl (vc_pure0 (hf _ (List.getElem_mem h0x)) hP (refs_cons rfl ds) rfl ?_)
  refine ax_nil ?_
  refine cx_keep rfl rfl ?_
  refine cx_cond rfl (fun h1 => ?_) (fun h1 => ?_)
  ·
   skip
   refine cx_seq ?_
   refine cx_ops ?_
   refine ax_q (q_mov rfl) ?_
   refine ax_q (q_mov rfl) ?_
   refine ax_nil ?_
   refine cx_keep rfl rfl ?_
   refine cx_ret (ret0 rfl rfl ?_)
   exact ⟨by rw [idxOf_hit h0x ht h1]; rfl, rfl⟩
  ·
   skip
   refine cx_skip ?_
   refine cx_keep rfl rfl ?_
   refine cx_ops ?_
   refine ax_qe (r' := int ((k + 1 : Nat) : Int)) (q_ibin rfl rfl rfl) (by rw [wi (by omega) (by omega)]; rfl) ?_
   refine ax_q (q_mov rfl) ?_
   refine ax_nil ?_
   exact ⟨_, k + 1, by omega, ⟨by omega, rfl, before_step h0x ht h1⟩, by repeat (first | exact trivial | refine ⟨rfl, ?_⟩ | refine ⟨?_, ?_⟩)⟩
 ·
  have h0 := dF h0
  have h0x : k = xs.length := by omega
  refine cx_exit rfl ?_
  refine cx_keep rfl rfl ?_
  refine cx_seq ?_
  refine cx_ops ?_
  refine ax_q (q_mov rfl) ?_
  refine ax_nil ?_
  refine cx_keep rfl rfl ?_
  refine cx_ret (ret0 rfl rfl ?_)
  exact ⟨by rw [idxOf_none (fun i hi => ht i (by omega))]; rfl, rfl⟩


/- slices.ContainsFunc[[]string,string] -/
def k_c_ContainsFunc_Str : XCode :=
 .seq (.ops [.op (some 4) (.mov (.k (.bool false)))])
 (.keep [0, 1] (.seq (.ops [.op (some 5) (.mov (.t 0)),
   .op (some 6) (.mov (.t 1)),
   .call (some 7) 89 [.t 5, .t 6],
   .op (some 8) (.bin .geq (.t 7) (.k (.int .i64 0))),
   .op (some 4) (.mov (.t 8))])
 (.keep [4] (.ret))))
theorem k_c_ContainsFunc_Str_fits : fitsF Tryz.prog 58 ⟨9, k_c_ContainsFunc_Str, [.t 4]⟩ = true := by kernel_rfl
theorem c_ContainsFunc_Str {xs : List Str} {f : Nat} {ds : List D} (p : Str → Bool) (hw : xs.length ≤ 9223372036854775807) (hb : hasBody Tryz.prog f = true) (hf : ∀ s ∈ xs, Con Tryz.prog noMv f (str s :: ds.map AV.d) [] (fun r h => r = bool (p s) ∧ h = [])) : Con Tryz.prog noMv 58 [.d (.sl 1 (xs.map strRow)), .d (.fn (.func f) ds)] [] (fun r h => r = bool (xs.any p) ∧ h = []) := by
 refine con_of2 k_c_ContainsFunc_Str_fits rfl fun C hP hmv => ?_
 unfold k_c_ContainsFunc_Str
 refine cx_seq ?_
 refine cx_ops ?_
 refine ax_q (q_mov rfl) ?_
 refine ax_nil ?_
 refine cx_keep rfl rfl ?_
 refine cx_seq ?_
 refine cx_ops ?_
 refine ax_q (q_mov rfl) ?_
 refine ax_q (q_mov rfl) ?_
 refine ax_call rfl (vc_pure0 (c_IndexFunc_Str p hw hb hf) hP rfl rfl ?_)
 refine ax_qe (r' := bool (xs.any p)) (q_ibin rfl rfl rfl) (congrArg AM.bool any_idxOf) ?_
 refine ax_q (q_mov rfl) ?_
 refine ax_nil ?_
 refine cx_keep rfl rfl ?_
 refine cx_ret (ret0 rfl rfl ?_)
 exact ⟨rfl, rfl⟩


/- loop.example/g00332/impl.isLong$1 -/
def k_c_isLong1 : XCode :=
 .seq (.ops [.op (some 2) (.mov (.k (.bool false)))])
 (.keep [0] (.seq (.ops [.op (some 3) (.mov (.t 0)),
   .op (some 4) (.lenT (.t 3)),
   .op (some 5) (.bin .gtr (.t 4) (.k (.int .i64 65536))),
   .op (some 2) (.mov (.t 5))])
 (.keep [2] (.ret))))
theorem k_c_isLong1_fits : fitsF Tryz.prog 59 ⟨6, k_c_isLong1, [.t 2]⟩ = true := by kernel_rfl
theorem c_isLong1 {t : Str} : Con Tryz.prog noMv 59 [str t] [] (fun r h => r = bool (decide ((t.length : Int) > 65536)) ∧ h = []) := by
 refine con_of2 k_c_isLong1_fits rfl fun C hP hmv => ?_
 unfold k_c_isLong1
 refine cx_seq ?_
 refine cx_ops ?_
 refine ax_q (q_mov rfl) ?_
 refine ax_nil ?_
 refine cx_keep rfl rfl ?_
 refine cx_seq ?_
 refine cx_ops ?_
 refine ax_q (q_mov rfl) ?_
 refine ax_q (q_lenT rfl) ?_
 refine ax_q (q_ibin rfl rfl rfl) ?_
 refine ax_q (q_mov rfl) ?_
 refine ax_nil ?_
 refine cx_keep rfl rfl ?_
 refine cx_ret (ret0 rfl rfl ?_)
 exact ⟨rfl, rfl⟩


/- loop.example/g00332/impl.isLong -/
def k_c_isLong : XCode :=
 .seq (.ops [.op (some 2) (.mov (.k (.bool false)))])
 (.keep [0] (.seq (.ops [.op (some 3) (.mov (.t 0)),
   .call (some 4) 58 [.t 3, .f 59],
   .op (some 2) (.mov (.t 4))])
 (.keep [2] (.ret))))
theorem k_c_isLong_fits : fitsF Tryz.prog 31 ⟨5, k_c_isLong, [.t 2]⟩ = true := by kernel_rfl
theorem c_isLong {t : Str} : Con Tryz.prog noMv 31 [.d (.sl 1 [strRow t])] [] (fun r h => r = bool (decide ((t.length : Int) > 65536)) ∧ h = []) := by
 refine con_of2 k_c_isLong_fits rfl fun C hP hmv => ?_
 unfold k_c_isLong
 refine cx_seq ?_
 refine cx_ops ?_
 refine ax_q (q_mov rfl) ?_
 refine ax_nil ?_
 refine cx_keep rfl rfl ?_
 refine cx_seq ?_
 refine cx_ops ?_
 refine ax_q (q_mov rfl) ?_
 refine ax_call rfl (vc_pure0 (c_ContainsFunc_Str (xs := [t]) (ds := []) (fun t => decide ((t.length : Int) > 65536)) (by simp) (by kernel_rfl) (fun s hs => c_isLong1)) hP rfl rfl ?_)
 refine ax_q (q_mov rfl) ?_
 refine ax_nil ?_
 refine cx_keep rfl rfl ?_
 refine cx_ret (ret0 rfl rfl ?_)
 exact ⟨by simp [mkRes, AM.bool], rfl⟩


/- loop.example/g00332/impl.isLetter -/
def k_c_isLetter : XCode :=
 .seq (.ops [.op (some 2) (.mov (.k (.bool false)))])
 (.keep [0] (.seq (.ops [.op (some 3) (.mov (.t 0)),
   .op (some 4) (.bin .geq (.t 3) (.k (.int .u8 97))),
   .op (some 5) (.mov (.t 4)),
   .andor 8 true 2 5 [.op (some 6) (.mov (.t 0)), .op (some 7) (.bin .leq (.t 6) (.k (.int .u8 122)))] (.t 7),
   .op (some 2) (.mov (.t 8))])
 (.keep [2] (.ret))))
theorem k_c_isLetter_fits : fitsF Tryz.prog 90 ⟨9, k_c_isLetter, [.t 2]⟩ = true := by kernel_rfl
theorem c_isLetter {b : UInt8} : Con Tryz.prog noMv 90 [.d (.int .u8 b.toNat)] [] (fun r h => r = bool (inR (b.toNat : Int) 97 122) ∧ h = []) := by
 refine con_of2 k_c_isLetter_fits rfl fun C hP hmv => ?_
 unfold k_c_isLetter
 refine cx_seq ?_
 refine cx_ops ?_
 refine ax_q (q_mov rfl) ?_
 refine ax_nil ?_
 refine cx_keep rfl rfl ?_
 refine cx_seq ?_
 refine cx_ops ?_
 refine ax_q (q_mov rfl) ?_
 refine ax_q (q_ibin rfl rfl rfl) ?_
 refine ax_q (q_mov rfl) ?_
 apply ax_and rfl rfl
 ·
  intro g
  have g := dT g
  refine ax_q (q_mov rfl) ?_
  refine ax_q (q_ibin rfl rfl rfl) ?_
  exact ax_nil ⟨rfl, by repeat (first | exact trivial | refine ⟨rfl, ?_⟩ | refine ⟨?_, ?_⟩)⟩
 refine ax_q (q_mov rfl) ?_
 refine ax_nil ?_
 refine cx_keep rfl rfl ?_
 refine cx_ret (ret0 rfl rfl ?_)
 exact ⟨rfl, rfl⟩


/- loop.example/g00332/impl.isDigit -/
def k_c_isDigit : XCode :=
 .seq (.ops [.op (some 2) (.mov (.k (.bool false)))])
 (.keep [0] (.seq (.ops [.op (some 3) (.mov (.t 0)),
   .op (some 4) (.bin .geq (.t 3) (.k (.int .u8 48))),
   .op (some 5) (.mov (.t 4)),
   .andor 8 true 2 5 [.op (some 6) (.mov (.t 0)), .op (some 7) (.bin .leq (.t 6) (.k (.int .u8 57)))] (.t 7),
   .op (some 2) (.mov (.t 8))])
 (.keep [2] (.ret))))
theorem k_c_isDigit_fits : fitsF Tryz.prog 91 ⟨9, k_c_isDigit, [.t 2]⟩ = true := by kernel_rfl
theorem c_isDigit {b : UInt8} : Con Tryz.prog noMv 91 [.d (.int .u8 b.toNat)] [] (fun r h => r = bool (digB b) ∧ h = []) := by
 refine con_of2 k_c_isDigit_fits rfl fun C hP hmv => ?_
 unfold k_c_isDigit
 refine cx_seq ?_
 refine cx_ops ?_
 refine ax_q (q_mov rfl) ?_
 refine ax_nil ?_
 refine cx_keep rfl rfl ?_
 refine cx_seq ?_
 refine cx_ops ?_
 refine ax_q (q_mov rfl) ?_
 refine ax_q (q_ibin rfl rfl rfl) ?_
 refine ax_q (q_mov rfl) ?_
 apply ax_and rfl rfl
 ·
  intro g
  have g := dT g
  refine ax_q (q_mov rfl) ?_
  refine ax_q (q_ibin rfl rfl rfl) ?_
  exact ax_nil ⟨rfl, by repeat (first | exact trivial | refine ⟨rfl, ?_⟩ | refine ⟨?_, ?_⟩)⟩
 refine ax_q (q_mov rfl) ?_
 refine ax_nil ?_
 refine cx_keep rfl rfl ?_
 refine cx_ret (ret0 rfl rfl ?_)
 exact ⟨by rw [digB_eq]; rfl, rfl⟩


/- loop.example/g00332/impl.tokenAt -/
def k_c_tokenAt : XCode :=
 .seq (.ops [.op (some 2) (.mov (.k (.int .i64 0)))])
 (.keep [0] (.seq (.ops [.op (some 3) (.mov (.k (.int .i64 1)))])
 (.keep [0, 3] (.seq (.seq (.ops [.op (some 5) (.mov (.t 0)),
   .op (some 6) (.idxS (.t 5) (.k (.int .i64 0))),
   .op (some 4) (.mov (.t 6))])
  (.keep [0, 3, 4] (.block 0 (.seq (.ops [.op (some 8) (.mov (.t 4)),
    .call (some 9) 90 [.t 8],
    .op (some 7) (.mov (.t 9))])
  (.keep [0, 3, 4, 7] (.cond (.t 7)
   (.block 1 (.loop (.seq (.seq (.ops [.op (some 10) (.mov (.t 3)),
      .op (some 11) (.mov (.t 0)),
      .op (some 12) (.lenT (.t 11)),
      .op (some 13) (.bin .lss (.t 10) (.t 12)),
      .op (some 14) (.mov (.t 13)),
      .andor 25 true 4 14 [.op (some 15) (.mov (.t 0)), .op (some 16) (.mov (.t 3)), .op (some 17) (.idxS (.t 15) (.t 16)), .call (some 18) 90 [.t 17], .op (some 19) (.mov (.t 18)), .andor 24 false 9 19 [.op (some 20) (.mov (.t 0)), .op (some 21) (.mov (.t 3)), .op (some 22) (.idxS (.t 20) (.t 21)), .call (some 23) 91 [.t 22]] (.t 23)] (.t 24)])
     (.keep [0, 3, 25] (.cond (.t 25)
     (.skip)
     (.exit 1))))
    (.keep [0, 3] (.block 2 (.ops [.op (some 26) (.mov (.t 3)),
      .op (some 27) (.bin .add (.t 26) (.k (.int .i64 1))),
      .op (some 3) (.mov (.t 27))]))))))
   (.seq (.ops [.op (some 29) (.mov (.t 4)),
     .call (some 30) 91 [.t 29],
     .op (some 28) (.mov (.t 30))])
   (.keep [0, 3, 4, 28] (.cond (.t 28)
    (.block 3 (.loop (.seq (.seq (.ops [.op (some 31) (.mov (.t 3)),
       .op (some 32) (.mov (.t 0)),
       .op (some 33) (.lenT (.t 32)),
       .op (some 34) (.bin .lss (.t 31) (.t 33)),
       .op (some 35) (.mov (.t 34)),
       .andor 40 true 4 35 [.op (some 36) (.mov (.t 0)), .op (some 37) (.mov (.t 3)), .op (some 38) (.idxS (.t 36) (.t 37)), .call (some 39) 91 [.t 38]] (.t 39)])
      (.keep [0, 3, 40] (.cond (.t 40)
      (.skip)
      (.exit 3))))
     (.keep [0, 3] (.block 4 (.ops [.op (some 41) (.mov (.t 3)),
       .op (some 42) (.bin .add (.t 41) (.k (.int .i64 1))),
       .op (some 3) (.mov (.t 42))]))))))
    (.seq (.ops [.op (some 44) (.mov (.t 4)),
      .op (some 45) (.bin .eql (.t 44) (.k (.int .u8 39))),
      .op (some 43) (.mov (.t 45))])
    (.keep [0, 3, 43] (.cond (.t 43)
     (.seq (.block 5 (.loop (.seq (.seq (.ops [.op (some 46) (.mov (.t 3)),
         .op (some 47) (.mov (.t 0)),
         .op (some 48) (.lenT (.t 47)),
         .op (some 49) (.bin .lss (.t 46) (.t 48)),
         .op (some 50) (.mov (.t 49)),
         .andor 55 true 4 50 [.op (some 51) (.mov (.t 0)), .op (some 52) (.mov (.t 3)), .op (some 53) (.idxS (.t 51) (.t 52)), .call (some 54) 90 [.t 53]] (.t 54)])
       (.keep [0, 3, 55] (.cond (.t 55)
        (.skip)
        (.exit 5))))
       (.keep [0, 3] (.block 6 (.ops [.op (some 56) (.mov (.t 3)),
        .op (some 57) (.bin .add (.t 56) (.k (.int .i64 1))),
        .op (some 3) (.mov (.t 57))]))))))
     (.keep [0, 3] (.seq (.seq (.ops [.op (some 58) (.mov (.t 3)),
       .op (some 59) (.mov (.t 0)),
       .op (some 60) (.lenT (.t 59)),
       .op (some 61) (.bin .eql (.t 58) (.t 60)),
       .op (some 62) (.mov (.t 61)),
       .andor 67 false 4 62 [.op (some 63) (.mov (.t 0)), .op (some 64) (.mov (.t 3)), .op (some 65) (.idxS (.t 63) (.t 64)), .op (some 66) (.bin .neq (.t 65) (.k (.int .u8 39)))] (.t 66)])
      (.keep [3, 67] (.cond (.t 67)
      (.seq (.ops [.op (some 2) (.mov (.k (.int .i64 0)))])
       (.keep [2] (.ret)))
      (.skip))))
     (.keep [3] (.ops [.op (some 68) (.mov (.t 3)),
      .op (some 69) (.bin .add (.t 68) (.k (.int .i64 1))),
      .op (some 3) (.mov (.t 69))])))))
     (.seq (.ops [.op (some 71) (.mov (.t 0)),
       .op (some 72) (.slcT (.t 71) none (some (.k (.int .i64 1)))),
       .call (some 73) 92 [.k (.str [40, 41, 43, 45, 42, 47, 61, 60, 44]), .t 72],
       .op (some 74) (.not (.t 73)),
       .op (some 70) (.mov (.t 74))])
     (.keep [3, 70] (.cond (.t 70)
      (.seq (.ops [.op (some 2) (.mov (.k (.int .i64 0)))])
      (.keep [2] (.ret)))
      (.skip))))))))))))))))
 (.keep [3] (.seq (.ops [.op (some 75) (.mov (.t 3)),
   .op (some 2) (.mov (.t 75))])
 (.keep [2] (.ret))))))))
theorem k_c_tokenAt_fits : fitsF Tryz.prog 60 ⟨76, k_c_tokenAt, [.t 2]⟩ = true := by kernel_rfl
set_option maxHeartbeats 4000000 in
theorem c_tokenAt {t : Str} (h0 : 0 < t.length) (hl : t.length ≤ 65536) : Con Tryz.prog noMv 60 [str t] [] (fun r h => r = int (tokF t) ∧ h = []) := by
 refine con_of2 k_c_tokenAt_fits rfl fun C hP hmv => ?_
 unfold k_c_tokenAt
 have hp := h0
 obtain ⟨c, r, ht⟩ : ∃ c r, t = c :: r := List.exists_cons_of_length_pos hp
 have hr : t.drop 1 = r := by rw [ht]; rfl
 refine cx_seq ?_
 refine cx_ops ?_
 refine ax_q (q_mov rfl) ?_
 refine ax_nil ?_
 refine cx_keep rfl rfl ?_
 refine cx_seq ?_
 refine cx_ops ?_
 refine ax_q (q_mov rfl) ?_
 refine ax_nil ?_
 refine cx_keep rfl rfl ?_
 refine cx_seq ?_
 refine cx_seq ?_
 refine cx_ops ?_
 refine ax_q (q_mov rfl) ?_
 refine ax_qe (r' := .d (.int .u8 (c.toNat : Int))) (q_idxN (n := 0) rfl rfl hp) (by simp [ht]) ?_
 refine ax_q (q_mov rfl) ?_
 refine ax_nil ?_
 refine cx_keep rfl rfl ?_
 refine cx_block ?_
 refine cx_seq ?_
 refine cx_ops ?_
 refine ax_q (q_mov rfl) ?_
 first | refine ax_call rfl (vc_pure0 (c_isLetter (b := c) ) hP rfl rfl ?_) | refine ax_call rfl (vc_lend0 (c_isLetter (b := c) ) hP (by repeat (first | exact lal_id _ rfl | exact LAL.nil | refine LAL.cons ?_ ?_ | exact la_id _ rfl | exact LA.lend (lend_whole rfl (by first | (simp; done) | (rw [List.length_map]; rfl))) | refine LA.agg ?_ | refine LA.fn ?_ | refine LA.lend ?_ | exact Lend.d _ | exact Lend.zs _ | exact lend_whole rfl (by first | (simp; done) | (rw [List.length_map]; rfl)) | refine Lend.ptr rfl ?_ | refine Lend.fn ?_ | exact LendL.nil | refine LendL.cons ?_ ?_)) rfl rfl ?_)
 refine ax_q (q_mov rfl) ?_
 refine ax_nil ?_
 refine cx_keep rfl rfl ?_
 refine cx_cond rfl (fun h0 => ?_) (fun h0 => ?_)
 ·
  have h0 : letB c = true := h0
  refine cx_block ?_
  refine cx_wk (wk_le (st' := ⟨[(3, int 1), (0, str t)], []⟩) (by repeat (first | exact trivial | refine ⟨rfl, ?_⟩ | refine ⟨?_, ?_⟩))) ?_
  refine cx_loopU (fun n m => m ≤ t.length ∧ n = t.length - m ∧ wn wordB (t.drop 1) + 1 = m + wn wordB (t.drop m)) (fun m : Nat => [(3, int m)]) (fun _ => []) ⟨_, 1, ⟨by omega, rfl, by omega⟩, by repeat (first | exact trivial | refine ⟨rfl, ?_⟩ | refine ⟨?_, ?_⟩)⟩ ?_
  rintro n m ⟨hm0, rfl, hw⟩
  refine cx_seq ?_
  refine cx_seq ?_
  refine cx_ops ?_
  refine ax_q (q_mov rfl) ?_
  refine ax_q (q_mov rfl) ?_
  refine ax_q (q_lenT rfl) ?_
  refine ax_q (q_ibin rfl rfl rfl) ?_
  refine ax_q (q_mov rfl) ?_
  apply ax_and rfl rfl
  ·
   intro g
   have g := dT g
   have hm : m < t.length := by omega
   refine ax_q (q_mov rfl) ?_
   refine ax_q (q_mov rfl) ?_
   refine ax_qe (r' := .d (.int .u8 ((t.getD m 0).toNat : Int))) (q_idxN rfl rfl hm) (getD_get hm) ?_
   first | refine ax_call rfl (vc_pure0 (c_isLetter (b := t.getD m 0) ) hP rfl rfl ?_) | refine ax_call rfl (vc_lend0 (c_isLetter (b := t.getD m 0) ) hP (by repeat (first | exact lal_id _ rfl | exact LAL.nil | refine LAL.cons ?_ ?_ | exact la_id _ rfl | exact LA.lend (lend_whole rfl (by first | (simp; done) | (rw [List.length_map]; rfl))) | refine LA.agg ?_ | refine LA.fn ?_ | refine LA.lend ?_ | exact Lend.d _ | exact Lend.zs _ | exact lend_whole rfl (by first | (simp; done) | (rw [List.length_map]; rfl)) | refine Lend.ptr rfl ?_ | refine Lend.fn ?_ | exact LendL.nil | refine LendL.cons ?_ ?_)) rfl rfl ?_)
   refine ax_q (q_mov rfl) ?_
   apply ax_or rfl rfl
   ·
    intro g
    refine ax_q (q_mov rfl) ?_
    refine ax_q (q_mov rfl) ?_
    refine ax_qe (r' := .d (.int .u8 ((t.getD m 0).toNat : Int))) (q_idxN rfl rfl hm) (getD_get hm) ?_
    first | refine ax_call rfl (vc_pure0 (c_isDigit (b := t.getD m 0) ) hP rfl rfl ?_) | refine ax_call rfl (vc_lend0 (c_isDigit (b := t.getD m 0) ) hP (by repeat (first | exact lal_id _ rfl | exact LAL.nil | refine LAL.cons ?_ ?_ | exact la_id _ rfl | exact LA.lend (lend_whole rfl (by first | (simp; done) | (rw [List.length_map]; rfl))) | refine LA.agg ?_ | refine LA.fn ?_ | refine LA.lend ?_ | exact Lend.d _ | exact Lend.zs _ | exact lend_whole rfl (by first | (simp; done) | (rw [List.length_map]; rfl)) | refine Lend.ptr rfl ?_ | refine Lend.fn ?_ | exact LendL.nil | refine LendL.cons ?_ ?_)) rfl rfl ?_)
    exact ax_nil ⟨rfl, by repeat (first | exact trivial | refine ⟨rfl, ?_⟩ | refine ⟨?_, ?_⟩)⟩
   exact ax_nil ⟨rfl, by repeat (first | exact trivial | refine ⟨rfl, ?_⟩ | refine ⟨?_, ?_⟩)⟩
  refine ax_nil ?_
  refine cx_keep rfl rfl ?_
  refine cx_cond rfl (fun h1 => ?_) (fun h1 => ?_)
  ·
   have h1 := (fun h => And.intro (dT (and_T h).1) ((fun h => (or_T h).imp id id) (and_T h).2)) h1
   have hm : m < t.length := by omega
   have hy : wordB (t.getD m 0) = true := word_yes h1.2
   refine cx_skip ?_
   refine cx_keep rfl rfl ?_
   refine cx_block ?_
   refine cx_ops ?_
   refine ax_q (q_mov rfl) ?_
   refine ax_qe (r' := int ((m + 1 : Nat) : Int)) (q_ibin rfl rfl rfl) (by rw [wi (by omega) (by omega)]; rfl) ?_
   refine ax_q (q_mov rfl) ?_
   refine ax_nil ?_
   exact ⟨_, m + 1, by omega, ⟨by omega, rfl, by rw [hw, wn_yes hm hy]; omega⟩, by repeat (first | exact trivial | refine ⟨rfl, ?_⟩ | refine ⟨?_, ?_⟩)⟩
  ·
   have h1 := (fun h => (and_F h).imp dF (fun h => And.intro (id (or_F h).1) (id (or_F h).2))) h1
   rw [wn_noW h1, hr] at hw
   have hk : tokF t = m := by rw [ht, tok_1 h0]; omega
   refine cx_exit rfl ?_
   refine cx_keep rfl rfl ?_
   refine cx_seq ?_
   refine cx_ops ?_
   refine ax_q (q_mov rfl) ?_
   refine ax_q (q_mov rfl) ?_
   refine ax_nil ?_
   refine cx_keep rfl rfl ?_
   refine cx_ret (ret0 rfl rfl ?_)
   exact ⟨by rw [hk]; rfl, rfl⟩
 ·
  have h0 : letB c = false := h0
  refine cx_seq ?_
  refine cx_ops ?_
  refine ax_q (q_mov rfl) ?_
  first | refine ax_call rfl (vc_pure0 (c_isDigit (b := c) ) hP rfl rfl ?_) | refine ax_call rfl (vc_lend0 (c_isDigit (b := c) ) hP (by repeat (first | exact lal_id _ rfl | exact LAL.nil | refine LAL.cons ?_ ?_ | exact la_id _ rfl | exact LA.lend (lend_whole rfl (by first | (simp; done) | (rw [List.length_map]; rfl))) | refine LA.agg ?_ | refine LA.fn ?_ | refine LA.lend ?_ | exact Lend.d _ | exact Lend.zs _ | exact lend_whole rfl (by first | (simp; done) | (rw [List.length_map]; rfl)) | refine Lend.ptr rfl ?_ | refine Lend.fn ?_ | exact LendL.nil | refine LendL.cons ?_ ?_)) rfl rfl ?_)
  refine ax_q (q_mov rfl) ?_
  refine ax_nil ?_
  refine cx_keep rfl rfl ?_
  refine cx_cond rfl (fun h2 => ?_) (fun h2 => ?_)
  ·
   have h2 : digB c = true := h2
   refine cx_block ?_
   refine cx_wk (wk_le (st' := ⟨[(3, int 1), (0, str t)], []⟩) (by repeat (first | exact trivial | refine ⟨rfl, ?_⟩ | refine ⟨?_, ?_⟩))) ?_
   refine cx_loopU (fun n m => m ≤ t.length ∧ n = t.length - m ∧ wn digB (t.drop 1) + 1 = m + wn digB (t.drop m)) (fun m : Nat => [(3, int m)]) (fun _ => []) ⟨_, 1, ⟨by omega, rfl, by omega⟩, by repeat (first | exact trivial | refine ⟨rfl, ?_⟩ | refine ⟨?_, ?_⟩)⟩ ?_
   rintro n m ⟨hm0, rfl, hw⟩
   refine cx_seq ?_
   refine cx_seq ?_
   refine cx_ops ?_
   refine ax_q (q_mov rfl) ?_
   refine ax_q (q_mov rfl) ?_
   refine ax_q (q_lenT rfl) ?_
   refine ax_q (q_ibin rfl rfl rfl) ?_
   refine ax_q (q_mov rfl) ?_
   apply ax_and rfl rfl
   ·
    intro g
    have g := dT g
    have hm : m < t.length := by omega
    refine ax_q (q_mov rfl) ?_
    refine ax_q (q_mov rfl) ?_
    refine ax_qe (r' := .d (.int .u8 ((t.getD m 0).toNat : Int))) (q_idxN rfl rfl hm) (getD_get hm) ?_
    first | refine ax_call rfl (vc_pure0 (c_isDigit (b := t.getD m 0) ) hP rfl rfl ?_) | refine ax_call rfl (vc_lend0 (c_isDigit (b := t.getD m 0) ) hP (by repeat (first | exact lal_id _ rfl | exact LAL.nil | refine LAL.cons ?_ ?_ | exact la_id _ rfl | exact LA.lend (lend_whole rfl (by first | (simp; done) | (rw [List.length_map]; rfl))) | refine LA.agg ?_ | refine LA.fn ?_ | refine LA.lend ?_ | exact Lend.d _ | exact Lend.zs _ | exact lend_whole rfl (by first | (simp; done) | (rw [List.length_map]; rfl)) | refine Lend.ptr rfl ?_ | refine Lend.fn ?_ | exact LendL.nil | refine LendL.cons ?_ ?_)) rfl rfl ?_)
    exact ax_nil ⟨rfl, by repeat (first | exact trivial | refine ⟨rfl, ?_⟩ | refine ⟨?_, ?_⟩)⟩
   refine ax_nil ?_
   refine cx_keep rfl rfl ?_
   refine cx_cond rfl (fun h3 => ?_) (fun h3 => ?_)
   ·
    have h3 := (fun h => And.intro (dT (and_T h).1) (id (and_T h).2)) h3
    have hm : m < t.length := by omega
    have hy : digB (t.getD m 0) = true := h3.2
    refine cx_skip ?_
    refine cx_keep rfl rfl ?_
    refine cx_block ?_
    refine cx_ops ?_
    refine ax_q (q_mov rfl) ?_
    refine ax_qe (r' := int ((m + 1 : Nat) : Int)) (q_ibin rfl rfl rfl) (by rw [wi (by omega) (by omega)]; rfl) ?_
    refine ax_q (q_mov rfl) ?_
    refine ax_nil ?_
    exact ⟨_, m + 1, by omega, ⟨by omega, rfl, by rw [hw, wn_yes hm hy]; omega⟩, by repeat (first | exact trivial | refine ⟨rfl, ?_⟩ | refine ⟨?_, ?_⟩)⟩
   ·
    have h3 := (fun h => (and_F h).imp dF id) h3
    rw [wn_noI (p := digB) h3, hr] at hw
    have hk : tokF t = m := by rw [ht, tok_2 h0 h2]; omega
    refine cx_exit rfl ?_
    refine cx_keep rfl rfl ?_
    refine cx_seq ?_
    refine cx_ops ?_
    refine ax_q (q_mov rfl) ?_
    refine ax_q (q_mov rfl) ?_
    refine ax_nil ?_
    refine cx_keep rfl rfl ?_
    refine cx_ret (ret0 rfl rfl ?_)
    exact ⟨by rw [hk]; rfl, rfl⟩
  ·
   have h2 : digB c = false := h2
   refine cx_seq ?_
   refine cx_ops ?_
   refine ax_q (q_mov rfl) ?_
   refine ax_q (q_ibin rfl rfl rfl) ?_
   refine ax_q (q_mov rfl) ?_
   refine ax_nil ?_
   refine cx_keep rfl rfl ?_
   refine cx_cond rfl (fun h4 => ?_) (fun h4 => ?_)
   ·
    have h4 := dT h4
    have hc : c = 39 := (u8_int (n := 39) (by decide)).1 h4
    refine cx_seq ?_
    refine cx_block ?_
    refine cx_wk (wk_le (st' := ⟨[(3, int 1), (0, str t)], []⟩) (by repeat (first | exact trivial | refine ⟨rfl, ?_⟩ | refine ⟨?_, ?_⟩))) ?_
    refine cx_loopU (fun n m => m ≤ t.length ∧ n = t.length - m ∧ wn letB (t.drop 1) + 1 = m + wn letB (t.drop m)) (fun m : Nat => [(3, int m)]) (fun _ => []) ⟨_, 1, ⟨by omega, rfl, by omega⟩, by repeat (first | exact trivial | refine ⟨rfl, ?_⟩ | refine ⟨?_, ?_⟩)⟩ ?_
    rintro n m ⟨hm0, rfl, hw⟩
    refine cx_seq ?_
    refine cx_seq ?_
    refine cx_ops ?_
    refine ax_q (q_mov rfl) ?_
    refine ax_q (q_mov rfl) ?_
    refine ax_q (q_lenT rfl) ?_
    refine ax_q (q_ibin rfl rfl rfl) ?_
    refine ax_q (q_mov rfl) ?_
    apply ax_and rfl rfl
    ·
     intro g
     have g := dT g
     have hm : m < t.length := by omega
     refine ax_q (q_mov rfl) ?_
     refine ax_q (q_mov rfl) ?_
     refine ax_qe (r' := .d (.int .u8 ((t.getD m 0).toNat : Int))) (q_idxN rfl rfl hm) (getD_get hm) ?_
     first | refine ax_call rfl (vc_pure0 (c_isLetter (b := t.getD m 0) ) hP rfl rfl ?_) | refine ax_call rfl (vc_lend0 (c_isLetter (b := t.getD m 0) ) hP (by repeat (first | exact lal_id _ rfl | exact LAL.nil | refine LAL.cons ?_ ?_ | exact la_id _ rfl | exact LA.lend (lend_whole rfl (by first | (simp; done) | (rw [List.length_map]; rfl))) | refine LA.agg ?_ | refine LA.fn ?_ | refine LA.lend ?_ | exact Lend.d _ | exact Lend.zs _ | exact lend_whole rfl (by first | (simp; done) | (rw [List.length_map]; rfl)) | refine Lend.ptr rfl ?_ | refine Lend.fn ?_ | exact LendL.nil | refine LendL.cons ?_ ?_)) rfl rfl ?_)
     exact ax_nil ⟨rfl, by repeat (first | exact trivial | refine ⟨rfl, ?_⟩ | refine ⟨?_, ?_⟩)⟩
    refine ax_nil ?_
    refine cx_keep rfl rfl ?_
    refine cx_cond rfl (fun h5 => ?_) (fun h5 => ?_)
    ·
     have h5 := (fun h => And.intro (dT (and_T h).1) (id (and_T h).2)) h5
     have hm : m < t.length := by omega
     have hy : letB (t.getD m 0) = true := h5.2
     refine cx_skip ?_
     refine cx_keep rfl rfl ?_
     refine cx_block ?_
     refine cx_ops ?_
     refine ax_q (q_mov rfl) ?_
     refine ax_qe (r' := int ((m + 1 : Nat) : Int)) (q_ibin rfl rfl rfl) (by rw [wi (by omega) (by omega)]; rfl) ?_
     refine ax_q (q_mov rfl) ?_
     refine ax_nil ?_
     exact ⟨_, m + 1, by omega, ⟨by omega, rfl, by rw [hw, wn_yes hm hy]; omega⟩, by repeat (first | exact trivial | refine ⟨rfl, ?_⟩ | refine ⟨?_, ?_⟩)⟩
    ·
     have h5 := (fun h => (and_F h).imp dF id) h5
     rw [wn_noI (p := letB) h5, hr] at hw
     refine cx_exit rfl ?_
     refine cx_keep rfl rfl ?_
     refine cx_seq ?_
     refine cx_seq ?_
     refine cx_ops ?_
     refine ax_q (q_mov rfl) ?_
     refine ax_q (q_mov rfl) ?_
     refine ax_q (q_lenT rfl) ?_
     refine ax_q (q_ibin rfl rfl rfl) ?_
     refine ax_q (q_mov rfl) ?_
     apply ax_or rfl rfl
     ·
      intro g
      have g := dF g
      have hm : m < t.length := by omega
      refine ax_q (q_mov rfl) ?_
      refine ax_q (q_mov rfl) ?_
      refine ax_qe (r' := .d (.int .u8 ((t.getD m 0).toNat : Int))) (q_idxN rfl rfl hm) (getD_get hm) ?_
      refine ax_q (q_ibin rfl rfl rfl) ?_
      exact ax_nil ⟨rfl, by repeat (first | exact trivial | refine ⟨rfl, ?_⟩ | refine ⟨?_, ?_⟩)⟩
     refine ax_nil ?_
     refine cx_keep rfl rfl ?_
     refine cx_cond rfl (fun h6 => ?_) (fun h6 => ?_)
     ·
      have h6 := (fun h => (or_T h).imp dT nT) h6
      have hq : ¬ r[wn letB r]? = some 39 := q39_no ht (by omega) h6
      refine cx_seq ?_
      refine cx_ops ?_
      refine ax_q (q_mov rfl) ?_
      refine ax_nil ?_
      refine cx_keep rfl rfl ?_
      refine cx_ret (ret0 rfl rfl ?_)
      exact ⟨by rw [ht, tok_4 h0 h2 hc hq]; rfl, rfl⟩
     ·
      have h6 := (fun h => And.intro (dF (or_F h).1) (nF (or_F h).2)) h6
      have hq : r[wn letB r]? = some 39 := q39_yes ht (by omega) (by omega) h6.2
      have hk : tokF t = m + 1 := by rw [ht, tok_3 h0 h2 hc hq]; omega
      refine cx_skip ?_
      refine cx_keep rfl rfl ?_
      refine cx_ops ?_
      refine ax_q (q_mov rfl) ?_
      refine ax_qe (r' := int ((m + 1 : Nat) : Int)) (q_ibin rfl rfl rfl) (by rw [wi (by omega) (by omega)]; rfl) ?_
      refine ax_q (q_mov rfl) ?_
      refine ax_nil ?_
      refine cx_keep rfl rfl ?_
      refine cx_seq ?_
      refine cx_ops ?_
      refine ax_q (q_mov rfl) ?_
      refine ax_q (q_mov rfl) ?_
      refine ax_nil ?_
      refine cx_keep rfl rfl ?_
      refine cx_ret (ret0 rfl rfl ?_)
      exact ⟨by rw [hk]; rfl, rfl⟩
   ·
    have h4 := dF h4
    have hc : ¬ c = 39 := fun e => h4 ((u8_int (n := 39) (by decide)).2 e)
    refine cx_seq ?_
    refine cx_ops ?_
    refine ax_q (q_mov rfl) ?_
    refine ax_qe (r' := str [c]) (q_slcT rfl rfl rfl (by omega) (by omega) (by omega)) (by simp [ht]) ?_
    first | refine ax_call rfl (vc_pure0 (c_Contains1 (s := [40, 41, 43, 45, 42, 47, 61, 60, 44]) (c := c) ) hP rfl rfl ?_) | refine ax_call rfl (vc_lend0 (c_Contains1 (s := [40, 41, 43, 45, 42, 47, 61, 60, 44]) (c := c) ) hP (by repeat (first | exact lal_id _ rfl | exact LAL.nil | refine LAL.cons ?_ ?_ | exact la_id _ rfl | exact LA.lend (lend_whole rfl (by first | (simp; done) | (rw [List.length_map]; rfl))) | refine LA.agg ?_ | refine LA.fn ?_ | refine LA.lend ?_ | exact Lend.d _ | exact Lend.zs _ | exact lend_whole rfl (by first | (simp; done) | (rw [List.length_map]; rfl)) | refine Lend.ptr rfl ?_ | refine Lend.fn ?_ | exact LendL.nil | refine LendL.cons ?_ ?_)) rfl rfl ?_)
    rw [idxB]
    refine ax_q (q_not rfl) ?_
    refine ax_q (q_mov rfl) ?_
    refine ax_nil ?_
    refine cx_keep rfl rfl ?_
    refine cx_cond rfl (fun h7 => ?_) (fun h7 => ?_)
    ·
     have h7 := bT h7
     refine cx_seq ?_
     refine cx_ops ?_
     refine ax_q (q_mov rfl) ?_
     refine ax_nil ?_
     refine cx_keep rfl rfl ?_
     refine cx_ret (ret0 rfl rfl ?_)
     exact ⟨by rw [ht, tok_6 h0 h2 hc h7]; rfl, rfl⟩
    ·
     have h7 := bF h7
     have hk : tokF t = 1 := by rw [ht, tok_5 h0 h2 hc h7]
     refine cx_skip ?_
     refine cx_keep rfl rfl ?_
     refine cx_seq ?_
     refine cx_ops ?_
     refine ax_q (q_mov rfl) ?_
     refine ax_q (q_mov rfl) ?_
     refine ax_nil ?_
     refine cx_keep rfl rfl ?_
     refine cx_ret (ret0 rfl rfl ?_)
     exact ⟨by rw [hk]; rfl, rfl⟩


/- loop.example/g00332/impl.lex -/
def k_c_lex : XCode :=
 .seq (.ops [.op (some 2) (.mov (.k (.nils 1))),
   .op (some 3) (.mov (.k (.int .i64 0)))])
 (.keep [0] (.seq (.ops [.op (some 6) (.bslice 1 []),
   .op (some 4) (.mov (.t 6))])
 (.keep [0, 4] (.seq (.block 0 (.loop (.seq (.seq (.ops [.op (some 7) (.mov (.t 0)),
     .op (some 8) (.bin .neq (.t 7) (.k (.str [])))])
   (.keep [0, 4, 8] (.cond (.t 8)
    (.skip)
    (.exit 0))))
   (.keep [0, 4] (.block 1 (.seq (.seq (.ops [.op (some 9) (.mov (.t 0)),
     .op (some 10) (.idxS (.t 9) (.k (.int .i64 0))),
     .op (some 11) (.bin .eql (.t 10) (.k (.int .u8 32)))])
    (.keep [0, 4, 11] (.cond (.t 11)
    (.seq (.ops [.op (some 12) (.mov (.t 0)),
      .op (some 13) (.slcT (.t 12) (some (.k (.int .i64 1))) none),
      .op (some 0) (.mov (.t 13))])
     (.keep [0, 4] (.exit 1)))
    (.skip))))
   (.keep [0, 4] (.seq (.ops [.op (some 14) (.mov (.t 0)),
     .call (some 15) 60 [.t 14],
     .op (some 5) (.mov (.t 15))])
   (.keep [0, 4, 5] (.seq (.block 2 (.seq (.ops [.op (some 17) (.mov (.t 5)),
      .op (some 18) (.bin .eql (.t 17) (.k (.int .i64 0))),
      .op (some 16) (.mov (.t 18))])
    (.keep [0, 4, 5, 16] (.cond (.t 16)
     (.seq (.ops [.op (some 2) (.mov (.k (.nils 1))),
       .op (some 3) (.mov (.k (.int .i64 3)))])
     (.keep [2, 3] (.ret)))
     (.seq (.ops [.op (some 20) (.mov (.t 4)),
       .op (some 21) (.lenS (.t 20)),
       .op (some 22) (.bin .eql (.t 21) (.k (.int .i64 500))),
       .op (some 19) (.mov (.t 22))])
     (.keep [0, 4, 5, 19] (.cond (.t 19)
      (.seq (.ops [.op (some 2) (.mov (.k (.nils 1))),
        .op (some 3) (.mov (.k (.int .i64 6)))])
      (.keep [2, 3] (.ret)))
      (.skip))))))))
   (.keep [0, 4, 5] (.drawE [[], [], [], [1, 2], [1, 2, 3], [0, 1, 2, 3, 4], [], [], [6, 7], [0, 1, 2, 3, 4, 5], [0, 1, 2, 3, 4, 5, 6, 7, 8, 9]] [.op (some 23) (.mov (.t 4)),
    .op (some 24) (.mov (.t 0)),
    .op (some 25) (.mov (.t 5)),
    .op (some 26) (.slcT (.t 24) none (some (.t 25))),
    .op (some 27) (.bslice 1 [.t 26]),
    .op (some 28) (.app 1 16 [.str []] (.t 23) (.t 27)),
    .op (some 29) (.mov (.t 0)),
    .op (some 30) (.mov (.t 5)),
    .op (some 31) (.slcT (.t 29) (some (.t 30)) none),
    .op (some 4) (.mov (.t 28))]
    [.op (some 0) (.mov (.t 31))]))))))))))))
 (.keep [4] (.seq (.ops [.op (some 32) (.mov (.t 4)),
   .op (some 2) (.mov (.t 32)),
   .op (some 3) (.mov (.k (.int .i64 0)))])
 (.keep [2, 3] (.ret))))))))
theorem k_c_lex_fits : fitsF Tryz.prog 32 ⟨33, k_c_lex, [.t 2, .t 3]⟩ = true := by kernel_rfl
set_option maxHeartbeats 4000000 in
theorem c_lex {t : Str} {ts : List Str} (hl : t.length ≤ 65536) (h : lexF (t.length + 1) t = some ts) (hn : ts.length ≤ 500) : Con Tryz.prog noMv 32 [str t] [] (fun r h => r = .tup [.osl 0 1 0 ts.length, int 0] ∧ h = [(0, .rows 1 (ts.map strRow))]) := by
 refine con_of2 k_c_lex_fits rfl fun C hP hmv => ?_
 unfold k_c_lex
 refine cx_seq ?_
 refine cx_ops ?_
 refine ax_q (q_mov rfl) ?_
 refine ax_q (q_mov rfl) ?_
 refine ax_nil ?_
 refine cx_keep rfl rfl ?_
 refine cx_seq ?_
 refine cx_ops ?_
 refine ax_e (e_bslice rfl (by decide) rfl rfl) ?_
 refine ax_q (q_mov rfl) ?_
 refine ax_nil ?_
 refine cx_keep rfl rfl ?_
 refine cx_seq ?_
 refine cx_block ?_
 refine cx_loopU (fun n (p : Str × List Str) => n = p.1.length ∧ p.1.length ≤ 65536 ∧ ∃ f rest, lexF f p.1 = some rest ∧ p.2 ++ rest = ts) (fun p => [(0, str p.1), (4, .osl 6 1 0 p.2.length)]) (fun p => [(6, .rows 1 (p.2.map strRow))]) ⟨_, (t, []), ⟨rfl, hl, _, ts, h, rfl⟩, by repeat (first | exact trivial | refine ⟨rfl, ?_⟩ | refine ⟨?_, ?_⟩)⟩ ?_
 rintro n ⟨u, out⟩ ⟨rfl, hul, f, rest, hf, hts⟩
 simp only at hul hf hts ⊢
 refine cx_seq ?_
 refine cx_seq ?_
 refine cx_ops ?_
 refine ax_q (q_mov rfl) ?_
 refine ax_q (q_sbin rfl rfl rfl) ?_
 refine ax_nil ?_
 refine cx_keep rfl rfl ?_
 refine cx_cond rfl (fun h0 => ?_) (fun h0 => ?_)
 ·
  have h0 := nT h0
  obtain ⟨c, r, hu⟩ : ∃ c r, u = c :: r := List.exists_cons_of_ne_nil h0
  obtain ⟨g, rfl⟩ := lexF_pos hf
  have hp : 0 < u.length := by rw [hu, List.length_cons]; omega
  rw [hu] at hf
  refine cx_skip ?_
  refine cx_keep rfl rfl ?_
  refine cx_block ?_
  refine cx_seq ?_
  refine cx_seq ?_
  refine cx_ops ?_
  refine ax_q (q_mov rfl) ?_
  refine ax_qe (r' := .d (.int .u8 (c.toNat : Int))) (q_idxN (n := 0) rfl rfl hp) (by simp [hu]) ?_
  refine ax_q (q_ibin rfl rfl rfl) ?_
  refine ax_nil ?_
  refine cx_keep rfl rfl ?_
  refine cx_cond rfl (fun h1 => ?_) (fun h1 => ?_)
  ·
   have h1 := dT h1
   have hc : c = 32 := (u8_int (n := 32) (by decide)).1 h1
   refine cx_seq ?_
   refine cx_ops ?_
   refine ax_q (q_mov rfl) ?_
   refine ax_qe (r' := str r) (q_slcT rfl rfl rfl (by omega) (by omega) (by omega)) (by simp [hu]) ?_
   refine ax_q (q_mov rfl) ?_
   refine ax_nil ?_
   refine cx_keep rfl rfl ?_
   refine cx_exit rfl ?_
   exact ⟨_, (r, out), by simp only; rw [hu, List.length_cons]; omega, ⟨rfl, by simp only; rw [hu, List.length_cons] at hul; omega, g, rest, lexF_sp hf hc, hts⟩, by repeat (first | exact trivial | refine ⟨rfl, ?_⟩ | refine ⟨?_, ?_⟩)⟩
  ·
   have h1 := dF h1
   have hc : ¬ c = 32 := fun e => h1 ((u8_int (n := 32) (by decide)).2 e)
   obtain ⟨hk0, rest', hr', hrest⟩ := lexF_tok hf hc
   rw [← hu] at hk0 hr' hrest
   have hkl := tokF_le (t := u)
   have hlen : out.length + 1 + rest'.length = ts.length := by rw [← hts, hrest, List.length_append, List.length_cons]; omega
   refine cx_skip ?_
   refine cx_keep rfl rfl ?_
   refine cx_seq ?_
   refine cx_ops ?_
   refine ax_q (q_mov rfl) ?_
   first | refine ax_call rfl (vc_pure0 (c_tokenAt (t := u) ?_ ?_) hP rfl rfl ?_) | refine ax_call rfl (vc_lend0 (c_tokenAt (t := u) ?_ ?_) hP (by repeat (first | exact lal_id _ rfl | exact LAL.nil | refine LAL.cons ?_ ?_ | exact la_id _ rfl | exact LA.lend (lend_whole rfl (by first | (simp; done) | (rw [List.length_map]; rfl))) | refine LA.agg ?_ | refine LA.fn ?_ | refine LA.lend ?_ | exact Lend.d _ | exact Lend.zs _ | exact lend_whole rfl (by first | (simp; done) | (rw [List.length_map]; rfl)) | refine Lend.ptr rfl ?_ | refine Lend.fn ?_ | exact LendL.nil | refine LendL.cons ?_ ?_)) rfl rfl ?_)
   ·
    first | assumption | omega | (simp; done) | (simp; omega)
   ·
    first | assumption | omega | (simp; done) | (simp; omega)
   refine ax_q (q_mov rfl) ?_
   refine ax_nil ?_
   refine cx_keep rfl rfl ?_
   refine cx_seq ?_
   refine cx_block ?_
   refine cx_seq ?_
   refine cx_ops ?_
   refine ax_q (q_mov rfl) ?_
   refine ax_q (q_ibin rfl rfl rfl) ?_
   refine ax_q (q_mov rfl) ?_
   refine ax_nil ?_
   refine cx_keep rfl rfl ?_
   refine cx_cond rfl (fun h2 => ?_) (fun h2 => ?_)
   ·
    have h2 := dT h2
    exfalso; omega
   ·
    have h2 := dF h2
    refine cx_seq ?_
    refine cx_ops ?_
    refine ax_q (q_mov rfl) ?_
    first | refine ax_q (q_lenS_map rfl) ?_ | refine ax_q (q_lenS_osl rfl) ?_ | refine ax_q (q_lenS_zs rfl) ?_ | refine ax_q (q_lenS rfl) ?_
    refine ax_q (q_ibin rfl rfl rfl) ?_
    refine ax_q (q_mov rfl) ?_
    refine ax_nil ?_
    refine cx_keep rfl rfl ?_
    refine cx_cond rfl (fun h3 => ?_) (fun h3 => ?_)
    ·
     have h3 := dT h3
     exfalso; omega
    ·
     have h3 := dF h3
     refine cx_skip ?_
     refine cx_keep rfl rfl ?_
     refine cx_drawW 5 28 9 4 5001 (Nat.beq 6) (nrA 6) [] ([(6, .rows 1 ((out ++ [u.take (tokF u)]).map strRow))]) [[4], [0], [5], [24, 25], [26], [23, 27], [0], [5], [29, 30], [28]] [[], [], [], [], [], [6], [6], [6], [6], [6]] rfl rfl rfl ?_
     first | refine ⟨_, .inr ⟨rfl, _, rfl, .inl rfl, loc_q (q_mov rfl)⟩, ?_⟩
     first | refine ⟨_, .inr ⟨rfl, _, rfl, .inl rfl, loc_q (q_mov rfl)⟩, ?_⟩
     first | refine ⟨_, .inr ⟨rfl, _, rfl, .inl rfl, loc_q (q_mov rfl)⟩, ?_⟩
     first | refine ⟨_, .inr ⟨rfl, _, rfl, .inl rfl, loc_qe (r' := str (u.take (tokF u))) (q_slcT rfl rfl rfl (by omega) (by omega) (by omega)) (sT_take (by omega))⟩, ?_⟩
     first | refine ⟨_, .inr ⟨rfl, _, rfl, .inl rfl, loc_bslice rfl⟩, ?_⟩
     refine ⟨⟨28, _, []⟩, .inl ⟨rfl, rfl, rfl, locl_app (n' := (out ++ [u.take (tokF u)]).length) (rs' := (out ++ [u.take (tokF u)]).map strRow) rfl rfl (by simp) rfl (fun _ _ h => src_osl (h _ _ rfl) (by simp)) (.inl (by decide)) (hbnd (by omega) (by simp) (by decide)) (by simp) (app1 rfl)⟩, ?_⟩
     first | refine ⟨_, .inr ⟨rfl, _, rfl, .inr ⟨rfl, rfl, .inr rfl, rfl, rfl⟩, loc_q (q_mov rfl)⟩, ?_⟩
     first | refine ⟨_, .inr ⟨rfl, _, rfl, .inr ⟨rfl, rfl, .inr rfl, rfl, rfl⟩, loc_q (q_mov rfl)⟩, ?_⟩
     first | refine ⟨_, .inr ⟨rfl, _, rfl, .inr ⟨rfl, rfl, .inr rfl, rfl, rfl⟩, loc_qe (r' := str (u.drop (tokF u))) (q_slcT rfl rfl rfl (by omega) (by omega) (by omega)) (sT_drop (by omega))⟩, ?_⟩
     first | refine ⟨_, .inr ⟨rfl, _, rfl, .inr ⟨rfl, rfl, .inl rfl, rfl, rfl⟩, loc_q (q_mov rfl)⟩, ?_⟩
     refine ⟨rfl, ?_⟩
     refine ax_q (q_mov rfl) ?_
     refine ax_nil ?_
     exact ⟨_, (u.drop (tokF u), out ++ [u.take (tokF u)]), by simp only; rw [List.length_drop]; omega, ⟨rfl, by simp only; rw [List.length_drop]; omega, g, rest', hr', by simp only; rw [← hts, hrest, List.append_assoc]; rfl⟩, by repeat (first | exact trivial | refine ⟨rfl, ?_⟩ | refine ⟨?_, ?_⟩)⟩
 ·
  have h0 := nF h0
  obtain ⟨g, rfl⟩ := lexF_pos hf
  rw [h0] at hf
  obtain rfl := lexF_nil hf
  rw [List.append_nil] at hts
  subst hts
  refine cx_exit rfl ?_
  refine cx_keep rfl rfl ?_
  refine cx_seq ?_
  refine cx_ops ?_
  refine ax_q (q_mov rfl) ?_
  refine ax_q (q_mov rfl) ?_
  refine ax_q (q_mov rfl) ?_
  refine ax_nil ?_
  refine cx_keep rfl rfl ?_
  refine cx_ret (retN (fun _ => 0) [6] rfl rfl rfl rfl rfl ?_)
  exact ⟨rfl, rfl⟩


/- loop.example/g00332/impl.LexSql -/
def k_c_LexSql : XCode :=
 .seq (.ops [.op (some 2) (.mov (.k (.nils 1))),
   .op (some 3) (.mov (.k (.int .i64 0)))])
 (.keep [0] (.seq (.seq (.ops [.op (some 4) (.mov (.t 0)),
   .op (some 5) (.bslice 1 [.t 4]),
   .call (some 6) 31 [.t 5]])
  (.keep [0, 6] (.cond (.t 6)
  (.seq (.ops [.op (some 2) (.mov (.k (.nils 1))),
    .op (some 3) (.mov (.k (.int .i64 2)))])
   (.keep [2, 3] (.ret)))
  (.skip))))
 (.keep [0] (.seq (.ops [.op (some 7) (.mov (.t 0)),
   .call (some 8) 32 [.t 7],
   .op (some 9) (.ext (.t 8) 0),
   .op (some 10) (.ext (.t 8) 1),
   .op (some 2) (.mov (.t 9)),
   .op (some 3) (.mov (.t 10))])
 (.keep [2, 3] (.ret))))))
theorem k_c_LexSql_fits : fitsF Tryz.prog 10 ⟨11, k_c_LexSql, [.t 2, .t 3]⟩ = true := by kernel_rfl
theorem c_LexSql {t : Str} {ts : List Str} (hl : t.length ≤ 65536) (h : lexF (t.length + 1) t = some ts) (hn : ts.length ≤ 500) : Con Tryz.prog noMv 10 [str t] [] (fun r h => r = .tup [.osl 0 1 0 ts.length, int 0] ∧ h = [(0, .rows 1 (ts.map strRow))]) := by
 refine con_of2 k_c_LexSql_fits rfl fun C hP hmv => ?_
 unfold k_c_LexSql
 refine cx_seq ?_
 refine cx_ops ?_
 refine ax_q (q_mov rfl) ?_
 refine ax_q (q_mov rfl) ?_
 refine ax_nil ?_
 refine cx_keep rfl rfl ?_
 refine cx_seq ?_
 refine cx_seq ?_
 refine cx_ops ?_
 refine ax_q (q_mov rfl) ?_
 refine ax_e (e_bsliceD (rows := [strRow t]) rfl) ?_
 first | refine ax_call rfl (vc_pure0 (c_isLong (t := t) ) hP rfl rfl ?_) | refine ax_call rfl (vc_lend0 (c_isLong (t := t) ) hP (by repeat (first | exact lal_id _ rfl | exact LAL.nil | refine LAL.cons ?_ ?_ | exact la_id _ rfl | exact LA.lend (lend_whole rfl (by first | (simp; done) | (rw [List.length_map]; rfl))) | refine LA.agg ?_ | refine LA.fn ?_ | refine LA.lend ?_ | exact Lend.d _ | exact Lend.zs _ | exact lend_whole rfl (by first | (simp; done) | (rw [List.length_map]; rfl)) | refine Lend.ptr rfl ?_ | refine Lend.fn ?_ | exact LendL.nil | refine LendL.cons ?_ ?_)) rfl rfl ?_)
 refine ax_nil ?_
 refine cx_keep rfl rfl ?_
 refine cx_cond rfl (fun h0 => ?_) (fun h0 => ?_)
 ·
  skip
  exfalso
  have := of_decide_eq_true h0
  omega
 ·
  skip
  refine cx_skip ?_
  refine cx_keep rfl rfl ?_
  refine cx_seq ?_
  refine cx_ops ?_
  refine ax_q (q_mov rfl) ?_
  first | refine ax_call rfl (vc_pure (c_lex (t := t) (ts := ts) ?_ ?_ ?_) hP rfl ?_) | refine ax_call rfl (vc_lend (c_lex (t := t) (ts := ts) ?_ ?_ ?_) hP (by repeat (first | exact lal_id _ rfl | exact LAL.nil | refine LAL.cons ?_ ?_ | exact la_id _ rfl | exact LA.lend (lend_whole rfl (by first | (simp; done) | (rw [List.length_map]; rfl))) | refine LA.agg ?_ | refine LA.fn ?_ | refine LA.lend ?_ | exact Lend.d _ | exact Lend.zs _ | exact lend_whole rfl (by first | (simp; done) | (rw [List.length_map]; rfl)) | refine Lend.ptr rfl ?_ | refine Lend.fn ?_ | exact LendL.nil | refine LendL.cons ?_ ?_)) ?_)
  ·
   first | assumption | omega | (simp; done) | (simp; omega)
  ·
   first | assumption | omega | (simp; done) | (simp; omega)
  ·
   first | assumption | omega | (simp; done) | (simp; omega)
  rintro r h ⟨rfl, rfl⟩
  refine ⟨fun i => 8 + 200 * i, [0], ⟨rfl, rfl, rfl, rfl, rfl, (by first | exact (fun h => absurd h Bool.false_ne_true) | exact (fun _ => ⟨rfl, (noisl_of (by repeat (first | exact trivial | refine ⟨noisl_map (fun _ => rfl), ?_⟩ | refine ⟨?_, ?_⟩)))⟩))⟩, ?_⟩
  skip
  refine ax_q (q_ext rfl rfl) ?_
  refine ax_q (q_ext rfl rfl) ?_
  refine ax_q (q_mov rfl) ?_
  refine ax_q (q_mov rfl) ?_
  refine ax_nil ?_
  refine cx_keep rfl rfl ?_
  refine cx_ret (retN (fun _ => 0) [8] rfl rfl rfl rfl rfl ?_)
  exact ⟨rfl, rfl⟩


/- loop.example/g00332/impl.inRange -/
def k_c_inRange : XCode :=
 .seq (.ops [.op (some 6) (.mov (.k (.bool false)))])
 (.keep [0, 1, 2] (.seq (.ops [.op (some 7) (.mov (.t 1)),
   .op (some 8) (.mov (.t 0)),
   .op (some 9) (.bin .leq (.t 7) (.t 8)),
   .op (some 10) (.mov (.t 9)),
   .andor 14 true 3 10 [.op (some 11) (.mov (.t 0)), .op (some 12) (.mov (.t 2)), .op (some 13) (.bin .leq (.t 11) (.t 12))] (.t 13),
   .op (some 6) (.mov (.t 14))])
 (.keep [6] (.ret))))
theorem k_c_inRange_fits : fitsF Tryz.prog 34 ⟨15, k_c_inRange, [.t 6]⟩ = true := by kernel_rfl
theorem c_inRange {n lo hi : Int} : Con Tryz.prog noMv 34 [int n, int lo, int hi] [] (fun r h => r = bool (inR n lo hi) ∧ h = []) := by
 refine con_of2 k_c_inRange_fits rfl fun C hP hmv => ?_
 unfold k_c_inRange
 refine cx_seq ?_
 refine cx_ops ?_
 refine ax_q (q_mov rfl) ?_
 refine ax_nil ?_
 refine cx_keep rfl rfl ?_
 refine cx_seq ?_
 refine cx_ops ?_
 refine ax_q (q_mov rfl) ?_
 refine ax_q (q_mov rfl) ?_
 refine ax_q (q_ibin rfl rfl rfl) ?_
 refine ax_q (q_mov rfl) ?_
 apply ax_and rfl rfl
 ·
  intro g
  have g := dT g
  refine ax_q (q_mov rfl) ?_
  refine ax_q (q_mov rfl) ?_
  refine ax_q (q_ibin rfl rfl rfl) ?_
  exact ax_nil ⟨rfl, by repeat (first | exact trivial | refine ⟨rfl, ?_⟩ | refine ⟨?_, ?_⟩)⟩
 refine ax_q (q_mov rfl) ?_
 refine ax_nil ?_
 refine cx_keep rfl rfl ?_
 refine cx_ret (ret0 rfl rfl ?_)
 exact ⟨rfl, rfl⟩


/- loop.example/g00332/impl.isPlace -/
def k_c_isPlace : XCode :=
 .seq (.ops [.op (some 4) (.mov (.k (.bool false)))])
 (.keep [0, 1] (.seq (.ops [.op (some 5) (.mov (.t 0)),
   .op (some 6) (.mov (.t 1)),
   .op (some 7) (.bin .sub (.t 6) (.k (.int .i64 1))),
   .call (some 8) 34 [.t 5, .k (.int .i64 0), .t 7],
   .op (some 4) (.mov (.t 8))])
 (.keep [4] (.ret))))
theorem k_c_isPlace_fits : fitsF Tryz.prog 45 ⟨9, k_c_isPlace, [.t 4]⟩ = true := by kernel_rfl
theorem c_isPlace {n k : Int} (hk : 0 ≤ k ∧ k ≤ 1048576) : Con Tryz.prog noMv 45 [int n, int k] [] (fun r h => r = bool (inR n 0 (k - 1)) ∧ h = []) := by
 refine con_of2 k_c_isPlace_fits rfl fun C hP hmv => ?_
 unfold k_c_isPlace
 refine cx_seq ?_
 refine cx_ops ?_
 refine ax_q (q_mov rfl) ?_
 refine ax_nil ?_
 refine cx_keep rfl rfl ?_
 refine cx_seq ?_
 refine cx_ops ?_
 refine ax_q (q_mov rfl) ?_
 refine ax_q (q_mov rfl) ?_
 refine ax_q (q_sub rfl rfl (by omega)) ?_
 first | refine ax_call rfl (vc_pure0 (c_inRange  ) hP rfl rfl ?_) | refine ax_call rfl (vc_lend0 (c_inRange  ) hP (by repeat (first | exact lal_id _ rfl | exact LAL.nil | refine LAL.cons ?_ ?_ | exact la_id _ rfl | exact LA.lend (lend_whole rfl (by first | (simp; done) | (rw [List.length_map]; rfl))) | refine LA.agg ?_ | refine LA.fn ?_ | refine LA.lend ?_ | exact Lend.d _ | exact Lend.zs _ | exact lend_whole rfl (by first | (simp; done) | (rw [List.length_map]; rfl)) | refine Lend.ptr rfl ?_ | refine Lend.fn ?_ | exact LendL.nil | refine LendL.cons ?_ ?_)) rfl rfl ?_)
 refine ax_q (q_mov rfl) ?_
 refine ax_nil ?_
 refine cx_keep rfl rfl ?_
 refine cx_ret (ret0 rfl rfl ?_)
 exact ⟨rfl, rfl⟩


/- loop.example/g00332/impl.depthOf$1 -/
def k_c_depthOf1 : XCode :=
 .seq (.ops [.op (some 3) (.mov (.k (.int .i64 0))),
   .op (some 4) (.mov (.k (.bool false)))])
 (.keep [0, 1] (.seq (.ops [.op (some 7) (.load1 (.t 1)),
   .op (some 8) (.lenS (.t 7)),
   .op (some 9) (.bin .sub (.t 8) (.k (.int .i64 1))),
   .op (some 5) (.mov (.t 9))])
 (.keep [0, 1, 5] (.seq (.seq (.ops [.op (some 10) (.mov (.t 5)),
   .op (some 11) (.bin .lss (.t 10) (.k (.int .i64 0))),
   .op (some 12) (.mov (.t 11)),
   .andor 20 false 2 12 [.op (some 13) (.load1 (.t 1)), .op (some 14) (.mov (.t 5)), .op (some 15) (.iadr 2 (.t 13) (.t 14)), .op (some 16) (.fadr (.t 15) 0), .op (some 17) (.load1 (.t 16)), .op (some 18) (.mov (.t 0)), .op (some 19) (.bin .neq (.t 17) (.t 18))] (.t 19)])
  (.keep [1, 5, 20] (.cond (.t 20)
  (.seq (.ops [.op (some 3) (.mov (.k (.int .i64 0))),
    .op (some 4) (.mov (.k (.bool false)))])
   (.keep [3, 4] (.ret)))
  (.skip))))
 (.keep [1, 5] (.seq (.ops [.op (some 21) (.load1 (.t 1)),
   .op (some 22) (.mov (.t 5)),
   .op (some 23) (.iadr 2 (.t 21) (.t 22)),
   .op (some 24) (.fadr (.t 23) 1),
   .op (some 25) (.load1 (.t 24)),
   .op (some 6) (.mov (.t 25))])
 (.keep [1, 5, 6] (.seq (.ops [.op (some 26) (.load1 (.t 1)),
   .op (some 27) (.mov (.t 5)),
   .op (some 28) (.slc 2 (.t 26) none (some (.t 27)) none),
   .op none (.store 1 (.t 1) (.t 28))])
 (.keep [6] (.seq (.ops [.op (some 29) (.mov (.t 6)),
   .op (some 3) (.mov (.t 29)),
   .op (some 4) (.mov (.k (.bool true)))])
 (.keep [3, 4] (.ret))))))))))))
theorem k_c_depthOf1_fits : fitsF Tryz.prog 63 ⟨30, k_c_depthOf1, [.t 3, .t 4]⟩ = true := by kernel_rfl
theorem c_depthOf1 {S : List IDp} {rs : List (List D)} {a : Int} (hS : S.length ≤ 1048576) (hrs : rs.take S.length = S.map prow) : Con Tryz.prog noMv 63 [int a, .ptr 1000 0] [(1000, .box [.osl 1001 2 0 S.length]), (1001, .rows 2 rs)] (fun r h => r = .tup [int (popF S a).1, bool (popF S a).2.1] ∧ h = [(1000, .box [.osl 1001 2 0 (popF S a).2.2.length]), (1001, .rows 2 rs)]) := by
 refine con_of2 k_c_depthOf1_fits rfl fun C hP hmv => ?_
 unfold k_c_depthOf1
 refine cx_seq ?_
 refine cx_ops ?_
 refine ax_q (q_mov rfl) ?_
 refine ax_q (q_mov rfl) ?_
 refine ax_nil ?_
 refine cx_keep rfl rfl ?_
 refine cx_seq ?_
 refine cx_ops ?_
 first | refine ax_q (q_load1_ptr rfl rfl rfl) ?_ | refine ax_q (q_load1_ip rfl) ?_ | refine ax_q (q_load1_rptr rfl rfl rfl rfl) ?_ | refine ax_q (q_load1_rptr rfl rfl (by assumption) rfl) ?_ | refine ax_q (q_load1_rptr rfl rfl (mapAt (by first | assumption | omega)) rfl) ?_
 first | refine ax_q (q_lenS_map rfl) ?_ | refine ax_q (q_lenS_osl rfl) ?_ | refine ax_q (q_lenS_zs rfl) ?_ | refine ax_q (q_lenS rfl) ?_
 refine ax_q (q_sub rfl rfl (by omega)) ?_
 refine ax_q (q_mov rfl) ?_
 refine ax_nil ?_
 refine cx_keep rfl rfl ?_
 refine cx_seq ?_
 refine cx_seq ?_
 refine cx_ops ?_
 refine ax_q (q_mov rfl) ?_
 refine ax_q (q_ibin rfl rfl rfl) ?_
 refine ax_q (q_mov rfl) ?_
 apply ax_or rfl rfl
 ·
  intro g
  have g := dF g
  have hrow := top_row hrs g
  first | refine ax_q (q_load1_ptr rfl rfl rfl) ?_ | refine ax_q (q_load1_ip rfl) ?_ | refine ax_q (q_load1_rptr rfl rfl rfl rfl) ?_ | refine ax_q (q_load1_rptr rfl rfl (by assumption) rfl) ?_ | refine ax_q (q_load1_rptr rfl rfl (mapAt (by first | assumption | omega)) rfl) ?_
  refine ax_q (q_mov rfl) ?_
  refine ax_q (q_ixoI rfl rfl (by omega) (by omega)) ?_
  first | refine ax_q (q_fadr_ptr rfl) ?_ | refine ax_q (q_fadr_rptr rfl) ?_ | refine ax_q (q_fadr_ip rfl) ?_
  refine ax_q (q_load1_rptr (r := prow (S.getD (S.length - 1) (0, 0))) rfl rfl hrow rfl) ?_
  refine ax_q (q_mov rfl) ?_
  refine ax_q (q_ibin rfl rfl rfl) ?_
  exact ax_nil ⟨rfl, by repeat (first | exact trivial | refine ⟨rfl, ?_⟩ | refine ⟨?_, ?_⟩)⟩
 refine ax_nil ?_
 refine cx_keep rfl rfl ?_
 refine cx_cond rfl (fun h0 => ?_) (fun h0 => ?_)
 ·
  have h0 := (fun h => (or_T h).imp dT nT) h0
  refine cx_seq ?_
  refine cx_ops ?_
  refine ax_q (q_mov rfl) ?_
  refine ax_q (q_mov rfl) ?_
  refine ax_nil ?_
  refine cx_keep rfl rfl ?_
  refine cx_ret (retN id [1000, 1001] rfl rfl rfl rfl rfl ?_)
  rw [popF_no h0]; exact ⟨rfl, rfl⟩
 ·
  have h0 := (fun h => And.intro (dF (or_F h).1) (nF (or_F h).2)) h0
  refine cx_skip ?_
  refine cx_keep rfl rfl ?_
  refine cx_seq ?_
  refine cx_ops ?_
  first | refine ax_q (q_load1_ptr rfl rfl rfl) ?_ | refine ax_q (q_load1_ip rfl) ?_ | refine ax_q (q_load1_rptr rfl rfl rfl rfl) ?_ | refine ax_q (q_load1_rptr rfl rfl (by assumption) rfl) ?_ | refine ax_q (q_load1_rptr rfl rfl (mapAt (by first | assumption | omega)) rfl) ?_
  refine ax_q (q_mov rfl) ?_
  refine ax_q (q_ixoI rfl rfl (by omega) (by omega)) ?_
  first | refine ax_q (q_fadr_ptr rfl) ?_ | refine ax_q (q_fadr_rptr rfl) ?_ | refine ax_q (q_fadr_ip rfl) ?_
  refine ax_q (q_load1_rptr (r := prow (S.getD (S.length - 1) (0, 0))) rfl rfl (top_row hrs h0.1) rfl) ?_
  refine ax_q (q_mov rfl) ?_
  refine ax_nil ?_
  refine cx_keep rfl rfl ?_
  refine cx_seq ?_
  refine cx_ops ?_
  first | refine ax_q (q_load1_ptr rfl rfl rfl) ?_ | refine ax_q (q_load1_ip rfl) ?_ | refine ax_q (q_load1_rptr rfl rfl rfl rfl) ?_ | refine ax_q (q_load1_rptr rfl rfl (by assumption) rfl) ?_ | refine ax_q (q_load1_rptr rfl rfl (mapAt (by first | assumption | omega)) rfl) ?_
  refine ax_q (q_mov rfl) ?_
  refine ax_qe (r' := .osl 1001 2 0 (S.length - 1)) (q_slc_osl rfl rfl rfl (by omega) (by omega) (by omega)) (by rw [show ((S.length : Int) - 1).toNat - (0 : Int).toNat = S.length - 1 from by omega]; rfl) ?_
  refine ax_e (e_st rfl rfl rfl rfl rfl rfl rfl) ?_
  refine ax_nil ?_
  refine cx_keep rfl rfl ?_
  refine cx_seq ?_
  refine cx_ops ?_
  refine ax_q (q_mov rfl) ?_
  refine ax_q (q_mov rfl) ?_
  refine ax_q (q_mov rfl) ?_
  refine ax_nil ?_
  refine cx_keep rfl rfl ?_
  refine cx_ret (retN id [1000, 1001] rfl rfl rfl rfl rfl ?_)
  rw [popF_yes h0.1 h0.2]; exact ⟨rfl, by dsimp only; rw [List.length_dropLast]; rfl⟩


/- loop.example/g00332/impl.isNumber -/
def k_c_isNumber : XCode :=
 .seq (.ops [.op (some 2) (.mov (.k (.bool false)))])
 (.keep [0] (.seq (.ops [.op (some 3) (.mov (.t 0)),
   .call (some 4) 34 [.t 3, .k (.int .i64 (-1000000000)), .k (.int .i64 1000000000)],
   .op (some 2) (.mov (.t 4))])
 (.keep [2] (.ret))))
theorem k_c_isNumber_fits : fitsF Tryz.prog 93 ⟨5, k_c_isNumber, [.t 2]⟩ = true := by kernel_rfl
theorem c_isNumber {n : Int} : Con Tryz.prog noMv 93 [int n] [] (fun r h => r = bool (inR n (-1000000000) 1000000000) ∧ h = []) := by
 refine con_of2 k_c_isNumber_fits rfl fun C hP hmv => ?_
 unfold k_c_isNumber
 refine cx_seq ?_
 refine cx_ops ?_
 refine ax_q (q_mov rfl) ?_
 refine ax_nil ?_
 refine cx_keep rfl rfl ?_
 refine cx_seq ?_
 refine cx_ops ?_
 refine ax_q (q_mov rfl) ?_
 first | refine ax_call rfl (vc_pure0 (c_inRange  ) hP rfl rfl ?_) | refine ax_call rfl (vc_lend0 (c_inRange  ) hP (by repeat (first | exact lal_id _ rfl | exact LAL.nil | refine LAL.cons ?_ ?_ | exact la_id _ rfl | exact LA.lend (lend_whole rfl (by first | (simp; done) | (rw [List.length_map]; rfl))) | refine LA.agg ?_ | refine LA.fn ?_ | refine LA.lend ?_ | exact Lend.d _ | exact Lend.zs _ | exact lend_whole rfl (by first | (simp; done) | (rw [List.length_map]; rfl)) | refine Lend.ptr rfl ?_ | refine Lend.fn ?_ | exact LendL.nil | refine LendL.cons ?_ ?_)) rfl rfl ?_)
 refine ax_q (q_mov rfl) ?_
 refine ax_nil ?_
 refine cx_keep rfl rfl ?_
 refine cx_ret (ret0 rfl rfl ?_)
 exact ⟨rfl, rfl⟩


/- loop.example/g00332/impl.isWord -/
def k_c_isWord : XCode :=
 .seq (.ops [.op (some 2) (.mov (.k (.bool false)))])
 (.keep [0] (.seq (.seq (.ops [.op (some 4) (.mov (.t 0)),
   .op (some 5) (.lenT (.t 4)),
   .op (some 6) (.mov (.k (.int .i64 0)))])
  (.keep [0, 5, 6] (.block 0 (.loop (.seq (.ops [.op (some 7) (.bin .lss (.t 6) (.t 5))])
   (.keep [0, 5, 6, 7] (.seq (.cond (.t 7)
    (.skip)
    (.exit 0))
   (.keep [0, 5, 6] (.seq (.block 1 (.seq (.ops [.op (some 8) (.mov (.t 6)),
     .op (some 3) (.mov (.t 8))])
    (.keep [0, 3, 5, 6] (.seq (.ops [.op (some 9) (.mov (.t 0)),
     .op (some 10) (.mov (.t 3)),
     .op (some 11) (.idxS (.t 9) (.t 10)),
     .call (some 12) 90 [.t 11],
     .op (some 13) (.not (.t 12))])
    (.keep [0, 5, 6, 13] (.cond (.t 13)
    (.seq (.ops [.op (some 2) (.mov (.k (.bool false)))])
     (.keep [2] (.ret)))
    (.skip)))))))
   (.keep [0, 5, 6] (.ops [.op (some 14) (.bin .add (.t 6) (.k (.int .i64 1))),
    .op (some 6) (.mov (.t 14))])))))))))))
 (.keep [0] (.seq (.ops [.op (some 15) (.mov (.t 0)),
   .op (some 16) (.lenT (.t 15)),
   .op (some 17) (.bin .leq (.t 16) (.k (.int .i64 10))),
   .op (some 2) (.mov (.t 17))])
 (.keep [2] (.ret))))))
theorem k_c_isWord_fits : fitsF Tryz.prog 94 ⟨18, k_c_isWord, [.t 2]⟩ = true := by kernel_rfl
theorem c_isWord {s : Str} (hs : s.length ≤ 1048576) : Con Tryz.prog noMv 94 [str s] [] (fun r h => r = bool (isWord s) ∧ h = []) := by
 refine con_of2 k_c_isWord_fits rfl fun C hP hmv => ?_
 unfold k_c_isWord
 refine cx_seq ?_
 refine cx_ops ?_
 refine ax_q (q_mov rfl) ?_
 refine ax_nil ?_
 refine cx_keep rfl rfl ?_
 refine cx_seq ?_
 refine cx_seq ?_
 refine cx_ops ?_
 refine ax_q (q_mov rfl) ?_
 refine ax_q (q_lenT rfl) ?_
 refine ax_q (q_mov rfl) ?_
 refine ax_nil ?_
 refine cx_keep rfl rfl ?_
 refine cx_block ?_
 refine cx_loopU (fun n k => k ≤ s.length ∧ n = s.length - k ∧ ∀ j, j < k → ∀ x, s[j]? = some x → badCh x = false) (fun k : Nat => [(6, int k)]) (fun _ => []) ⟨_, 0, ⟨Nat.zero_le _, rfl, fun j hj => by omega⟩, by repeat (first | exact trivial | refine ⟨rfl, ?_⟩ | refine ⟨?_, ?_⟩)⟩ ?_
 rintro n k ⟨hk, rfl, hb⟩
 refine cx_seq ?_
 refine cx_ops ?_
 refine ax_q (q_ibin rfl rfl rfl) ?_
 refine ax_nil ?_
 refine cx_keep rfl rfl ?_
 refine cx_seq ?_
 refine cx_cond rfl (fun h0 => ?_) (fun h0 => ?_)
 ·
  have h0 := dT h0
  have h0x : k < s.length := by omega
  refine cx_skip ?_
  refine cx_keep rfl rfl ?_
  refine cx_seq ?_
  refine cx_block ?_
  refine cx_seq ?_
  refine cx_ops ?_
  refine ax_q (q_mov rfl) ?_
  refine ax_q (q_mov rfl) ?_
  refine ax_nil ?_
  refine cx_keep rfl rfl ?_
  refine cx_seq ?_
  refine cx_ops ?_
  refine ax_q (q_mov rfl) ?_
  refine ax_q (q_mov rfl) ?_
  refine ax_q (q_idxN rfl rfl (by first | assumption | omega)) ?_
  first | refine ax_call rfl (vc_pure0 (c_isLetter  ) hP rfl rfl ?_) | refine ax_call rfl (vc_lend0 (c_isLetter  ) hP (by repeat (first | exact lal_id _ rfl | exact LAL.nil | refine LAL.cons ?_ ?_ | exact la_id _ rfl | exact LA.lend (lend_whole rfl (by first | (simp; done) | (rw [List.length_map]; rfl))) | refine LA.agg ?_ | refine LA.fn ?_ | refine LA.lend ?_ | exact Lend.d _ | exact Lend.zs _ | exact lend_whole rfl (by first | (simp; done) | (rw [List.length_map]; rfl)) | refine Lend.ptr rfl ?_ | refine Lend.fn ?_ | exact LendL.nil | refine LendL.cons ?_ ?_)) rfl rfl ?_)
  refine ax_q (q_not rfl) ?_
  refine ax_nil ?_
  refine cx_keep rfl rfl ?_
  refine cx_cond rfl (fun h1 => ?_) (fun h1 => ?_)
  ·
   have h1 : badCh s[k] = true := h1
   refine cx_seq ?_
   refine cx_ops ?_
   refine ax_q (q_mov rfl) ?_
   refine ax_nil ?_
   refine cx_keep rfl rfl ?_
   refine cx_ret (ret0 rfl rfl ?_)
   exact ⟨by unfold isWord; rw [any_hit h0x h1] <;> rfl, rfl⟩
  ·
   have h1 : badCh s[k] = false := h1
   refine cx_skip ?_
   refine cx_keep rfl rfl ?_
   refine cx_ops ?_
   refine ax_qe (r' := int ((k + 1 : Nat) : Int)) (q_ibin rfl rfl rfl) (by rw [wi (by omega) (by omega)]; rfl) ?_
   refine ax_q (q_mov rfl) ?_
   refine ax_nil ?_
   exact ⟨_, k + 1, by omega, ⟨by omega, rfl, before_step h0x hb h1⟩, by repeat (first | exact trivial | refine ⟨rfl, ?_⟩ | refine ⟨?_, ?_⟩)⟩
 ·
  have h0 := dF h0
  have h0x : k = s.length := by omega
  refine cx_exit rfl ?_
  refine cx_keep rfl rfl ?_
  refine cx_seq ?_
  refine cx_ops ?_
  refine ax_q (q_mov rfl) ?_
  refine ax_q (q_lenT rfl) ?_
  refine ax_q (q_ibin rfl rfl rfl) ?_
  refine ax_q (q_mov rfl) ?_
  refine ax_nil ?_
  refine cx_keep rfl rfl ?_
  refine cx_ret (ret0 rfl rfl ?_)
  exact ⟨by unfold isWord; rw [any_all (fun i hi => hb i (by omega))] <;> rfl, rfl⟩


/- loop.example/g00332/impl.ValueOK -/
def k_c_ValueOK : XCode :=
 .seq (.ops [.op (some 1) (.box (.t 0)),
   .op (some 2) (.mov (.k (.bool false)))])
 (.keep [1] (.seq (.seq (.ops [.op (some 3) (.fadr (.t 1) 0),
   .op (some 4) (.load1 (.t 3))])
  (.keep [1, 4] (.block 0 (.seq (.ops [.op (some 6) (.bin .eql (.t 4) (.k (.int .i64 0))),
    .op (some 5) (.mov (.t 6))])
  (.keep [1, 4, 5] (.cond (.t 5)
   (.seq (.ops [.op (some 7) (.loadN 3 (.t 1)),
     .op (some 8) (.build [.int .i64 0, .int .i64 0, .str []] []),
     .op (some 9) (.eqs false [0, 0, 2] (.t 7) (.t 8)),
     .op (some 2) (.mov (.t 9))])
   (.keep [2] (.ret)))
   (.seq (.ops [.op (some 11) (.bin .eql (.t 4) (.k (.int .i64 1))),
     .op (some 10) (.mov (.t 11))])
   (.keep [1, 10] (.cond (.t 10)
    (.seq (.ops [.op (some 12) (.fadr (.t 1) 1),
      .op (some 13) (.load1 (.t 12)),
      .call (some 14) 93 [.t 13],
      .op (some 15) (.mov (.t 14)),
      .andor 19 true 3 15 [.op (some 16) (.fadr (.t 1) 2), .op (some 17) (.load1 (.t 16)), .op (some 18) (.bin .eql (.t 17) (.k (.str [])))] (.t 18),
      .op (some 2) (.mov (.t 19))])
    (.keep [2] (.ret)))
    (.skip))))))))))
 (.keep [1] (.seq (.ops [.op (some 20) (.fadr (.t 1) 0),
   .op (some 21) (.load1 (.t 20)),
   .op (some 22) (.bin .eql (.t 21) (.k (.int .i64 2))),
   .op (some 23) (.mov (.t 22)),
   .andor 27 true 3 23 [.op (some 24) (.fadr (.t 1) 1), .op (some 25) (.load1 (.t 24)), .op (some 26) (.bin .eql (.t 25) (.k (.int .i64 0)))] (.t 26),
   .op (some 28) (.mov (.t 27)),
   .andor 32 true 8 28 [.op (some 29) (.fadr (.t 1) 2), .op (some 30) (.load1 (.t 29)), .call (some 31) 94 [.t 30]] (.t 31),
   .op (some 2) (.mov (.t 32))])
 (.keep [2] (.ret))))))
theorem k_c_ValueOK_fits : fitsF Tryz.prog 64 ⟨33, k_c_ValueOK, [.t 2]⟩ = true := by kernel_rfl
theorem c_ValueOK {v : GValue} (hv : v.T.length ≤ 1048576) : Con Tryz.prog noMv 64 [v.av] [] (fun r h => r = bool (valueOK v) ∧ h = []) := by
 refine con_of2 k_c_ValueOK_fits rfl fun C hP hmv => ?_
 unfold k_c_ValueOK
 refine cx_seq ?_
 refine cx_ops ?_
 refine ax_e (e_box rfl rfl (by decide) rfl rfl rfl) ?_
 refine ax_q (q_mov rfl) ?_
 refine ax_nil ?_
 refine cx_keep rfl rfl ?_
 refine cx_seq ?_
 refine cx_seq ?_
 refine cx_ops ?_
 refine ax_q (q_fadr_ptr rfl) ?_
 refine ax_q (q_load1_ptr rfl rfl rfl) ?_
 refine ax_nil ?_
 refine cx_keep rfl rfl ?_
 refine cx_block ?_
 refine cx_seq ?_
 refine cx_ops ?_
 refine ax_q (q_ibin rfl rfl rfl) ?_
 refine ax_q (q_mov rfl) ?_
 refine ax_nil ?_
 refine cx_keep rfl rfl ?_
 refine cx_cond rfl (fun h0 => ?_) (fun h0 => ?_)
 ·
  have h0 := dT h0
  refine cx_seq ?_
  refine cx_ops ?_
  refine ax_q (q_ldN rfl rfl rfl) ?_
  refine ax_q (q_build rfl) ?_
  first | refine ax_q (GValue.q_eqs rfl rfl) ?_ | refine ax_q (q_eqs rfl rfl rfl) ?_
  refine ax_q (q_mov rfl) ?_
  refine ax_nil ?_
  refine cx_keep rfl rfl ?_
  refine cx_ret (ret0 rfl rfl ?_)
  exact ⟨by rw [valueOK_0 h0, decide_eq_true h0, Bool.and_true, Bool.true_and] <;> rfl, rfl⟩
 ·
  have h0 := dF h0
  refine cx_seq ?_
  refine cx_ops ?_
  refine ax_q (q_ibin rfl rfl rfl) ?_
  refine ax_q (q_mov rfl) ?_
  refine ax_nil ?_
  refine cx_keep rfl rfl ?_
  refine cx_cond rfl (fun h1 => ?_) (fun h1 => ?_)
  ·
   have h1 := dT h1
   refine cx_seq ?_
   refine cx_ops ?_
   refine ax_q (q_fadr_ptr rfl) ?_
   refine ax_q (q_load1_ptr rfl rfl rfl) ?_
   first | refine ax_call rfl (vc_pure0 (c_isNumber  ) hP rfl rfl ?_) | refine ax_call rfl (vc_lend0 (c_isNumber  ) hP (by repeat (first | exact lal_id _ rfl | exact LAL.nil | refine LAL.cons ?_ ?_ | exact la_id _ rfl | exact LA.lend (lend_whole rfl (by first | (simp; done) | (rw [List.length_map]; rfl))) | refine LA.agg ?_ | refine LA.fn ?_ | refine LA.lend ?_ | exact Lend.d _ | exact Lend.zs _ | exact lend_whole rfl (by first | (simp; done) | (rw [List.length_map]; rfl)) | refine Lend.ptr rfl ?_ | refine Lend.fn ?_ | exact LendL.nil | refine LendL.cons ?_ ?_)) rfl rfl ?_)
   refine ax_q (q_mov rfl) ?_
   apply ax_and rfl rfl
   ·
    intro g
    refine ax_q (q_fadr_ptr rfl) ?_
    refine ax_q (q_load1_ptr rfl rfl rfl) ?_
    refine ax_q (q_sbin rfl rfl rfl) ?_
    exact ax_nil ⟨rfl, by repeat (first | exact trivial | refine ⟨rfl, ?_⟩ | refine ⟨?_, ?_⟩)⟩
   refine ax_q (q_mov rfl) ?_
   refine ax_nil ?_
   refine cx_keep rfl rfl ?_
   refine cx_ret (ret0 rfl rfl ?_)
   exact ⟨by rw [valueOK_1 h1] <;> rfl, rfl⟩
  ·
   have h1 := dF h1
   refine cx_skip ?_
   refine cx_keep rfl rfl ?_
   refine cx_seq ?_
   refine cx_ops ?_
   refine ax_q (q_fadr_ptr rfl) ?_
   refine ax_q (q_load1_ptr rfl rfl rfl) ?_
   refine ax_q (q_ibin rfl rfl rfl) ?_
   refine ax_q (q_mov rfl) ?_
   apply ax_and rfl rfl
   ·
    intro g
    have g := dT g
    refine ax_q (q_fadr_ptr rfl) ?_
    refine ax_q (q_load1_ptr rfl rfl rfl) ?_
    refine ax_q (q_ibin rfl rfl rfl) ?_
    exact ax_nil ⟨rfl, by repeat (first | exact trivial | refine ⟨rfl, ?_⟩ | refine ⟨?_, ?_⟩)⟩
   refine ax_q (q_mov rfl) ?_
   apply ax_and rfl rfl
   ·
    intro g
    have g := (fun h => And.intro (dT (and_T h).1) (dT (and_T h).2)) g
    refine ax_q (q_fadr_ptr rfl) ?_
    refine ax_q (q_load1_ptr rfl rfl rfl) ?_
    first | refine ax_call rfl (vc_pure0 (c_isWord  ?_) hP rfl rfl ?_) | refine ax_call rfl (vc_lend0 (c_isWord  ?_) hP (by repeat (first | exact lal_id _ rfl | exact LAL.nil | refine LAL.cons ?_ ?_ | exact la_id _ rfl | exact LA.lend (lend_whole rfl (by first | (simp; done) | (rw [List.length_map]; rfl))) | refine LA.agg ?_ | refine LA.fn ?_ | refine LA.lend ?_ | exact Lend.d _ | exact Lend.zs _ | exact lend_whole rfl (by first | (simp; done) | (rw [List.length_map]; rfl)) | refine Lend.ptr rfl ?_ | refine Lend.fn ?_ | exact LendL.nil | refine LendL.cons ?_ ?_)) rfl rfl ?_)
    ·
     first | assumption | omega | (simp; done) | (simp; omega)
    exact ax_nil ⟨rfl, by repeat (first | exact trivial | refine ⟨rfl, ?_⟩ | refine ⟨?_, ?_⟩)⟩
   refine ax_q (q_mov rfl) ?_
   refine ax_nil ?_
   refine cx_keep rfl rfl ?_
   refine cx_ret (ret0 rfl rfl ?_)
   exact ⟨by rw [valueOK_2 h0 h1] <;> rfl, rfl⟩


/- loop.example/g00332/impl.isUnary -/
def k_c_isUnary : XCode :=
 .seq (.ops [.op (some 2) (.mov (.k (.bool false)))])
 (.keep [0] (.seq (.ops [.op (some 3) (.mov (.t 0)),
   .call (some 4) 34 [.t 3, .k (.int .i64 3), .k (.int .i64 5)],
   .op (some 2) (.mov (.t 4))])
 (.keep [2] (.ret))))
theorem k_c_isUnary_fits : fitsF Tryz.prog 65 ⟨5, k_c_isUnary, [.t 2]⟩ = true := by kernel_rfl
theorem c_isUnary {n : Int} : Con Tryz.prog noMv 65 [int n] [] (fun r h => r = bool (inR n 3 5) ∧ h = []) := by
 refine con_of2 k_c_isUnary_fits rfl fun C hP hmv => ?_
 unfold k_c_isUnary
 refine cx_seq ?_
 refine cx_ops ?_
 refine ax_q (q_mov rfl) ?_
 refine ax_nil ?_
 refine cx_keep rfl rfl ?_
 refine cx_seq ?_
 refine cx_ops ?_
 refine ax_q (q_mov rfl) ?_
 first | refine ax_call rfl (vc_pure0 (c_inRange  ) hP rfl rfl ?_) | refine ax_call rfl (vc_lend0 (c_inRange  ) hP (by repeat (first | exact lal_id _ rfl | exact LAL.nil | refine LAL.cons ?_ ?_ | exact la_id _ rfl | exact LA.lend (lend_whole rfl (by first | (simp; done) | (rw [List.length_map]; rfl))) | refine LA.agg ?_ | refine LA.fn ?_ | refine LA.lend ?_ | exact Lend.d _ | exact Lend.zs _ | exact lend_whole rfl (by first | (simp; done) | (rw [List.length_map]; rfl)) | refine Lend.ptr rfl ?_ | refine Lend.fn ?_ | exact LendL.nil | refine LendL.cons ?_ ?_)) rfl rfl ?_)
 refine ax_q (q_mov rfl) ?_
 refine ax_nil ?_
 refine cx_keep rfl rfl ?_
 refine cx_ret (ret0 rfl rfl ?_)
 exact ⟨rfl, rfl⟩


/- loop.example/g00332/impl.isBinary -/
def k_c_isBinary : XCode :=
 .seq (.ops [.op (some 2) (.mov (.k (.bool false)))])
 (.keep [0] (.seq (.ops [.op (some 3) (.mov (.t 0)),
   .call (some 4) 34 [.t 3, .k (.int .i64 6), .k (.int .i64 13)],
   .op (some 2) (.mov (.t 4))])
 (.keep [2] (.ret))))
theorem k_c_isBinary_fits : fitsF Tryz.prog 66 ⟨5, k_c_isBinary, [.t 2]⟩ = true := by kernel_rfl
theorem c_isBinary {n : Int} : Con Tryz.prog noMv 66 [int n] [] (fun r h => r = bool (inR n 6 13) ∧ h = []) := by
 refine con_of2 k_c_isBinary_fits rfl fun C hP hmv => ?_
 unfold k_c_isBinary
 refine cx_seq ?_
 refine cx_ops ?_
 refine ax_q (q_mov rfl) ?_
 refine ax_nil ?_
 refine cx_keep rfl rfl ?_
 refine cx_seq ?_
 refine cx_ops ?_
 refine ax_q (q_mov rfl) ?_
 first | refine ax_call rfl (vc_pure0 (c_inRange  ) hP rfl rfl ?_) | refine ax_call rfl (vc_lend0 (c_inRange  ) hP (by repeat (first | exact lal_id _ rfl | exact LAL.nil | refine LAL.cons ?_ ?_ | exact la_id _ rfl | exact LA.lend (lend_whole rfl (by first | (simp; done) | (rw [List.length_map]; rfl))) | refine LA.agg ?_ | refine LA.fn ?_ | refine LA.lend ?_ | exact Lend.d _ | exact Lend.zs _ | exact lend_whole rfl (by first | (simp; done) | (rw [List.length_map]; rfl)) | refine Lend.ptr rfl ?_ | refine Lend.fn ?_ | exact LendL.nil | refine LendL.cons ?_ ?_)) rfl rfl ?_)
 refine ax_q (q_mov rfl) ?_
 refine ax_nil ?_
 refine cx_keep rfl rfl ?_
 refine cx_ret (ret0 rfl rfl ?_)
 exact ⟨rfl, rfl⟩


/- loop.example/g00332/impl.depthOf -/
def k_c_depthOf : XCode :=
 .seq (.ops [.op (some 2) (.mov (.k (.int .i64 0)))])
 (.keep [0] (.seq (.ops [.op (some 13) (.bslice 2 []),
   .op (some 3) (.alloc [.nils 2]),
   .op none (.store 1 (.t 3) (.t 13))])
 (.keep [0, 3] (.seq (.ops [.op (some 14) (.mkfn 63 [.t 3]),
   .op (some 4) (.mov (.t 14))])
 (.keep [0, 3, 4] (.seq (.seq (.ops [.op (some 15) (.mov (.t 0)),
   .op (some 16) (.lenS (.t 15)),
   .op (some 17) (.mov (.k (.int .i64 0)))])
  (.keep [3, 4, 15, 16, 17] (.block 0 (.loop (.seq (.ops [.op (some 18) (.bin .lss (.t 17) (.t 16))])
   (.keep [3, 4, 15, 16, 17, 18] (.seq (.cond (.t 18)
    (.skip)
    (.exit 0))
   (.keep [3, 4, 15, 16, 17] (.seq (.block 1 (.seq (.ops [.op (some 19) (.mov (.t 17)),
     .op (some 20) (.iadr 7 (.t 15) (.t 17)),
     .op (some 21) (.loadN 7 (.t 20)),
     .op (some 6) (.alloc [.int .i64 0, .int .i64 0, .int .i64 0, .int .i64 0, .int .i64 0, .int .i64 0, .str []]),
     .op (some 5) (.mov (.t 19)),
     .op none (.store 7 (.t 6) (.t 21))])
    (.keep [3, 4, 5, 6, 15, 16, 17] (.seq (.ops [.op (some 7) (.mov (.k (.int .i64 0))),
     .op (some 8) (.mov (.k (.bool true)))])
    (.keep [3, 4, 5, 6, 7, 15, 16, 17] (.seq (.block 2 (.seq (.ops [.op (some 23) (.fadr (.t 6) 0),
      .op (some 24) (.load1 (.t 23)),
      .op (some 25) (.bin .eql (.t 24) (.k (.int .i64 1))),
      .op (some 22) (.mov (.t 25))])
     (.keep [3, 4, 5, 6, 7, 15, 16, 17, 22] (.cond (.t 22)
     (.ops [.op (some 26) (.fadr (.t 6) 1),
       .op (some 27) (.load1 (.t 26)),
       .op (some 28) (.bin .eql (.t 27) (.k (.int .i64 0))),
       .op (some 29) (.mov (.t 28)),
       .andor 33 true 3 29 [.op (some 30) (.fadr (.t 6) 2), .op (some 31) (.load1 (.t 30)), .op (some 32) (.bin .eql (.t 31) (.k (.int .i64 0)))] (.t 32),
       .op (some 34) (.mov (.t 33)),
       .andor 38 true 8 34 [.op (some 35) (.fadr (.t 6) 3), .op (some 36) (.load1 (.t 35)), .op (some 37) (.bin .eql (.t 36) (.k (.int .i64 0)))] (.t 37),
       .op (some 39) (.mov (.t 38)),
       .andor 43 true 13 39 [.op (some 40) (.fadr (.t 6) 4), .op (some 41) (.loadN 3 (.t 40)), .call (some 42) 64 [.t 41]] (.t 42),
       .op (some 8) (.mov (.t 43))])
     (.seq (.ops [.op (some 45) (.fadr (.t 6) 0),
       .op (some 46) (.load1 (.t 45)),
       .op (some 47) (.bin .eql (.t 46) (.k (.int .i64 2))),
       .op (some 44) (.mov (.t 47))])
      (.keep [3, 4, 5, 6, 7, 15, 16, 17, 44] (.cond (.t 44)
      (.ops [.op (some 48) (.fadr (.t 6) 1),
        .op (some 49) (.load1 (.t 48)),
        .op (some 50) (.bin .eql (.t 49) (.k (.int .i64 0))),
        .op (some 51) (.mov (.t 50)),
        .andor 55 true 3 51 [.op (some 52) (.fadr (.t 6) 2), .op (some 53) (.load1 (.t 52)), .op (some 54) (.bin .eql (.t 53) (.k (.int .i64 0)))] (.t 54),
        .op (some 56) (.mov (.t 55)),
        .andor 60 true 8 56 [.op (some 57) (.fadr (.t 6) 3), .op (some 58) (.load1 (.t 57)), .call (some 59) 45 [.t 58, .k (.int .i64 3)]] (.t 59),
        .op (some 61) (.mov (.t 60)),
        .andor 66 true 13 61 [.op (some 62) (.fadr (.t 6) 4), .op (some 63) (.loadN 3 (.t 62)), .op (some 64) (.build [.int .i64 0, .int .i64 0, .str []] []), .op (some 65) (.eqs false [0, 0, 2] (.t 63) (.t 64))] (.t 65),
        .op (some 8) (.mov (.t 66))])
      (.seq (.ops [.op (some 68) (.fadr (.t 6) 0),
        .op (some 69) (.load1 (.t 68)),
        .call (some 70) 65 [.t 69],
        .op (some 67) (.mov (.t 70))])
       (.keep [3, 4, 5, 6, 7, 15, 16, 17, 67] (.cond (.t 67)
       (.seq (.ops [.op (some 72) (.mov (.t 4)),
         .op (some 73) (.fadr (.t 6) 1),
         .op (some 74) (.load1 (.t 73)),
         .callv (some 75) (.t 72) [.t 74],
         .op (some 71) (.mov (.t 75)),
         .op (some 76) (.ext (.t 71) 0),
         .op (some 77) (.ext (.t 71) 1),
         .op (some 7) (.mov (.t 76)),
         .op (some 8) (.mov (.t 77))])
        (.keep [3, 4, 5, 6, 7, 8, 15, 16, 17] (.ops [.op (some 78) (.mov (.t 8)),
         .op (some 79) (.mov (.t 78)),
         .andor 83 true 1 79 [.op (some 80) (.fadr (.t 6) 2), .op (some 81) (.load1 (.t 80)), .op (some 82) (.bin .eql (.t 81) (.k (.int .i64 0)))] (.t 82),
         .op (some 84) (.mov (.t 83)),
         .andor 88 true 6 84 [.op (some 85) (.fadr (.t 6) 3), .op (some 86) (.load1 (.t 85)), .op (some 87) (.bin .eql (.t 86) (.k (.int .i64 0)))] (.t 87),
         .op (some 89) (.mov (.t 88)),
         .andor 94 true 11 89 [.op (some 90) (.fadr (.t 6) 4), .op (some 91) (.loadN 3 (.t 90)), .op (some 92) (.build [.int .i64 0, .int .i64 0, .str []] []), .op (some 93) (.eqs false [0, 0, 2] (.t 91) (.t 92))] (.t 93),
         .op (some 8) (.mov (.t 94))])))
       (.seq (.ops [.op (some 96) (.fadr (.t 6) 0),
         .op (some 97) (.load1 (.t 96)),
         .call (some 98) 66 [.t 97],
         .op (some 95) (.mov (.t 98))])
        (.keep [3, 4, 5, 6, 7, 15, 16, 17, 95] (.cond (.t 95)
        (.seq (.ops [.op (some 100) (.mov (.t 4)),
          .op (some 101) (.fadr (.t 6) 2),
          .op (some 102) (.load1 (.t 101)),
          .callv (some 103) (.t 100) [.t 102],
          .op (some 99) (.mov (.t 103)),
          .op (some 104) (.ext (.t 99) 0),
          .op (some 105) (.ext (.t 99) 1),
          .op (some 9) (.mov (.t 104)),
          .op (some 10) (.mov (.t 105))])
         (.keep [3, 4, 5, 6, 9, 10, 15, 16, 17] (.seq (.ops [.op (some 107) (.mov (.t 4)),
          .op (some 108) (.fadr (.t 6) 1),
          .op (some 109) (.load1 (.t 108)),
          .callv (some 110) (.t 107) [.t 109],
          .op (some 106) (.mov (.t 110)),
          .op (some 111) (.ext (.t 106) 0),
          .op (some 112) (.ext (.t 106) 1),
          .op (some 11) (.mov (.t 111)),
          .op (some 12) (.mov (.t 112))])
         (.keep [3, 4, 5, 6, 9, 10, 11, 12, 15, 16, 17] (.draw [.op (some 113) (.mov (.t 11)),
          .op (some 114) (.mov (.t 9)),
          .op (some 115) (.mx true (.t 113) (.t 114)),
          .op (some 116) (.mov (.t 10)),
          .op (some 117) (.mov (.t 116)),
          .andor 119 true 4 117 [.op (some 118) (.mov (.t 12))] (.t 118),
          .op (some 120) (.mov (.t 119)),
          .andor 124 true 7 120 [.op (some 121) (.fadr (.t 6) 3), .op (some 122) (.load1 (.t 121)), .op (some 123) (.bin .eql (.t 122) (.k (.int .i64 0)))] (.t 123),
          .op (some 125) (.mov (.t 124)),
          .andor 130 true 12 125 [.op (some 126) (.fadr (.t 6) 4), .op (some 127) (.loadN 3 (.t 126)), .op (some 128) (.build [.int .i64 0, .int .i64 0, .str []] []), .op (some 129) (.eqs false [0, 0, 2] (.t 127) (.t 128))] (.t 129),
          .op (some 7) (.mov (.t 115)),
          .op (some 8) (.mov (.t 130))])))))
        (.ops [.op (some 8) (.mov (.k (.bool false)))]))))))))))))))
    (.keep [3, 4, 5, 7, 8, 15, 16, 17] (.seq (.seq (.ops [.op (some 131) (.mov (.t 8)),
      .op (some 132) (.not (.t 131))])
    (.keep [3, 4, 5, 7, 15, 16, 17, 132] (.cond (.t 132)
     (.seq (.ops [.op (some 2) (.mov (.k (.int .i64 0)))])
     (.keep [2] (.ret)))
     (.skip))))
    (.keep [3, 4, 5, 7, 15, 16, 17] (.ops [.op (some 133) (.load1 (.t 3)),
     .op (some 134) (.mov (.t 5)),
     .op (some 135) (.mov (.t 7)),
     .op (some 136) (.bin .add (.t 135) (.k (.int .i64 1))),
     .op (some 137) (.build [.int .i64 0, .int .i64 0] [(0, 1, .t 134), (1, 1, .t 136)]),
     .op (some 138) (.bslice 2 [.t 137]),
     .op (some 139) (.app 2 16 [.int .i64 0, .int .i64 0] (.t 133) (.t 138)),
     .op none (.store 1 (.t 3) (.t 139))]))))))))))
   (.keep [3, 4, 15, 16, 17] (.ops [.op (some 140) (.bin .add (.t 17) (.k (.int .i64 1))),
    .op (some 17) (.mov (.t 140))])))))))))))
 (.keep [3] (.seq (.seq (.ops [.op (some 141) (.load1 (.t 3)),
   .op (some 142) (.lenS (.t 141)),
   .op (some 143) (.bin .neq (.t 142) (.k (.int .i64 1)))])
  (.keep [3, 143] (.cond (.t 143)
  (.seq (.ops [.op (some 2) (.mov (.k (.int .i64 0)))])
   (.keep [2] (.ret)))
  (.skip))))
 (.keep [3] (.seq (.ops [.op (some 144) (.load1 (.t 3)),
   .op (some 145) (.iadr 2 (.t 144) (.k (.int .i64 0))),
   .op (some 146) (.fadr (.t 145) 1),
   .op (some 147) (.load1 (.t 146)),
   .op (some 2) (.mov (.t 147))])
 (.keep [2] (.ret))))))))))))
theorem k_c_depthOf_fits : fitsF Tryz.prog 35 ⟨148, k_c_depthOf, [.t 2]⟩ = true := by kernel_rfl
theorem c_depthOf {ns : List GExprNode} (hw : ns.length ≤ 1048576) (hv : ∀ x ∈ ns, x.V.T.length ≤ 1048576) : Con Tryz.prog noMv 35 [.d (.sl 7 (ns.map GExprNode.row))] [] (fun r h => r = int (depthF ns) ∧ h = []) := by
 refine con_of2 k_c_depthOf_fits rfl fun C hP hmv => ?_
 unfold k_c_depthOf
 refine cx_seq ?_
 refine cx_ops ?_
 refine ax_q (q_mov rfl) ?_
 refine ax_nil ?_
 refine cx_keep rfl rfl ?_
 refine cx_seq ?_
 refine cx_ops ?_
 refine ax_e (e_bslice rfl (by decide) rfl rfl) ?_
 refine ax_e (e_alloc (by decide) rfl rfl) ?_
 refine ax_e (e_st rfl rfl rfl rfl rfl rfl rfl) ?_
 refine ax_nil ?_
 refine cx_keep rfl rfl ?_
 refine cx_seq ?_
 refine cx_ops ?_
 refine ax_q (q_mkfn rfl) ?_
 refine ax_q (q_mov rfl) ?_
 refine ax_nil ?_
 refine cx_keep rfl rfl ?_
 refine cx_seq ?_
 refine cx_seq ?_
 refine cx_ops ?_
 refine ax_q (q_mov rfl) ?_
 first | refine ax_q (q_lenS_map rfl) ?_ | refine ax_q (q_lenS_osl rfl) ?_ | refine ax_q (q_lenS_zs rfl) ?_ | refine ax_q (q_lenS rfl) ?_
 refine ax_q (q_mov rfl) ?_
 refine ax_nil ?_
 refine cx_keep rfl rfl ?_
 refine cx_block ?_
 refine cx_loopU (fun n (p : Nat × List IDp × List (List D)) => p.1 ≤ ns.length ∧ n = ns.length - p.1 ∧ scanD ns p.1 = some p.2.1 ∧ p.2.2.take p.2.1.length = p.2.1.map prow ∧ p.2.1.length ≤ p.1 ∧ lowS p.2.1 p.1) (fun p => [(17, int p.1)]) (fun p => [(3, .box [.osl 13 2 0 p.2.1.length]), (13, .rows 2 p.2.2)]) ⟨_, (0, [], []), ⟨Nat.zero_le _, rfl, rfl, rfl, Nat.le_refl _, fun p hp => by cases hp⟩, by repeat (first | exact trivial | refine ⟨rfl, ?_⟩ | refine ⟨?_, ?_⟩)⟩ ?_
 rintro n ⟨k, S, rs⟩ ⟨hk, rfl, hs, hrs, hS, hlow⟩
 simp only at hk hs hrs hS hlow ⊢
 refine cx_seq ?_
 refine cx_ops ?_
 refine ax_q (q_ibin rfl rfl rfl) ?_
 refine ax_nil ?_
 refine cx_keep rfl rfl ?_
 refine cx_seq ?_
 refine cx_cond rfl (fun h0 => ?_) (fun h0 => ?_)
 ·
  have h0 := dT h0
  have h0x : k < ns.length := by omega
  have hvk := hv _ (List.getElem_mem h0x)
  have hlw := @okD_low S ns[k] k (by omega) hlow
  have hor := okD_rs (x := ns[k]) hrs
  refine cx_skip ?_
  refine cx_keep rfl rfl ?_
  refine cx_seq ?_
  refine cx_block ?_
  refine cx_seq ?_
  refine cx_ops ?_
  refine ax_q (q_mov rfl) ?_
  refine ax_q (q_ix rfl rfl (mapAt h0x)) ?_
  first | refine ax_q (q_ldN rfl rfl rfl) ?_ | refine ax_q (q_loadN_ip rfl (Nat.le_refl _)) ?_ | refine ax_q (q_loadN_ip rfl (by decide)) ?_ | refine ax_q (q_loadN_rptr rfl rfl (by assumption) (by decide)) ?_ | refine ax_q (q_loadN_rptr rfl rfl (mapAt (by first | assumption | omega)) (by decide)) ?_
  refine ax_e (e_alloc (by decide) rfl rfl) ?_
  refine ax_q (q_mov rfl) ?_
  refine ax_e (e_st rfl rfl rfl rfl rfl rfl rfl) ?_
  refine ax_nil ?_
  refine cx_keep rfl rfl ?_
  refine cx_seq ?_
  refine cx_ops ?_
  refine ax_q (q_mov rfl) ?_
  refine ax_q (q_mov rfl) ?_
  refine ax_nil ?_
  refine cx_keep rfl rfl ?_
  refine cx_seq ?_
  refine cx_block ?_
  refine cx_seq ?_
  refine cx_ops ?_
  refine ax_q (q_fadr_ptr rfl) ?_
  refine ax_q (q_load1_ptr rfl rfl rfl) ?_
  refine ax_q (q_ibin rfl rfl rfl) ?_
  refine ax_q (q_mov rfl) ?_
  refine ax_nil ?_
  refine cx_keep rfl rfl ?_
  refine cx_cond rfl (fun h1 => ?_) (fun h1 => ?_)
  ·
   have h1 := dT h1
   have ho := okD_1 (S := S) h1
   refine cx_ops ?_
   refine ax_q (q_fadr_ptr rfl) ?_
   refine ax_q (q_load1_ptr rfl rfl rfl) ?_
   refine ax_q (q_ibin rfl rfl rfl) ?_
   refine ax_q (q_mov rfl) ?_
   apply ax_and rfl rfl
   ·
    intro g
    have g := dT g
    refine ax_q (q_fadr_ptr rfl) ?_
    refine ax_q (q_load1_ptr rfl rfl rfl) ?_
    refine ax_q (q_ibin rfl rfl rfl) ?_
    exact ax_nil ⟨rfl, by repeat (first | exact trivial | refine ⟨rfl, ?_⟩ | refine ⟨?_, ?_⟩)⟩
   refine ax_q (q_mov rfl) ?_
   apply ax_and rfl rfl
   ·
    intro g
    have g := (fun h => And.intro (dT (and_T h).1) (dT (and_T h).2)) g
    refine ax_q (q_fadr_ptr rfl) ?_
    refine ax_q (q_load1_ptr rfl rfl rfl) ?_
    refine ax_q (q_ibin rfl rfl rfl) ?_
    exact ax_nil ⟨rfl, by repeat (first | exact trivial | refine ⟨rfl, ?_⟩ | refine ⟨?_, ?_⟩)⟩
   refine ax_q (q_mov rfl) ?_
   apply ax_and rfl rfl
   ·
    intro g
    have g := (fun h => And.intro ((fun h => And.intro (dT (and_T h).1) (dT (and_T h).2)) (and_T h).1) (dT (and_T h).2)) g
    refine ax_q (q_fadr_ptr rfl) ?_
    refine ax_q (q_ldN rfl rfl rfl) ?_
    first | refine ax_call rfl (vc_pure0 (c_ValueOK (v := ns[k].V) ?_) hP rfl rfl ?_) | refine ax_call rfl (vc_lend0 (c_ValueOK (v := ns[k].V) ?_) hP (by repeat (first | exact lal_id _ rfl | exact LAL.nil | refine LAL.cons ?_ ?_ | exact la_id _ rfl | exact LA.lend (lend_whole rfl (by first | (simp; done) | (rw [List.length_map]; rfl))) | refine LA.agg ?_ | refine LA.fn ?_ | refine LA.lend ?_ | exact Lend.d _ | exact Lend.zs _ | exact lend_whole rfl (by first | (simp; done) | (rw [List.length_map]; rfl)) | refine Lend.ptr rfl ?_ | refine Lend.fn ?_ | exact LendL.nil | refine LendL.cons ?_ ?_)) rfl rfl ?_)
    ·
     first | assumption | omega | (simp; done) | (simp; omega)
    exact ax_nil ⟨rfl, by repeat (first | exact trivial | refine ⟨rfl, ?_⟩ | refine ⟨?_, ?_⟩)⟩
   refine ax_q (q_mov rfl) ?_
   refine ax_nil ?_
   refine cx_keep rfl rfl ?_
   refine cx_seq ?_
   refine cx_seq ?_
   refine cx_ops ?_
   refine ax_q (q_mov rfl) ?_
   refine ax_q (q_not rfl) ?_
   refine ax_nil ?_
   refine cx_keep rfl rfl ?_
   refine cx_cond rfl (fun h5 => ?_) (fun h5 => ?_)
   ·
    have h5 : (okD S ns[k]).1 = false := by rw [ho] <;> exact bT h5
    refine cx_seq ?_
    refine cx_ops ?_
    refine ax_q (q_mov rfl) ?_
    refine ax_nil ?_
    refine cx_keep rfl rfl ?_
    refine cx_ret (ret0 rfl rfl ?_)
    exact ⟨by rw [depthF_none (k := k + 1) (by omega) (by rw [scan_next h0x hs, stepD_f h5])]; rfl, rfl⟩
   ·
    have h5 : (okD S ns[k]).1 = true := by rw [ho] <;> exact bF h5
    have hs2 := scan_next h0x hs
    rw [stepD_t h5, ho] at hs2
    rw [ho] at hlw hor
    dsimp only at hs2 hlw hor
    refine cx_skip ?_
    refine cx_keep rfl rfl ?_
    refine cx_ops ?_
    refine ax_q (q_load1_ptr rfl rfl rfl) ?_
    refine ax_q (q_mov rfl) ?_
    refine ax_q (q_mov rfl) ?_
    refine ax_q (q_add rfl rfl (by omega)) ?_
    refine ax_q (q_build rfl) ?_
    refine ax_e (e_bslice rfl (by decide) rfl rfl) ?_
    refine ax_e (e_appn rfl rfl (stk_le hor) rfl (src_osl rfl (by simp)) (.inl (by decide)) (hbnd (by omega) (by simp) (by decide)) (stk_len hs2) (stk_app hs2 hor)) ?_
    refine ax_e (e_st rfl rfl rfl rfl rfl rfl rfl) ?_
    refine ax_nil ?_
    refine cx_keep rfl rfl ?_
    refine cx_ops ?_
    refine ax_qe (r' := int ((k + 1 : Nat) : Int)) (q_ibin rfl rfl rfl) (by rw [wi (by omega) (by omega)]; rfl) ?_
    refine ax_q (q_mov rfl) ?_
    refine ax_nil ?_
    exact ⟨_, (k + 1, _, _), by simp only; omega, ⟨by simp only; omega, rfl, hs2, stk_inv hs2, by simp only [List.length_append, List.length_singleton]; omega, by rw [show ((k + 1 : Nat) : Int) = (k : Int) + 1 from by omega]; exact lowS_app hlw.2.2.1 ⟨hlw.1, hlw.2.1⟩⟩, by repeat (first | exact trivial | refine ⟨rfl, ?_⟩ | refine ⟨?_, ?_⟩)⟩
  ·
   have h1 := dF h1
   refine cx_seq ?_
   refine cx_ops ?_
   refine ax_q (q_fadr_ptr rfl) ?_
   refine ax_q (q_load1_ptr rfl rfl rfl) ?_
   refine ax_q (q_ibin rfl rfl rfl) ?_
   refine ax_q (q_mov rfl) ?_
   refine ax_nil ?_
   refine cx_keep rfl rfl ?_
   refine cx_cond rfl (fun h2 => ?_) (fun h2 => ?_)
   ·
    have h2 := dT h2
    have ho := okD_2 (S := S) h1 h2
    refine cx_ops ?_
    refine ax_q (q_fadr_ptr rfl) ?_
    refine ax_q (q_load1_ptr rfl rfl rfl) ?_
    refine ax_q (q_ibin rfl rfl rfl) ?_
    refine ax_q (q_mov rfl) ?_
    apply ax_and rfl rfl
    ·
     intro g
     have g := dT g
     refine ax_q (q_fadr_ptr rfl) ?_
     refine ax_q (q_load1_ptr rfl rfl rfl) ?_
     refine ax_q (q_ibin rfl rfl rfl) ?_
     exact ax_nil ⟨rfl, by repeat (first | exact trivial | refine ⟨rfl, ?_⟩ | refine ⟨?_, ?_⟩)⟩
    refine ax_q (q_mov rfl) ?_
    apply ax_and rfl rfl
    ·
     intro g
     have g := (fun h => And.intro (dT (and_T h).1) (dT (and_T h).2)) g
     refine ax_q (q_fadr_ptr rfl) ?_
     refine ax_q (q_load1_ptr rfl rfl rfl) ?_
     first | refine ax_call rfl (vc_pure0 (c_isPlace  ?_) hP rfl rfl ?_) | refine ax_call rfl (vc_lend0 (c_isPlace  ?_) hP (by repeat (first | exact lal_id _ rfl | exact LAL.nil | refine LAL.cons ?_ ?_ | exact la_id _ rfl | exact LA.lend (lend_whole rfl (by first | (simp; done) | (rw [List.length_map]; rfl))) | refine LA.agg ?_ | refine LA.fn ?_ | refine LA.lend ?_ | exact Lend.d _ | exact Lend.zs _ | exact lend_whole rfl (by first | (simp; done) | (rw [List.length_map]; rfl)) | refine Lend.ptr rfl ?_ | refine Lend.fn ?_ | exact LendL.nil | refine LendL.cons ?_ ?_)) rfl rfl ?_)
     ·
      first | assumption | omega | (simp; done) | (simp; omega)
     exact ax_nil ⟨rfl, by repeat (first | exact trivial | refine ⟨rfl, ?_⟩ | refine ⟨?_, ?_⟩)⟩
    refine ax_q (q_mov rfl) ?_
    apply ax_and rfl rfl
    ·
     intro g
     have g := (fun h => And.intro ((fun h => And.intro (dT (and_T h).1) (dT (and_T h).2)) (and_T h).1) (id (and_T h).2)) g
     refine ax_q (q_fadr_ptr rfl) ?_
     refine ax_q (q_ldN rfl rfl rfl) ?_
     refine ax_q (q_build rfl) ?_
     first | refine ax_q (GValue.q_eqs rfl rfl) ?_ | refine ax_q (q_eqs rfl rfl rfl) ?_
     exact ax_nil ⟨rfl, by repeat (first | exact trivial | refine ⟨rfl, ?_⟩ | refine ⟨?_, ?_⟩)⟩
    refine ax_q (q_mov rfl) ?_
    refine ax_nil ?_
    refine cx_keep rfl rfl ?_
    refine cx_seq ?_
    refine cx_seq ?_
    refine cx_ops ?_
    refine ax_q (q_mov rfl) ?_
    refine ax_q (q_not rfl) ?_
    refine ax_nil ?_
    refine cx_keep rfl rfl ?_
    refine cx_cond rfl (fun h5 => ?_) (fun h5 => ?_)
    ·
     have h5 : (okD S ns[k]).1 = false := by rw [ho] <;> exact bT h5
     refine cx_seq ?_
     refine cx_ops ?_
     refine ax_q (q_mov rfl) ?_
     refine ax_nil ?_
     refine cx_keep rfl rfl ?_
     refine cx_ret (ret0 rfl rfl ?_)
     exact ⟨by rw [depthF_none (k := k + 1) (by omega) (by rw [scan_next h0x hs, stepD_f h5])]; rfl, rfl⟩
    ·
     have h5 : (okD S ns[k]).1 = true := by rw [ho] <;> exact bF h5
     have hs2 := scan_next h0x hs
     rw [stepD_t h5, ho] at hs2
     rw [ho] at hlw hor
     dsimp only at hs2 hlw hor
     refine cx_skip ?_
     refine cx_keep rfl rfl ?_
     refine cx_ops ?_
     refine ax_q (q_load1_ptr rfl rfl rfl) ?_
     refine ax_q (q_mov rfl) ?_
     refine ax_q (q_mov rfl) ?_
     refine ax_q (q_add rfl rfl (by omega)) ?_
     refine ax_q (q_build rfl) ?_
     refine ax_e (e_bslice rfl (by decide) rfl rfl) ?_
     refine ax_e (e_appn rfl rfl (stk_le hor) rfl (src_osl rfl (by simp)) (.inl (by decide)) (hbnd (by omega) (by simp) (by decide)) (stk_len hs2) (stk_app hs2 hor)) ?_
     refine ax_e (e_st rfl rfl rfl rfl rfl rfl rfl) ?_
     refine ax_nil ?_
     refine cx_keep rfl rfl ?_
     refine cx_ops ?_
     refine ax_qe (r' := int ((k + 1 : Nat) : Int)) (q_ibin rfl rfl rfl) (by rw [wi (by omega) (by omega)]; rfl) ?_
     refine ax_q (q_mov rfl) ?_
     refine ax_nil ?_
     exact ⟨_, (k + 1, _, _), by simp only; omega, ⟨by simp only; omega, rfl, hs2, stk_inv hs2, by simp only [List.length_append, List.length_singleton]; omega, by rw [show ((k + 1 : Nat) : Int) = (k : Int) + 1 from by omega]; exact lowS_app hlw.2.2.1 ⟨hlw.1, hlw.2.1⟩⟩, by repeat (first | exact trivial | refine ⟨rfl, ?_⟩ | refine ⟨?_, ?_⟩)⟩
   ·
    have h2 := dF h2
    refine cx_seq ?_
    refine cx_ops ?_
    refine ax_q (q_fadr_ptr rfl) ?_
    refine ax_q (q_load1_ptr rfl rfl rfl) ?_
    first | refine ax_call rfl (vc_pure0 (c_isUnary  ) hP rfl rfl ?_) | refine ax_call rfl (vc_lend0 (c_isUnary  ) hP (by repeat (first | exact lal_id _ rfl | exact LAL.nil | refine LAL.cons ?_ ?_ | exact la_id _ rfl | exact LA.lend (lend_whole rfl (by first | (simp; done) | (rw [List.length_map]; rfl))) | refine LA.agg ?_ | refine LA.fn ?_ | refine LA.lend ?_ | exact Lend.d _ | exact Lend.zs _ | exact lend_whole rfl (by first | (simp; done) | (rw [List.length_map]; rfl)) | refine Lend.ptr rfl ?_ | refine Lend.fn ?_ | exact LendL.nil | refine LendL.cons ?_ ?_)) rfl rfl ?_)
    refine ax_q (q_mov rfl) ?_
    refine ax_nil ?_
    refine cx_keep rfl rfl ?_
    refine cx_cond rfl (fun h3 => ?_) (fun h3 => ?_)
    ·
     skip
     have ho := okD_3 (S := S) h1 h2 h3
     refine cx_seq ?_
     refine cx_ops ?_
     refine ax_q (q_mov rfl) ?_
     refine ax_q (q_fadr_ptr rfl) ?_
     refine ax_q (q_load1_ptr rfl rfl rfl) ?_
     refine ax_callv rfl (by rw [hP]; kernel_rfl) rfl (vcall_own (c_depthOf1 (S := S) (rs := rs) (a := ns[k].A) ?_ ?_) hP hmv false (fun e => bif Nat.beq e 1000 then 3 else 13) [1000, 1001] ⟨rfl, rfl, rfl, rfl, ⟨rfl, rfl, trivial⟩, rfl, rfl, rfl⟩ (.pass rfl rfl (.pass rfl rfl .nil)) ?_)
     ·
      omega
     ·
      exact hrs
     rintro r h ⟨rfl, rfl⟩
     refine ⟨fun e => bif Nat.beq e 1000 then 3 else 13, [], ⟨rfl, rfl, rfl, rfl, mem2 rfl rfl, rfl, rfl, fun h => absurd h Bool.false_ne_true⟩, ?_⟩
     refine ax_q (q_mov rfl) ?_
     refine ax_q (q_ext rfl rfl) ?_
     refine ax_q (q_ext rfl rfl) ?_
     refine ax_q (q_mov rfl) ?_
     refine ax_q (q_mov rfl) ?_
     refine ax_nil ?_
     refine cx_keep rfl rfl ?_
     refine cx_ops ?_
     refine ax_q (q_mov rfl) ?_
     refine ax_q (q_mov rfl) ?_
     apply ax_and rfl rfl
     ·
      intro g
      refine ax_q (q_fadr_ptr rfl) ?_
      refine ax_q (q_load1_ptr rfl rfl rfl) ?_
      refine ax_q (q_ibin rfl rfl rfl) ?_
      exact ax_nil ⟨rfl, by repeat (first | exact trivial | refine ⟨rfl, ?_⟩ | refine ⟨?_, ?_⟩)⟩
     refine ax_q (q_mov rfl) ?_
     apply ax_and rfl rfl
     ·
      intro g
      have g := (fun h => And.intro (id (and_T h).1) (dT (and_T h).2)) g
      refine ax_q (q_fadr_ptr rfl) ?_
      refine ax_q (q_load1_ptr rfl rfl rfl) ?_
      refine ax_q (q_ibin rfl rfl rfl) ?_
      exact ax_nil ⟨rfl, by repeat (first | exact trivial | refine ⟨rfl, ?_⟩ | refine ⟨?_, ?_⟩)⟩
     refine ax_q (q_mov rfl) ?_
     apply ax_and rfl rfl
     ·
      intro g
      have g := (fun h => And.intro ((fun h => And.intro (id (and_T h).1) (dT (and_T h).2)) (and_T h).1) (dT (and_T h).2)) g
      refine ax_q (q_fadr_ptr rfl) ?_
      refine ax_q (q_ldN rfl rfl rfl) ?_
      refine ax_q (q_build rfl) ?_
      first | refine ax_q (GValue.q_eqs rfl rfl) ?_ | refine ax_q (q_eqs rfl rfl rfl) ?_
      exact ax_nil ⟨rfl, by repeat (first | exact trivial | refine ⟨rfl, ?_⟩ | refine ⟨?_, ?_⟩)⟩
     refine ax_q (q_mov rfl) ?_
     refine ax_nil ?_
     refine cx_keep rfl rfl ?_
     refine cx_seq ?_
     refine cx_seq ?_
     refine cx_ops ?_
     refine ax_q (q_mov rfl) ?_
     refine ax_q (q_not rfl) ?_
     refine ax_nil ?_
     refine cx_keep rfl rfl ?_
     refine cx_cond rfl (fun h5 => ?_) (fun h5 => ?_)
     ·
      have h5 : (okD S ns[k]).1 = false := by rw [ho] <;> exact bT h5
      refine cx_seq ?_
      refine cx_ops ?_
      refine ax_q (q_mov rfl) ?_
      refine ax_nil ?_
      refine cx_keep rfl rfl ?_
      refine cx_ret (ret0 rfl rfl ?_)
      exact ⟨by rw [depthF_none (k := k + 1) (by omega) (by rw [scan_next h0x hs, stepD_f h5])]; rfl, rfl⟩
     ·
      have h5 : (okD S ns[k]).1 = true := by rw [ho] <;> exact bF h5
      have hs2 := scan_next h0x hs
      rw [stepD_t h5, ho] at hs2
      rw [ho] at hlw hor
      dsimp only at hs2 hlw hor
      refine cx_skip ?_
      refine cx_keep rfl rfl ?_
      refine cx_ops ?_
      refine ax_q (q_load1_ptr rfl rfl rfl) ?_
      refine ax_q (q_mov rfl) ?_
      refine ax_q (q_mov rfl) ?_
      refine ax_q (q_add rfl rfl (by omega)) ?_
      refine ax_q (q_build rfl) ?_
      refine ax_e (e_bslice rfl (by decide) rfl rfl) ?_
      refine ax_e (e_appn rfl rfl (stk_le hor) rfl (src_osl rfl (by simp)) (.inl (by decide)) (hbnd (by omega) (by simp) (by decide)) (stk_len hs2) (stk_app hs2 hor)) ?_
      refine ax_e (e_st rfl rfl rfl rfl rfl rfl rfl) ?_
      refine ax_nil ?_
      refine cx_keep rfl rfl ?_
      refine cx_ops ?_
      refine ax_qe (r' := int ((k + 1 : Nat) : Int)) (q_ibin rfl rfl rfl) (by rw [wi (by omega) (by omega)]; rfl) ?_
      refine ax_q (q_mov rfl) ?_
      refine ax_nil ?_
      exact ⟨_, (k + 1, _, _), by simp only; omega, ⟨by simp only; omega, rfl, hs2, stk_inv hs2, by simp only [List.length_append, List.length_singleton]; omega, by rw [show ((k + 1 : Nat) : Int) = (k : Int) + 1 from by omega]; exact lowS_app hlw.2.2.1 ⟨hlw.1, hlw.2.1⟩⟩, by repeat (first | exact trivial | refine ⟨rfl, ?_⟩ | refine ⟨?_, ?_⟩)⟩
    ·
     skip
     refine cx_seq ?_
     refine cx_ops ?_
     refine ax_q (q_fadr_ptr rfl) ?_
     refine ax_q (q_load1_ptr rfl rfl rfl) ?_
     first | refine ax_call rfl (vc_pure0 (c_isBinary  ) hP rfl rfl ?_) | refine ax_call rfl (vc_lend0 (c_isBinary  ) hP (by repeat (first | exact lal_id _ rfl | exact LAL.nil | refine LAL.cons ?_ ?_ | exact la_id _ rfl | exact LA.lend (lend_whole rfl (by first | (simp; done) | (rw [List.length_map]; rfl))) | refine LA.agg ?_ | refine LA.fn ?_ | refine LA.lend ?_ | exact Lend.d _ | exact Lend.zs _ | exact lend_whole rfl (by first | (simp; done) | (rw [List.length_map]; rfl)) | refine Lend.ptr rfl ?_ | refine Lend.fn ?_ | exact LendL.nil | refine LendL.cons ?_ ?_)) rfl rfl ?_)
     refine ax_q (q_mov rfl) ?_
     refine ax_nil ?_
     refine cx_keep rfl rfl ?_
     refine cx_cond rfl (fun h4 => ?_) (fun h4 => ?_)
     ·
      skip
      have ho := okD_4 (S := S) h1 h2 h3 h4
      refine cx_seq ?_
      refine cx_ops ?_
      refine ax_q (q_mov rfl) ?_
      refine ax_q (q_fadr_ptr rfl) ?_
      refine ax_q (q_load1_ptr rfl rfl rfl) ?_
      refine ax_callv rfl (by rw [hP]; kernel_rfl) rfl (vcall_own (c_depthOf1 (S := S) (rs := rs) (a := ns[k].B) ?_ ?_) hP hmv false (fun e => bif Nat.beq e 1000 then 3 else 13) [1000, 1001] ⟨rfl, rfl, rfl, rfl, ⟨rfl, rfl, trivial⟩, rfl, rfl, rfl⟩ (.pass rfl rfl (.pass rfl rfl .nil)) ?_)
      ·
       omega
      ·
       exact hrs
      rintro r h ⟨rfl, rfl⟩
      refine ⟨fun e => bif Nat.beq e 1000 then 3 else 13, [], ⟨rfl, rfl, rfl, rfl, mem2 rfl rfl, rfl, rfl, fun h => absurd h Bool.false_ne_true⟩, ?_⟩
      refine ax_q (q_mov rfl) ?_
      refine ax_q (q_ext rfl rfl) ?_
      refine ax_q (q_ext rfl rfl) ?_
      refine ax_q (q_mov rfl) ?_
      refine ax_q (q_mov rfl) ?_
      refine ax_nil ?_
      refine cx_keep rfl rfl ?_
      refine cx_seq ?_
      refine cx_ops ?_
      refine ax_q (q_mov rfl) ?_
      refine ax_q (q_fadr_ptr rfl) ?_
      refine ax_q (q_load1_ptr rfl rfl rfl) ?_
      have hpl := @popF_len S ns[k].B
      refine ax_callv rfl (by rw [hP]; kernel_rfl) rfl (vcall_own (c_depthOf1 (S := (popF S ns[k].B).2.2) (rs := rs) (a := ns[k].A) ?_ ?_) hP hmv false (fun e => bif Nat.beq e 1000 then 3 else 13) [1000, 1001] ⟨rfl, rfl, rfl, rfl, ⟨rfl, rfl, trivial⟩, rfl, rfl, rfl⟩ (.pass rfl rfl (.pass rfl rfl .nil)) ?_)
      ·
       omega
      ·
       exact popF_rs hrs
      rintro r h ⟨rfl, rfl⟩
      refine ⟨fun e => bif Nat.beq e 1000 then 3 else 13, [], ⟨rfl, rfl, rfl, rfl, mem2 rfl rfl, rfl, rfl, fun h => absurd h Bool.false_ne_true⟩, ?_⟩
      refine ax_q (q_mov rfl) ?_
      refine ax_q (q_ext rfl rfl) ?_
      refine ax_q (q_ext rfl rfl) ?_
      refine ax_q (q_mov rfl) ?_
      refine ax_q (q_mov rfl) ?_
      refine ax_nil ?_
      refine cx_keep rfl rfl ?_
      refine cx_draw ?_
      refine ax_q (q_mov rfl) ?_
      refine ax_q (q_mov rfl) ?_
      refine ax_qe (r' := int (mxI (popF (popF S ns[k].B).2.2 ns[k].A).1 (popF S ns[k].B).1)) (q_mx rfl rfl) (rfl) ?_
      refine ax_q (q_mov rfl) ?_
      refine ax_q (q_mov rfl) ?_
      apply ax_and rfl rfl
      ·
       intro g
       refine ax_q (q_mov rfl) ?_
       exact ax_nil ⟨rfl, by repeat (first | exact trivial | refine ⟨rfl, ?_⟩ | refine ⟨?_, ?_⟩)⟩
      refine ax_q (q_mov rfl) ?_
      apply ax_and rfl rfl
      ·
       intro g
       have g := (fun h => And.intro (id (and_T h).1) (id (and_T h).2)) g
       refine ax_q (q_fadr_ptr rfl) ?_
       refine ax_q (q_load1_ptr rfl rfl rfl) ?_
       refine ax_q (q_ibin rfl rfl rfl) ?_
       exact ax_nil ⟨rfl, by repeat (first | exact trivial | refine ⟨rfl, ?_⟩ | refine ⟨?_, ?_⟩)⟩
      refine ax_q (q_mov rfl) ?_
      apply ax_and rfl rfl
      ·
       intro g
       have g := (fun h => And.intro ((fun h => And.intro (id (and_T h).1) (id (and_T h).2)) (and_T h).1) (dT (and_T h).2)) g
       refine ax_q (q_fadr_ptr rfl) ?_
       refine ax_q (q_ldN rfl rfl rfl) ?_
       refine ax_q (q_build rfl) ?_
       first | refine ax_q (GValue.q_eqs rfl rfl) ?_ | refine ax_q (q_eqs rfl rfl rfl) ?_
       exact ax_nil ⟨rfl, by repeat (first | exact trivial | refine ⟨rfl, ?_⟩ | refine ⟨?_, ?_⟩)⟩
      refine ax_q (q_mov rfl) ?_
      refine ax_q (q_mov rfl) ?_
      refine ax_nil ?_
      refine cx_keep rfl rfl ?_
      refine cx_seq ?_
      refine cx_seq ?_
      refine cx_ops ?_
      refine ax_q (q_mov rfl) ?_
      refine ax_q (q_not rfl) ?_
      refine ax_nil ?_
      refine cx_keep rfl rfl ?_
      refine cx_cond rfl (fun h5 => ?_) (fun h5 => ?_)
      ·
       have h5 : (okD S ns[k]).1 = false := by rw [ho] <;> exact bT h5
       refine cx_seq ?_
       refine cx_ops ?_
       refine ax_q (q_mov rfl) ?_
       refine ax_nil ?_
       refine cx_keep rfl rfl ?_
       refine cx_ret (ret0 rfl rfl ?_)
       exact ⟨by rw [depthF_none (k := k + 1) (by omega) (by rw [scan_next h0x hs, stepD_f h5])]; rfl, rfl⟩
      ·
       have h5 : (okD S ns[k]).1 = true := by rw [ho] <;> exact bF h5
       have hs2 := scan_next h0x hs
       rw [stepD_t h5, ho] at hs2
       rw [ho] at hlw hor
       dsimp only at hs2 hlw hor
       refine cx_skip ?_
       refine cx_keep rfl rfl ?_
       refine cx_ops ?_
       refine ax_q (q_load1_ptr rfl rfl rfl) ?_
       refine ax_q (q_mov rfl) ?_
       refine ax_q (q_mov rfl) ?_
       refine ax_q (q_add rfl rfl (by omega)) ?_
       refine ax_q (q_build rfl) ?_
       refine ax_e (e_bslice rfl (by decide) rfl rfl) ?_
       refine ax_e (e_appn rfl rfl (stk_le hor) rfl (src_osl rfl (by simp)) (.inl (by decide)) (hbnd (by omega) (by simp) (by decide)) (stk_len hs2) (stk_app hs2 hor)) ?_
       refine ax_e (e_st rfl rfl rfl rfl rfl rfl rfl) ?_
       refine ax_nil ?_
       refine cx_keep rfl rfl ?_
       refine cx_ops ?_
       refine ax_qe (r' := int ((k + 1 : Nat) : Int)) (q_ibin rfl rfl rfl) (by rw [wi (by omega) (by omega)]; rfl) ?_
       refine ax_q (q_mov rfl) ?_
       refine ax_nil ?_
       exact ⟨_, (k + 1, _, _), by simp only; omega, ⟨by simp only; omega, rfl, hs2, stk_inv hs2, by simp only [List.length_append, List.length_singleton]; omega, by rw [show ((k + 1 : Nat) : Int) = (k : Int) + 1 from by omega]; exact lowS_app hlw.2.2.1 ⟨hlw.1, hlw.2.1⟩⟩, by repeat (first | exact trivial | refine ⟨rfl, ?_⟩ | refine ⟨?_, ?_⟩)⟩
     ·
      skip
      have ho := okD_5 (S := S) h1 h2 h3 h4
      refine cx_ops ?_
      refine ax_q (q_mov rfl) ?_
      refine ax_nil ?_
      refine cx_keep rfl rfl ?_
      refine cx_seq ?_
      refine cx_seq ?_
      refine cx_ops ?_
      refine ax_q (q_mov rfl) ?_
      refine ax_q (q_not rfl) ?_
      refine ax_nil ?_
      refine cx_keep rfl rfl ?_
      refine cx_cond rfl (fun h5 => ?_) (fun h5 => ?_)
      ·
       have h5 : (okD S ns[k]).1 = false := by rw [ho] <;> exact bT h5
       refine cx_seq ?_
       refine cx_ops ?_
       refine ax_q (q_mov rfl) ?_
       refine ax_nil ?_
       refine cx_keep rfl rfl ?_
       refine cx_ret (ret0 rfl rfl ?_)
       exact ⟨by rw [depthF_none (k := k + 1) (by omega) (by rw [scan_next h0x hs, stepD_f h5])]; rfl, rfl⟩
      ·
       have h5 : (okD S ns[k]).1 = true := by rw [ho] <;> exact bF h5
       have hs2 := scan_next h0x hs
       rw [stepD_t h5, ho] at hs2
       rw [ho] at hlw hor
       dsimp only at hs2 hlw hor
       refine cx_skip ?_
       refine cx_keep rfl rfl ?_
       refine cx_ops ?_
       refine ax_q (q_load1_ptr rfl rfl rfl) ?_
       refine ax_q (q_mov rfl) ?_
       refine ax_q (q_mov rfl) ?_
       refine ax_q (q_add rfl rfl (by omega)) ?_
       refine ax_q (q_build rfl) ?_
       refine ax_e (e_bslice rfl (by decide) rfl rfl) ?_
       refine ax_e (e_appn rfl rfl (stk_le hor) rfl (src_osl rfl (by simp)) (.inl (by decide)) (hbnd (by omega) (by simp) (by decide)) (stk_len hs2) (stk_app hs2 hor)) ?_
       refine ax_e (e_st rfl rfl rfl rfl rfl rfl rfl) ?_
       refine ax_nil ?_
       refine cx_keep rfl rfl ?_
       refine cx_ops ?_
       refine ax_qe (r' := int ((k + 1 : Nat) : Int)) (q_ibin rfl rfl rfl) (by rw [wi (by omega) (by omega)]; rfl) ?_
       refine ax_q (q_mov rfl) ?_
       refine ax_nil ?_
       exact ⟨_, (k + 1, _, _), by simp only; omega, ⟨by simp only; omega, rfl, hs2, stk_inv hs2, by simp only [List.length_append, List.length_singleton]; omega, by rw [show ((k + 1 : Nat) : Int) = (k : Int) + 1 from by omega]; exact lowS_app hlw.2.2.1 ⟨hlw.1, hlw.2.1⟩⟩, by repeat (first | exact trivial | refine ⟨rfl, ?_⟩ | refine ⟨?_, ?_⟩)⟩
 ·
  have h0 := dF h0
  have h0x : k = ns.length := by omega
  subst h0x
  refine cx_exit rfl ?_
  refine cx_keep rfl rfl ?_
  refine cx_seq ?_
  refine cx_seq ?_
  refine cx_ops ?_
  refine ax_q (q_load1_ptr rfl rfl rfl) ?_
  first | refine ax_q (q_lenS_map rfl) ?_ | refine ax_q (q_lenS_osl rfl) ?_ | refine ax_q (q_lenS_zs rfl) ?_ | refine ax_q (q_lenS rfl) ?_
  refine ax_q (q_ibin rfl rfl rfl) ?_
  refine ax_nil ?_
  refine cx_keep rfl rfl ?_
  refine cx_cond rfl (fun h6 => ?_) (fun h6 => ?_)
  ·
   have h6 := nT h6
   refine cx_seq ?_
   refine cx_ops ?_
   refine ax_q (q_mov rfl) ?_
   refine ax_nil ?_
   refine cx_keep rfl rfl ?_
   refine cx_ret (ret0 rfl rfl ?_)
   exact ⟨by rw [depthF_no hs h6]; rfl, rfl⟩
  ·
   have h6 := nF h6
   refine cx_skip ?_
   refine cx_keep rfl rfl ?_
   refine cx_seq ?_
   refine cx_ops ?_
   refine ax_q (q_load1_ptr rfl rfl rfl) ?_
   refine ax_q (q_ixoI rfl rfl (by omega) (by omega)) ?_
   first | refine ax_q (q_fadr_ptr rfl) ?_ | refine ax_q (q_fadr_rptr rfl) ?_ | refine ax_q (q_fadr_ip rfl) ?_
   refine ax_q (q_load1_rptr (r := prow (S.getD 0 (0, 0))) rfl rfl (row0 hrs h6) rfl) ?_
   refine ax_q (q_mov rfl) ?_
   refine ax_nil ?_
   refine cx_keep rfl rfl ?_
   refine cx_ret (ret0 rfl rfl ?_)
   exact ⟨by rw [depthF_yes hs h6]; rfl, rfl⟩


/- slices.Equal[[]string,string] -/
def k_c_Equal_Str : XCode :=
 .seq (.ops [.op (some 4) (.mov (.k (.bool false)))])
 (.keep [0, 1] (.seq (.seq (.ops [.op (some 6) (.mov (.t 0)),
   .op (some 7) (.lenS (.t 6)),
   .op (some 8) (.mov (.t 1)),
   .op (some 9) (.lenS (.t 8)),
   .op (some 10) (.bin .neq (.t 7) (.t 9))])
  (.keep [0, 1, 10] (.cond (.t 10)
  (.seq (.ops [.op (some 4) (.mov (.k (.bool false)))])
   (.keep [4] (.ret)))
  (.skip))))
 (.keep [0, 1] (.seq (.seq (.ops [.op (some 11) (.mov (.t 0)),
   .op (some 12) (.lenS (.t 11)),
   .op (some 13) (.mov (.k (.int .i64 0)))])
  (.keep [0, 1, 12, 13] (.block 0 (.loop (.seq (.ops [.op (some 14) (.bin .lss (.t 13) (.t 12))])
   (.keep [0, 1, 12, 13, 14] (.seq (.cond (.t 14)
    (.skip)
    (.exit 0))
   (.keep [0, 1, 12, 13] (.seq (.block 1 (.seq (.ops [.op (some 15) (.mov (.t 13)),
     .op (some 5) (.mov (.t 15))])
    (.keep [0, 1, 5, 12, 13] (.seq (.draw [.op (some 16) (.mov (.t 0)),
     .op (some 17) (.mov (.t 5)),
     .op (some 18) (.iadr 1 (.t 16) (.t 17)),
     .op (some 19) (.load1 (.t 18)),
     .op (some 20) (.mov (.t 1)),
     .op (some 21) (.mov (.t 5)),
     .op (some 22) (.iadr 1 (.t 20) (.t 21)),
     .op (some 23) (.load1 (.t 22)),
     .op (some 24) (.bin .neq (.t 19) (.t 23))])
    (.keep [0, 1, 12, 13, 24] (.cond (.t 24)
    (.seq (.ops [.op (some 4) (.mov (.k (.bool false)))])
     (.keep [4] (.ret)))
    (.skip)))))))
   (.keep [0, 1, 12, 13] (.ops [.op (some 25) (.bin .add (.t 13) (.k (.int .i64 1))),
    .op (some 13) (.mov (.t 25))])))))))))))
 (.keep [] (.seq (.ops [.op (some 4) (.mov (.k (.bool true)))])
 (.keep [4] (.ret))))))))
theorem k_c_Equal_Str_fits : fitsF Tryz.prog 113 ⟨26, k_c_Equal_Str, [.t 4]⟩ = true := by kernel_rfl
theorem c_Equal_Str {xs ys : List Str} (hx : xs.length ≤ 1048576) (hy : ys.length ≤ 1048576) : Con Tryz.prog noMv 113 [.d (.sl 1 (xs.map strRow)), .d (.sl 1 (ys.map strRow))] [] (fun r h => r = bool (decide (xs = ys)) ∧ h = []) := by
 refine con_of2 k_c_Equal_Str_fits rfl fun C hP hmv => ?_
 unfold k_c_Equal_Str
 refine cx_seq ?_
 refine cx_ops ?_
 refine ax_q (q_mov rfl) ?_
 refine ax_nil ?_
 refine cx_keep rfl rfl ?_
 refine cx_seq ?_
 refine cx_seq ?_
 refine cx_ops ?_
 refine ax_q (q_mov rfl) ?_
 first | refine ax_q (q_lenS_map rfl) ?_ | refine ax_q (q_lenS_osl rfl) ?_ | refine ax_q (q_lenS_zs rfl) ?_ | refine ax_q (q_lenS rfl) ?_
 refine ax_q (q_mov rfl) ?_
 first | refine ax_q (q_lenS_map rfl) ?_ | refine ax_q (q_lenS_osl rfl) ?_ | refine ax_q (q_lenS_zs rfl) ?_ | refine ax_q (q_lenS rfl) ?_
 refine ax_q (q_ibin rfl rfl rfl) ?_
 refine ax_nil ?_
 refine cx_keep rfl rfl ?_
 refine cx_cond rfl (fun h0 => ?_) (fun h0 => ?_)
 ·
  have h0 := nT h0
  refine cx_seq ?_
  refine cx_ops ?_
  refine ax_q (q_mov rfl) ?_
  refine ax_nil ?_
  refine cx_keep rfl rfl ?_
  refine cx_ret (ret0 rfl rfl ?_)
  exact ⟨by rw [decide_eq_false (fun e => by subst e; exact h0 rfl)]; rfl, rfl⟩
 ·
  have h0 := nF h0
  have hlen : xs.length = ys.length := by omega
  refine cx_skip ?_
  refine cx_keep rfl rfl ?_
  refine cx_seq ?_
  refine cx_seq ?_
  refine cx_ops ?_
  refine ax_q (q_mov rfl) ?_
  first | refine ax_q (q_lenS_map rfl) ?_ | refine ax_q (q_lenS_osl rfl) ?_ | refine ax_q (q_lenS_zs rfl) ?_ | refine ax_q (q_lenS rfl) ?_
  refine ax_q (q_mov rfl) ?_
  refine ax_nil ?_
  refine cx_keep rfl rfl ?_
  refine cx_block ?_
  refine cx_loopU (fun n k => k ≤ xs.length ∧ n = xs.length - k ∧ ∀ i, i < k → xs[i]? = ys[i]?) (fun k : Nat => [(13, int k)]) (fun _ => []) ⟨_, 0, ⟨Nat.zero_le _, rfl, fun i hi => absurd hi (Nat.not_lt_zero _)⟩, by repeat (first | exact trivial | refine ⟨rfl, ?_⟩ | refine ⟨?_, ?_⟩)⟩ ?_
  rintro n k ⟨hk, rfl, hb⟩
  refine cx_seq ?_
  refine cx_ops ?_
  refine ax_q (q_ibin rfl rfl rfl) ?_
  refine ax_nil ?_
  refine cx_keep rfl rfl ?_
  refine cx_seq ?_
  refine cx_cond rfl (fun h1 => ?_) (fun h1 => ?_)
  ·
   have h1 := dT h1
   have h1x : k < xs.length := by omega
   have h1y : k < ys.length := by omega
   refine cx_skip ?_
   refine cx_keep rfl rfl ?_
   refine cx_seq ?_
   refine cx_block ?_
   refine cx_seq ?_
   refine cx_ops ?_
   refine ax_q (q_mov rfl) ?_
   refine ax_q (q_mov rfl) ?_
   refine ax_nil ?_
   refine cx_keep rfl rfl ?_
   refine cx_seq ?_
   refine cx_draw ?_
   refine ax_q (q_mov rfl) ?_
   refine ax_q (q_mov rfl) ?_
   refine ax_q (q_ix rfl rfl (mapAt h1x)) ?_
   first | refine ax_q (q_load1_ptr rfl rfl rfl) ?_ | refine ax_q (q_load1_ip rfl) ?_ | refine ax_q (q_load1_rptr rfl rfl rfl rfl) ?_ | refine ax_q (q_load1_rptr rfl rfl (by assumption) rfl) ?_ | refine ax_q (q_load1_rptr rfl rfl (mapAt (by first | assumption | omega)) rfl) ?_
   refine ax_q (q_mov rfl) ?_
   refine ax_q (q_mov rfl) ?_
   refine ax_q (q_ix rfl rfl (mapAt h1y)) ?_
   first | refine ax_q (q_load1_ptr rfl rfl rfl) ?_ | refine ax_q (q_load1_ip rfl) ?_ | refine ax_q (q_load1_rptr rfl rfl rfl rfl) ?_ | refine ax_q (q_load1_rptr rfl rfl (by assumption) rfl) ?_ | refine ax_q (q_load1_rptr rfl rfl (mapAt (by first | assumption | omega)) rfl) ?_
   refine ax_q (q_sbin rfl rfl rfl) ?_
   refine ax_nil ?_
   refine cx_keep rfl rfl ?_
   refine cx_cond rfl (fun h2 => ?_) (fun h2 => ?_)
   ·
    have h2 := nT h2
    refine cx_seq ?_
    refine cx_ops ?_
    refine ax_q (q_mov rfl) ?_
    refine ax_nil ?_
    refine cx_keep rfl rfl ?_
    refine cx_ret (ret0 rfl rfl ?_)
    exact ⟨by rw [decide_eq_false (fun e => by subst e; exact h2 rfl)]; rfl, rfl⟩
   ·
    have h2 := nF h2
    refine cx_skip ?_
    refine cx_keep rfl rfl ?_
    refine cx_ops ?_
    refine ax_qe (r' := int ((k + 1 : Nat) : Int)) (q_ibin rfl rfl rfl) (by rw [wi (by omega) (by omega)]; rfl) ?_
    refine ax_q (q_mov rfl) ?_
    refine ax_nil ?_
    exact ⟨_, k + 1, by omega, ⟨by omega, rfl, eqto_step h1x h1y hb h2⟩, by repeat (first | exact trivial | refine ⟨rfl, ?_⟩ | refine ⟨?_, ?_⟩)⟩
  ·
   have h1 := dF h1
   have h1x : k = xs.length := by omega
   refine cx_exit rfl ?_
   refine cx_keep rfl rfl ?_
   refine cx_seq ?_
   refine cx_ops ?_
   refine ax_q (q_mov rfl) ?_
   refine ax_nil ?_
   refine cx_keep rfl rfl ?_
   refine cx_ret (ret0 rfl rfl ?_)
   exact ⟨by rw [decide_eq_true (eqto_end hlen h1x hb)]; rfl, rfl⟩


/- (ptr loop.example/g00332/impl.parser).is -/
def k_c_is : XCode :=
 .seq (.ops [.op (some 4) (.mov (.k (.bool false)))])
 (.keep [0, 1] (.seq (.ops [.op (some 5) (.mov (.t 0)),
   .op (some 6) (.nilck (.t 5)),
   .op (some 7) (.fadr (.t 6) 0),
   .op (some 8) (.load1 (.t 7)),
   .op (some 9) (.lenS (.t 8)),
   .op (some 10) (.mov (.t 1)),
   .op (some 11) (.lenS (.t 10)),
   .op (some 12) (.bin .geq (.t 9) (.t 11)),
   .op (some 13) (.mov (.t 12)),
   .andor 23 true 8 13 [.op (some 14) (.mov (.t 0)), .op (some 15) (.nilck (.t 14)), .op (some 16) (.fadr (.t 15) 0), .op (some 17) (.load1 (.t 16)), .op (some 18) (.mov (.t 1)), .op (some 19) (.lenS (.t 18)), .op (some 20) (.slc 1 (.t 17) none (some (.t 19)) none), .op (some 21) (.mov (.t 1)), .call (some 22) 113 [.t 20, .t 21]] (.t 22),
   .op (some 4) (.mov (.t 23))])
 (.keep [4] (.ret))))
theorem k_c_is_fits : fitsF Tryz.prog 101 ⟨24, k_c_is, [.t 4]⟩ = true := by kernel_rfl
theorem c_is {s : PS} {ts : List Str} (hs : s.ok) (ht : ts.length ≤ 100) : Con Tryz.prog noMv 101 [.d (.ip [.sl 1 (s.tk.map strRow), .sl 7 (s.ns.map GExprNode.row), .int .i64 (s.op : Int)]), .d (.sl 1 (ts.map strRow))] [] (fun r h => r = bool (isP s.tk ts) ∧ h = []) := by
 refine con_of2 k_c_is_fits rfl fun C hP hmv => ?_
 unfold k_c_is
 have hs1 := hs.n
 have hs2 := hs.m
 have hs3 := hs.o
 refine cx_seq ?_
 refine cx_ops ?_
 refine ax_q (q_mov rfl) ?_
 refine ax_nil ?_
 refine cx_keep rfl rfl ?_
 refine cx_seq ?_
 refine cx_ops ?_
 refine ax_q (q_mov rfl) ?_
 first | refine ax_q (q_nilck_ptr rfl) ?_ | refine ax_q (q_nilck_rptr rfl) ?_ | refine ax_q (q_nilck_ip rfl) ?_
 first | refine ax_q (q_fadr_ptr rfl) ?_ | refine ax_q (q_fadr_rptr rfl) ?_ | refine ax_q (q_fadr_ip rfl) ?_
 first | refine ax_q (q_load1_ptr rfl rfl rfl) ?_ | refine ax_q (q_load1_ip rfl) ?_ | refine ax_q (q_load1_rptr rfl rfl rfl rfl) ?_ | refine ax_q (q_load1_rptr rfl rfl (by assumption) rfl) ?_ | refine ax_q (q_load1_rptr rfl rfl (mapAt (by first | assumption | omega)) rfl) ?_
 first | refine ax_q (q_lenS_map rfl) ?_ | refine ax_q (q_lenS_osl rfl) ?_ | refine ax_q (q_lenS_zs rfl) ?_ | refine ax_q (q_lenS rfl) ?_
 refine ax_q (q_mov rfl) ?_
 first | refine ax_q (q_lenS_map rfl) ?_ | refine ax_q (q_lenS_osl rfl) ?_ | refine ax_q (q_lenS_zs rfl) ?_ | refine ax_q (q_lenS rfl) ?_
 refine ax_q (q_ibin rfl rfl rfl) ?_
 refine ax_q (q_mov rfl) ?_
 apply ax_and rfl rfl
 ·
  intro g
  have g := dT g
  have g : ts.length ≤ s.tk.length := by omega
  refine ax_q (q_mov rfl) ?_
  first | refine ax_q (q_nilck_ptr rfl) ?_ | refine ax_q (q_nilck_rptr rfl) ?_ | refine ax_q (q_nilck_ip rfl) ?_
  first | refine ax_q (q_fadr_ptr rfl) ?_ | refine ax_q (q_fadr_rptr rfl) ?_ | refine ax_q (q_fadr_ip rfl) ?_
  first | refine ax_q (q_load1_ptr rfl rfl rfl) ?_ | refine ax_q (q_load1_ip rfl) ?_ | refine ax_q (q_load1_rptr rfl rfl rfl rfl) ?_ | refine ax_q (q_load1_rptr rfl rfl (by assumption) rfl) ?_ | refine ax_q (q_load1_rptr rfl rfl (mapAt (by first | assumption | omega)) rfl) ?_
  refine ax_q (q_mov rfl) ?_
  first | refine ax_q (q_lenS_map rfl) ?_ | refine ax_q (q_lenS_osl rfl) ?_ | refine ax_q (q_lenS_zs rfl) ?_ | refine ax_q (q_lenS rfl) ?_
  refine ax_qe (r' := .d (.sl 1 ((s.tk.take ts.length).map strRow))) (q_slc rfl rfl rfl (by omega) (by omega) (by simp; omega)) (sR_take (by omega)) ?_
  refine ax_q (q_mov rfl) ?_
  first | refine ax_call rfl (vc_pure0 (c_Equal_Str (xs := s.tk.take ts.length) (ys := ts) ?_ ?_) hP rfl rfl ?_) | refine ax_call rfl (vc_lend0 (c_Equal_Str (xs := s.tk.take ts.length) (ys := ts) ?_ ?_) hP (by repeat (first | exact lal_id _ rfl | exact LAL.nil | refine LAL.cons ?_ ?_ | exact la_id _ rfl | exact LA.lend (lend_whole rfl (by first | (simp; done) | (rw [List.length_map]; rfl))) | refine LA.agg ?_ | refine LA.fn ?_ | refine LA.lend ?_ | exact Lend.d _ | exact Lend.zs _ | exact lend_whole rfl (by first | (simp; done) | (rw [List.length_map]; rfl)) | refine Lend.ptr rfl ?_ | refine Lend.fn ?_ | exact LendL.nil | refine LendL.cons ?_ ?_)) rfl rfl ?_)
  ·
   rw [List.length_take]; omega
  ·
   first | assumption | omega | (simp; done) | (simp; omega)
  exact ax_nil ⟨rfl, by repeat (first | exact trivial | refine ⟨rfl, ?_⟩ | refine ⟨?_, ?_⟩)⟩
 refine ax_q (q_mov rfl) ?_
 refine ax_nil ?_
 refine cx_keep rfl rfl ?_
 refine cx_ret (ret0 rfl rfl ?_)
 exact ⟨by unfold isP; rw [int_ge_dec]; rfl, rfl⟩


/- (ptr loop.example/g00332/impl.parser).skip -/
def k_c_skip : XCode :=
 .seq (.ops [.op (some 4) (.mov (.k (.bool false)))])
 (.keep [0, 1] (.seq (.seq (.ops [.op (some 5) (.mov (.t 0)),
   .op (some 6) (.mov (.t 1)),
   .call (some 7) 101 [.t 5, .t 6],
   .op (some 8) (.not (.t 7))])
  (.keep [0, 1, 8] (.cond (.t 8)
  (.seq (.ops [.op (some 4) (.mov (.k (.bool false)))])
   (.keep [4] (.ret)))
  (.skip))))
 (.keep [0, 1] (.seq (.ops [.op (some 9) (.mov (.t 0)),
   .op (some 10) (.mov (.t 0)),
   .op (some 11) (.nilck (.t 10)),
   .op (some 12) (.fadr (.t 11) 0),
   .op (some 13) (.load1 (.t 12)),
   .op (some 14) (.mov (.t 1)),
   .op (some 15) (.lenS (.t 14)),
   .op (some 16) (.slc 1 (.t 13) (some (.t 15)) none none),
   .op (some 17) (.nilck (.t 9)),
   .op (some 18) (.fadr (.t 17) 0),
   .op none (.store 1 (.t 18) (.t 16))])
 (.keep [] (.seq (.ops [.op (some 4) (.mov (.k (.bool true)))])
 (.keep [4] (.ret))))))))
theorem k_c_skip_fits : fitsF Tryz.prog 81 ⟨19, k_c_skip, [.t 4]⟩ = true := by kernel_rfl
theorem c_skip {s : PS} {ts : List Str} (hs : s.ok) (ht : ts.length ≤ 100) : Con Tryz.prog noMv 81 [.ptr 1000 0, .d (.sl 1 (ts.map strRow))] [(1000, .box [.d (.sl 1 (s.tk.map strRow)), .osl 1001 7 0 s.ns.length, int (s.op : Int)]), (1001, .rows 7 (s.ns.map GExprNode.row))] (fun r h => r = bool (isP s.tk ts) ∧ h = [(1000, .box [.d (.sl 1 ((skP s ts).tk.map strRow)), .osl 1001 7 0 (skP s ts).ns.length, int ((skP s ts).op : Int)]), (1001, .rows 7 ((skP s ts).ns.map GExprNode.row))]) := by
 refine con_of2 k_c_skip_fits rfl fun C hP hmv => ?_
 unfold k_c_skip
 have hs1 := hs.n
 have hs2 := hs.m
 have hs3 := hs.o
 refine cx_seq ?_
 refine cx_ops ?_
 refine ax_q (q_mov rfl) ?_
 refine ax_nil ?_
 refine cx_keep rfl rfl ?_
 refine cx_seq ?_
 refine cx_seq ?_
 refine cx_ops ?_
 refine ax_q (q_mov rfl) ?_
 refine ax_q (q_mov rfl) ?_
 first | refine ax_call rfl (vc_pure0 (c_is (s := s) (ts := ts) ?_ ?_) hP rfl rfl ?_) | refine ax_call rfl (vc_lend0 (c_is (s := s) (ts := ts) ?_ ?_) hP (by repeat (first | exact lal_id _ rfl | exact LAL.nil | refine LAL.cons ?_ ?_ | exact la_id _ rfl | exact LA.lend (lend_whole rfl (by first | (simp; done) | (rw [List.length_map]; rfl))) | refine LA.agg ?_ | refine LA.fn ?_ | refine LA.lend ?_ | exact Lend.d _ | exact Lend.zs _ | exact lend_whole rfl (by first | (simp; done) | (rw [List.length_map]; rfl)) | refine Lend.ptr rfl ?_ | refine Lend.fn ?_ | exact LendL.nil | refine LendL.cons ?_ ?_)) rfl rfl ?_)
 ·
  first | assumption | omega | (simp; done) | (simp; omega)
 ·
  first | assumption | omega | (simp; done) | (simp; omega)
 refine ax_q (q_not rfl) ?_
 refine ax_nil ?_
 refine cx_keep rfl rfl ?_
 refine cx_cond rfl (fun h0 => ?_) (fun h0 => ?_)
 ·
  have h0 := bT h0
  refine cx_seq ?_
  refine cx_ops ?_
  refine ax_q (q_mov rfl) ?_
  refine ax_nil ?_
  refine cx_keep rfl rfl ?_
  refine cx_ret (retN id [1000, 1001] rfl rfl rfl rfl rfl ?_)
  rw [h0]; exact ⟨rfl, by rw [skP_f h0]; rfl⟩
 ·
  have h0 := bF h0
  have hil := isP_le h0
  refine cx_skip ?_
  refine cx_keep rfl rfl ?_
  refine cx_seq ?_
  refine cx_ops ?_
  refine ax_q (q_mov rfl) ?_
  refine ax_q (q_mov rfl) ?_
  first | refine ax_q (q_nilck_ptr rfl) ?_ | refine ax_q (q_nilck_rptr rfl) ?_ | refine ax_q (q_nilck_ip rfl) ?_
  first | refine ax_q (q_fadr_ptr rfl) ?_ | refine ax_q (q_fadr_rptr rfl) ?_ | refine ax_q (q_fadr_ip rfl) ?_
  first | refine ax_q (q_load1_ptr rfl rfl rfl) ?_ | refine ax_q (q_load1_ip rfl) ?_ | refine ax_q (q_load1_rptr rfl rfl rfl rfl) ?_ | refine ax_q (q_load1_rptr rfl rfl (by assumption) rfl) ?_ | refine ax_q (q_load1_rptr rfl rfl (mapAt (by first | assumption | omega)) rfl) ?_
  refine ax_q (q_mov rfl) ?_
  first | refine ax_q (q_lenS_map rfl) ?_ | refine ax_q (q_lenS_osl rfl) ?_ | refine ax_q (q_lenS_zs rfl) ?_ | refine ax_q (q_lenS rfl) ?_
  refine ax_qe (r' := .d (.sl 1 ((s.tk.drop ts.length).map strRow))) (q_slc rfl rfl rfl (by omega) (by simp; omega) (by simp)) (sR_drop (by omega)) ?_
  first | refine ax_q (q_nilck_ptr rfl) ?_ | refine ax_q (q_nilck_rptr rfl) ?_ | refine ax_q (q_nilck_ip rfl) ?_
  first | refine ax_q (q_fadr_ptr rfl) ?_ | refine ax_q (q_fadr_rptr rfl) ?_ | refine ax_q (q_fadr_ip rfl) ?_
  refine ax_e (e_st rfl rfl rfl rfl rfl rfl rfl) ?_
  refine ax_nil ?_
  refine cx_keep rfl rfl ?_
  refine cx_seq ?_
  refine cx_ops ?_
  refine ax_q (q_mov rfl) ?_
  refine ax_nil ?_
  refine cx_keep rfl rfl ?_
  refine cx_ret (retN id [1000, 1001] rfl rfl rfl rfl rfl ?_)
  rw [h0]; exact ⟨rfl, by rw [skP_t h0]; rfl⟩


/- (ptr loop.example/g00332/impl.parser).node -/
def k_c_pnode : XCode :=
 .seq (.ops [.op (some 3) (.box (.t 1)),
   .op (some 4) (.mov (.k (.int .i64 0)))])
 (.keep [0, 3] (.seq (.seq (.ops [.op (some 5) (.mov (.t 0)),
   .op (some 6) (.nilck (.t 5)),
   .op (some 7) (.fadr (.t 6) 1),
   .op (some 8) (.load1 (.t 7)),
   .op (some 9) (.lenS (.t 8)),
   .op (some 10) (.bin .eql (.t 9) (.k (.int .i64 40)))])
  (.keep [0, 3, 10] (.cond (.t 10)
  (.ops [.call (some 11) 57 [.k (.int .i64 6)]])
  (.skip))))
 (.keep [0, 3] (.seq (.drawE [[], [], [1], [1, 2], [1, 2, 3], [], [5], [1, 2, 3, 4, 5, 6], [0, 1, 2, 3, 4, 5, 6, 7], [0, 1, 2, 3, 4, 5, 6, 7, 8], [0, 1, 2, 3, 4, 5, 6, 7, 8, 9]] [.op (some 12) (.mov (.t 0)),
   .op (some 13) (.mov (.t 0)),
   .op (some 14) (.nilck (.t 13)),
   .op (some 15) (.fadr (.t 14) 1),
   .op (some 16) (.load1 (.t 15)),
   .op (some 17) (.loadN 7 (.t 3)),
   .op (some 18) (.bslice 7 [.t 17]),
   .op (some 19) (.app 7 64 [.int .i64 0, .int .i64 0, .int .i64 0, .int .i64 0, .int .i64 0, .int .i64 0, .str []] (.t 16) (.t 18))]
  [.op (some 20) (.nilck (.t 12)),
   .op (some 21) (.fadr (.t 20) 1),
   .op none (.store 1 (.t 21) (.t 19))])
 (.keep [0] (.seq (.ops [.op (some 22) (.mov (.t 0)),
   .op (some 23) (.nilck (.t 22)),
   .op (some 24) (.fadr (.t 23) 1),
   .op (some 25) (.load1 (.t 24)),
   .op (some 26) (.lenS (.t 25)),
   .op (some 27) (.bin .sub (.t 26) (.k (.int .i64 1))),
   .op (some 4) (.mov (.t 27))])
 (.keep [4] (.ret))))))))
theorem k_c_pnode_fits : fitsF Tryz.prog 103 ⟨28, k_c_pnode, [.t 4]⟩ = true := by kernel_rfl
theorem c_pnode {s s' : PS} {n : GExprNode} {k : Int} (hs : s.ok) (h : ndP s n = some (s', k)) : Con Tryz.prog (fun e => Nat.beq e 1001) 103 [.ptr 1000 0, n.av] [(1000, .box [.d (.sl 1 (s.tk.map strRow)), .osl 1001 7 0 s.ns.length, int (s.op : Int)]), (1001, .rows 7 (s.ns.map GExprNode.row))] (fun r h => r = int k ∧ h = [(1000, .box [.d (.sl 1 (s'.tk.map strRow)), .osl 1001 7 0 s'.ns.length, int (s'.op : Int)]), (1001, .rows 7 (s'.ns.map GExprNode.row))]) := by
 refine con_of2 k_c_pnode_fits rfl fun C hP hmv => ?_
 unfold k_c_pnode
 have hs1 := hs.n
 have hs2 := hs.m
 have hs3 := hs.o
 obtain ⟨hn, rfl, rfl⟩ := ndP_some h
 refine cx_seq ?_
 refine cx_ops ?_
 refine ax_e (e_box rfl rfl (by decide) rfl rfl rfl) ?_
 refine ax_q (q_mov rfl) ?_
 refine ax_nil ?_
 refine cx_keep rfl rfl ?_
 refine cx_seq ?_
 refine cx_seq ?_
 refine cx_ops ?_
 refine ax_q (q_mov rfl) ?_
 first | refine ax_q (q_nilck_ptr rfl) ?_ | refine ax_q (q_nilck_rptr rfl) ?_ | refine ax_q (q_nilck_ip rfl) ?_
 first | refine ax_q (q_fadr_ptr rfl) ?_ | refine ax_q (q_fadr_rptr rfl) ?_ | refine ax_q (q_fadr_ip rfl) ?_
 first | refine ax_q (q_load1_ptr rfl rfl rfl) ?_ | refine ax_q (q_load1_ip rfl) ?_ | refine ax_q (q_load1_rptr rfl rfl rfl rfl) ?_ | refine ax_q (q_load1_rptr rfl rfl (by assumption) rfl) ?_ | refine ax_q (q_load1_rptr rfl rfl (mapAt (by first | assumption | omega)) rfl) ?_
 first | refine ax_q (q_lenS_map rfl) ?_ | refine ax_q (q_lenS_osl rfl) ?_ | refine ax_q (q_lenS_zs rfl) ?_ | refine ax_q (q_lenS rfl) ?_
 refine ax_q (q_ibin rfl rfl rfl) ?_
 refine ax_nil ?_
 refine cx_keep rfl rfl ?_
 refine cx_cond rfl (fun h0 => ?_) (fun h0 => ?_)
 ·
  have h0 := dT h0
  exfalso; omega
 ·
  have h0 := dF h0
  refine cx_skip ?_
  refine cx_keep rfl rfl ?_
  refine cx_seq ?_
  refine cx_drawL 7 19 (Nat.beq 1001) (nrA 1001) [] ([(1001, .rows 7 ((s.ns ++ [n]).map GExprNode.row))]) [[0], [0], [13], [14], [15], [3], [17], [16, 18]] [[1001, 1000], [], [], [], [], [], [], [1001, 1000]] rfl ?_
  first | refine ⟨_, .inr ⟨rfl, _, rfl, .inr ⟨rfl, rfl, .inr rfl, rfl, rfl⟩, loc_q (q_mov rfl)⟩, ?_⟩
  first | refine ⟨_, .inr ⟨rfl, _, rfl, .inl rfl, loc_q (q_mov rfl)⟩, ?_⟩
  first | refine ⟨_, .inr ⟨rfl, _, rfl, .inl rfl, loc_q (q_nilck_ptr rfl)⟩, ?_⟩ | refine ⟨_, .inr ⟨rfl, _, rfl, .inl rfl, loc_q (q_nilck_rptr rfl)⟩, ?_⟩ | refine ⟨_, .inr ⟨rfl, _, rfl, .inl rfl, loc_q (q_nilck_ip rfl)⟩, ?_⟩
  first | refine ⟨_, .inr ⟨rfl, _, rfl, .inl rfl, loc_q (q_fadr_ptr rfl)⟩, ?_⟩ | refine ⟨_, .inr ⟨rfl, _, rfl, .inl rfl, loc_q (q_fadr_rptr rfl)⟩, ?_⟩ | refine ⟨_, .inr ⟨rfl, _, rfl, .inl rfl, loc_q (q_fadr_ip rfl)⟩, ?_⟩
  first | refine ⟨_, .inr ⟨rfl, _, rfl, .inl rfl, loc_q (q_load1_ptr rfl rfl rfl)⟩, ?_⟩ | refine ⟨_, .inr ⟨rfl, _, rfl, .inl rfl, loc_q (q_load1_ip rfl)⟩, ?_⟩ | refine ⟨_, .inr ⟨rfl, _, rfl, .inl rfl, loc_q (q_load1_rptr rfl rfl rfl rfl)⟩, ?_⟩ | refine ⟨_, .inr ⟨rfl, _, rfl, .inl rfl, loc_q (q_load1_rptr rfl rfl (by assumption) rfl)⟩, ?_⟩ | refine ⟨_, .inr ⟨rfl, _, rfl, .inl rfl, loc_q (q_load1_rptr rfl rfl (mapAt (by first | assumption | omega)) rfl)⟩, ?_⟩
  first | refine ⟨_, .inr ⟨rfl, _, rfl, .inl rfl, loc_q (q_ldN rfl rfl rfl)⟩, ?_⟩
  first | refine ⟨_, .inr ⟨rfl, _, rfl, .inl rfl, loc_bslice rfl⟩, ?_⟩
  refine ⟨⟨19, _, []⟩, .inl ⟨rfl, rfl, rfl, locl_app (n' := (s.ns ++ [n]).length) (rs' := (s.ns ++ [n]).map GExprNode.row) rfl rfl (by simp) rfl (fun _ _ h => src_osl (h _ _ rfl) (by simp)) (.inr (by rw [hmv]; rfl)) (hbnd (by omega) (by simp) (by decide)) (by simp) (app1 rfl)⟩, ?_⟩
  refine ⟨rfl, ?_⟩
  first | refine ax_q (q_nilck_ptr rfl) ?_ | refine ax_q (q_nilck_rptr rfl) ?_ | refine ax_q (q_nilck_ip rfl) ?_
  first | refine ax_q (q_fadr_ptr rfl) ?_ | refine ax_q (q_fadr_rptr rfl) ?_ | refine ax_q (q_fadr_ip rfl) ?_
  refine ax_e (e_st rfl rfl rfl rfl rfl rfl rfl) ?_
  refine ax_nil ?_
  refine cx_keep rfl rfl ?_
  refine cx_seq ?_
  refine cx_ops ?_
  refine ax_q (q_mov rfl) ?_
  first | refine ax_q (q_nilck_ptr rfl) ?_ | refine ax_q (q_nilck_rptr rfl) ?_ | refine ax_q (q_nilck_ip rfl) ?_
  first | refine ax_q (q_fadr_ptr rfl) ?_ | refine ax_q (q_fadr_rptr rfl) ?_ | refine ax_q (q_fadr_ip rfl) ?_
  first | refine ax_q (q_load1_ptr rfl rfl rfl) ?_ | refine ax_q (q_load1_ip rfl) ?_ | refine ax_q (q_load1_rptr rfl rfl rfl rfl) ?_ | refine ax_q (q_load1_rptr rfl rfl (by assumption) rfl) ?_ | refine ax_q (q_load1_rptr rfl rfl (mapAt (by first | assumption | omega)) rfl) ?_
  first | refine ax_q (q_lenS_map rfl) ?_ | refine ax_q (q_lenS_osl rfl) ?_ | refine ax_q (q_lenS_zs rfl) ?_ | refine ax_q (q_lenS rfl) ?_
  have hq : (s.ns ++ [n]).length = s.ns.length + 1 := by simp
  refine ax_qe (r' := int ((s.ns.length : Nat) : Int)) (q_ibin rfl rfl rfl) (by rw [wi (by omega) (by omega)]; exact congrArg AM.int (by omega)) ?_
  refine ax_q (q_mov rfl) ?_
  refine ax_nil ?_
  refine cx_keep rfl rfl ?_
  refine cx_ret (retN id [1000, 1001] rfl rfl rfl rfl rfl ?_)
  exact ⟨rfl, rfl⟩


/- (ptr loop.example/g00332/impl.parser).joins -/
def k_c_joins : XCode :=
 .seq (.ops [.op (some 6) (.mov (.k (.int .i64 0)))])
 (.keep [0, 1, 2] (.seq (.ops [.op (some 12) (.mov (.t 1)),
   .callv (some 13) (.t 12) [],
   .op (some 7) (.mov (.t 13))])
 (.keep [0, 1, 2, 7] (.block 0 (.loop (.block 1 (.seq (.ops [.op (some 8) (.mov (.k (.int .i64 0)))])
   (.keep [0, 1, 2, 7, 8] (.seq (.seq (.ops [.op (some 14) (.mov (.t 2)),
     .op (some 15) (.lenS (.t 14)),
     .op (some 16) (.mov (.k (.int .i64 0)))])
   (.keep [0, 1, 2, 7, 8, 14, 15, 16] (.block 2 (.loop (.seq (.ops [.op (some 17) (.bin .lss (.t 16) (.t 15))])
    (.keep [0, 1, 2, 7, 8, 14, 15, 16, 17] (.seq (.cond (.t 17)
     (.skip)
     (.exit 2))
    (.keep [0, 1, 2, 7, 8, 14, 15, 16] (.seq (.block 3 (.seq (.ops [.op (some 18) (.iadr 1 (.t 14) (.t 16)),
       .op (some 19) (.load1 (.t 18)),
       .op (some 10) (.mov (.t 19))])
     (.keep [0, 1, 2, 7, 8, 10, 14, 15, 16] (.seq (.ops [.op (some 20) (.mov (.t 8)),
       .op (some 21) (.bin .eql (.t 20) (.k (.int .i64 0))),
       .op (some 22) (.mov (.t 21)),
       .andor 30 true 2 22 [.op (some 23) (.mov (.t 0)), .op (some 24) (.mov (.t 10)), .op (some 25) (.bin .sub (.t 24) (.k (.int .i64 6))), .op (some 26) (.iadrA 1 8 (.g 1) (.t 25)), .op (some 27) (.load1 (.t 26)), .op (some 28) (.bslice 1 [.t 27]), .call (some 29) 81 [.t 23, .t 28]] (.t 29)])
     (.keep [0, 1, 2, 7, 8, 10, 14, 15, 16, 30] (.cond (.t 30)
      (.ops [.op (some 31) (.mov (.t 10)),
       .op (some 8) (.mov (.t 31))])
      (.skip)))))))
    (.keep [0, 1, 2, 7, 8, 14, 15, 16] (.ops [.op (some 32) (.bin .add (.t 16) (.k (.int .i64 1))),
     .op (some 16) (.mov (.t 32))])))))))))))
   (.keep [0, 1, 2, 7, 8] (.seq (.seq (.ops [.op (some 33) (.mov (.t 8)),
     .op (some 34) (.bin .eql (.t 33) (.k (.int .i64 0)))])
   (.keep [0, 1, 2, 7, 8, 34] (.cond (.t 34)
    (.seq (.ops [.op (some 35) (.mov (.t 7)),
      .op (some 6) (.mov (.t 35))])
    (.keep [6] (.ret)))
    (.skip))))
   (.keep [0, 1, 2, 7, 8] (.seq (.ops [.op (some 36) (.mov (.t 1)),
    .callv (some 37) (.t 36) [],
    .op (some 11) (.mov (.t 37))])
   (.keep [0, 1, 2, 7, 8, 11] (.ops [.op (some 38) (.mov (.t 0)),
    .op (some 39) (.mov (.t 8)),
    .op (some 40) (.mov (.t 7)),
    .op (some 41) (.mov (.t 11)),
    .op (some 42) (.build [.int .i64 0, .int .i64 0, .int .i64 0, .int .i64 0, .int .i64 0, .int .i64 0, .str []] [(0, 1, .t 39), (1, 1, .t 40), (2, 1, .t 41)]),
    .call (some 43) 103 [.t 38, .t 42],
    .op (some 7) (.mov (.t 43))])))))))))))))))
theorem k_c_joins_fits : fitsF Tryz.prog 87 ⟨44, k_c_joins, [.t 6]⟩ = true := by kernel_rfl
set_option maxHeartbeats 4000000 in
theorem c_joins {F : Nat} {R : PS → Option (PS × Int)} {ops : List Int} {f : Nat} (hR : RC Tryz.prog F R) (hRo : RO R) (hb : hasBody Tryz.prog F = true) (ho : ∀ o ∈ ops, 6 ≤ o ∧ o ≤ 13) (hol : ops.length ≤ 10) {s s' : PS} {k : Int} (hs : s.ok) (h : joP R ops f s = some (s', k)) : Con Tryz.prog (fun e => Nat.beq e 1001) 87 [.ptr 1000 0, .bfn F [.ptr 1000 0], .d (.sl 1 (ops.map intRow))] [(1000, .box [.d (.sl 1 (s.tk.map strRow)), .osl 1001 7 0 s.ns.length, int (s.op : Int)]), (1001, .rows 7 (s.ns.map GExprNode.row))] (fun r h => r = int k ∧ h = [(1000, .box [.d (.sl 1 (s'.tk.map strRow)), .osl 1001 7 0 s'.ns.length, int (s'.op : Int)]), (1001, .rows 7 (s'.ns.map GExprNode.row))]) := by
 refine con_of2 k_c_joins_fits rfl fun C hP hmv => ?_
 unfold k_c_joins
 obtain ⟨s1, l, h1, hj⟩ := joP_some h
 obtain ⟨ok1, op1⟩ := hRo _ _ _ hs h1
 refine cx_seq ?_
 refine cx_ops ?_
 refine ax_q (q_mov rfl) ?_
 refine ax_nil ?_
 refine cx_keep rfl rfl ?_
 refine cx_seq ?_
 refine cx_ops ?_
 refine ax_q (q_mov rfl) ?_
 refine ax_callb rfl (by rw [hP]; exact hb) rfl (vcall_own (hR s s1 l hs h1) hP hmv false (fun e => bif Nat.beq e 1000 then 1000 else 1001) [1000, 1001] ⟨rfl, rfl, rfl, rfl, ⟨rfl, rfl, trivial⟩, rfl, rfl, rfl⟩ (.pass rfl rfl .nil) ?_)
 rintro r h ⟨rfl, rfl⟩
 refine ⟨(fun e => bif Nat.beq e 1000 then 1000 else 1001), [], ⟨rfl, rfl, rfl, rfl, mem2 rfl rfl, rfl, rfl, fun h => absurd h Bool.false_ne_true⟩, ?_⟩
 try dsimp only [dpP]
 refine ax_q (q_mov rfl) ?_
 refine ax_nil ?_
 refine cx_keep rfl rfl ?_
 refine cx_block ?_
 refine cx_loopU (fun n (p : Nat × PS × Int) => n = p.1 ∧ p.2.1.ok ∧ joL R ops p.1 p.2.1 p.2.2 = some (s', k)) (fun p => [(7, int p.2.2)]) (fun p => [(1000, .box [.d (.sl 1 (p.2.1.tk.map strRow)), .osl 1001 7 0 p.2.1.ns.length, int (p.2.1.op : Int)]), (1001, .rows 7 (p.2.1.ns.map GExprNode.row))]) ⟨_, (f, s1, l), ⟨rfl, ok1, hj⟩, by repeat (first | exact trivial | refine ⟨rfl, ?_⟩ | refine ⟨?_, ?_⟩)⟩ ?_
 rintro n ⟨fu, c, lf⟩ ⟨rfl, okc, hjc⟩
 obtain ⟨fu, rfl⟩ := joL_pos hjc
 simp only at okc hjc ⊢
 refine cx_block ?_
 refine cx_seq ?_
 refine cx_ops ?_
 refine ax_q (q_mov rfl) ?_
 refine ax_nil ?_
 refine cx_keep rfl rfl ?_
 refine cx_seq ?_
 refine cx_seq ?_
 refine cx_ops ?_
 refine ax_q (q_mov rfl) ?_
 first | refine ax_q (q_lenS_map rfl) ?_ | refine ax_q (q_lenS_osl rfl) ?_ | refine ax_q (q_lenS_zs rfl) ?_ | refine ax_q (q_lenS rfl) ?_
 refine ax_q (q_mov rfl) ?_
 refine ax_nil ?_
 refine cx_keep rfl rfl ?_
 refine cx_block ?_
 refine cx_loopU (fun m (p : Nat × Int × PS) => p.1 ≤ ops.length ∧ m = ops.length - p.1 ∧ p.2.2.ok ∧ pkL (ops.drop p.1) (p.2.1, p.2.2) = pkL ops (0, c)) (fun p => [(16, int p.1), (8, int p.2.1)]) (fun p => [(1000, .box [.d (.sl 1 (p.2.2.tk.map strRow)), .osl 1001 7 0 p.2.2.ns.length, int (p.2.2.op : Int)]), (1001, .rows 7 (p.2.2.ns.map GExprNode.row))]) ⟨_, (0, 0, c), ⟨Nat.zero_le _, rfl, okc, rfl⟩, by repeat (first | exact trivial | refine ⟨rfl, ?_⟩ | refine ⟨?_, ?_⟩)⟩ ?_
 rintro m ⟨j, a, q⟩ ⟨hj0, rfl, okq, hpj⟩
 simp only at hj0 okq hpj ⊢
 refine cx_seq ?_
 refine cx_ops ?_
 refine ax_q (q_ibin rfl rfl rfl) ?_
 refine ax_nil ?_
 refine cx_keep rfl rfl ?_
 refine cx_seq ?_
 refine cx_cond rfl (fun h0 => ?_) (fun h0 => ?_)
 ·
  have h0 := dT h0
  have h0x : j < ops.length := by omega
  have hoj := ho _ (List.getElem_mem h0x)
  refine cx_skip ?_
  refine cx_keep rfl rfl ?_
  refine cx_seq ?_
  refine cx_block ?_
  refine cx_seq ?_
  refine cx_ops ?_
  refine ax_q (q_ix rfl rfl (mapAt h0x)) ?_
  first | refine ax_q (q_load1_ptr rfl rfl rfl) ?_ | refine ax_q (q_load1_ip rfl) ?_ | refine ax_q (q_load1_rptr rfl rfl rfl rfl) ?_ | refine ax_q (q_load1_rptr rfl rfl (by assumption) rfl) ?_ | refine ax_q (q_load1_rptr rfl rfl (mapAt (by first | assumption | omega)) rfl) ?_
  refine ax_q (q_mov rfl) ?_
  refine ax_nil ?_
  refine cx_keep rfl rfl ?_
  refine cx_seq ?_
  refine cx_ops ?_
  refine ax_q (q_mov rfl) ?_
  refine ax_q (q_ibin rfl rfl rfl) ?_
  refine ax_q (q_mov rfl) ?_
  refine ax_andE rfl rfl (fun g => ?_) (fun g => ?_)
  ·
   have g := dF g
   refine ax_nil ?_
   refine cx_keep rfl rfl ?_
   refine cx_cond rfl (fun h1 => ?_) (fun h1 => ?_)
   ·
    skip
    exact absurd h1 Bool.false_ne_true
   ·
    skip
    refine cx_skip ?_
    refine cx_keep rfl rfl ?_
    refine cx_ops ?_
    refine ax_qe (r' := int ((j + 1 : Nat) : Int)) (q_ibin rfl rfl rfl) (by rw [wi (by omega) (by omega)]; rfl) ?_
    refine ax_q (q_mov rfl) ?_
    refine ax_nil ?_
    exact ⟨_, (j + 1, a, q), by simp only; omega, ⟨by simp only; omega, rfl, okq, pkL_miss h0x hpj (fun e => g e.1)⟩, by repeat (first | exact trivial | refine ⟨rfl, ?_⟩ | refine ⟨?_, ?_⟩)⟩
  ·
   have g := dT g
   refine ax_q (q_mov rfl) ?_
   refine ax_q (q_mov rfl) ?_
   refine ax_q (q_sub rfl rfl (by omega)) ?_
   refine ax_qe (r' := .d (.ip (.str (sgnT ops[j]) :: ((sgnsL.drop (((ops[j]) - 6).toNat + 1)).map D.str)))) (q_iadrG (n := ops[j] - 6) sgnsL gtab_sgns (by rw [hP]; kernel_rfl) rfl rfl (by omega) (by omega)) (by rw [sgn_drop (by omega)]) ?_
   first | refine ax_q (q_load1_ptr rfl rfl rfl) ?_ | refine ax_q (q_load1_ip rfl) ?_ | refine ax_q (q_load1_rptr rfl rfl rfl rfl) ?_ | refine ax_q (q_load1_rptr rfl rfl (by assumption) rfl) ?_ | refine ax_q (q_load1_rptr rfl rfl (mapAt (by first | assumption | omega)) rfl) ?_
   refine ax_e (e_bsliceD (rows := [strRow (sgnT ops[j])]) rfl) ?_
   refine ax_call rfl (vcall_own (c_skip (s := q) (ts := [sgnT ops[j]]) okq (by simp)) hP hmv false (fun e => bif Nat.beq e 1000 then 1000 else 1001) [1000, 1001] ⟨rfl, rfl, rfl, rfl, ⟨rfl, rfl, trivial⟩, rfl, rfl, rfl⟩ (.pass rfl rfl (.pass rfl rfl .nil)) ?_)
   rintro r h ⟨rfl, rfl⟩
   refine ⟨(fun e => bif Nat.beq e 1000 then 1000 else 1001), [], ⟨rfl, rfl, rfl, rfl, mem2 rfl rfl, rfl, rfl, fun h => absurd h Bool.false_ne_true⟩, ?_⟩
   try dsimp only [dpP]
   refine ax_nil ⟨_, [(1000, .box [.d (.sl 1 ((skP q [sgnT ops[j]]).tk.map strRow)), .osl 1001 7 0 (skP q [sgnT ops[j]]).ns.length, int ((skP q [sgnT ops[j]]).op : Int)]), (1001, .rows 7 ((skP q [sgnT ops[j]]).ns.map GExprNode.row))], rfl, by repeat (first | exact trivial | refine ⟨rfl, ?_⟩ | refine ⟨?_, ?_⟩), ?_⟩
   refine ax_nil ?_
   refine cx_keep rfl rfl ?_
   refine cx_cond rfl (fun h1 => ?_) (fun h1 => ?_)
   ·
    skip
    rw [skP_t h1]
    refine cx_ops ?_
    refine ax_q (q_mov rfl) ?_
    refine ax_q (q_mov rfl) ?_
    refine ax_nil ?_
    refine cx_keep rfl rfl ?_
    refine cx_ops ?_
    refine ax_qe (r' := int ((j + 1 : Nat) : Int)) (q_ibin rfl rfl rfl) (by rw [wi (by omega) (by omega)]; rfl) ?_
    refine ax_q (q_mov rfl) ?_
    refine ax_nil ?_
    exact ⟨_, (j + 1, ops[j], dpP q 1), by simp only; omega, ⟨by simp only; omega, rfl, okq.dp 1, pkL_hit h0x hpj g h1⟩, by repeat (first | exact trivial | refine ⟨rfl, ?_⟩ | refine ⟨?_, ?_⟩)⟩
   ·
    skip
    rw [skP_f h1]
    refine cx_skip ?_
    refine cx_keep rfl rfl ?_
    refine cx_ops ?_
    refine ax_qe (r' := int ((j + 1 : Nat) : Int)) (q_ibin rfl rfl rfl) (by rw [wi (by omega) (by omega)]; rfl) ?_
    refine ax_q (q_mov rfl) ?_
    refine ax_nil ?_
    exact ⟨_, (j + 1, a, q), by simp only; omega, ⟨by simp only; omega, rfl, okq, pkL_miss h0x hpj (fun e => by rw [h1] at e; exact absurd e.2 Bool.false_ne_true)⟩, by repeat (first | exact trivial | refine ⟨rfl, ?_⟩ | refine ⟨?_, ?_⟩)⟩
 ·
  have h0 := dF h0
  have h0x : j = ops.length := by omega
  have hpk := pkL_end h0x hpj
  refine cx_exit rfl ?_
  refine cx_keep rfl rfl ?_
  refine cx_seq ?_
  refine cx_seq ?_
  refine cx_ops ?_
  refine ax_q (q_mov rfl) ?_
  refine ax_q (q_ibin rfl rfl rfl) ?_
  refine ax_nil ?_
  refine cx_keep rfl rfl ?_
  refine cx_cond rfl (fun h2 => ?_) (fun h2 => ?_)
  ·
   have h2 := dT h2
   obtain ⟨rfl, rfl⟩ := joL_stop hjc hpk h2
   refine cx_seq ?_
   refine cx_ops ?_
   refine ax_q (q_mov rfl) ?_
   refine ax_q (q_mov rfl) ?_
   refine ax_nil ?_
   refine cx_keep rfl rfl ?_
   refine cx_ret (retN id [1000, 1001] rfl rfl rfl rfl rfl ?_)
   exact ⟨rfl, rfl⟩
  ·
   have h2 := dF h2
   obtain ⟨s2, r, s3, k3, hr, hn, hj3⟩ := joL_more hjc hpk h2
   obtain ⟨ok2, op2⟩ := hRo _ _ _ okq hr
   have ok3 := ok2.nd hn
   refine cx_skip ?_
   refine cx_keep rfl rfl ?_
   refine cx_seq ?_
   refine cx_ops ?_
   refine ax_q (q_mov rfl) ?_
   refine ax_callb rfl (by rw [hP]; exact hb) rfl (vcall_own (hR q s2 r okq hr) hP hmv false (fun e => bif Nat.beq e 1000 then 1000 else 1001) [1000, 1001] ⟨rfl, rfl, rfl, rfl, ⟨rfl, rfl, trivial⟩, rfl, rfl, rfl⟩ (.pass rfl rfl .nil) ?_)
   rintro r h ⟨rfl, rfl⟩
   refine ⟨(fun e => bif Nat.beq e 1000 then 1000 else 1001), [], ⟨rfl, rfl, rfl, rfl, mem2 rfl rfl, rfl, rfl, fun h => absurd h Bool.false_ne_true⟩, ?_⟩
   try dsimp only [dpP]
   refine ax_q (q_mov rfl) ?_
   refine ax_nil ?_
   refine cx_keep rfl rfl ?_
   refine cx_ops ?_
   refine ax_q (q_mov rfl) ?_
   refine ax_q (q_mov rfl) ?_
   refine ax_q (q_mov rfl) ?_
   refine ax_q (q_mov rfl) ?_
   refine ax_q (q_build rfl) ?_
   refine ax_call rfl (vcall_own (c_pnode (n := nd a lf r) ok2 hn) hP hmv false (fun e => bif Nat.beq e 1000 then 1000 else 1001) [1000, 1001] ⟨rfl, rfl, rfl, rfl, ⟨rfl, rfl, trivial⟩, rfl, rfl, rfl⟩ (.pass rfl rfl (.pass rfl rfl .nil)) ?_)
   rintro r h ⟨rfl, rfl⟩
   refine ⟨(fun e => bif Nat.beq e 1000 then 1000 else 1001), [], ⟨rfl, rfl, rfl, rfl, mem2 rfl rfl, rfl, rfl, fun h => absurd h Bool.false_ne_true⟩, ?_⟩
   try dsimp only [dpP]
   refine ax_q (q_mov rfl) ?_
   refine ax_nil ?_
   exact ⟨_, (fu, s3, k3), by simp only; omega, ⟨rfl, ok3, hj3⟩, by repeat (first | exact trivial | refine ⟨rfl, ?_⟩ | refine ⟨?_, ?_⟩)⟩


/- (ptr loop.example/g00332/impl.parser).within -/
def k_c_within : XCode :=
 .seq (.ops [.op (some 4) (.mov (.k (.int .i64 0)))])
 (.keep [0, 1] (.seq (.seq (.ops [.op (some 6) (.mov (.t 0)),
   .op (some 7) (.nilck (.t 6)),
   .op (some 8) (.fadr (.t 7) 2),
   .op (some 9) (.load1 (.t 8)),
   .op (some 10) (.bin .eql (.t 9) (.k (.int .i64 48)))])
  (.keep [0, 1, 10] (.cond (.t 10)
  (.ops [.call (some 11) 57 [.k (.int .i64 16)]])
  (.skip))))
 (.keep [0, 1] (.seq (.ops [.op (some 12) (.mov (.t 0)),
   .op (some 13) (.nilck (.t 12)),
   .op (some 14) (.fadr (.t 13) 2),
   .op (some 15) (.load1 (.t 14)),
   .op (some 16) (.bin .add (.t 15) (.k (.int .i64 1))),
   .op (some 17) (.nilck (.t 12)),
   .op (some 18) (.fadr (.t 17) 2),
   .op none (.store 1 (.t 18) (.t 16))])
 (.keep [0, 1] (.seq (.ops [.op (some 19) (.mov (.t 1)),
   .callv (some 20) (.t 19) [],
   .op (some 5) (.mov (.t 20))])
 (.keep [0, 5] (.seq (.ops [.op (some 21) (.mov (.t 0)),
   .op (some 22) (.nilck (.t 21)),
   .op (some 23) (.fadr (.t 22) 2),
   .op (some 24) (.load1 (.t 23)),
   .op (some 25) (.bin .sub (.t 24) (.k (.int .i64 1))),
   .op (some 26) (.nilck (.t 21)),
   .op (some 27) (.fadr (.t 26) 2),
   .op none (.store 1 (.t 27) (.t 25))])
 (.keep [5] (.seq (.ops [.op (some 28) (.mov (.t 5)),
   .op (some 4) (.mov (.t 28))])
 (.keep [4] (.ret))))))))))))
theorem k_c_within_fits : fitsF Tryz.prog 114 ⟨29, k_c_within, [.t 4]⟩ = true := by kernel_rfl
theorem c_within {F : Nat} {R : PS → Option (PS × Int)} (hR : RC Tryz.prog F R) (hRo : RO R) (hb : hasBody Tryz.prog F = true) {s s' : PS} {k : Int} (hs : s.ok) (h : wiP R s = some (s', k)) : Con Tryz.prog (fun e => Nat.beq e 1001) 114 [.ptr 1000 0, .bfn F [.ptr 1000 0]] [(1000, .box [.d (.sl 1 (s.tk.map strRow)), .osl 1001 7 0 s.ns.length, int (s.op : Int)]), (1001, .rows 7 (s.ns.map GExprNode.row))] (fun r h => r = int k ∧ h = [(1000, .box [.d (.sl 1 (s'.tk.map strRow)), .osl 1001 7 0 s'.ns.length, int (s'.op : Int)]), (1001, .rows 7 (s'.ns.map GExprNode.row))]) := by
 refine con_of2 k_c_within_fits rfl fun C hP hmv => ?_
 unfold k_c_within
 have hs1 := hs.n
 have hs2 := hs.m
 have hs3 := hs.o
 obtain ⟨ho, s1, h1, rfl⟩ := wiP_some h
 have hs2 : PS.ok ⟨s.tk, s.ns, s.op + 1⟩ := ⟨hs.t, hs.n, hs.m, ho⟩
 obtain ⟨ok1, op1⟩ := hRo _ _ _ hs2 h1
 have op1 : s1.op = s.op + 1 := op1
 have hs4 := ok1.o
 refine cx_seq ?_
 refine cx_ops ?_
 refine ax_q (q_mov rfl) ?_
 refine ax_nil ?_
 refine cx_keep rfl rfl ?_
 refine cx_seq ?_
 refine cx_seq ?_
 refine cx_ops ?_
 refine ax_q (q_mov rfl) ?_
 first | refine ax_q (q_nilck_ptr rfl) ?_ | refine ax_q (q_nilck_rptr rfl) ?_ | refine ax_q (q_nilck_ip rfl) ?_
 first | refine ax_q (q_fadr_ptr rfl) ?_ | refine ax_q (q_fadr_rptr rfl) ?_ | refine ax_q (q_fadr_ip rfl) ?_
 first | refine ax_q (q_load1_ptr rfl rfl rfl) ?_ | refine ax_q (q_load1_ip rfl) ?_ | refine ax_q (q_load1_rptr rfl rfl rfl rfl) ?_ | refine ax_q (q_load1_rptr rfl rfl (by assumption) rfl) ?_ | refine ax_q (q_load1_rptr rfl rfl (mapAt (by first | assumption | omega)) rfl) ?_
 refine ax_q (q_ibin rfl rfl rfl) ?_
 refine ax_nil ?_
 refine cx_keep rfl rfl ?_
 refine cx_cond rfl (fun h0 => ?_) (fun h0 => ?_)
 ·
  have h0 := dT h0
  exfalso; omega
 ·
  have h0 := dF h0
  refine cx_skip ?_
  refine cx_keep rfl rfl ?_
  refine cx_seq ?_
  refine cx_ops ?_
  refine ax_q (q_mov rfl) ?_
  first | refine ax_q (q_nilck_ptr rfl) ?_ | refine ax_q (q_nilck_rptr rfl) ?_ | refine ax_q (q_nilck_ip rfl) ?_
  first | refine ax_q (q_fadr_ptr rfl) ?_ | refine ax_q (q_fadr_rptr rfl) ?_ | refine ax_q (q_fadr_ip rfl) ?_
  first | refine ax_q (q_load1_ptr rfl rfl rfl) ?_ | refine ax_q (q_load1_ip rfl) ?_ | refine ax_q (q_load1_rptr rfl rfl rfl rfl) ?_ | refine ax_q (q_load1_rptr rfl rfl (by assumption) rfl) ?_ | refine ax_q (q_load1_rptr rfl rfl (mapAt (by first | assumption | omega)) rfl) ?_
  refine ax_qe (r' := int ((s.op + 1 : Nat) : Int)) (q_ibin rfl rfl rfl) (by rw [wi (by omega) (by omega)]; rfl) ?_
  first | refine ax_q (q_nilck_ptr rfl) ?_ | refine ax_q (q_nilck_rptr rfl) ?_ | refine ax_q (q_nilck_ip rfl) ?_
  first | refine ax_q (q_fadr_ptr rfl) ?_ | refine ax_q (q_fadr_rptr rfl) ?_ | refine ax_q (q_fadr_ip rfl) ?_
  refine ax_e (e_st rfl rfl rfl rfl rfl rfl rfl) ?_
  refine ax_nil ?_
  refine cx_keep rfl rfl ?_
  refine cx_seq ?_
  refine cx_ops ?_
  refine ax_q (q_mov rfl) ?_
  refine ax_callb rfl (by rw [hP]; exact hb) rfl (vcall_own (hR ⟨s.tk, s.ns, s.op + 1⟩ s1 k hs2 h1) hP hmv false (fun e => bif Nat.beq e 1000 then 1000 else 1001) [1000, 1001] ⟨rfl, rfl, rfl, rfl, ⟨rfl, rfl, trivial⟩, rfl, rfl, rfl⟩ (.pass rfl rfl .nil) ?_)
  rintro r h ⟨rfl, rfl⟩
  refine ⟨(fun e => bif Nat.beq e 1000 then 1000 else 1001), [], ⟨rfl, rfl, rfl, rfl, mem2 rfl rfl, rfl, rfl, fun h => absurd h Bool.false_ne_true⟩, ?_⟩
  try dsimp only [dpP]
  refine ax_q (q_mov rfl) ?_
  refine ax_nil ?_
  refine cx_keep rfl rfl ?_
  refine cx_seq ?_
  refine cx_ops ?_
  refine ax_q (q_mov rfl) ?_
  first | refine ax_q (q_nilck_ptr rfl) ?_ | refine ax_q (q_nilck_rptr rfl) ?_ | refine ax_q (q_nilck_ip rfl) ?_
  first | refine ax_q (q_fadr_ptr rfl) ?_ | refine ax_q (q_fadr_rptr rfl) ?_ | refine ax_q (q_fadr_ip rfl) ?_
  first | refine ax_q (q_load1_ptr rfl rfl rfl) ?_ | refine ax_q (q_load1_ip rfl) ?_ | refine ax_q (q_load1_rptr rfl rfl rfl rfl) ?_ | refine ax_q (q_load1_rptr rfl rfl (by assumption) rfl) ?_ | refine ax_q (q_load1_rptr rfl rfl (mapAt (by first | assumption | omega)) rfl) ?_
  refine ax_qe (r' := int ((s1.op - 1 : Nat) : Int)) (q_ibin rfl rfl rfl) (by rw [wi (by omega) (by omega)]; exact congrArg AM.int (by omega)) ?_
  first | refine ax_q (q_nilck_ptr rfl) ?_ | refine ax_q (q_nilck_rptr rfl) ?_ | refine ax_q (q_nilck_ip rfl) ?_
  first | refine ax_q (q_fadr_ptr rfl) ?_ | refine ax_q (q_fadr_rptr rfl) ?_ | refine ax_q (q_fadr_ip rfl) ?_
  refine ax_e (e_st rfl rfl rfl rfl rfl rfl rfl) ?_
  refine ax_nil ?_
  refine cx_keep rfl rfl ?_
  refine cx_seq ?_
  refine cx_ops ?_
  refine ax_q (q_mov rfl) ?_
  refine ax_q (q_mov rfl) ?_
  refine ax_nil ?_
  refine cx_keep rfl rfl ?_
  refine cx_ret (retN id [1000, 1001] rfl rfl rfl rfl rfl ?_)
  exact ⟨rfl, rfl⟩


/- loop.example/g00332/impl.numberValue -/
def k_c_numberValue : XCode :=
 .seq (.ops [.op (some 2) (.alloc [.int .i64 0, .int .i64 0, .str []])])
 (.keep [0, 2] (.seq (.ops [.op (some 3) (.mov (.t 0)),
   .op (some 4) (.build [.int .i64 0, .int .i64 0, .str []] [(0, 1, .k (.int .i64 1)), (1, 1, .t 3)]),
   .op none (.store 3 (.t 2) (.t 4))])
 (.keep [2] (.ret))))
theorem k_c_numberValue_fits : fitsF Tryz.prog 73 ⟨5, k_c_numberValue, [.cN 2 3]⟩ = true := by kernel_rfl
theorem c_numberValue {n : Int} : Con Tryz.prog noMv 73 [int n] [] (fun r h => r = (vI n).av ∧ h = []) := by
 refine con_of2 k_c_numberValue_fits rfl fun C hP hmv => ?_
 unfold k_c_numberValue
 refine cx_seq ?_
 refine cx_ops ?_
 refine ax_e (e_alloc (by decide) rfl rfl) ?_
 refine ax_nil ?_
 refine cx_keep rfl rfl ?_
 refine cx_seq ?_
 refine cx_ops ?_
 refine ax_q (q_mov rfl) ?_
 refine ax_q (q_build rfl) ?_
 refine ax_e (e_st rfl rfl rfl rfl rfl rfl rfl) ?_
 refine ax_nil ?_
 refine cx_keep rfl rfl ?_
 refine cx_ret (ret0 rfl rfl ?_)
 exact ⟨rfl, rfl⟩


/- (ptr loop.example/g00332/impl.parser).take -/
def k_c_take : XCode :=
 .seq (.ops [.op (some 2) (.mov (.k (.str [])))])
 (.keep [0] (.seq (.seq (.ops [.op (some 4) (.mov (.t 0)),
   .op (some 5) (.nilck (.t 4)),
   .op (some 6) (.fadr (.t 5) 0),
   .op (some 7) (.load1 (.t 6)),
   .op (some 8) (.lenS (.t 7)),
   .op (some 9) (.bin .eql (.t 8) (.k (.int .i64 0)))])
  (.keep [0, 9] (.cond (.t 9)
  (.ops [.call (some 10) 57 [.k (.int .i64 3)]])
  (.skip))))
 (.keep [0] (.seq (.ops [.op (some 11) (.mov (.t 0)),
   .op (some 12) (.nilck (.t 11)),
   .op (some 13) (.fadr (.t 12) 0),
   .op (some 14) (.load1 (.t 13)),
   .op (some 15) (.iadr 1 (.t 14) (.k (.int .i64 0))),
   .op (some 16) (.load1 (.t 15)),
   .op (some 3) (.mov (.t 16))])
 (.keep [0, 3] (.seq (.ops [.op (some 17) (.mov (.t 0)),
   .op (some 18) (.mov (.t 0)),
   .op (some 19) (.nilck (.t 18)),
   .op (some 20) (.fadr (.t 19) 0),
   .op (some 21) (.load1 (.t 20)),
   .op (some 22) (.slc 1 (.t 21) (some (.k (.int .i64 1))) none none),
   .op (some 23) (.nilck (.t 17)),
   .op (some 24) (.fadr (.t 23) 0),
   .op none (.store 1 (.t 24) (.t 22))])
 (.keep [3] (.seq (.ops [.op (some 25) (.mov (.t 3)),
   .op (some 2) (.mov (.t 25))])
 (.keep [2] (.ret))))))))))
theorem k_c_take_fits : fitsF Tryz.prog 78 ⟨26, k_c_take, [.t 2]⟩ = true := by kernel_rfl
theorem c_take {s : PS} {t : Str} {r : List Str} (hs : s.ok) (ht : s.tk = t :: r) : Con Tryz.prog noMv 78 [.ptr 1000 0] [(1000, .box [.d (.sl 1 (s.tk.map strRow)), .osl 1001 7 0 s.ns.length, int (s.op : Int)]), (1001, .rows 7 (s.ns.map GExprNode.row))] (fun r h => r = str t ∧ h = [(1000, .box [.d (.sl 1 ((dpP s 1).tk.map strRow)), .osl 1001 7 0 (dpP s 1).ns.length, int ((dpP s 1).op : Int)]), (1001, .rows 7 ((dpP s 1).ns.map GExprNode.row))]) := by
 refine con_of2 k_c_take_fits rfl fun C hP hmv => ?_
 unfold k_c_take
 have hs1 := hs.n
 have hs2 := hs.m
 have hs3 := hs.o
 have hl : s.tk.length = r.length + 1 := by rw [ht]; rfl
 have h0x : 0 < s.tk.length := by omega
 have ht0 : s.tk[0] = t := by simp [ht]
 refine cx_seq ?_
 refine cx_ops ?_
 refine ax_q (q_mov rfl) ?_
 refine ax_nil ?_
 refine cx_keep rfl rfl ?_
 refine cx_seq ?_
 refine cx_seq ?_
 refine cx_ops ?_
 refine ax_q (q_mov rfl) ?_
 first | refine ax_q (q_nilck_ptr rfl) ?_ | refine ax_q (q_nilck_rptr rfl) ?_ | refine ax_q (q_nilck_ip rfl) ?_
 first | refine ax_q (q_fadr_ptr rfl) ?_ | refine ax_q (q_fadr_rptr rfl) ?_ | refine ax_q (q_fadr_ip rfl) ?_
 first | refine ax_q (q_load1_ptr rfl rfl rfl) ?_ | refine ax_q (q_load1_ip rfl) ?_ | refine ax_q (q_load1_rptr rfl rfl rfl rfl) ?_ | refine ax_q (q_load1_rptr rfl rfl (by assumption) rfl) ?_ | refine ax_q (q_load1_rptr rfl rfl (mapAt (by first | assumption | omega)) rfl) ?_
 first | refine ax_q (q_lenS_map rfl) ?_ | refine ax_q (q_lenS_osl rfl) ?_ | refine ax_q (q_lenS_zs rfl) ?_ | refine ax_q (q_lenS rfl) ?_
 refine ax_q (q_ibin rfl rfl rfl) ?_
 refine ax_nil ?_
 refine cx_keep rfl rfl ?_
 refine cx_cond rfl (fun h0 => ?_) (fun h0 => ?_)
 ·
  have h0 := dT h0
  exfalso; omega
 ·
  have h0 := dF h0
  refine cx_skip ?_
  refine cx_keep rfl rfl ?_
  refine cx_seq ?_
  refine cx_ops ?_
  refine ax_q (q_mov rfl) ?_
  first | refine ax_q (q_nilck_ptr rfl) ?_ | refine ax_q (q_nilck_rptr rfl) ?_ | refine ax_q (q_nilck_ip rfl) ?_
  first | refine ax_q (q_fadr_ptr rfl) ?_ | refine ax_q (q_fadr_rptr rfl) ?_ | refine ax_q (q_fadr_ip rfl) ?_
  first | refine ax_q (q_load1_ptr rfl rfl rfl) ?_ | refine ax_q (q_load1_ip rfl) ?_ | refine ax_q (q_load1_rptr rfl rfl rfl rfl) ?_ | refine ax_q (q_load1_rptr rfl rfl (by assumption) rfl) ?_ | refine ax_q (q_load1_rptr rfl rfl (mapAt (by first | assumption | omega)) rfl) ?_
  refine ax_q (q_ixI rfl rfl (by omega) (mapAt (k := 0) h0x)) ?_
  first | refine ax_q (q_load1_ptr rfl rfl rfl) ?_ | refine ax_q (q_load1_ip rfl) ?_ | refine ax_q (q_load1_rptr rfl rfl rfl rfl) ?_ | refine ax_q (q_load1_rptr rfl rfl (by assumption) rfl) ?_ | refine ax_q (q_load1_rptr rfl rfl (mapAt (by first | assumption | omega)) rfl) ?_
  refine ax_q (q_mov rfl) ?_
  refine ax_nil ?_
  refine cx_keep rfl rfl ?_
  refine cx_seq ?_
  refine cx_ops ?_
  refine ax_q (q_mov rfl) ?_
  refine ax_q (q_mov rfl) ?_
  first | refine ax_q (q_nilck_ptr rfl) ?_ | refine ax_q (q_nilck_rptr rfl) ?_ | refine ax_q (q_nilck_ip rfl) ?_
  first | refine ax_q (q_fadr_ptr rfl) ?_ | refine ax_q (q_fadr_rptr rfl) ?_ | refine ax_q (q_fadr_ip rfl) ?_
  first | refine ax_q (q_load1_ptr rfl rfl rfl) ?_ | refine ax_q (q_load1_ip rfl) ?_ | refine ax_q (q_load1_rptr rfl rfl rfl rfl) ?_ | refine ax_q (q_load1_rptr rfl rfl (by assumption) rfl) ?_ | refine ax_q (q_load1_rptr rfl rfl (mapAt (by first | assumption | omega)) rfl) ?_
  refine ax_qe (r' := .d (.sl 1 ((s.tk.drop 1).map strRow))) (q_slc rfl rfl rfl (by omega) (by simp; omega) (by simp)) (sR_drop (by omega)) ?_
  first | refine ax_q (q_nilck_ptr rfl) ?_ | refine ax_q (q_nilck_rptr rfl) ?_ | refine ax_q (q_nilck_ip rfl) ?_
  first | refine ax_q (q_fadr_ptr rfl) ?_ | refine ax_q (q_fadr_rptr rfl) ?_ | refine ax_q (q_fadr_ip rfl) ?_
  refine ax_e (e_st rfl rfl rfl rfl rfl rfl rfl) ?_
  refine ax_nil ?_
  refine cx_keep rfl rfl ?_
  refine cx_seq ?_
  refine cx_ops ?_
  refine ax_q (q_mov rfl) ?_
  refine ax_q (q_mov rfl) ?_
  refine ax_nil ?_
  refine cx_keep rfl rfl ?_
  refine cx_ret (retN id [1000, 1001] rfl rfl rfl rfl rfl ?_)
  rw [ht0]; exact ⟨rfl, rfl⟩


/- internal/stringslite.HasPrefix -/
def k_c_HasPrefix1 : XCode :=
 .seq (.ops [.op (some 4) (.mov (.k (.bool false)))])
 (.keep [0, 1] (.seq (.ops [.op (some 5) (.mov (.t 0)),
   .op (some 6) (.lenT (.t 5)),
   .op (some 7) (.mov (.t 1)),
   .op (some 8) (.lenT (.t 7)),
   .op (some 9) (.bin .geq (.t 6) (.t 8)),
   .op (some 10) (.mov (.t 9)),
   .andor 17 true 5 10 [.op (some 11) (.mov (.t 0)), .op (some 12) (.mov (.t 1)), .op (some 13) (.lenT (.t 12)), .op (some 14) (.slcT (.t 11) none (some (.t 13))), .op (some 15) (.mov (.t 1)), .op (some 16) (.bin .eql (.t 14) (.t 15))] (.t 16),
   .op (some 4) (.mov (.t 17))])
 (.keep [4] (.ret))))
theorem k_c_HasPrefix1_fits : fitsF Tryz.prog 149 ⟨18, k_c_HasPrefix1, [.t 4]⟩ = true := by kernel_rfl
theorem c_HasPrefix1 {t : Str} (hl : t.length ≤ 1000) : Con Tryz.prog noMv 149 [str t, str [45]] [] (fun r h => r = bool (decide (t.take 1 = [45])) ∧ h = []) := by
 refine con_of2 k_c_HasPrefix1_fits rfl fun C hP hmv => ?_
 unfold k_c_HasPrefix1
 have h1 : ([45] : Str).length = 1 := rfl
 refine cx_seq ?_
 refine cx_ops ?_
 refine ax_q (q_mov rfl) ?_
 refine ax_nil ?_
 refine cx_keep rfl rfl ?_
 refine cx_seq ?_
 refine cx_ops ?_
 refine ax_q (q_mov rfl) ?_
 refine ax_q (q_lenT rfl) ?_
 refine ax_q (q_mov rfl) ?_
 refine ax_q (q_lenT rfl) ?_
 refine ax_q (q_ibin rfl rfl rfl) ?_
 refine ax_q (q_mov rfl) ?_
 apply ax_and rfl rfl
 ·
  intro g
  have g := dT g
  have g1 : 1 ≤ t.length := by omega
  refine ax_q (q_mov rfl) ?_
  refine ax_q (q_mov rfl) ?_
  refine ax_q (q_lenT rfl) ?_
  refine ax_qe (r' := str (t.take 1)) (q_slcT rfl rfl rfl (by omega) (by omega) (by omega)) (sT_take (by omega)) ?_
  refine ax_q (q_mov rfl) ?_
  refine ax_q (q_sbin rfl rfl rfl) ?_
  exact ax_nil ⟨rfl, by repeat (first | exact trivial | refine ⟨rfl, ?_⟩ | refine ⟨?_, ?_⟩)⟩
 refine ax_q (q_mov rfl) ?_
 refine ax_nil ?_
 refine cx_keep rfl rfl ?_
 refine cx_ret (ret0 rfl rfl ?_)
 exact ⟨by rw [hasp_eq]; rfl, rfl⟩


/- internal/stringslite.TrimPrefix -/
def k_c_TrimPrefix0 : XCode :=
 .seq (.ops [.op (some 4) (.mov (.k (.str [])))])
 (.keep [0, 1] (.seq (.seq (.ops [.op (some 5) (.mov (.t 0)),
   .op (some 6) (.mov (.t 1)),
   .call (some 7) 149 [.t 5, .t 6]])
  (.keep [0, 1, 7] (.cond (.t 7)
  (.seq (.ops [.op (some 8) (.mov (.t 0)),
    .op (some 9) (.mov (.t 1)),
    .op (some 10) (.lenT (.t 9)),
    .op (some 11) (.slcT (.t 8) (some (.t 10)) none),
    .op (some 4) (.mov (.t 11))])
   (.keep [4] (.ret)))
  (.skip))))
 (.keep [0] (.seq (.ops [.op (some 12) (.mov (.t 0)),
   .op (some 4) (.mov (.t 12))])
 (.keep [4] (.ret))))))
theorem k_c_TrimPrefix0_fits : fitsF Tryz.prog 134 ⟨13, k_c_TrimPrefix0, [.t 4]⟩ = true := by kernel_rfl
theorem c_TrimPrefix0 {t : Str} (hl : t.length ≤ 1000) : Con Tryz.prog noMv 134 [str t, str [45]] [] (fun r h => r = str (trimM t) ∧ h = []) := by
 refine con_of2 k_c_TrimPrefix0_fits rfl fun C hP hmv => ?_
 unfold k_c_TrimPrefix0
 have h1 : ([45] : Str).length = 1 := rfl
 refine cx_seq ?_
 refine cx_ops ?_
 refine ax_q (q_mov rfl) ?_
 refine ax_nil ?_
 refine cx_keep rfl rfl ?_
 refine cx_seq ?_
 refine cx_seq ?_
 refine cx_ops ?_
 refine ax_q (q_mov rfl) ?_
 refine ax_q (q_mov rfl) ?_
 first | refine ax_call rfl (vc_pure0 (c_HasPrefix1 (t := t) ?_) hP rfl rfl ?_) | refine ax_call rfl (vc_lend0 (c_HasPrefix1 (t := t) ?_) hP (by repeat (first | exact lal_id _ rfl | exact LAL.nil | refine LAL.cons ?_ ?_ | exact la_id _ rfl | exact LA.lend (lend_whole rfl (by first | (simp; done) | (rw [List.length_map]; rfl))) | refine LA.agg ?_ | refine LA.fn ?_ | refine LA.lend ?_ | exact Lend.d _ | exact Lend.zs _ | exact lend_whole rfl (by first | (simp; done) | (rw [List.length_map]; rfl)) | refine Lend.ptr rfl ?_ | refine Lend.fn ?_ | exact LendL.nil | refine LendL.cons ?_ ?_)) rfl rfl ?_)
 ·
  first | assumption | omega | (simp; done) | (simp; omega)
 refine ax_nil ?_
 refine cx_keep rfl rfl ?_
 refine cx_cond rfl (fun h0 => ?_) (fun h0 => ?_)
 ·
  have h0 : t.take 1 = [45] := of_decide_eq_true h0
  have hl1 := take1_len h0
  refine cx_seq ?_
  refine cx_ops ?_
  refine ax_q (q_mov rfl) ?_
  refine ax_q (q_mov rfl) ?_
  refine ax_q (q_lenT rfl) ?_
  refine ax_qe (r' := str (t.drop 1)) (q_slcT rfl rfl rfl (by omega) (by omega) (by omega)) (sT_drop (by omega)) ?_
  refine ax_q (q_mov rfl) ?_
  refine ax_nil ?_
  refine cx_keep rfl rfl ?_
  refine cx_ret (ret0 rfl rfl ?_)
  exact ⟨by unfold trimM; rw [if_pos h0]; rfl, rfl⟩
 ·
  have h0 : ¬ t.take 1 = [45] := of_decide_eq_false h0
  refine cx_skip ?_
  refine cx_keep rfl rfl ?_
  refine cx_seq ?_
  refine cx_ops ?_
  refine ax_q (q_mov rfl) ?_
  refine ax_q (q_mov rfl) ?_
  refine ax_nil ?_
  refine cx_keep rfl rfl ?_
  refine cx_ret (ret0 rfl rfl ?_)
  exact ⟨by unfold trimM; rw [if_neg h0]; rfl, rfl⟩


/- strings.TrimPrefix -/
def k_c_TrimPrefix : XCode :=
 .seq (.ops [.op (some 4) (.mov (.k (.str [])))])
 (.keep [0, 1] (.seq (.ops [.op (some 5) (.mov (.t 0)),
   .op (some 6) (.mov (.t 1)),
   .call (some 7) 134 [.t 5, .t 6],
   .op (some 4) (.mov (.t 7))])
 (.keep [4] (.ret))))
theorem k_c_TrimPrefix_fits : fitsF Tryz.prog 121 ⟨8, k_c_TrimPrefix, [.t 4]⟩ = true := by kernel_rfl
theorem c_TrimPrefix {t : Str} (hl : t.length ≤ 1000) : Con Tryz.prog noMv 121 [str t, str [45]] [] (fun r h => r = str (trimM t) ∧ h = []) := by
 refine con_of2 k_c_TrimPrefix_fits rfl fun C hP hmv => ?_
 unfold k_c_TrimPrefix
 refine cx_seq ?_
 refine cx_ops ?_
 refine ax_q (q_mov rfl) ?_
 refine ax_nil ?_
 refine cx_keep rfl rfl ?_
 refine cx_seq ?_
 refine cx_ops ?_
 refine ax_q (q_mov rfl) ?_
 refine ax_q (q_mov rfl) ?_
 first | refine ax_call rfl (vc_pure0 (c_TrimPrefix0 (t := t) ?_) hP rfl rfl ?_) | refine ax_call rfl (vc_lend0 (c_TrimPrefix0 (t := t) ?_) hP (by repeat (first | exact lal_id _ rfl | exact LAL.nil | refine LAL.cons ?_ ?_ | exact la_id _ rfl | exact LA.lend (lend_whole rfl (by first | (simp; done) | (rw [List.length_map]; rfl))) | refine LA.agg ?_ | refine LA.fn ?_ | refine LA.lend ?_ | exact Lend.d _ | exact Lend.zs _ | exact lend_whole rfl (by first | (simp; done) | (rw [List.length_map]; rfl)) | refine Lend.ptr rfl ?_ | refine Lend.fn ?_ | exact LendL.nil | refine LendL.cons ?_ ?_)) rfl rfl ?_)
 ·
  first | assumption | omega | (simp; done) | (simp; omega)
 refine ax_q (q_mov rfl) ?_
 refine ax_nil ?_
 refine cx_keep rfl rfl ?_
 refine cx_ret (ret0 rfl rfl ?_)
 exact ⟨rfl, rfl⟩


/- loop.example/g00332/impl.readNumber -/
def k_c_readNumber : XCode :=
 .seq (.ops [.op (some 2) (.mov (.k (.int .i64 0))),
   .op (some 3) (.mov (.k (.bool false)))])
 (.keep [0] (.seq (.ops [.op (some 7) (.mov (.t 0)),
   .call (some 8) 120 [.t 7],
   .op (some 6) (.mov (.t 8)),
   .op (some 9) (.ext (.t 6) 0),
   .op (some 10) (.ext (.t 6) 1),
   .op (some 4) (.mov (.t 9)),
   .op (some 5) (.mov (.t 10))])
 (.keep [0, 4, 5] (.seq (.ops [.op (some 11) (.mov (.t 4)),
   .op (some 12) (.mov (.t 5)),
   .op (some 13) (.eqi false (.t 12)),
   .op (some 14) (.mov (.t 13)),
   .andor 19 true 3 14 [.op (some 15) (.mov (.t 4)), .call (some 16) 98 [.t 15], .op (some 17) (.mov (.t 0)), .op (some 18) (.bin .eql (.t 16) (.t 17))] (.t 18),
   .op (some 20) (.mov (.t 19)),
   .andor 25 true 9 20 [.op (some 21) (.mov (.t 0)), .call (some 22) 121 [.t 21, .k (.str [45])], .op (some 23) (.lenT (.t 22)), .op (some 24) (.bin .leq (.t 23) (.k (.int .i64 18)))] (.t 24),
   .op (some 2) (.mov (.t 11)),
   .op (some 3) (.mov (.t 25))])
 (.keep [2, 3] (.ret))))))
theorem k_c_readNumber_fits : fitsF Tryz.prog 110 ⟨26, k_c_readNumber, [.t 2, .t 3]⟩ = true := by kernel_rfl
theorem c_readNumber {t : Str} (hl : t.length ≤ 18) : Con Tryz.prog noMv 110 [str t] [] (fun r h => r = .tup [int (rdF t).1, bool (rdF t).2] ∧ h = []) := by
 refine con_of2 k_c_readNumber_fits rfl fun C hP hmv => ?_
 unfold k_c_readNumber
 refine cx_seq ?_
 refine cx_ops ?_
 refine ax_q (q_mov rfl) ?_
 refine ax_q (q_mov rfl) ?_
 refine ax_nil ?_
 refine cx_keep rfl rfl ?_
 refine cx_seq ?_
 refine cx_ops ?_
 refine ax_q (q_mov rfl) ?_
 refine ax_call rfl (vc_pure (c_Atoi (s := t) hl) hP rfl ?_)
 rintro r h ⟨⟨v, rfl, hv⟩, rfl⟩
 refine ⟨id, [], ⟨rfl, rfl, rfl, rfl, rfl, fun h => absurd h Bool.false_ne_true⟩, ?_⟩
 have hbd := atoi_bd hl
 have htl := @trimM_le t
 have hil := itoa_len18 hbd
 refine ax_q (q_mov rfl) ?_
 refine ax_q (q_ext rfl rfl) ?_
 refine ax_q (q_ext rfl rfl) ?_
 refine ax_q (q_mov rfl) ?_
 refine ax_q (q_mov rfl) ?_
 refine ax_nil ?_
 refine cx_keep rfl rfl ?_
 refine cx_seq ?_
 refine cx_ops ?_
 refine ax_q (q_mov rfl) ?_
 refine ax_q (q_mov rfl) ?_
 refine ax_qe (r' := bool (Lib.atoi t).isSome) (q_eqi (b := (Lib.atoi t).isSome) rfl (eqi_of hv)) (rfl) ?_
 refine ax_q (q_mov rfl) ?_
 apply ax_and rfl rfl
 ·
  intro g
  refine ax_q (q_mov rfl) ?_
  first | refine ax_call rfl (vc_pure0 (c_Itoa (n := (Lib.atoi t).getD 0) ?_ ?_) hP rfl rfl ?_) | refine ax_call rfl (vc_lend0 (c_Itoa (n := (Lib.atoi t).getD 0) ?_ ?_) hP (by repeat (first | exact lal_id _ rfl | exact LAL.nil | refine LAL.cons ?_ ?_ | exact la_id _ rfl | exact LA.lend (lend_whole rfl (by first | (simp; done) | (rw [List.length_map]; rfl))) | refine LA.agg ?_ | refine LA.fn ?_ | refine LA.lend ?_ | exact Lend.d _ | exact Lend.zs _ | exact lend_whole rfl (by first | (simp; done) | (rw [List.length_map]; rfl)) | refine Lend.ptr rfl ?_ | refine Lend.fn ?_ | exact LendL.nil | refine LendL.cons ?_ ?_)) rfl rfl ?_)
  ·
   first | assumption | omega | (simp; done) | (simp; omega)
  ·
   first | assumption | omega | (simp; done) | (simp; omega)
  refine ax_q (q_mov rfl) ?_
  refine ax_q (q_sbin rfl rfl rfl) ?_
  exact ax_nil ⟨rfl, by repeat (first | exact trivial | refine ⟨rfl, ?_⟩ | refine ⟨?_, ?_⟩)⟩
 refine ax_q (q_mov rfl) ?_
 apply ax_and rfl rfl
 ·
  intro g
  have g := (fun h => And.intro (id (and_T h).1) (dT (and_T h).2)) g
  refine ax_q (q_mov rfl) ?_
  first | refine ax_call rfl (vc_pure0 (c_TrimPrefix (t := t) ?_) hP rfl rfl ?_) | refine ax_call rfl (vc_lend0 (c_TrimPrefix (t := t) ?_) hP (by repeat (first | exact lal_id _ rfl | exact LAL.nil | refine LAL.cons ?_ ?_ | exact la_id _ rfl | exact LA.lend (lend_whole rfl (by first | (simp; done) | (rw [List.length_map]; rfl))) | refine LA.agg ?_ | refine LA.fn ?_ | refine LA.lend ?_ | exact Lend.d _ | exact Lend.zs _ | exact lend_whole rfl (by first | (simp; done) | (rw [List.length_map]; rfl)) | refine Lend.ptr rfl ?_ | refine Lend.fn ?_ | exact LendL.nil | refine LendL.cons ?_ ?_)) rfl rfl ?_)
  ·
   first | assumption | omega | (simp; done) | (simp; omega)
  refine ax_q (q_lenT rfl) ?_
  refine ax_q (q_ibin rfl rfl rfl) ?_
  exact ax_nil ⟨rfl, by repeat (first | exact trivial | refine ⟨rfl, ?_⟩ | refine ⟨?_, ?_⟩)⟩
 refine ax_q (q_mov rfl) ?_
 refine ax_q (q_mov rfl) ?_
 refine ax_nil ?_
 refine cx_keep rfl rfl ?_
 refine cx_ret (ret0 rfl rfl ?_)
 exact ⟨by rw [decide_eq_true (show ((trimM t).length : Int) ≤ 18 by omega), Bool.and_true, rdF_2, rdF_1]; rfl, rfl⟩


/- (ptr loop.example/g00332/impl.parser).digits -/
def k_c_digits : XCode :=
 .seq (.ops [.op (some 2) (.mov (.k (.int .i64 0))),
   .op (some 3) (.mov (.k (.bool false)))])
 (.keep [0] (.seq (.seq (.ops [.op (some 6) (.mov (.t 0)),
   .op (some 7) (.nilck (.t 6)),
   .op (some 8) (.fadr (.t 7) 0),
   .op (some 9) (.load1 (.t 8)),
   .op (some 10) (.lenS (.t 9)),
   .op (some 11) (.bin .eql (.t 10) (.k (.int .i64 0)))])
  (.keep [0, 11] (.cond (.t 11)
  (.seq (.ops [.op (some 2) (.mov (.k (.int .i64 0))),
    .op (some 3) (.mov (.k (.bool false)))])
   (.keep [2, 3] (.ret)))
  (.skip))))
 (.keep [0] (.seq (.ops [.op (some 13) (.mov (.t 0)),
   .op (some 14) (.nilck (.t 13)),
   .op (some 15) (.fadr (.t 14) 0),
   .op (some 16) (.load1 (.t 15)),
   .op (some 17) (.iadr 1 (.t 16) (.k (.int .i64 0))),
   .op (some 18) (.load1 (.t 17)),
   .call (some 19) 110 [.t 18],
   .op (some 12) (.mov (.t 19)),
   .op (some 20) (.ext (.t 12) 0),
   .op (some 21) (.ext (.t 12) 1),
   .op (some 4) (.mov (.t 20)),
   .op (some 5) (.mov (.t 21))])
 (.keep [4, 5] (.seq (.ops [.op (some 22) (.mov (.t 4)),
   .op (some 23) (.mov (.t 5)),
   .op (some 24) (.mov (.t 23)),
   .andor 27 true 2 24 [.op (some 25) (.mov (.t 4)), .call (some 26) 93 [.t 25]] (.t 26),
   .op (some 2) (.mov (.t 22)),
   .op (some 3) (.mov (.t 27))])
 (.keep [2, 3] (.ret))))))))
theorem k_c_digits_fits : fitsF Tryz.prog 99 ⟨28, k_c_digits, [.t 2, .t 3]⟩ = true := by kernel_rfl
theorem c_digits {s : PS} (hs : s.ok) : Con Tryz.prog noMv 99 [.d (.ip [.sl 1 (s.tk.map strRow), .sl 7 (s.ns.map GExprNode.row), .int .i64 (s.op : Int)])] [] (fun r h => r = .tup [int (dgP s.tk).1, bool (dgP s.tk).2] ∧ h = []) := by
 refine con_of2 k_c_digits_fits rfl fun C hP hmv => ?_
 unfold k_c_digits
 have hs1 := hs.n
 have hs2 := hs.m
 have hs3 := hs.o
 refine cx_seq ?_
 refine cx_ops ?_
 refine ax_q (q_mov rfl) ?_
 refine ax_q (q_mov rfl) ?_
 refine ax_nil ?_
 refine cx_keep rfl rfl ?_
 refine cx_seq ?_
 refine cx_seq ?_
 refine cx_ops ?_
 refine ax_q (q_mov rfl) ?_
 first | refine ax_q (q_nilck_ptr rfl) ?_ | refine ax_q (q_nilck_rptr rfl) ?_ | refine ax_q (q_nilck_ip rfl) ?_
 first | refine ax_q (q_fadr_ptr rfl) ?_ | refine ax_q (q_fadr_rptr rfl) ?_ | refine ax_q (q_fadr_ip rfl) ?_
 first | refine ax_q (q_load1_ptr rfl rfl rfl) ?_ | refine ax_q (q_load1_ip rfl) ?_ | refine ax_q (q_load1_rptr rfl rfl rfl rfl) ?_ | refine ax_q (q_load1_rptr rfl rfl (by assumption) rfl) ?_ | refine ax_q (q_load1_rptr rfl rfl (mapAt (by first | assumption | omega)) rfl) ?_
 first | refine ax_q (q_lenS_map rfl) ?_ | refine ax_q (q_lenS_osl rfl) ?_ | refine ax_q (q_lenS_zs rfl) ?_ | refine ax_q (q_lenS rfl) ?_
 refine ax_q (q_ibin rfl rfl rfl) ?_
 refine ax_nil ?_
 refine cx_keep rfl rfl ?_
 refine cx_cond rfl (fun h0 => ?_) (fun h0 => ?_)
 ·
  have h0 := dT h0
  have ht : s.tk = [] := List.length_eq_zero_iff.1 (by omega)
  refine cx_seq ?_
  refine cx_ops ?_
  refine ax_q (q_mov rfl) ?_
  refine ax_q (q_mov rfl) ?_
  refine ax_nil ?_
  refine cx_keep rfl rfl ?_
  refine cx_ret (ret0 rfl rfl ?_)
  exact ⟨by rw [ht]; rfl, rfl⟩
 ·
  have h0 := dF h0
  obtain ⟨t, r, ht⟩ : ∃ t r, s.tk = t :: r := List.exists_cons_of_length_pos (by omega)
  have h0x : 0 < s.tk.length := by omega
  have ht0 : s.tk[0] = t := by simp [ht]
  have okt := hs.t t (by rw [ht]; exact List.mem_cons_self)
  have hl18 := okt.2.1
  refine cx_skip ?_
  refine cx_keep rfl rfl ?_
  refine cx_seq ?_
  refine cx_ops ?_
  refine ax_q (q_mov rfl) ?_
  first | refine ax_q (q_nilck_ptr rfl) ?_ | refine ax_q (q_nilck_rptr rfl) ?_ | refine ax_q (q_nilck_ip rfl) ?_
  first | refine ax_q (q_fadr_ptr rfl) ?_ | refine ax_q (q_fadr_rptr rfl) ?_ | refine ax_q (q_fadr_ip rfl) ?_
  first | refine ax_q (q_load1_ptr rfl rfl rfl) ?_ | refine ax_q (q_load1_ip rfl) ?_ | refine ax_q (q_load1_rptr rfl rfl rfl rfl) ?_ | refine ax_q (q_load1_rptr rfl rfl (by assumption) rfl) ?_ | refine ax_q (q_load1_rptr rfl rfl (mapAt (by first | assumption | omega)) rfl) ?_
  refine ax_q (q_ixI rfl rfl (by omega) (mapAt (k := 0) h0x)) ?_
  first | refine ax_q (q_load1_ptr rfl rfl rfl) ?_ | refine ax_q (q_load1_ip rfl) ?_ | refine ax_q (q_load1_rptr rfl rfl rfl rfl) ?_ | refine ax_q (q_load1_rptr rfl rfl (by assumption) rfl) ?_ | refine ax_q (q_load1_rptr rfl rfl (mapAt (by first | assumption | omega)) rfl) ?_
  first | refine ax_call rfl (vc_pure0 (c_readNumber (t := s.tk[0]) ?_) hP rfl rfl ?_) | refine ax_call rfl (vc_lend0 (c_readNumber (t := s.tk[0]) ?_) hP (by repeat (first | exact lal_id _ rfl | exact LAL.nil | refine LAL.cons ?_ ?_ | exact la_id _ rfl | exact LA.lend (lend_whole rfl (by first | (simp; done) | (rw [List.length_map]; rfl))) | refine LA.agg ?_ | refine LA.fn ?_ | refine LA.lend ?_ | exact Lend.d _ | exact Lend.zs _ | exact lend_whole rfl (by first | (simp; done) | (rw [List.length_map]; rfl)) | refine Lend.ptr rfl ?_ | refine Lend.fn ?_ | exact LendL.nil | refine LendL.cons ?_ ?_)) rfl rfl ?_)
  ·
   rw [ht0]; exact hl18
  refine ax_q (q_mov rfl) ?_
  refine ax_q (q_ext rfl rfl) ?_
  refine ax_q (q_ext rfl rfl) ?_
  refine ax_q (q_mov rfl) ?_
  refine ax_q (q_mov rfl) ?_
  refine ax_nil ?_
  refine cx_keep rfl rfl ?_
  refine cx_seq ?_
  refine cx_ops ?_
  refine ax_q (q_mov rfl) ?_
  refine ax_q (q_mov rfl) ?_
  refine ax_q (q_mov rfl) ?_
  apply ax_and rfl rfl
  ·
   intro g
   refine ax_q (q_mov rfl) ?_
   first | refine ax_call rfl (vc_pure0 (c_isNumber (n := (rdF s.tk[0]).1) ) hP rfl rfl ?_) | refine ax_call rfl (vc_lend0 (c_isNumber (n := (rdF s.tk[0]).1) ) hP (by repeat (first | exact lal_id _ rfl | exact LAL.nil | refine LAL.cons ?_ ?_ | exact la_id _ rfl | exact LA.lend (lend_whole rfl (by first | (simp; done) | (rw [List.length_map]; rfl))) | refine LA.agg ?_ | refine LA.fn ?_ | refine LA.lend ?_ | exact Lend.d _ | exact Lend.zs _ | exact lend_whole rfl (by first | (simp; done) | (rw [List.length_map]; rfl)) | refine Lend.ptr rfl ?_ | refine Lend.fn ?_ | exact LendL.nil | refine LendL.cons ?_ ?_)) rfl rfl ?_)
   exact ax_nil ⟨rfl, by repeat (first | exact trivial | refine ⟨rfl, ?_⟩ | refine ⟨?_, ?_⟩)⟩
  refine ax_q (q_mov rfl) ?_
  refine ax_q (q_mov rfl) ?_
  refine ax_nil ?_
  refine cx_keep rfl rfl ?_
  refine cx_ret (ret0 rfl rfl ?_)
  exact ⟨by rw [ht0, ht]; rfl, rfl⟩


/- slices.Index[[]string,string] -/
def k_c_Index_Str : XCode :=
 .seq (.ops [.op (some 4) (.mov (.k (.int .i64 0)))])
 (.keep [0, 1] (.seq (.seq (.ops [.op (some 6) (.mov (.t 0)),
   .op (some 7) (.lenS (.t 6)),
   .op (some 8) (.mov (.k (.int .i64 0)))])
  (.keep [0, 1, 7, 8] (.block 0 (.loop (.seq (.ops [.op (some 9) (.bin .lss (.t 8) (.t 7))])
   (.keep [0, 1, 7, 8, 9] (.seq (.cond (.t 9)
    (.skip)
    (.exit 0))
   (.keep [0, 1, 7, 8] (.seq (.block 1 (.seq (.ops [.op (some 10) (.mov (.t 8)),
     .op (some 5) (.mov (.t 10))])
    (.keep [0, 1, 5, 7, 8] (.seq (.ops [.op (some 11) (.mov (.t 1)),
     .op (some 12) (.mov (.t 0)),
     .op (some 13) (.mov (.t 5)),
     .op (some 14) (.iadr 1 (.t 12) (.t 13)),
     .op (some 15) (.load1 (.t 14)),
     .op (some 16) (.bin .eql (.t 11) (.t 15))])
    (.keep [0, 1, 5, 7, 8, 16] (.cond (.t 16)
    (.seq (.ops [.op (some 17) (.mov (.t 5)),
      .op (some 4) (.mov (.t 17))])
     (.keep [4] (.ret)))
    (.skip)))))))
   (.keep [0, 1, 7, 8] (.ops [.op (some 18) (.bin .add (.t 8) (.k (.int .i64 1))),
    .op (some 8) (.mov (.t 18))])))))))))))
 (.keep [] (.seq (.ops [.op (some 4) (.mov (.k (.int .i64 (-1))))])
 (.keep [4] (.ret))))))
theorem k_c_Index_Str_fits : fitsF Tryz.prog 102 ⟨19, k_c_Index_Str, [.t 4]⟩ = true := by kernel_rfl
theorem c_Index_Str {xs : List Str} {v : Str} (hw : xs.length ≤ 9223372036854775807) : Con Tryz.prog noMv 102 [.d (.sl 1 (xs.map strRow)), str v] [] (fun r h => r = int (idxOf (fun s => eqb v s) xs 0) ∧ h = []) := by
 refine con_of2 k_c_Index_Str_fits rfl fun C hP hmv => ?_
 unfold k_c_Index_Str
 refine cx_seq ?_
 refine cx_ops ?_
 refine ax_q (q_mov rfl) ?_
 refine ax_nil ?_
 refine cx_keep rfl rfl ?_
 refine cx_seq ?_
 refine cx_seq ?_
 refine cx_ops ?_
 refine ax_q (q_mov rfl) ?_
 first | refine ax_q (q_lenS_map rfl) ?_ | refine ax_q (q_lenS_osl rfl) ?_ | refine ax_q (q_lenS_zs rfl) ?_ | refine ax_q (q_lenS rfl) ?_
 refine ax_q (q_mov rfl) ?_
 refine ax_nil ?_
 refine cx_keep rfl rfl ?_
 refine cx_block ?_
 refine cx_loopU (fun n k => k ≤ xs.length ∧ n = xs.length - k ∧ ∀ i, i < k → ∀ x, xs[i]? = some x → (fun s => eqb v s) x = false) (fun k : Nat => [(8, int k)]) (fun _ => []) ⟨_, 0, ⟨by omega, rfl, fun i hi => by omega⟩, by repeat (first | exact trivial | refine ⟨rfl, ?_⟩ | refine ⟨?_, ?_⟩)⟩ ?_
 rintro n k ⟨hk, rfl, ht⟩
 refine cx_seq ?_
 refine cx_ops ?_
 refine ax_q (q_ibin rfl rfl rfl) ?_
 refine ax_nil ?_
 refine cx_keep rfl rfl ?_
 refine cx_seq ?_
 refine cx_cond rfl (fun h0 => ?_) (fun h0 => ?_)
 ·
  have h0 := dT h0
  have h0x : k < xs.length := by omega
  refine cx_skip ?_
  refine cx_keep rfl rfl ?_
  refine cx_seq ?_
  refine cx_block ?_
  refine cx_seq ?_
  refine cx_ops ?_
  refine ax_q (q_mov rfl) ?_
  refine ax_q (q_mov rfl) ?_
  refine ax_nil ?_
  refine cx_keep rfl rfl ?_
  refine cx_seq ?_
  refine cx_ops ?_
  refine ax_q (q_mov rfl) ?_
  refine ax_q (q_mov rfl) ?_
  refine ax_q (q_mov rfl) ?_
  refine ax_q (q_ix rfl rfl (mapAt h0x)) ?_
  first | refine ax_q (q_load1_ptr rfl rfl rfl) ?_ | refine ax_q (q_load1_ip rfl) ?_ | refine ax_q (q_load1_rptr rfl rfl rfl rfl) ?_ | refine ax_q (q_load1_rptr rfl rfl (by assumption) rfl) ?_ | refine ax_q (q_load1_rptr rfl rfl (mapAt (by first | assumption | omega)) rfl) ?_
  refine ax_q (q_sbin rfl rfl rfl) ?_
  refine ax_nil ?_
  refine cx_keep rfl rfl ?_
  refine cx_cond rfl (fun h1 => ?_) (fun h1 => ?_)
  ·
   have h1 : eqb v xs[k] = true := eqb_t (dT h1)
   refine cx_seq ?_
   refine cx_ops ?_
   refine ax_q (q_mov rfl) ?_
   refine ax_q (q_mov rfl) ?_
   refine ax_nil ?_
   refine cx_keep rfl rfl ?_
   refine cx_ret (ret0 rfl rfl ?_)
   exact ⟨by rw [idxOf_hit h0x ht h1]; rfl, rfl⟩
  ·
   have h1 : eqb v xs[k] = false := eqb_f (dF h1)
   refine cx_skip ?_
   refine cx_keep rfl rfl ?_
   refine cx_ops ?_
   refine ax_qe (r' := int ((k + 1 : Nat) : Int)) (q_ibin rfl rfl rfl) (by rw [wi (by omega) (by omega)]; rfl) ?_
   refine ax_q (q_mov rfl) ?_
   refine ax_nil ?_
   exact ⟨_, k + 1, by omega, ⟨by omega, rfl, before_step h0x ht h1⟩, by repeat (first | exact trivial | refine ⟨rfl, ?_⟩ | refine ⟨?_, ?_⟩)⟩
 ·
  have h0 := dF h0
  have h0x : k = xs.length := by omega
  refine cx_exit rfl ?_
  refine cx_keep rfl rfl ?_
  refine cx_seq ?_
  refine cx_ops ?_
  refine ax_q (q_mov rfl) ?_
  refine ax_nil ?_
  refine cx_keep rfl rfl ?_
  refine cx_ret (ret0 rfl rfl ?_)
  exact ⟨by rw [idxOf_none (fun i hi => ht i (by omega))]; rfl, rfl⟩


/- (ptr loop.example/g00332/impl.parser).value -/
def k_c_pvalue : XCode :=
 .seq (.ops [.op (some 2) (.alloc [.int .i64 0, .int .i64 0, .str []]),
   .op (some 3) (.mov (.k (.bool false)))])
 (.keep [0, 2] (.seq (.seq (.ops [.op (some 9) (.mov (.t 0)),
   .call (some 10) 99 [.t 9],
   .op (some 8) (.mov (.t 10)),
   .op (some 11) (.ext (.t 8) 0),
   .op (some 12) (.ext (.t 8) 1),
   .op (some 4) (.mov (.t 11)),
   .op (some 5) (.mov (.t 12))])
  (.keep [0, 2, 4, 5] (.seq (.ops [.op (some 13) (.mov (.t 5))])
  (.keep [0, 2, 4, 13] (.cond (.t 13)
  (.seq (.ops [.op (some 14) (.mov (.t 0)),
    .call (some 15) 78 [.t 14]])
   (.keep [2, 4] (.seq (.ops [.op (some 16) (.mov (.t 4)),
    .call (some 17) 73 [.t 16],
    .op none (.store 3 (.t 2) (.t 17)),
    .op (some 3) (.mov (.k (.bool true)))])
   (.keep [2, 3] (.ret)))))
  (.skip))))))
 (.keep [0, 2] (.seq (.seq (.ops [.op (some 18) (.mov (.t 0)),
   .op (some 19) (.bslice 1 [.k (.str [110, 117, 108, 108])]),
   .call (some 20) 81 [.t 18, .t 19]])
  (.keep [0, 2, 20] (.cond (.t 20)
  (.seq (.ops [.op (some 21) (.build [.int .i64 0, .int .i64 0, .str []] []),
    .op none (.store 3 (.t 2) (.t 21)),
    .op (some 3) (.mov (.k (.bool true)))])
   (.keep [2, 3] (.ret)))
  (.skip))))
 (.keep [0, 2] (.seq (.seq (.ops [.op (some 22) (.mov (.t 0)),
   .op (some 23) (.nilck (.t 22)),
   .op (some 24) (.fadr (.t 23) 0),
   .op (some 25) (.load1 (.t 24)),
   .op (some 26) (.lenS (.t 25)),
   .op (some 27) (.bin .gtr (.t 26) (.k (.int .i64 0))),
   .op (some 28) (.mov (.t 27)),
   .andor 37 true 6 28 [.op (some 29) (.mov (.t 0)), .op (some 30) (.nilck (.t 29)), .op (some 31) (.fadr (.t 30) 0), .op (some 32) (.load1 (.t 31)), .op (some 33) (.iadr 1 (.t 32) (.k (.int .i64 0))), .op (some 34) (.load1 (.t 33)), .op (some 35) (.idxS (.t 34) (.k (.int .i64 0))), .op (some 36) (.bin .eql (.t 35) (.k (.int .u8 39)))] (.t 36)])
  (.keep [0, 2, 37] (.cond (.t 37)
  (.seq (.ops [.op (some 38) (.mov (.t 0)),
    .op (some 39) (.nilck (.t 38)),
    .op (some 40) (.fadr (.t 39) 0),
    .op (some 41) (.load1 (.t 40)),
    .op (some 42) (.iadr 1 (.t 41) (.k (.int .i64 0))),
    .op (some 43) (.load1 (.t 42)),
    .op (some 6) (.mov (.t 43))])
   (.keep [0, 2, 6] (.seq (.ops [.op (some 44) (.mov (.t 6)),
    .op (some 45) (.mov (.t 6)),
    .op (some 46) (.lenT (.t 45)),
    .op (some 47) (.bin .sub (.t 46) (.k (.int .i64 1))),
    .op (some 48) (.slcT (.t 44) (some (.k (.int .i64 1))) (some (.t 47))),
    .op (some 49) (.build [.int .i64 0, .int .i64 0, .str []] [(0, 1, .k (.int .i64 2)), (2, 1, .t 48)]),
    .op (some 7) (.alloc [.int .i64 0, .int .i64 0, .str []]),
    .op none (.store 3 (.t 7) (.t 49))])
   (.keep [0, 2, 7] (.seq (.ops [.op (some 50) (.loadN 3 (.t 7)),
    .call (some 51) 64 [.t 50]])
   (.keep [0, 2, 7, 51] (.cond (.t 51)
   (.seq (.ops [.op (some 52) (.mov (.t 0)),
     .call (some 53) 78 [.t 52]])
    (.keep [2, 7] (.seq (.ops [.op (some 54) (.loadN 3 (.t 7)),
     .op none (.store 3 (.t 2) (.t 54)),
     .op (some 3) (.mov (.k (.bool true)))])
    (.keep [2, 3] (.ret)))))
   (.skip))))))))
  (.skip))))
 (.keep [2] (.seq (.ops [.op (some 55) (.build [.int .i64 0, .int .i64 0, .str []] []),
   .op none (.store 3 (.t 2) (.t 55)),
   .op (some 3) (.mov (.k (.bool false)))])
 (.keep [2, 3] (.ret))))))))))
theorem k_c_pvalue_fits : fitsF Tryz.prog 111 ⟨56, k_c_pvalue, [.cN 2 3, .t 3]⟩ = true := by kernel_rfl
set_option maxHeartbeats 4000000 in
theorem c_pvalue {s : PS} (hs : s.ok) : Con Tryz.prog noMv 111 [.ptr 1000 0] [(1000, .box [.d (.sl 1 (s.tk.map strRow)), .osl 1001 7 0 s.ns.length, int (s.op : Int)]), (1001, .rows 7 (s.ns.map GExprNode.row))] (fun r h => r = .tup [(vaP s).1.1.av, bool (vaP s).1.2] ∧ h = [(1000, .box [.d (.sl 1 ((vaP s).2.tk.map strRow)), .osl 1001 7 0 (vaP s).2.ns.length, int ((vaP s).2.op : Int)]), (1001, .rows 7 ((vaP s).2.ns.map GExprNode.row))]) := by
 refine con_of2 k_c_pvalue_fits rfl fun C hP hmv => ?_
 unfold k_c_pvalue
 have hs1 := hs.n
 have hs2 := hs.m
 have hs3 := hs.o
 refine cx_seq ?_
 refine cx_ops ?_
 refine ax_e (e_alloc (by decide) rfl rfl) ?_
 refine ax_q (q_mov rfl) ?_
 refine ax_nil ?_
 refine cx_keep rfl rfl ?_
 refine cx_seq ?_
 refine cx_seq ?_
 refine cx_ops ?_
 refine ax_q (q_mov rfl) ?_
 first | refine ax_call rfl (vc_pure0 (c_digits (s := s) ?_) hP rfl rfl ?_) | refine ax_call rfl (vc_lend0 (c_digits (s := s) ?_) hP (by repeat (first | exact lal_id _ rfl | exact LAL.nil | refine LAL.cons ?_ ?_ | exact la_id _ rfl | exact LA.lend (lend_whole rfl (by first | (simp; done) | (rw [List.length_map]; rfl))) | refine LA.agg ?_ | refine LA.fn ?_ | refine LA.lend ?_ | exact Lend.d _ | exact Lend.zs _ | exact lend_whole rfl (by first | (simp; done) | (rw [List.length_map]; rfl)) | refine Lend.ptr rfl ?_ | refine Lend.fn ?_ | exact LendL.nil | refine LendL.cons ?_ ?_)) rfl rfl ?_)
 ·
  first | assumption | omega | (simp; done) | (simp; omega)
 refine ax_q (q_mov rfl) ?_
 refine ax_q (q_ext rfl rfl) ?_
 refine ax_q (q_ext rfl rfl) ?_
 refine ax_q (q_mov rfl) ?_
 refine ax_q (q_mov rfl) ?_
 refine ax_nil ?_
 refine cx_keep rfl rfl ?_
 refine cx_seq ?_
 refine cx_ops ?_
 refine ax_q (q_mov rfl) ?_
 refine ax_nil ?_
 refine cx_keep rfl rfl ?_
 refine cx_cond rfl (fun h0 => ?_) (fun h0 => ?_)
 ·
  skip
  obtain ⟨t, r, ht⟩ := dg_cons h0
  refine cx_seq ?_
  refine cx_ops ?_
  refine ax_q (q_mov rfl) ?_
  refine ax_call rfl (vcall_own (c_take hs ht) hP hmv false (fun e => bif Nat.beq e 1000 then 1000 else 1001) [1000, 1001] ⟨rfl, rfl, rfl, rfl, ⟨rfl, rfl, trivial⟩, rfl, rfl, rfl⟩ (.pass rfl rfl .nil) ?_)
  rintro r h ⟨rfl, rfl⟩
  refine ⟨(fun e => bif Nat.beq e 1000 then 1000 else 1001), [], ⟨rfl, rfl, rfl, rfl, mem2 rfl rfl, rfl, rfl, fun h => absurd h Bool.false_ne_true⟩, ?_⟩
  try dsimp only [dpP]
  refine ax_nil ?_
  refine cx_keep rfl rfl ?_
  refine cx_seq ?_
  refine cx_ops ?_
  refine ax_q (q_mov rfl) ?_
  first | refine ax_call rfl (vc_pure0 (c_numberValue  ) hP rfl rfl ?_) | refine ax_call rfl (vc_lend0 (c_numberValue  ) hP (by repeat (first | exact lal_id _ rfl | exact LAL.nil | refine LAL.cons ?_ ?_ | exact la_id _ rfl | exact LA.lend (lend_whole rfl (by first | (simp; done) | (rw [List.length_map]; rfl))) | refine LA.agg ?_ | refine LA.fn ?_ | refine LA.lend ?_ | exact Lend.d _ | exact Lend.zs _ | exact lend_whole rfl (by first | (simp; done) | (rw [List.length_map]; rfl)) | refine Lend.ptr rfl ?_ | refine Lend.fn ?_ | exact LendL.nil | refine LendL.cons ?_ ?_)) rfl rfl ?_)
  refine ax_e (e_st rfl rfl rfl rfl rfl rfl rfl) ?_
  refine ax_q (q_mov rfl) ?_
  refine ax_nil ?_
  refine cx_keep rfl rfl ?_
  refine cx_ret (retN id [1000, 1001] rfl rfl rfl rfl rfl ?_)
  rw [vaP_1 h0]; exact ⟨rfl, rfl⟩
 ·
  skip
  refine cx_skip ?_
  refine cx_keep rfl rfl ?_
  refine cx_seq ?_
  refine cx_seq ?_
  refine cx_ops ?_
  refine ax_q (q_mov rfl) ?_
  refine ax_e (e_bsliceD (rows := [strRow [110, 117, 108, 108]]) rfl) ?_
  refine ax_call rfl (vcall_own (c_skip (s := s) (ts := [[110, 117, 108, 108]]) hs (by decide)) hP hmv false (fun e => bif Nat.beq e 1000 then 1000 else 1001) [1000, 1001] ⟨rfl, rfl, rfl, rfl, ⟨rfl, rfl, trivial⟩, rfl, rfl, rfl⟩ (.pass rfl rfl (.pass rfl rfl .nil)) ?_)
  rintro r h ⟨rfl, rfl⟩
  refine ⟨(fun e => bif Nat.beq e 1000 then 1000 else 1001), [], ⟨rfl, rfl, rfl, rfl, mem2 rfl rfl, rfl, rfl, fun h => absurd h Bool.false_ne_true⟩, ?_⟩
  try dsimp only [dpP]
  refine ax_nil ?_
  refine cx_keep rfl rfl ?_
  refine cx_cond rfl (fun h1 => ?_) (fun h1 => ?_)
  ·
   skip
   rw [skP_t h1]
   refine cx_seq ?_
   refine cx_ops ?_
   refine ax_q (q_build rfl) ?_
   refine ax_e (e_st rfl rfl rfl rfl rfl rfl rfl) ?_
   refine ax_q (q_mov rfl) ?_
   refine ax_nil ?_
   refine cx_keep rfl rfl ?_
   refine cx_ret (retN id [1000, 1001] rfl rfl rfl rfl rfl ?_)
   rw [vaP_2 h0 h1]; exact ⟨rfl, rfl⟩
  ·
   skip
   rw [skP_f h1]
   refine cx_skip ?_
   refine cx_keep rfl rfl ?_
   refine cx_seq ?_
   refine cx_seq ?_
   refine cx_ops ?_
   refine ax_q (q_mov rfl) ?_
   first | refine ax_q (q_nilck_ptr rfl) ?_ | refine ax_q (q_nilck_rptr rfl) ?_ | refine ax_q (q_nilck_ip rfl) ?_
   first | refine ax_q (q_fadr_ptr rfl) ?_ | refine ax_q (q_fadr_rptr rfl) ?_ | refine ax_q (q_fadr_ip rfl) ?_
   first | refine ax_q (q_load1_ptr rfl rfl rfl) ?_ | refine ax_q (q_load1_ip rfl) ?_ | refine ax_q (q_load1_rptr rfl rfl rfl rfl) ?_ | refine ax_q (q_load1_rptr rfl rfl (by assumption) rfl) ?_ | refine ax_q (q_load1_rptr rfl rfl (mapAt (by first | assumption | omega)) rfl) ?_
   first | refine ax_q (q_lenS_map rfl) ?_ | refine ax_q (q_lenS_osl rfl) ?_ | refine ax_q (q_lenS_zs rfl) ?_ | refine ax_q (q_lenS rfl) ?_
   refine ax_q (q_ibin rfl rfl rfl) ?_
   refine ax_q (q_mov rfl) ?_
   apply ax_and rfl rfl
   ·
    intro g
    have g := dT g
    have h0x : 0 < s.tk.length := by omega
    have okt := hs.t (s.tk.headD []) (hd_mem h0x)
    have hl1 : 0 < (s.tk.headD []).length := okt.1
    refine ax_q (q_mov rfl) ?_
    first | refine ax_q (q_nilck_ptr rfl) ?_ | refine ax_q (q_nilck_rptr rfl) ?_ | refine ax_q (q_nilck_ip rfl) ?_
    first | refine ax_q (q_fadr_ptr rfl) ?_ | refine ax_q (q_fadr_rptr rfl) ?_ | refine ax_q (q_fadr_ip rfl) ?_
    first | refine ax_q (q_load1_ptr rfl rfl rfl) ?_ | refine ax_q (q_load1_ip rfl) ?_ | refine ax_q (q_load1_rptr rfl rfl rfl rfl) ?_ | refine ax_q (q_load1_rptr rfl rfl (by assumption) rfl) ?_ | refine ax_q (q_load1_rptr rfl rfl (mapAt (by first | assumption | omega)) rfl) ?_
    refine ax_q (q_ixI (row := strRow (s.tk.headD [])) rfl rfl (by omega) (hd_row h0x)) ?_
    first | refine ax_q (q_load1_ptr rfl rfl rfl) ?_ | refine ax_q (q_load1_ip rfl) ?_ | refine ax_q (q_load1_rptr rfl rfl rfl rfl) ?_ | refine ax_q (q_load1_rptr rfl rfl (by assumption) rfl) ?_ | refine ax_q (q_load1_rptr rfl rfl (mapAt (by first | assumption | omega)) rfl) ?_
    refine ax_qe (r' := .d (.int .u8 (((s.tk.headD []).headD 0).toNat : Int))) (q_idxN (n := 0) rfl rfl hl1) (hd_get hl1) ?_
    refine ax_q (q_ibin rfl rfl rfl) ?_
    exact ax_nil ⟨rfl, by repeat (first | exact trivial | refine ⟨rfl, ?_⟩ | refine ⟨?_, ?_⟩)⟩
   refine ax_nil ?_
   refine cx_keep rfl rfl ?_
   refine cx_cond rfl (fun h2 => ?_) (fun h2 => ?_)
   ·
    have h2 := (fun h => And.intro (dT (and_T h).1) (dT (and_T h).2)) h2
    have h0x : 0 < s.tk.length := by omega
    obtain ⟨t, r, ht⟩ : ∃ t r, s.tk = t :: r := List.exists_cons_of_length_pos h0x
    have okt := hs.t t (by rw [ht]; exact List.mem_cons_self)
    have hrow : (s.tk.map strRow)[0]? = some (strRow t) := by rw [ht]; rfl
    have hq : t.head? = some 39 := (hd_39 okt.1).1 (by have := h2.2; rw [ht] at this; exact this)
    have h2l := okt.2.2 hq
    have h18 := okt.2.1
    refine cx_seq ?_
    refine cx_ops ?_
    refine ax_q (q_mov rfl) ?_
    first | refine ax_q (q_nilck_ptr rfl) ?_ | refine ax_q (q_nilck_rptr rfl) ?_ | refine ax_q (q_nilck_ip rfl) ?_
    first | refine ax_q (q_fadr_ptr rfl) ?_ | refine ax_q (q_fadr_rptr rfl) ?_ | refine ax_q (q_fadr_ip rfl) ?_
    first | refine ax_q (q_load1_ptr rfl rfl rfl) ?_ | refine ax_q (q_load1_ip rfl) ?_ | refine ax_q (q_load1_rptr rfl rfl rfl rfl) ?_ | refine ax_q (q_load1_rptr rfl rfl (by assumption) rfl) ?_ | refine ax_q (q_load1_rptr rfl rfl (mapAt (by first | assumption | omega)) rfl) ?_
    refine ax_q (q_ixI (row := strRow t) rfl rfl (by omega) hrow) ?_
    first | refine ax_q (q_load1_ptr rfl rfl rfl) ?_ | refine ax_q (q_load1_ip rfl) ?_ | refine ax_q (q_load1_rptr rfl rfl rfl rfl) ?_ | refine ax_q (q_load1_rptr rfl rfl (by assumption) rfl) ?_ | refine ax_q (q_load1_rptr rfl rfl (mapAt (by first | assumption | omega)) rfl) ?_
    refine ax_q (q_mov rfl) ?_
    refine ax_nil ?_
    refine cx_keep rfl rfl ?_
    refine cx_seq ?_
    refine cx_ops ?_
    refine ax_q (q_mov rfl) ?_
    refine ax_q (q_mov rfl) ?_
    refine ax_q (q_lenT rfl) ?_
    refine ax_q (q_sub rfl rfl (by omega)) ?_
    refine ax_qe (r' := str ((t.drop 1).take (t.length - 2))) (q_slcT rfl rfl rfl (by omega) (by omega) (by omega)) (sT_mid (by omega) (by omega)) ?_
    refine ax_q (q_build rfl) ?_
    refine ax_e (e_alloc (by decide) rfl rfl) ?_
    refine ax_e (e_st rfl rfl rfl rfl rfl rfl rfl) ?_
    refine ax_nil ?_
    refine cx_keep rfl rfl ?_
    refine cx_seq ?_
    refine cx_ops ?_
    refine ax_q (q_ldN rfl rfl rfl) ?_
    first | refine ax_call rfl (vc_pure0 (c_ValueOK (v := ⟨2, 0, (t.drop 1).take (t.length - 2)⟩) ?_) hP rfl rfl ?_) | refine ax_call rfl (vc_lend0 (c_ValueOK (v := ⟨2, 0, (t.drop 1).take (t.length - 2)⟩) ?_) hP (by repeat (first | exact lal_id _ rfl | exact LAL.nil | refine LAL.cons ?_ ?_ | exact la_id _ rfl | exact LA.lend (lend_whole rfl (by first | (simp; done) | (rw [List.length_map]; rfl))) | refine LA.agg ?_ | refine LA.fn ?_ | refine LA.lend ?_ | exact Lend.d _ | exact Lend.zs _ | exact lend_whole rfl (by first | (simp; done) | (rw [List.length_map]; rfl)) | refine Lend.ptr rfl ?_ | refine Lend.fn ?_ | exact LendL.nil | refine LendL.cons ?_ ?_)) rfl rfl ?_)
    ·
     simp; omega
    refine ax_nil ?_
    refine cx_keep rfl rfl ?_
    refine cx_cond rfl (fun h3 => ?_) (fun h3 => ?_)
    ·
     skip
     refine cx_seq ?_
     refine cx_ops ?_
     refine ax_q (q_mov rfl) ?_
     refine ax_call rfl (vcall_own (c_take hs ht) hP hmv false (fun e => bif Nat.beq e 1000 then 1000 else 1001) [1000, 1001] ⟨rfl, rfl, rfl, rfl, ⟨rfl, rfl, trivial⟩, rfl, rfl, rfl⟩ (.pass rfl rfl .nil) ?_)
     rintro r h ⟨rfl, rfl⟩
     refine ⟨(fun e => bif Nat.beq e 1000 then 1000 else 1001), [], ⟨rfl, rfl, rfl, rfl, mem2 rfl rfl, rfl, rfl, fun h => absurd h Bool.false_ne_true⟩, ?_⟩
     try dsimp only [dpP]
     refine ax_nil ?_
     refine cx_keep rfl rfl ?_
     refine cx_seq ?_
     refine cx_ops ?_
     refine ax_q (q_ldN rfl rfl rfl) ?_
     refine ax_e (e_st rfl rfl rfl rfl rfl rfl rfl) ?_
     refine ax_q (q_mov rfl) ?_
     refine ax_nil ?_
     refine cx_keep rfl rfl ?_
     refine cx_ret (retN id [1000, 1001] rfl rfl rfl rfl rfl ?_)
     rw [vaP_3 h0 h1 ht hq h3]; exact ⟨rfl, rfl⟩
    ·
     skip
     refine cx_skip ?_
     refine cx_keep rfl rfl ?_
     refine cx_seq ?_
     refine cx_ops ?_
     refine ax_q (q_build rfl) ?_
     refine ax_e (e_st rfl rfl rfl rfl rfl rfl rfl) ?_
     refine ax_q (q_mov rfl) ?_
     refine ax_nil ?_
     refine cx_keep rfl rfl ?_
     refine cx_ret (retN id [1000, 1001] rfl rfl rfl rfl rfl ?_)
     rw [show vaP s = ((GValue.zero, false), s) from by first | exact vaP_4 h0 h1 ht h3 | exact vaP_5 hs h0 h1 h2]; exact ⟨rfl, rfl⟩
   ·
    have h2 := (fun h => (and_F h).imp dF dF) h2
    refine cx_skip ?_
    refine cx_keep rfl rfl ?_
    refine cx_seq ?_
    refine cx_ops ?_
    refine ax_q (q_build rfl) ?_
    refine ax_e (e_st rfl rfl rfl rfl rfl rfl rfl) ?_
    refine ax_q (q_mov rfl) ?_
    refine ax_nil ?_
    refine cx_keep rfl rfl ?_
    refine cx_ret (retN id [1000, 1001] rfl rfl rfl rfl rfl ?_)
    rw [show vaP s = ((GValue.zero, false), s) from by first | exact vaP_4 h0 h1 ht h3 | exact vaP_5 hs h0 h1 h2]; exact ⟨rfl, rfl⟩


/- (ptr loop.example/g00332/impl.parser).primary -/
def k_c_pprim : XCode :=
 .seq (.ops [.op (some 2) (.mov (.k (.int .i64 0)))])
 (.keep [0] (.seq (.seq (.ops [.op (some 7) (.mov (.t 0)),
   .op (some 8) (.bslice 1 [.k (.str [40])]),
   .call (some 9) 81 [.t 7, .t 8]])
  (.keep [0, 9] (.cond (.t 9)
  (.seq (.ops [.op (some 10) (.mov (.t 0)),
    .op (some 11) (.mov (.t 0)),
    .op (some 12) (.mkbf 56 [.t 11]),
    .call (some 13) 114 [.t 10, .t 12],
    .op (some 3) (.mov (.t 13))])
   (.keep [0, 3] (.seq (.seq (.ops [.op (some 14) (.mov (.t 0)),
     .op (some 15) (.bslice 1 [.k (.str [41])]),
     .call (some 16) 81 [.t 14, .t 15],
     .op (some 17) (.not (.t 16))])
   (.keep [3, 17] (.cond (.t 17)
    (.ops [.call (some 18) 57 [.k (.int .i64 3)]])
    (.skip))))
   (.keep [3] (.seq (.ops [.op (some 19) (.mov (.t 3)),
    .op (some 2) (.mov (.t 19))])
   (.keep [2] (.ret)))))))
  (.skip))))
 (.keep [0] (.seq (.seq (.ops [.op (some 21) (.mov (.t 0)),
   .call (some 22) 111 [.t 21],
   .op (some 20) (.mov (.t 22)),
   .op (some 23) (.ext (.t 20) 0),
   .op (some 24) (.ext (.t 20) 1),
   .op (some 4) (.alloc [.int .i64 0, .int .i64 0, .str []]),
   .op none (.store 3 (.t 4) (.t 23)),
   .op (some 5) (.mov (.t 24))])
  (.keep [0, 4, 5] (.seq (.ops [.op (some 25) (.mov (.t 5))])
  (.keep [0, 4, 25] (.cond (.t 25)
  (.seq (.ops [.op (some 26) (.mov (.t 0)),
    .op (some 27) (.loadN 3 (.t 4)),
    .op (some 28) (.build [.int .i64 0, .int .i64 0, .int .i64 0, .int .i64 0, .int .i64 0, .int .i64 0, .str []] [(0, 1, .k (.int .i64 1)), (4, 3, .t 27)]),
    .call (some 29) 103 [.t 26, .t 28],
    .op (some 2) (.mov (.t 29))])
   (.keep [2] (.ret)))
  (.skip))))))
 (.keep [0] (.seq (.drawE [[], [], [1], [0, 1, 2], [0, 1, 2, 3]] [.op (some 30) (.slcA 1 3 (.g 0)),
   .op (some 31) (.mov (.t 0)),
   .call (some 32) 78 [.t 31]]
  [.call (some 33) 102 [.t 30, .t 32],
   .op (some 6) (.mov (.t 33))])
 (.keep [0, 6] (.seq (.seq (.ops [.op (some 34) (.mov (.t 6)),
   .op (some 35) (.bin .lss (.t 34) (.k (.int .i64 0)))])
  (.keep [0, 6, 35] (.cond (.t 35)
  (.ops [.call (some 36) 57 [.k (.int .i64 3)]])
  (.skip))))
 (.keep [0, 6] (.seq (.ops [.op (some 37) (.mov (.t 0)),
   .op (some 38) (.mov (.t 6)),
   .op (some 39) (.build [.int .i64 0, .int .i64 0, .int .i64 0, .int .i64 0, .int .i64 0, .int .i64 0, .str []] [(0, 1, .k (.int .i64 2)), (3, 1, .t 38)]),
   .call (some 40) 103 [.t 37, .t 39],
   .op (some 2) (.mov (.t 40))])
 (.keep [2] (.ret))))))))))))
theorem k_c_pprim_fits : fitsF Tryz.prog 157 ⟨41, k_c_pprim, [.t 2]⟩ = true := by kernel_rfl
set_option maxHeartbeats 4000000 in
theorem c_pprim {f : Nat} (ih : RC Tryz.prog 56 (prs f 0)) {s s' : PS} {k : Int} (hs : s.ok) (h : prs (f + 1) 7 s = some (s', k)) : Con Tryz.prog (fun e => Nat.beq e 1001) 157 [.ptr 1000 0] [(1000, .box [.d (.sl 1 (s.tk.map strRow)), .osl 1001 7 0 s.ns.length, int (s.op : Int)]), (1001, .rows 7 (s.ns.map GExprNode.row))] (fun r h => r = int k ∧ h = [(1000, .box [.d (.sl 1 (s'.tk.map strRow)), .osl 1001 7 0 s'.ns.length, int (s'.op : Int)]), (1001, .rows 7 (s'.ns.map GExprNode.row))]) := by
 refine con_of2 k_c_pprim_fits rfl fun C hP hmv => ?_
 unfold k_c_pprim
 refine cx_seq ?_
 refine cx_ops ?_
 refine ax_q (q_mov rfl) ?_
 refine ax_nil ?_
 refine cx_keep rfl rfl ?_
 refine cx_seq ?_
 refine cx_seq ?_
 refine cx_ops ?_
 refine ax_q (q_mov rfl) ?_
 refine ax_e (e_bsliceD (rows := [strRow [40]]) rfl) ?_
 refine ax_call rfl (vcall_own (c_skip (s := s) (ts := [[40]]) hs (by decide)) hP hmv false (fun e => bif Nat.beq e 1000 then 1000 else 1001) [1000, 1001] ⟨rfl, rfl, rfl, rfl, ⟨rfl, rfl, trivial⟩, rfl, rfl, rfl⟩ (.pass rfl rfl (.pass rfl rfl .nil)) ?_)
 rintro r h ⟨rfl, rfl⟩
 refine ⟨(fun e => bif Nat.beq e 1000 then 1000 else 1001), [], ⟨rfl, rfl, rfl, rfl, mem2 rfl rfl, rfl, rfl, fun h => absurd h Bool.false_ne_true⟩, ?_⟩
 try dsimp only [dpP]
 refine ax_nil ?_
 refine cx_keep rfl rfl ?_
 refine cx_cond rfl (fun h0 => ?_) (fun h0 => ?_)
 ·
  skip
  obtain ⟨s1, h1, h2, rfl⟩ := prP_b h h0
  obtain ⟨ok1, op1⟩ := (prs_ro f 0).wi _ _ _ (hs.dp 1) h1
  rw [skP_t h0]
  refine cx_seq ?_
  refine cx_ops ?_
  refine ax_q (q_mov rfl) ?_
  refine ax_q (q_mov rfl) ?_
  refine ax_q (q_mkbf rfl) ?_
  refine ax_call rfl (vcall_own (c_within ih (prs_ro f 0) (by kernel_rfl) (hs.dp 1) h1) hP hmv false (fun e => bif Nat.beq e 1000 then 1000 else 1001) [1000, 1001] ⟨rfl, rfl, rfl, rfl, ⟨rfl, rfl, trivial⟩, rfl, rfl, rfl⟩ (.pass rfl rfl (.pass rfl rfl .nil)) ?_)
  rintro r h ⟨rfl, rfl⟩
  refine ⟨(fun e => bif Nat.beq e 1000 then 1000 else 1001), [], ⟨rfl, rfl, rfl, rfl, mem2 rfl rfl, rfl, rfl, fun h => absurd h Bool.false_ne_true⟩, ?_⟩
  try dsimp only [dpP]
  refine ax_q (q_mov rfl) ?_
  refine ax_nil ?_
  refine cx_keep rfl rfl ?_
  refine cx_seq ?_
  refine cx_seq ?_
  refine cx_ops ?_
  refine ax_q (q_mov rfl) ?_
  refine ax_e (e_bsliceD (rows := [strRow [41]]) rfl) ?_
  refine ax_call rfl (vcall_own (c_skip (s := s1) (ts := [[41]]) ok1 (by decide)) hP hmv false (fun e => bif Nat.beq e 1000 then 1000 else 1001) [1000, 1001] ⟨rfl, rfl, rfl, rfl, ⟨rfl, rfl, trivial⟩, rfl, rfl, rfl⟩ (.pass rfl rfl (.pass rfl rfl .nil)) ?_)
  rintro r h ⟨rfl, rfl⟩
  refine ⟨(fun e => bif Nat.beq e 1000 then 1000 else 1001), [], ⟨rfl, rfl, rfl, rfl, mem2 rfl rfl, rfl, rfl, fun h => absurd h Bool.false_ne_true⟩, ?_⟩
  try dsimp only [dpP]
  refine ax_q (q_not rfl) ?_
  refine ax_nil ?_
  refine cx_keep rfl rfl ?_
  refine cx_cond rfl (fun h1 => ?_) (fun h1 => ?_)
  ·
   skip
   rw [h2] at h1; cases h1
  ·
   rw [skP_t h2]
   refine cx_skip ?_
   refine cx_keep rfl rfl ?_
   refine cx_seq ?_
   refine cx_ops ?_
   refine ax_q (q_mov rfl) ?_
   refine ax_q (q_mov rfl) ?_
   refine ax_nil ?_
   refine cx_keep rfl rfl ?_
   refine cx_ret (retN id [1000, 1001] rfl rfl rfl rfl rfl ?_)
   exact ⟨rfl, rfl⟩
 ·
  skip
  rw [skP_f h0]
  refine cx_skip ?_
  refine cx_keep rfl rfl ?_
  refine cx_seq ?_
  refine cx_seq ?_
  refine cx_ops ?_
  refine ax_q (q_mov rfl) ?_
  refine ax_call rfl (vcall_own (c_pvalue hs) hP hmv false (fun e => bif Nat.beq e 1000 then 1000 else 1001) [1000, 1001] ⟨rfl, rfl, rfl, rfl, ⟨rfl, rfl, trivial⟩, rfl, rfl, rfl⟩ (.pass rfl rfl .nil) ?_)
  rintro r h ⟨rfl, rfl⟩
  refine ⟨(fun e => bif Nat.beq e 1000 then 1000 else 1001), [], ⟨rfl, rfl, rfl, rfl, mem2 rfl rfl, rfl, rfl, fun h => absurd h Bool.false_ne_true⟩, ?_⟩
  try dsimp only [dpP]
  refine ax_q (q_mov rfl) ?_
  refine ax_q (q_ext rfl rfl) ?_
  refine ax_q (q_ext rfl rfl) ?_
  refine ax_e (e_alloc (by decide) rfl rfl) ?_
  refine ax_e (e_st rfl rfl rfl rfl rfl rfl rfl) ?_
  refine ax_q (q_mov rfl) ?_
  refine ax_nil ?_
  refine cx_keep rfl rfl ?_
  refine cx_seq ?_
  refine cx_ops ?_
  refine ax_q (q_mov rfl) ?_
  refine ax_nil ?_
  refine cx_keep rfl rfl ?_
  refine cx_cond rfl (fun h2 => ?_) (fun h2 => ?_)
  ·
   skip
   have hn := prP_v h h0 h2
   obtain ⟨okv, opv⟩ := vaP_ok hs
   refine cx_seq ?_
   refine cx_ops ?_
   refine ax_q (q_mov rfl) ?_
   refine ax_q (q_ldN rfl rfl rfl) ?_
   refine ax_q (q_build rfl) ?_
   refine ax_call rfl (vcall_own (c_pnode (n := ⟨1, 0, 0, 0, (vaP s).1.1⟩) okv hn) hP hmv false (fun e => bif Nat.beq e 1000 then 1000 else 1001) [1000, 1001] ⟨rfl, rfl, rfl, rfl, ⟨rfl, rfl, trivial⟩, rfl, rfl, rfl⟩ (.pass rfl rfl (.pass rfl rfl .nil)) ?_)
   rintro r h ⟨rfl, rfl⟩
   refine ⟨(fun e => bif Nat.beq e 1000 then 1000 else 1001), [], ⟨rfl, rfl, rfl, rfl, mem2 rfl rfl, rfl, rfl, fun h => absurd h Bool.false_ne_true⟩, ?_⟩
   try dsimp only [dpP]
   refine ax_q (q_mov rfl) ?_
   refine ax_nil ?_
   refine cx_keep rfl rfl ?_
   refine cx_ret (retN id [1000, 1001] rfl rfl rfl rfl rfl ?_)
   exact ⟨rfl, rfl⟩
  ·
   skip
   have hvn := vaP_no h2
   obtain ⟨t, r, ht, hc, hn⟩ := prP_c h h0 h2
   rw [hvn]
   refine cx_skip ?_
   refine cx_keep rfl rfl ?_
   refine cx_seq ?_
   refine cx_drawL 2 32 (fun _ => false) (fun _ => true) [] ([(1000, .box [.d (.sl 1 ((dpP s 1).tk.map strRow)), .osl 1001 7 0 (dpP s 1).ns.length, int ((dpP s 1).op : Int)]), (1001, .rows 7 ((dpP s 1).ns.map GExprNode.row))]) [[], [0], [31]] [[1000, 1001], [], [1000, 1001]] rfl ?_
   first | refine ⟨_, .inr ⟨rfl, _, rfl, .inr ⟨rfl, rfl, .inr rfl, rfl, rfl⟩, loc_q (q_slcG colsL gtab_cols (by rw [hP]; kernel_rfl) rfl rfl)⟩, ?_⟩
   first | refine ⟨_, .inr ⟨rfl, _, rfl, .inl rfl, loc_q (q_mov rfl)⟩, ?_⟩
   refine ⟨⟨32, _, []⟩, .inl ⟨rfl, rfl, rfl, locl_call (fun e => bif Nat.beq e 1000 then 1000 else 1001) [1000, 1001] (fun e => bif Nat.beq e 1000 then 1000 else 1001) [] rfl (c_take hs ht) hP hmv rfl rfl rfl rfl ⟨rfl, rfl, trivial⟩ rfl rfl rfl (.pass rfl rfl .nil) rfl rfl rfl rfl (mem2 rfl rfl) rfl⟩, ?_⟩
   refine ⟨rfl, ?_⟩
   first | refine ax_call rfl (vc_pure0 (c_Index_Str (xs := colsL) (v := t) ?_) hP rfl rfl ?_) | refine ax_call rfl (vc_lend0 (c_Index_Str (xs := colsL) (v := t) ?_) hP (by repeat (first | exact lal_id _ rfl | exact LAL.nil | refine LAL.cons ?_ ?_ | exact la_id _ rfl | exact LA.lend (lend_whole rfl (by first | (simp; done) | (rw [List.length_map]; rfl))) | refine LA.agg ?_ | refine LA.fn ?_ | refine LA.lend ?_ | exact Lend.d _ | exact Lend.zs _ | exact lend_whole rfl (by first | (simp; done) | (rw [List.length_map]; rfl)) | refine Lend.ptr rfl ?_ | refine Lend.fn ?_ | exact LendL.nil | refine LendL.cons ?_ ?_)) rfl rfl ?_)
   ·
    decide
   rw [colP_idx]
   refine ax_q (q_mov rfl) ?_
   refine ax_nil ?_
   refine cx_keep rfl rfl ?_
   refine cx_seq ?_
   refine cx_seq ?_
   refine cx_ops ?_
   refine ax_q (q_mov rfl) ?_
   refine ax_q (q_ibin rfl rfl rfl) ?_
   refine ax_nil ?_
   refine cx_keep rfl rfl ?_
   refine cx_cond rfl (fun h3 => ?_) (fun h3 => ?_)
   ·
    have h3 := dT h3
    omega
   ·
    have h3 := dF h3
    refine cx_skip ?_
    refine cx_keep rfl rfl ?_
    refine cx_seq ?_
    refine cx_ops ?_
    refine ax_q (q_mov rfl) ?_
    refine ax_q (q_mov rfl) ?_
    refine ax_q (q_build rfl) ?_
    refine ax_call rfl (vcall_own (c_pnode (s := dpP s 1) (n := ⟨2, 0, 0, colP t, GValue.zero⟩) (hs.dp 1) hn) hP hmv false (fun e => bif Nat.beq e 1000 then 1000 else 1001) [1000, 1001] ⟨rfl, rfl, rfl, rfl, ⟨rfl, rfl, trivial⟩, rfl, rfl, rfl⟩ (.pass rfl rfl (.pass rfl rfl .nil)) ?_)
    rintro r h ⟨rfl, rfl⟩
    refine ⟨(fun e => bif Nat.beq e 1000 then 1000 else 1001), [], ⟨rfl, rfl, rfl, rfl, mem2 rfl rfl, rfl, rfl, fun h => absurd h Bool.false_ne_true⟩, ?_⟩
    try dsimp only [dpP]
    refine ax_q (q_mov rfl) ?_
    refine ax_nil ?_
    refine cx_keep rfl rfl ?_
    refine cx_ret (retN id [1000, 1001] rfl rfl rfl rfl rfl ?_)
    exact ⟨rfl, rfl⟩


/- (ptr loop.example/g00332/impl.parser).ahead -/
def k_c_pahead : XCode :=
 .seq (.ops [.op (some 2) (.mov (.k (.int .i64 0)))])
 (.keep [0] (.seq (.seq (.ops [.op (some 5) (.mov (.t 0)),
   .op (some 6) (.bslice 1 [.k (.str [45])]),
   .call (some 7) 81 [.t 5, .t 6],
   .op (some 8) (.not (.t 7))])
  (.keep [0, 8] (.cond (.t 8)
  (.seq (.ops [.op (some 9) (.mov (.t 0)),
    .call (some 10) 157 [.t 9],
    .op (some 2) (.mov (.t 10))])
   (.keep [2] (.ret)))
  (.skip))))
 (.keep [0] (.seq (.seq (.ops [.op (some 12) (.mov (.t 0)),
   .call (some 13) 99 [.t 12],
   .op (some 11) (.mov (.t 13)),
   .op (some 14) (.ext (.t 11) 0),
   .op (some 15) (.ext (.t 11) 1),
   .op (some 3) (.mov (.t 14)),
   .op (some 4) (.mov (.t 15))])
  (.keep [0, 3, 4] (.seq (.ops [.op (some 16) (.mov (.t 4)),
   .op (some 17) (.mov (.t 16)),
   .andor 20 true 1 17 [.op (some 18) (.mov (.t 3)), .op (some 19) (.bin .neq (.t 18) (.k (.int .i64 0)))] (.t 19)])
  (.keep [0, 3, 20] (.cond (.t 20)
  (.seq (.ops [.op (some 21) (.mov (.t 0)),
    .call (some 22) 78 [.t 21]])
   (.keep [0, 3] (.seq (.ops [.op (some 23) (.mov (.t 0)),
    .op (some 24) (.mov (.t 3)),
    .op (some 25) (.neg (.t 24)),
    .call (some 26) 73 [.t 25],
    .op (some 27) (.build [.int .i64 0, .int .i64 0, .int .i64 0, .int .i64 0, .int .i64 0, .int .i64 0, .str []] [(0, 1, .k (.int .i64 1)), (4, 3, .t 26)]),
    .call (some 28) 103 [.t 23, .t 27],
    .op (some 2) (.mov (.t 28))])
   (.keep [2] (.ret)))))
  (.skip))))))
 (.keep [0] (.seq (.ops [.op (some 29) (.mov (.t 0)),
   .op (some 30) (.mov (.t 0)),
   .op (some 31) (.mov (.t 0)),
   .op (some 32) (.mkbf 150 [.t 31]),
   .call (some 33) 114 [.t 30, .t 32],
   .op (some 34) (.build [.int .i64 0, .int .i64 0, .int .i64 0, .int .i64 0, .int .i64 0, .int .i64 0, .str []] [(0, 1, .k (.int .i64 5)), (1, 1, .t 33)]),
   .call (some 35) 103 [.t 29, .t 34],
   .op (some 2) (.mov (.t 35))])
 (.keep [2] (.ret))))))))
theorem k_c_pahead_fits : fitsF Tryz.prog 150 ⟨36, k_c_pahead, [.t 2]⟩ = true := by kernel_rfl
set_option maxHeartbeats 4000000 in
theorem c_pahead {f : Nat} (iha : RC Tryz.prog 150 (prs f 6)) (ihp : RC Tryz.prog 157 (prs f 7)) {s s' : PS} {k : Int} (hs : s.ok) (h : prs (f + 1) 6 s = some (s', k)) : Con Tryz.prog (fun e => Nat.beq e 1001) 150 [.ptr 1000 0] [(1000, .box [.d (.sl 1 (s.tk.map strRow)), .osl 1001 7 0 s.ns.length, int (s.op : Int)]), (1001, .rows 7 (s.ns.map GExprNode.row))] (fun r h => r = int k ∧ h = [(1000, .box [.d (.sl 1 (s'.tk.map strRow)), .osl 1001 7 0 s'.ns.length, int (s'.op : Int)]), (1001, .rows 7 (s'.ns.map GExprNode.row))]) := by
 refine con_of2 k_c_pahead_fits rfl fun C hP hmv => ?_
 unfold k_c_pahead
 refine cx_seq ?_
 refine cx_ops ?_
 refine ax_q (q_mov rfl) ?_
 refine ax_nil ?_
 refine cx_keep rfl rfl ?_
 refine cx_seq ?_
 refine cx_seq ?_
 refine cx_ops ?_
 refine ax_q (q_mov rfl) ?_
 refine ax_e (e_bsliceD (rows := [strRow [45]]) rfl) ?_
 refine ax_call rfl (vcall_own (c_skip (s := s) (ts := [[45]]) hs (by decide)) hP hmv false (fun e => bif Nat.beq e 1000 then 1000 else 1001) [1000, 1001] ⟨rfl, rfl, rfl, rfl, ⟨rfl, rfl, trivial⟩, rfl, rfl, rfl⟩ (.pass rfl rfl (.pass rfl rfl .nil)) ?_)
 rintro r h ⟨rfl, rfl⟩
 refine ⟨(fun e => bif Nat.beq e 1000 then 1000 else 1001), [], ⟨rfl, rfl, rfl, rfl, mem2 rfl rfl, rfl, rfl, fun h => absurd h Bool.false_ne_true⟩, ?_⟩
 try dsimp only [dpP]
 refine ax_q (q_not rfl) ?_
 refine ax_nil ?_
 refine cx_keep rfl rfl ?_
 refine cx_cond rfl (fun h0 => ?_) (fun h0 => ?_)
 ·
  have h0 := bT h0
  have hq := ahP_f h h0
  rw [skP_f h0]
  refine cx_seq ?_
  refine cx_ops ?_
  refine ax_q (q_mov rfl) ?_
  refine ax_call rfl (vcall_own (ihp s _ k hs hq) hP hmv false (fun e => bif Nat.beq e 1000 then 1000 else 1001) [1000, 1001] ⟨rfl, rfl, rfl, rfl, ⟨rfl, rfl, trivial⟩, rfl, rfl, rfl⟩ (.pass rfl rfl .nil) ?_)
  rintro r h ⟨rfl, rfl⟩
  refine ⟨(fun e => bif Nat.beq e 1000 then 1000 else 1001), [], ⟨rfl, rfl, rfl, rfl, mem2 rfl rfl, rfl, rfl, fun h => absurd h Bool.false_ne_true⟩, ?_⟩
  try dsimp only [dpP]
  refine ax_q (q_mov rfl) ?_
  refine ax_nil ?_
  refine cx_keep rfl rfl ?_
  refine cx_ret (retN id [1000, 1001] rfl rfl rfl rfl rfl ?_)
  exact ⟨rfl, rfl⟩
 ·
  have h0 := bF h0
  rw [skP_t h0]
  have ok0 := hs.dp 1
  refine cx_skip ?_
  refine cx_keep rfl rfl ?_
  refine cx_seq ?_
  refine cx_seq ?_
  refine cx_ops ?_
  refine ax_q (q_mov rfl) ?_
  first | refine ax_call rfl (vc_pure0 (c_digits (s := dpP s 1) ?_) hP rfl rfl ?_) | refine ax_call rfl (vc_lend0 (c_digits (s := dpP s 1) ?_) hP (by repeat (first | exact lal_id _ rfl | exact LAL.nil | refine LAL.cons ?_ ?_ | exact la_id _ rfl | exact LA.lend (lend_whole rfl (by first | (simp; done) | (rw [List.length_map]; rfl))) | refine LA.agg ?_ | refine LA.fn ?_ | refine LA.lend ?_ | exact Lend.d _ | exact Lend.zs _ | exact lend_whole rfl (by first | (simp; done) | (rw [List.length_map]; rfl)) | refine Lend.ptr rfl ?_ | refine Lend.fn ?_ | exact LendL.nil | refine LendL.cons ?_ ?_)) rfl rfl ?_)
  ·
   first | assumption | omega | (simp; done) | (simp; omega)
  refine ax_q (q_mov rfl) ?_
  refine ax_q (q_ext rfl rfl) ?_
  refine ax_q (q_ext rfl rfl) ?_
  refine ax_q (q_mov rfl) ?_
  refine ax_q (q_mov rfl) ?_
  refine ax_nil ?_
  refine cx_keep rfl rfl ?_
  refine cx_seq ?_
  refine cx_ops ?_
  refine ax_q (q_mov rfl) ?_
  refine ax_q (q_mov rfl) ?_
  apply ax_and rfl rfl
  ·
   intro g
   refine ax_q (q_mov rfl) ?_
   refine ax_q (q_ibin rfl rfl rfl) ?_
   exact ax_nil ⟨rfl, by repeat (first | exact trivial | refine ⟨rfl, ?_⟩ | refine ⟨?_, ?_⟩)⟩
  refine ax_nil ?_
  refine cx_keep rfl rfl ?_
  refine cx_cond rfl (fun h1 => ?_) (fun h1 => ?_)
  ·
   have h1 := (fun h => And.intro (id (and_T h).1) (nT (and_T h).2)) h1
   have hn := ahP_n h h0 h1
   obtain ⟨t, r, ht⟩ := dg_cons h1.1
   refine cx_seq ?_
   refine cx_ops ?_
   refine ax_q (q_mov rfl) ?_
   refine ax_call rfl (vcall_own (c_take (s := dpP s 1) ok0 ht) hP hmv false (fun e => bif Nat.beq e 1000 then 1000 else 1001) [1000, 1001] ⟨rfl, rfl, rfl, rfl, ⟨rfl, rfl, trivial⟩, rfl, rfl, rfl⟩ (.pass rfl rfl .nil) ?_)
   rintro r h ⟨rfl, rfl⟩
   refine ⟨(fun e => bif Nat.beq e 1000 then 1000 else 1001), [], ⟨rfl, rfl, rfl, rfl, mem2 rfl rfl, rfl, rfl, fun h => absurd h Bool.false_ne_true⟩, ?_⟩
   try dsimp only [dpP]
   refine ax_nil ?_
   refine cx_keep rfl rfl ?_
   refine cx_seq ?_
   refine cx_ops ?_
   refine ax_q (q_mov rfl) ?_
   refine ax_q (q_mov rfl) ?_
   have hnb : -1000000000 ≤ (dgP (List.drop 1 s.tk)).1 ∧ (dgP (List.drop 1 s.tk)).1 ≤ 1000000000 := dg_bd h1.1
   first | refine ax_q (q_negI rfl (by omega)) ?_ | refine ax_q (q_neg rfl) ?_
   first | refine ax_call rfl (vc_pure0 (c_numberValue (n := -(dgP (dpP s 1).tk).1) ) hP rfl rfl ?_) | refine ax_call rfl (vc_lend0 (c_numberValue (n := -(dgP (dpP s 1).tk).1) ) hP (by repeat (first | exact lal_id _ rfl | exact LAL.nil | refine LAL.cons ?_ ?_ | exact la_id _ rfl | exact LA.lend (lend_whole rfl (by first | (simp; done) | (rw [List.length_map]; rfl))) | refine LA.agg ?_ | refine LA.fn ?_ | refine LA.lend ?_ | exact Lend.d _ | exact Lend.zs _ | exact lend_whole rfl (by first | (simp; done) | (rw [List.length_map]; rfl)) | refine Lend.ptr rfl ?_ | refine Lend.fn ?_ | exact LendL.nil | refine LendL.cons ?_ ?_)) rfl rfl ?_)
   refine ax_q (q_build rfl) ?_
   refine ax_call rfl (vcall_own (c_pnode (s := dpP (dpP s 1) 1) (n := ⟨1, 0, 0, 0, vI (-(dgP (dpP s 1).tk).1)⟩) (ok0.dp 1) hn) hP hmv false (fun e => bif Nat.beq e 1000 then 1000 else 1001) [1000, 1001] ⟨rfl, rfl, rfl, rfl, ⟨rfl, rfl, trivial⟩, rfl, rfl, rfl⟩ (.pass rfl rfl (.pass rfl rfl .nil)) ?_)
   rintro r h ⟨rfl, rfl⟩
   refine ⟨(fun e => bif Nat.beq e 1000 then 1000 else 1001), [], ⟨rfl, rfl, rfl, rfl, mem2 rfl rfl, rfl, rfl, fun h => absurd h Bool.false_ne_true⟩, ?_⟩
   try dsimp only [dpP]
   refine ax_q (q_mov rfl) ?_
   refine ax_nil ?_
   refine cx_keep rfl rfl ?_
   refine cx_ret (retN id [1000, 1001] rfl rfl rfl rfl rfl ?_)
   exact ⟨rfl, rfl⟩
  ·
   have h1 := (fun h => (and_F h).imp id nF) h1
   obtain ⟨s1, l, h2, h3⟩ := ahP_w h h0 (fun e => h1.elim (fun g => by rw [g] at e; exact absurd e.1 Bool.false_ne_true) (fun g => e.2 g))
   obtain ⟨ok1, op1⟩ := (prs_ro f 6).wi _ _ _ ok0 h2
   refine cx_skip ?_
   refine cx_keep rfl rfl ?_
   refine cx_seq ?_
   refine cx_ops ?_
   refine ax_q (q_mov rfl) ?_
   refine ax_q (q_mov rfl) ?_
   refine ax_q (q_mov rfl) ?_
   refine ax_q (q_mkbf rfl) ?_
   refine ax_call rfl (vcall_own (c_within iha (prs_ro f 6) (by kernel_rfl) ok0 h2) hP hmv false (fun e => bif Nat.beq e 1000 then 1000 else 1001) [1000, 1001] ⟨rfl, rfl, rfl, rfl, ⟨rfl, rfl, trivial⟩, rfl, rfl, rfl⟩ (.pass rfl rfl (.pass rfl rfl .nil)) ?_)
   rintro r h ⟨rfl, rfl⟩
   refine ⟨(fun e => bif Nat.beq e 1000 then 1000 else 1001), [], ⟨rfl, rfl, rfl, rfl, mem2 rfl rfl, rfl, rfl, fun h => absurd h Bool.false_ne_true⟩, ?_⟩
   try dsimp only [dpP]
   refine ax_q (q_build rfl) ?_
   refine ax_call rfl (vcall_own (c_pnode (n := nd 5 l 0) ok1 h3) hP hmv false (fun e => bif Nat.beq e 1000 then 1000 else 1001) [1000, 1001] ⟨rfl, rfl, rfl, rfl, ⟨rfl, rfl, trivial⟩, rfl, rfl, rfl⟩ (.pass rfl rfl (.pass rfl rfl .nil)) ?_)
   rintro r h ⟨rfl, rfl⟩
   refine ⟨(fun e => bif Nat.beq e 1000 then 1000 else 1001), [], ⟨rfl, rfl, rfl, rfl, mem2 rfl rfl, rfl, rfl, fun h => absurd h Bool.false_ne_true⟩, ?_⟩
   try dsimp only [dpP]
   refine ax_q (q_mov rfl) ?_
   refine ax_nil ?_
   refine cx_keep rfl rfl ?_
   refine cx_ret (retN id [1000, 1001] rfl rfl rfl rfl rfl ?_)
   exact ⟨rfl, rfl⟩


/- (ptr loop.example/g00332/impl.parser).product -/
def k_c_pprod : XCode :=
 .seq (.ops [.op (some 2) (.mov (.k (.int .i64 0)))])
 (.keep [0] (.seq (.ops [.op (some 3) (.mov (.t 0)),
   .op (some 4) (.mov (.t 0)),
   .op (some 5) (.mkbf 150 [.t 4]),
   .op (some 6) (.bslice 1 [.k (.int .i64 8), .k (.int .i64 9)]),
   .call (some 7) 87 [.t 3, .t 5, .t 6],
   .op (some 2) (.mov (.t 7))])
 (.keep [2] (.ret))))
theorem k_c_pprod_fits : fitsF Tryz.prog 135 ⟨8, k_c_pprod, [.t 2]⟩ = true := by kernel_rfl
theorem c_pprod {f : Nat} (ih : RC Tryz.prog 150 (prs f 6)) {s s' : PS} {k : Int} (hs : s.ok) (h : prs (f + 1) 5 s = some (s', k)) : Con Tryz.prog (fun e => Nat.beq e 1001) 135 [.ptr 1000 0] [(1000, .box [.d (.sl 1 (s.tk.map strRow)), .osl 1001 7 0 s.ns.length, int (s.op : Int)]), (1001, .rows 7 (s.ns.map GExprNode.row))] (fun r h => r = int k ∧ h = [(1000, .box [.d (.sl 1 (s'.tk.map strRow)), .osl 1001 7 0 s'.ns.length, int (s'.op : Int)]), (1001, .rows 7 (s'.ns.map GExprNode.row))]) := by
 refine con_of2 k_c_pprod_fits rfl fun C hP hmv => ?_
 unfold k_c_pprod
 refine cx_seq ?_
 refine cx_ops ?_
 refine ax_q (q_mov rfl) ?_
 refine ax_nil ?_
 refine cx_keep rfl rfl ?_
 refine cx_seq ?_
 refine cx_ops ?_
 refine ax_q (q_mov rfl) ?_
 refine ax_q (q_mov rfl) ?_
 refine ax_q (q_mkbf rfl) ?_
 refine ax_e (e_bsliceD (rows := [intRow 8, intRow 9]) rfl) ?_
 refine ax_call rfl (vcall_own (c_joins (ops := [8, 9]) (f := f) ih (prs_ro f 6) (by kernel_rfl) (by decide) (by decide) hs h) hP hmv false (fun e => bif Nat.beq e 1000 then 1000 else 1001) [1000, 1001] ⟨rfl, rfl, rfl, rfl, ⟨rfl, rfl, trivial⟩, rfl, rfl, rfl⟩ (.pass rfl rfl (.pass rfl rfl (.pass rfl rfl .nil))) ?_)
 rintro r h ⟨rfl, rfl⟩
 refine ⟨(fun e => bif Nat.beq e 1000 then 1000 else 1001), [], ⟨rfl, rfl, rfl, rfl, mem2 rfl rfl, rfl, rfl, fun h => absurd h Bool.false_ne_true⟩, ?_⟩
 try dsimp only [dpP]
 refine ax_q (q_mov rfl) ?_
 refine ax_nil ?_
 refine cx_keep rfl rfl ?_
 refine cx_ret (retN id [1000, 1001] rfl rfl rfl rfl rfl ?_)
 exact ⟨rfl, rfl⟩


/- (ptr loop.example/g00332/impl.parser).sum -/
def k_c_psum : XCode :=
 .seq (.ops [.op (some 2) (.mov (.k (.int .i64 0)))])
 (.keep [0] (.seq (.ops [.op (some 3) (.mov (.t 0)),
   .op (some 4) (.mov (.t 0)),
   .op (some 5) (.mkbf 135 [.t 4]),
   .op (some 6) (.bslice 1 [.k (.int .i64 6), .k (.int .i64 7)]),
   .call (some 7) 87 [.t 3, .t 5, .t 6],
   .op (some 2) (.mov (.t 7))])
 (.keep [2] (.ret))))
theorem k_c_psum_fits : fitsF Tryz.prog 122 ⟨8, k_c_psum, [.t 2]⟩ = true := by kernel_rfl
theorem c_psum {f : Nat} (ih : RC Tryz.prog 135 (prs f 5)) {s s' : PS} {k : Int} (hs : s.ok) (h : prs (f + 1) 4 s = some (s', k)) : Con Tryz.prog (fun e => Nat.beq e 1001) 122 [.ptr 1000 0] [(1000, .box [.d (.sl 1 (s.tk.map strRow)), .osl 1001 7 0 s.ns.length, int (s.op : Int)]), (1001, .rows 7 (s.ns.map GExprNode.row))] (fun r h => r = int k ∧ h = [(1000, .box [.d (.sl 1 (s'.tk.map strRow)), .osl 1001 7 0 s'.ns.length, int (s'.op : Int)]), (1001, .rows 7 (s'.ns.map GExprNode.row))]) := by
 refine con_of2 k_c_psum_fits rfl fun C hP hmv => ?_
 unfold k_c_psum
 refine cx_seq ?_
 refine cx_ops ?_
 refine ax_q (q_mov rfl) ?_
 refine ax_nil ?_
 refine cx_keep rfl rfl ?_
 refine cx_seq ?_
 refine cx_ops ?_
 refine ax_q (q_mov rfl) ?_
 refine ax_q (q_mov rfl) ?_
 refine ax_q (q_mkbf rfl) ?_
 refine ax_e (e_bsliceD (rows := [intRow 6, intRow 7]) rfl) ?_
 refine ax_call rfl (vcall_own (c_joins (ops := [6, 7]) (f := f) ih (prs_ro f 5) (by kernel_rfl) (by decide) (by decide) hs h) hP hmv false (fun e => bif Nat.beq e 1000 then 1000 else 1001) [1000, 1001] ⟨rfl, rfl, rfl, rfl, ⟨rfl, rfl, trivial⟩, rfl, rfl, rfl⟩ (.pass rfl rfl (.pass rfl rfl (.pass rfl rfl .nil))) ?_)
 rintro r h ⟨rfl, rfl⟩
 refine ⟨(fun e => bif Nat.beq e 1000 then 1000 else 1001), [], ⟨rfl, rfl, rfl, rfl, mem2 rfl rfl, rfl, rfl, fun h => absurd h Bool.false_ne_true⟩, ?_⟩
 try dsimp only [dpP]
 refine ax_q (q_mov rfl) ?_
 refine ax_nil ?_
 refine cx_keep rfl rfl ?_
 refine cx_ret (retN id [1000, 1001] rfl rfl rfl rfl rfl ?_)
 exact ⟨rfl, rfl⟩


/- (ptr loop.example/g00332/impl.parser).compare -/
def k_c_pcmp : XCode :=
 .seq (.ops [.op (some 2) (.mov (.k (.int .i64 0)))])
 (.keep [0] (.seq (.ops [.op (some 6) (.mov (.t 0)),
   .call (some 7) 122 [.t 6],
   .op (some 3) (.mov (.t 7))])
 (.keep [0, 3] (.seq (.block 0 (.seq (.ops [.op (some 9) (.mov (.t 0)),
    .op (some 10) (.bslice 1 [.k (.str [61])]),
    .call (some 11) 81 [.t 9, .t 10],
    .op (some 8) (.mov (.t 11))])
  (.keep [0, 3, 8] (.cond (.t 8)
   (.seq (.ops [.op (some 12) (.mov (.t 0)),
     .call (some 13) 122 [.t 12],
     .op (some 4) (.mov (.t 13))])
   (.keep [0, 3, 4] (.seq (.ops [.op (some 14) (.mov (.t 0)),
     .op (some 15) (.mov (.t 3)),
     .op (some 16) (.mov (.t 4)),
     .op (some 17) (.build [.int .i64 0, .int .i64 0, .int .i64 0, .int .i64 0, .int .i64 0, .int .i64 0, .str []] [(0, 1, .k (.int .i64 10)), (1, 1, .t 15), (2, 1, .t 16)]),
     .call (some 18) 103 [.t 14, .t 17],
     .op (some 2) (.mov (.t 18))])
   (.keep [2] (.ret)))))
   (.seq (.ops [.op (some 20) (.mov (.t 0)),
     .op (some 21) (.bslice 1 [.k (.str [60])]),
     .call (some 22) 81 [.t 20, .t 21],
     .op (some 19) (.mov (.t 22))])
   (.keep [0, 3, 19] (.cond (.t 19)
    (.seq (.ops [.op (some 23) (.mov (.t 0)),
      .call (some 24) 122 [.t 23],
      .op (some 5) (.mov (.t 24))])
    (.keep [0, 3, 5] (.seq (.ops [.op (some 25) (.mov (.t 0)),
      .op (some 26) (.mov (.t 3)),
      .op (some 27) (.mov (.t 5)),
      .op (some 28) (.build [.int .i64 0, .int .i64 0, .int .i64 0, .int .i64 0, .int .i64 0, .int .i64 0, .str []] [(0, 1, .k (.int .i64 11)), (1, 1, .t 26), (2, 1, .t 27)]),
      .call (some 29) 103 [.t 25, .t 28],
      .op (some 2) (.mov (.t 29))])
    (.keep [2] (.ret)))))
    (.seq (.ops [.op (some 31) (.mov (.t 0)),
      .op (some 32) (.bslice 1 [.k (.str [105, 115]), .k (.str [110, 117, 108, 108])]),
      .call (some 33) 81 [.t 31, .t 32],
      .op (some 30) (.mov (.t 33))])
    (.keep [0, 3, 30] (.cond (.t 30)
     (.seq (.ops [.op (some 34) (.mov (.t 0)),
       .op (some 35) (.mov (.t 3)),
       .op (some 36) (.build [.int .i64 0, .int .i64 0, .int .i64 0, .int .i64 0, .int .i64 0, .int .i64 0, .str []] [(0, 1, .k (.int .i64 4)), (1, 1, .t 35)]),
       .call (some 37) 103 [.t 34, .t 36],
       .op (some 2) (.mov (.t 37))])
     (.keep [2] (.ret)))
     (.skip)))))))))))
 (.keep [3] (.seq (.ops [.op (some 38) (.mov (.t 3)),
   .op (some 2) (.mov (.t 38))])
 (.keep [2] (.ret))))))))
theorem k_c_pcmp_fits : fitsF Tryz.prog 115 ⟨39, k_c_pcmp, [.t 2]⟩ = true := by kernel_rfl
set_option maxHeartbeats 4000000 in
theorem c_pcmp {f : Nat} (ih : RC Tryz.prog 122 (prs f 4)) {s s' : PS} {k : Int} (hs : s.ok) (h : prs (f + 1) 3 s = some (s', k)) : Con Tryz.prog (fun e => Nat.beq e 1001) 115 [.ptr 1000 0] [(1000, .box [.d (.sl 1 (s.tk.map strRow)), .osl 1001 7 0 s.ns.length, int (s.op : Int)]), (1001, .rows 7 (s.ns.map GExprNode.row))] (fun r h => r = int k ∧ h = [(1000, .box [.d (.sl 1 (s'.tk.map strRow)), .osl 1001 7 0 s'.ns.length, int (s'.op : Int)]), (1001, .rows 7 (s'.ns.map GExprNode.row))]) := by
 refine con_of2 k_c_pcmp_fits rfl fun C hP hmv => ?_
 unfold k_c_pcmp
 obtain ⟨s1, l, h1, hx⟩ := cmP_some h
 obtain ⟨ok1, op1⟩ := (prs_ro f 4) _ _ _ hs h1
 refine cx_seq ?_
 refine cx_ops ?_
 refine ax_q (q_mov rfl) ?_
 refine ax_nil ?_
 refine cx_keep rfl rfl ?_
 refine cx_seq ?_
 refine cx_ops ?_
 refine ax_q (q_mov rfl) ?_
 refine ax_call rfl (vcall_own (ih s s1 l hs h1) hP hmv false (fun e => bif Nat.beq e 1000 then 1000 else 1001) [1000, 1001] ⟨rfl, rfl, rfl, rfl, ⟨rfl, rfl, trivial⟩, rfl, rfl, rfl⟩ (.pass rfl rfl .nil) ?_)
 rintro r h ⟨rfl, rfl⟩
 refine ⟨(fun e => bif Nat.beq e 1000 then 1000 else 1001), [], ⟨rfl, rfl, rfl, rfl, mem2 rfl rfl, rfl, rfl, fun h => absurd h Bool.false_ne_true⟩, ?_⟩
 try dsimp only [dpP]
 refine ax_q (q_mov rfl) ?_
 refine ax_nil ?_
 refine cx_keep rfl rfl ?_
 refine cx_seq ?_
 refine cx_block ?_
 refine cx_seq ?_
 refine cx_ops ?_
 refine ax_q (q_mov rfl) ?_
 refine ax_e (e_bsliceD (rows := [strRow [61]]) rfl) ?_
 refine ax_call rfl (vcall_own (c_skip (s := s1) (ts := [[61]]) ok1 (by decide)) hP hmv false (fun e => bif Nat.beq e 1000 then 1000 else 1001) [1000, 1001] ⟨rfl, rfl, rfl, rfl, ⟨rfl, rfl, trivial⟩, rfl, rfl, rfl⟩ (.pass rfl rfl (.pass rfl rfl .nil)) ?_)
 rintro r h ⟨rfl, rfl⟩
 refine ⟨(fun e => bif Nat.beq e 1000 then 1000 else 1001), [], ⟨rfl, rfl, rfl, rfl, mem2 rfl rfl, rfl, rfl, fun h => absurd h Bool.false_ne_true⟩, ?_⟩
 try dsimp only [dpP]
 refine ax_q (q_mov rfl) ?_
 refine ax_nil ?_
 refine cx_keep rfl rfl ?_
 refine cx_cond rfl (fun h0 => ?_) (fun h0 => ?_)
 ·
  skip
  rw [if_pos h0] at hx
  obtain ⟨s2, r, h3, h4⟩ := cm_two hx
  obtain ⟨ok2, op2⟩ := (prs_ro f 4) _ _ _ (ok1.dp 1) h3
  rw [skP_t h0]
  refine cx_seq ?_
  refine cx_ops ?_
  refine ax_q (q_mov rfl) ?_
  refine ax_call rfl (vcall_own (ih _ s2 r (ok1.dp 1) h3) hP hmv false (fun e => bif Nat.beq e 1000 then 1000 else 1001) [1000, 1001] ⟨rfl, rfl, rfl, rfl, ⟨rfl, rfl, trivial⟩, rfl, rfl, rfl⟩ (.pass rfl rfl .nil) ?_)
  rintro r h ⟨rfl, rfl⟩
  refine ⟨(fun e => bif Nat.beq e 1000 then 1000 else 1001), [], ⟨rfl, rfl, rfl, rfl, mem2 rfl rfl, rfl, rfl, fun h => absurd h Bool.false_ne_true⟩, ?_⟩
  try dsimp only [dpP]
  refine ax_q (q_mov rfl) ?_
  refine ax_nil ?_
  refine cx_keep rfl rfl ?_
  refine cx_seq ?_
  refine cx_ops ?_
  refine ax_q (q_mov rfl) ?_
  refine ax_q (q_mov rfl) ?_
  refine ax_q (q_mov rfl) ?_
  refine ax_q (q_build rfl) ?_
  refine ax_call rfl (vcall_own (c_pnode (n := nd 10 l r) ok2 h4) hP hmv false (fun e => bif Nat.beq e 1000 then 1000 else 1001) [1000, 1001] ⟨rfl, rfl, rfl, rfl, ⟨rfl, rfl, trivial⟩, rfl, rfl, rfl⟩ (.pass rfl rfl (.pass rfl rfl .nil)) ?_)
  rintro r h ⟨rfl, rfl⟩
  refine ⟨(fun e => bif Nat.beq e 1000 then 1000 else 1001), [], ⟨rfl, rfl, rfl, rfl, mem2 rfl rfl, rfl, rfl, fun h => absurd h Bool.false_ne_true⟩, ?_⟩
  try dsimp only [dpP]
  refine ax_q (q_mov rfl) ?_
  refine ax_nil ?_
  refine cx_keep rfl rfl ?_
  refine cx_ret (retN id [1000, 1001] rfl rfl rfl rfl rfl ?_)
  exact ⟨rfl, rfl⟩
 ·
  skip
  rw [if_neg (by rw [h0]; decide)] at hx
  rw [skP_f h0]
  refine cx_seq ?_
  refine cx_ops ?_
  refine ax_q (q_mov rfl) ?_
  refine ax_e (e_bsliceD (rows := [strRow [60]]) rfl) ?_
  refine ax_call rfl (vcall_own (c_skip (s := s1) (ts := [[60]]) ok1 (by decide)) hP hmv false (fun e => bif Nat.beq e 1000 then 1000 else 1001) [1000, 1001] ⟨rfl, rfl, rfl, rfl, ⟨rfl, rfl, trivial⟩, rfl, rfl, rfl⟩ (.pass rfl rfl (.pass rfl rfl .nil)) ?_)
  rintro r h ⟨rfl, rfl⟩
  refine ⟨(fun e => bif Nat.beq e 1000 then 1000 else 1001), [], ⟨rfl, rfl, rfl, rfl, mem2 rfl rfl, rfl, rfl, fun h => absurd h Bool.false_ne_true⟩, ?_⟩
  try dsimp only [dpP]
  refine ax_q (q_mov rfl) ?_
  refine ax_nil ?_
  refine cx_keep rfl rfl ?_
  refine cx_cond rfl (fun h1 => ?_) (fun h1 => ?_)
  ·
   skip
   rw [if_pos h1] at hx
   obtain ⟨s2, r, h3, h4⟩ := cm_two hx
   obtain ⟨ok2, op2⟩ := (prs_ro f 4) _ _ _ (ok1.dp 1) h3
   rw [skP_t h1]
   refine cx_seq ?_
   refine cx_ops ?_
   refine ax_q (q_mov rfl) ?_
   refine ax_call rfl (vcall_own (ih _ s2 r (ok1.dp 1) h3) hP hmv false (fun e => bif Nat.beq e 1000 then 1000 else 1001) [1000, 1001] ⟨rfl, rfl, rfl, rfl, ⟨rfl, rfl, trivial⟩, rfl, rfl, rfl⟩ (.pass rfl rfl .nil) ?_)
   rintro r h ⟨rfl, rfl⟩
   refine ⟨(fun e => bif Nat.beq e 1000 then 1000 else 1001), [], ⟨rfl, rfl, rfl, rfl, mem2 rfl rfl, rfl, rfl, fun h => absurd h Bool.false_ne_true⟩, ?_⟩
   try dsimp only [dpP]
   refine ax_q (q_mov rfl) ?_
   refine ax_nil ?_
   refine cx_keep rfl rfl ?_
   refine cx_seq ?_
   refine cx_ops ?_
   refine ax_q (q_mov rfl) ?_
   refine ax_q (q_mov rfl) ?_
   refine ax_q (q_mov rfl) ?_
   refine ax_q (q_build rfl) ?_
   refine ax_call rfl (vcall_own (c_pnode (n := nd 11 l r) ok2 h4) hP hmv false (fun e => bif Nat.beq e 1000 then 1000 else 1001) [1000, 1001] ⟨rfl, rfl, rfl, rfl, ⟨rfl, rfl, trivial⟩, rfl, rfl, rfl⟩ (.pass rfl rfl (.pass rfl rfl .nil)) ?_)
   rintro r h ⟨rfl, rfl⟩
   refine ⟨(fun e => bif Nat.beq e 1000 then 1000 else 1001), [], ⟨rfl, rfl, rfl, rfl, mem2 rfl rfl, rfl, rfl, fun h => absurd h Bool.false_ne_true⟩, ?_⟩
   try dsimp only [dpP]
   refine ax_q (q_mov rfl) ?_
   refine ax_nil ?_
   refine cx_keep rfl rfl ?_
   refine cx_ret (retN id [1000, 1001] rfl rfl rfl rfl rfl ?_)
   exact ⟨rfl, rfl⟩
  ·
   skip
   rw [if_neg (by rw [h1]; decide)] at hx
   rw [skP_f h1]
   refine cx_seq ?_
   refine cx_ops ?_
   refine ax_q (q_mov rfl) ?_
   refine ax_e (e_bsliceD (rows := [strRow [105, 115], strRow [110, 117, 108, 108]]) rfl) ?_
   refine ax_call rfl (vcall_own (c_skip (s := s1) (ts := [[105, 115], [110, 117, 108, 108]]) ok1 (by decide)) hP hmv false (fun e => bif Nat.beq e 1000 then 1000 else 1001) [1000, 1001] ⟨rfl, rfl, rfl, rfl, ⟨rfl, rfl, trivial⟩, rfl, rfl, rfl⟩ (.pass rfl rfl (.pass rfl rfl .nil)) ?_)
   rintro r h ⟨rfl, rfl⟩
   refine ⟨(fun e => bif Nat.beq e 1000 then 1000 else 1001), [], ⟨rfl, rfl, rfl, rfl, mem2 rfl rfl, rfl, rfl, fun h => absurd h Bool.false_ne_true⟩, ?_⟩
   try dsimp only [dpP]
   refine ax_q (q_mov rfl) ?_
   refine ax_nil ?_
   refine cx_keep rfl rfl ?_
   refine cx_cond rfl (fun h2 => ?_) (fun h2 => ?_)
   ·
    skip
    rw [if_pos h2] at hx
    rw [skP_t h2]
    refine cx_seq ?_
    refine cx_ops ?_
    refine ax_q (q_mov rfl) ?_
    refine ax_q (q_mov rfl) ?_
    refine ax_q (q_build rfl) ?_
    refine ax_call rfl (vcall_own (c_pnode (n := nd 4 l 0) (ok1.dp 2) hx) hP hmv false (fun e => bif Nat.beq e 1000 then 1000 else 1001) [1000, 1001] ⟨rfl, rfl, rfl, rfl, ⟨rfl, rfl, trivial⟩, rfl, rfl, rfl⟩ (.pass rfl rfl (.pass rfl rfl .nil)) ?_)
    rintro r h ⟨rfl, rfl⟩
    refine ⟨(fun e => bif Nat.beq e 1000 then 1000 else 1001), [], ⟨rfl, rfl, rfl, rfl, mem2 rfl rfl, rfl, rfl, fun h => absurd h Bool.false_ne_true⟩, ?_⟩
    try dsimp only [dpP]
    refine ax_q (q_mov rfl) ?_
    refine ax_nil ?_
    refine cx_keep rfl rfl ?_
    refine cx_ret (retN id [1000, 1001] rfl rfl rfl rfl rfl ?_)
    exact ⟨rfl, rfl⟩
   ·
    skip
    rw [if_neg (by rw [h2]; decide)] at hx
    rw [skP_f h2]
    cases hx
    refine cx_skip ?_
    refine cx_keep rfl rfl ?_
    refine cx_seq ?_
    refine cx_ops ?_
    refine ax_q (q_mov rfl) ?_
    refine ax_q (q_mov rfl) ?_
    refine ax_nil ?_
    refine cx_keep rfl rfl ?_
    refine cx_ret (retN id [1000, 1001] rfl rfl rfl rfl rfl ?_)
    exact ⟨rfl, rfl⟩


/- (ptr loop.example/g00332/impl.parser).not -/
def k_c_pnot : XCode :=
 .seq (.ops [.op (some 2) (.mov (.k (.int .i64 0)))])
 (.keep [0] (.seq (.seq (.ops [.op (some 3) (.mov (.t 0)),
   .op (some 4) (.bslice 1 [.k (.str [110, 111, 116])]),
   .call (some 5) 81 [.t 3, .t 4]])
  (.keep [0, 5] (.cond (.t 5)
  (.seq (.ops [.op (some 6) (.mov (.t 0)),
    .op (some 7) (.mov (.t 0)),
    .op (some 8) (.mov (.t 0)),
    .op (some 9) (.mkbf 104 [.t 8]),
    .call (some 10) 114 [.t 7, .t 9],
    .op (some 11) (.build [.int .i64 0, .int .i64 0, .int .i64 0, .int .i64 0, .int .i64 0, .int .i64 0, .str []] [(0, 1, .k (.int .i64 3)), (1, 1, .t 10)]),
    .call (some 12) 103 [.t 6, .t 11],
    .op (some 2) (.mov (.t 12))])
   (.keep [2] (.ret)))
  (.skip))))
 (.keep [0] (.seq (.ops [.op (some 13) (.mov (.t 0)),
   .call (some 14) 115 [.t 13],
   .op (some 2) (.mov (.t 14))])
 (.keep [2] (.ret))))))
theorem k_c_pnot_fits : fitsF Tryz.prog 104 ⟨15, k_c_pnot, [.t 2]⟩ = true := by kernel_rfl
theorem c_pnot {f : Nat} (ihn : RC Tryz.prog 104 (prs f 2)) (ihc : RC Tryz.prog 115 (prs f 3)) {s s' : PS} {k : Int} (hs : s.ok) (h : prs (f + 1) 2 s = some (s', k)) : Con Tryz.prog (fun e => Nat.beq e 1001) 104 [.ptr 1000 0] [(1000, .box [.d (.sl 1 (s.tk.map strRow)), .osl 1001 7 0 s.ns.length, int (s.op : Int)]), (1001, .rows 7 (s.ns.map GExprNode.row))] (fun r h => r = int k ∧ h = [(1000, .box [.d (.sl 1 (s'.tk.map strRow)), .osl 1001 7 0 s'.ns.length, int (s'.op : Int)]), (1001, .rows 7 (s'.ns.map GExprNode.row))]) := by
 refine con_of2 k_c_pnot_fits rfl fun C hP hmv => ?_
 unfold k_c_pnot
 refine cx_seq ?_
 refine cx_ops ?_
 refine ax_q (q_mov rfl) ?_
 refine ax_nil ?_
 refine cx_keep rfl rfl ?_
 refine cx_seq ?_
 refine cx_seq ?_
 refine cx_ops ?_
 refine ax_q (q_mov rfl) ?_
 refine ax_e (e_bsliceD (rows := [strRow [110, 111, 116]]) rfl) ?_
 refine ax_call rfl (vcall_own (c_skip (s := s) (ts := [[110, 111, 116]]) hs (by decide)) hP hmv false (fun e => bif Nat.beq e 1000 then 1000 else 1001) [1000, 1001] ⟨rfl, rfl, rfl, rfl, ⟨rfl, rfl, trivial⟩, rfl, rfl, rfl⟩ (.pass rfl rfl (.pass rfl rfl .nil)) ?_)
 rintro r h ⟨rfl, rfl⟩
 refine ⟨(fun e => bif Nat.beq e 1000 then 1000 else 1001), [], ⟨rfl, rfl, rfl, rfl, mem2 rfl rfl, rfl, rfl, fun h => absurd h Bool.false_ne_true⟩, ?_⟩
 try dsimp only [dpP]
 refine ax_nil ?_
 refine cx_keep rfl rfl ?_
 refine cx_cond rfl (fun h0 => ?_) (fun h0 => ?_)
 ·
  skip
  obtain ⟨s1, l, h1, h2⟩ := noP_t h h0
  obtain ⟨ok1, op1⟩ := (prs_ro f 2).wi _ _ _ (hs.dp 1) h1
  rw [skP_t h0]
  refine cx_seq ?_
  refine cx_ops ?_
  refine ax_q (q_mov rfl) ?_
  refine ax_q (q_mov rfl) ?_
  refine ax_q (q_mov rfl) ?_
  refine ax_q (q_mkbf rfl) ?_
  refine ax_call rfl (vcall_own (c_within ihn (prs_ro f 2) (by kernel_rfl) (hs.dp 1) h1) hP hmv false (fun e => bif Nat.beq e 1000 then 1000 else 1001) [1000, 1001] ⟨rfl, rfl, rfl, rfl, ⟨rfl, rfl, trivial⟩, rfl, rfl, rfl⟩ (.pass rfl rfl (.pass rfl rfl .nil)) ?_)
  rintro r h ⟨rfl, rfl⟩
  refine ⟨(fun e => bif Nat.beq e 1000 then 1000 else 1001), [], ⟨rfl, rfl, rfl, rfl, mem2 rfl rfl, rfl, rfl, fun h => absurd h Bool.false_ne_true⟩, ?_⟩
  try dsimp only [dpP]
  refine ax_q (q_build rfl) ?_
  refine ax_call rfl (vcall_own (c_pnode (n := nd 3 l 0) ok1 h2) hP hmv false (fun e => bif Nat.beq e 1000 then 1000 else 1001) [1000, 1001] ⟨rfl, rfl, rfl, rfl, ⟨rfl, rfl, trivial⟩, rfl, rfl, rfl⟩ (.pass rfl rfl (.pass rfl rfl .nil)) ?_)
  rintro r h ⟨rfl, rfl⟩
  refine ⟨(fun e => bif Nat.beq e 1000 then 1000 else 1001), [], ⟨rfl, rfl, rfl, rfl, mem2 rfl rfl, rfl, rfl, fun h => absurd h Bool.false_ne_true⟩, ?_⟩
  try dsimp only [dpP]
  refine ax_q (q_mov rfl) ?_
  refine ax_nil ?_
  refine cx_keep rfl rfl ?_
  refine cx_ret (retN id [1000, 1001] rfl rfl rfl rfl rfl ?_)
  exact ⟨rfl, rfl⟩
 ·
  skip
  have hc := noP_f h h0
  rw [skP_f h0]
  refine cx_skip ?_
  refine cx_keep rfl rfl ?_
  refine cx_seq ?_
  refine cx_ops ?_
  refine ax_q (q_mov rfl) ?_
  refine ax_call rfl (vcall_own (ihc s _ k hs hc) hP hmv false (fun e => bif Nat.beq e 1000 then 1000 else 1001) [1000, 1001] ⟨rfl, rfl, rfl, rfl, ⟨rfl, rfl, trivial⟩, rfl, rfl, rfl⟩ (.pass rfl rfl .nil) ?_)
  rintro r h ⟨rfl, rfl⟩
  refine ⟨(fun e => bif Nat.beq e 1000 then 1000 else 1001), [], ⟨rfl, rfl, rfl, rfl, mem2 rfl rfl, rfl, rfl, fun h => absurd h Bool.false_ne_true⟩, ?_⟩
  try dsimp only [dpP]
  refine ax_q (q_mov rfl) ?_
  refine ax_nil ?_
  refine cx_keep rfl rfl ?_
  refine cx_ret (retN id [1000, 1001] rfl rfl rfl rfl rfl ?_)
  exact ⟨rfl, rfl⟩


/- (ptr loop.example/g00332/impl.parser).and -/
def k_c_pand : XCode :=
 .seq (.ops [.op (some 2) (.mov (.k (.int .i64 0)))])
 (.keep [0] (.seq (.ops [.op (some 3) (.mov (.t 0)),
   .op (some 4) (.mov (.t 0)),
   .op (some 5) (.mkbf 104 [.t 4]),
   .op (some 6) (.bslice 1 [.k (.int .i64 12)]),
   .call (some 7) 87 [.t 3, .t 5, .t 6],
   .op (some 2) (.mov (.t 7))])
 (.keep [2] (.ret))))
theorem k_c_pand_fits : fitsF Tryz.prog 88 ⟨8, k_c_pand, [.t 2]⟩ = true := by kernel_rfl
theorem c_pand {f : Nat} (ih : RC Tryz.prog 104 (prs f 2)) {s s' : PS} {k : Int} (hs : s.ok) (h : prs (f + 1) 1 s = some (s', k)) : Con Tryz.prog (fun e => Nat.beq e 1001) 88 [.ptr 1000 0] [(1000, .box [.d (.sl 1 (s.tk.map strRow)), .osl 1001 7 0 s.ns.length, int (s.op : Int)]), (1001, .rows 7 (s.ns.map GExprNode.row))] (fun r h => r = int k ∧ h = [(1000, .box [.d (.sl 1 (s'.tk.map strRow)), .osl 1001 7 0 s'.ns.length, int (s'.op : Int)]), (1001, .rows 7 (s'.ns.map GExprNode.row))]) := by
 refine con_of2 k_c_pand_fits rfl fun C hP hmv => ?_
 unfold k_c_pand
 refine cx_seq ?_
 refine cx_ops ?_
 refine ax_q (q_mov rfl) ?_
 refine ax_nil ?_
 refine cx_keep rfl rfl ?_
 refine cx_seq ?_
 refine cx_ops ?_
 refine ax_q (q_mov rfl) ?_
 refine ax_q (q_mov rfl) ?_
 refine ax_q (q_mkbf rfl) ?_
 refine ax_e (e_bsliceD (rows := [intRow 12]) rfl) ?_
 refine ax_call rfl (vcall_own (c_joins (ops := [12]) (f := f) ih (prs_ro f 2) (by kernel_rfl) (by decide) (by decide) hs h) hP hmv false (fun e => bif Nat.beq e 1000 then 1000 else 1001) [1000, 1001] ⟨rfl, rfl, rfl, rfl, ⟨rfl, rfl, trivial⟩, rfl, rfl, rfl⟩ (.pass rfl rfl (.pass rfl rfl (.pass rfl rfl .nil))) ?_)
 rintro r h ⟨rfl, rfl⟩
 refine ⟨(fun e => bif Nat.beq e 1000 then 1000 else 1001), [], ⟨rfl, rfl, rfl, rfl, mem2 rfl rfl, rfl, rfl, fun h => absurd h Bool.false_ne_true⟩, ?_⟩
 try dsimp only [dpP]
 refine ax_q (q_mov rfl) ?_
 refine ax_nil ?_
 refine cx_keep rfl rfl ?_
 refine cx_ret (retN id [1000, 1001] rfl rfl rfl rfl rfl ?_)
 exact ⟨rfl, rfl⟩


/- (ptr loop.example/g00332/impl.parser).or -/
def k_c_por : XCode :=
 .seq (.ops [.op (some 2) (.mov (.k (.int .i64 0)))])
 (.keep [0] (.seq (.ops [.op (some 3) (.mov (.t 0)),
   .op (some 4) (.mov (.t 0)),
   .op (some 5) (.mkbf 88 [.t 4]),
   .op (some 6) (.bslice 1 [.k (.int .i64 13)]),
   .call (some 7) 87 [.t 3, .t 5, .t 6],
   .op (some 2) (.mov (.t 7))])
 (.keep [2] (.ret))))
theorem k_c_por_fits : fitsF Tryz.prog 56 ⟨8, k_c_por, [.t 2]⟩ = true := by kernel_rfl
theorem c_por {f : Nat} (ih : RC Tryz.prog 88 (prs f 1)) {s s' : PS} {k : Int} (hs : s.ok) (h : prs (f + 1) 0 s = some (s', k)) : Con Tryz.prog (fun e => Nat.beq e 1001) 56 [.ptr 1000 0] [(1000, .box [.d (.sl 1 (s.tk.map strRow)), .osl 1001 7 0 s.ns.length, int (s.op : Int)]), (1001, .rows 7 (s.ns.map GExprNode.row))] (fun r h => r = int k ∧ h = [(1000, .box [.d (.sl 1 (s'.tk.map strRow)), .osl 1001 7 0 s'.ns.length, int (s'.op : Int)]), (1001, .rows 7 (s'.ns.map GExprNode.row))]) := by
 refine con_of2 k_c_por_fits rfl fun C hP hmv => ?_
 unfold k_c_por
 refine cx_seq ?_
 refine cx_ops ?_
 refine ax_q (q_mov rfl) ?_
 refine ax_nil ?_
 refine cx_keep rfl rfl ?_
 refine cx_seq ?_
 refine cx_ops ?_
 refine ax_q (q_mov rfl) ?_
 refine ax_q (q_mov rfl) ?_
 refine ax_q (q_mkbf rfl) ?_
 refine ax_e (e_bsliceD (rows := [intRow 13]) rfl) ?_
 refine ax_call rfl (vcall_own (c_joins (ops := [13]) (f := f) ih (prs_ro f 1) (by kernel_rfl) (by decide) (by decide) hs h) hP hmv false (fun e => bif Nat.beq e 1000 then 1000 else 1001) [1000, 1001] ⟨rfl, rfl, rfl, rfl, ⟨rfl, rfl, trivial⟩, rfl, rfl, rfl⟩ (.pass rfl rfl (.pass rfl rfl (.pass rfl rfl .nil))) ?_)
 rintro r h ⟨rfl, rfl⟩
 refine ⟨(fun e => bif Nat.beq e 1000 then 1000 else 1001), [], ⟨rfl, rfl, rfl, rfl, mem2 rfl rfl, rfl, rfl, fun h => absurd h Bool.false_ne_true⟩, ?_⟩
 try dsimp only [dpP]
 refine ax_q (q_mov rfl) ?_
 refine ax_nil ?_
 refine cx_keep rfl rfl ?_
 refine cx_ret (retN id [1000, 1001] rfl rfl rfl rfl rfl ?_)
 exact ⟨rfl, rfl⟩


theorem prs_rc : ∀ f : Nat, RC Tryz.prog 56 (prs f 0) ∧ RC Tryz.prog 88 (prs f 1) ∧ RC Tryz.prog 104 (prs f 2) ∧ RC Tryz.prog 115 (prs f 3) ∧ RC Tryz.prog 122 (prs f 4) ∧ RC Tryz.prog 135 (prs f 5) ∧ RC Tryz.prog 150 (prs f 6) ∧ RC Tryz.prog 157 (prs f 7)
 | 0 => ⟨(fun _ _ _ _ h => (by cases h)), (fun _ _ _ _ h => (by cases h)), (fun _ _ _ _ h => (by cases h)), (fun _ _ _ _ h => (by cases h)), (fun _ _ _ _ h => (by cases h)), (fun _ _ _ _ h => (by cases h)), (fun _ _ _ _ h => (by cases h)), (fun _ _ _ _ h => (by cases h))⟩
 | f + 1 => by
  obtain ⟨h0, h1, h2, h3, h4, h5, h6, h7⟩ := prs_rc f
  exact ⟨fun _ _ _ hs h => c_por h1 hs h, fun _ _ _ hs h => c_pand h2 hs h, fun _ _ _ hs h => c_pnot h2 h3 hs h, fun _ _ _ hs h => c_pcmp h4 hs h, fun _ _ _ hs h => c_psum h5 hs h, fun _ _ _ hs h => c_pprod h6 hs h, fun _ _ _ hs h => c_pahead h6 h7 hs h, fun _ _ _ hs h => c_pprim h0 hs h⟩

/- (ptr loop.example/g00332/impl.parser).expr -/
def k_c_pexpr : XCode :=
 .seq (.ops [.op (some 2) (.alloc [.nils 7])])
 (.keep [0, 2] (.seq (.ops [.op (some 3) (.mov (.t 0)),
   .op (some 4) (.nilck (.t 3)),
   .op (some 5) (.fadr (.t 4) 1),
   .op none (.store 1 (.t 5) (.k (.nils 7)))])
 (.keep [0, 2] (.seq (.ops [.op (some 6) (.mov (.t 0)),
   .call (some 7) 56 [.t 6]])
 (.keep [0, 2] (.seq (.seq (.ops [.op (some 8) (.mov (.t 0)),
   .op (some 9) (.nilck (.t 8)),
   .op (some 10) (.fadr (.t 9) 1),
   .op (some 11) (.load1 (.t 10)),
   .call (some 12) 35 [.t 11],
   .op (some 13) (.bin .gtr (.t 12) (.k (.int .i64 12)))])
  (.keep [0, 2, 13] (.cond (.t 13)
  (.ops [.call (some 14) 57 [.k (.int .i64 16)]])
  (.skip))))
 (.keep [0, 2] (.seq (.ops [.op (some 15) (.mov (.t 0)),
   .op (some 16) (.nilck (.t 15)),
   .op (some 17) (.fadr (.t 16) 1),
   .op (some 18) (.load1 (.t 17)),
   .op (some 19) (.build [.nils 7] [(0, 1, .t 18)]),
   .op none (.store 1 (.t 2) (.t 19))])
 (.keep [2] (.ret))))))))))
theorem k_c_pexpr_fits : fitsF Tryz.prog 30 ⟨20, k_c_pexpr, [.cN 2 1]⟩ = true := by kernel_rfl
theorem c_pexpr {f : Nat} {tk : List Str} {op : Nat} {s' : PS} {k : Int} (hs : PS.ok ⟨tk, [], op⟩) (h : prs f 0 ⟨tk, [], op⟩ = some (s', k)) (hd : depthF s'.ns ≤ 12) (hv : ∀ x ∈ s'.ns, x.V.T.length ≤ 1048576) : Con Tryz.prog noMv 30 [.ptr 1000 0] [(1000, .box [.d (.sl 1 (tk.map strRow)), .zs 7, int (op : Int)])] (fun r h => r = .agg [.osl 0 7 0 s'.ns.length] ∧ h = [(1000, .box [.d (.sl 1 (s'.tk.map strRow)), .osl 0 7 0 s'.ns.length, int (s'.op : Int)]), (0, .rows 7 (s'.ns.map GExprNode.row))]) := by
 refine con_of2 k_c_pexpr_fits rfl fun C hP hmv => ?_
 unfold k_c_pexpr
 have hso := (prs_ro f 0 _ _ _ hs h).1
 have hsm := hso.m
 refine cx_seq ?_
 refine cx_ops ?_
 refine ax_e (e_alloc (by decide) rfl rfl) ?_
 refine ax_nil ?_
 refine cx_keep rfl rfl ?_
 refine cx_seq ?_
 refine cx_ops ?_
 refine ax_q (q_mov rfl) ?_
 first | refine ax_q (q_nilck_ptr rfl) ?_ | refine ax_q (q_nilck_rptr rfl) ?_ | refine ax_q (q_nilck_ip rfl) ?_
 first | refine ax_q (q_fadr_ptr rfl) ?_ | refine ax_q (q_fadr_rptr rfl) ?_ | refine ax_q (q_fadr_ip rfl) ?_
 refine ax_e (e_st rfl rfl rfl rfl rfl rfl rfl) ?_
 refine ax_nil ?_
 refine cx_keep rfl rfl ?_
 refine cx_seq ?_
 refine cx_ops ?_
 skip
 refine ax_q (q_mov rfl) ?_
 refine ax_wk (wk_virt 901 7 rfl rfl rfl) ?_
 refine ax_wk (wk_zsb 1000 901 1 rfl rfl rfl) ?_
 refine ax_call rfl (vcall_own ((prs_rc f).1 ⟨tk, [], op⟩ s' k hs h) hP hmv false (fun e => bif Nat.beq e 1000 then 1000 else 901) [1000, 1001] ⟨rfl, rfl, rfl, rfl, ⟨rfl, rfl, trivial⟩, rfl, rfl, rfl⟩ (.pass rfl rfl .nil) ?_)
 rintro r h ⟨rfl, rfl⟩
 refine ⟨(fun e => bif Nat.beq e 1000 then 1000 else 901), [], ⟨rfl, rfl, rfl, rfl, mem2 rfl rfl, rfl, rfl, fun h => absurd h Bool.false_ne_true⟩, ?_⟩
 refine ax_nil ?_
 refine cx_keep rfl rfl ?_
 refine cx_seq ?_
 refine cx_seq ?_
 refine cx_ops ?_
 refine ax_q (q_mov rfl) ?_
 first | refine ax_q (q_nilck_ptr rfl) ?_ | refine ax_q (q_nilck_rptr rfl) ?_ | refine ax_q (q_nilck_ip rfl) ?_
 first | refine ax_q (q_fadr_ptr rfl) ?_ | refine ax_q (q_fadr_rptr rfl) ?_ | refine ax_q (q_fadr_ip rfl) ?_
 first | refine ax_q (q_load1_ptr rfl rfl rfl) ?_ | refine ax_q (q_load1_ip rfl) ?_ | refine ax_q (q_load1_rptr rfl rfl rfl rfl) ?_ | refine ax_q (q_load1_rptr rfl rfl (by assumption) rfl) ?_ | refine ax_q (q_load1_rptr rfl rfl (mapAt (by first | assumption | omega)) rfl) ?_
 first | refine ax_call rfl (vc_pure0 (c_depthOf (ns := s'.ns) ?_ ?_) hP rfl rfl ?_) | refine ax_call rfl (vc_lend0 (c_depthOf (ns := s'.ns) ?_ ?_) hP (by repeat (first | exact lal_id _ rfl | exact LAL.nil | refine LAL.cons ?_ ?_ | exact la_id _ rfl | exact LA.lend (lend_whole rfl (by first | (simp; done) | (rw [List.length_map]; rfl))) | refine LA.agg ?_ | refine LA.fn ?_ | refine LA.lend ?_ | exact Lend.d _ | exact Lend.zs _ | exact lend_whole rfl (by first | (simp; done) | (rw [List.length_map]; rfl)) | refine Lend.ptr rfl ?_ | refine Lend.fn ?_ | exact LendL.nil | refine LendL.cons ?_ ?_)) rfl rfl ?_)
 ·
  first | assumption | omega | (simp; done) | (simp; omega)
 ·
  first | assumption | omega | (simp; done) | (simp; omega)
 refine ax_q (q_ibin rfl rfl rfl) ?_
 refine ax_nil ?_
 refine cx_keep rfl rfl ?_
 refine cx_cond rfl (fun h0 => ?_) (fun h0 => ?_)
 ·
  have h0 := dT h0
  exfalso; omega
 ·
  have h0 := dF h0
  refine cx_skip ?_
  refine cx_keep rfl rfl ?_
  refine cx_seq ?_
  refine cx_ops ?_
  refine ax_q (q_mov rfl) ?_
  first | refine ax_q (q_nilck_ptr rfl) ?_ | refine ax_q (q_nilck_rptr rfl) ?_ | refine ax_q (q_nilck_ip rfl) ?_
  first | refine ax_q (q_fadr_ptr rfl) ?_ | refine ax_q (q_fadr_rptr rfl) ?_ | refine ax_q (q_fadr_ip rfl) ?_
  first | refine ax_q (q_load1_ptr rfl rfl rfl) ?_ | refine ax_q (q_load1_ip rfl) ?_ | refine ax_q (q_load1_rptr rfl rfl rfl rfl) ?_ | refine ax_q (q_load1_rptr rfl rfl (by assumption) rfl) ?_ | refine ax_q (q_load1_rptr rfl rfl (mapAt (by first | assumption | omega)) rfl) ?_
  refine ax_q (q_build rfl) ?_
  refine ax_e (e_st rfl rfl rfl rfl rfl rfl rfl) ?_
  refine ax_nil ?_
  refine cx_keep rfl rfl ?_
  refine cx_ret (retN (fun e => bif Nat.beq e 1000 then 1000 else 0) [1000, 901] rfl rfl rfl rfl rfl ?_)
  exact ⟨rfl, rfl⟩


/- loop.example/g00332/impl.ParseExpr$1 -/
def k_c_ParseExpr1 : XCode :=
 .ops [.op (some 2) (.load1 (.t 0)),
  .call (some 3) 30 [.t 2],
  .op none (.store 1 (.t 1) (.t 3))]
theorem k_c_ParseExpr1_fits : fitsF Tryz.prog 29 ⟨4, k_c_ParseExpr1, []⟩ = true := by kernel_rfl
theorem c_ParseExpr1 {f : Nat} {tk : List Str} {s' : PS} {k : Int} (hs : PS.ok ⟨tk, [], 0⟩) (h : prs f 0 ⟨tk, [], 0⟩ = some (s', k)) (hd : depthF s'.ns ≤ 12) (hv : ∀ x ∈ s'.ns, x.V.T.length ≤ 1048576) : Con Tryz.prog noMv 29 [.ptr 1000 0, .ptr 1001 0] [(1000, .box [.ptr 1002 0]), (1001, .box [.zs 7]), (1002, .box [.d (.sl 1 (tk.map strRow)), .zs 7, int ((0 : Nat) : Int)])] (fun r h => r = .tup [] ∧ h = [(1000, .box [.ptr 1002 0]), (1001, .box [.osl 0 7 0 s'.ns.length]), (1002, .box [.d (.sl 1 (s'.tk.map strRow)), .osl 0 7 0 s'.ns.length, int (s'.op : Int)]), (0, .rows 7 (s'.ns.map GExprNode.row))]) := by
 refine con_of2 k_c_ParseExpr1_fits rfl fun C hP hmv => ?_
 unfold k_c_ParseExpr1
 refine cx_ops ?_
 first | refine ax_q (q_load1_ptr rfl rfl rfl) ?_ | refine ax_q (q_load1_ip rfl) ?_ | refine ax_q (q_load1_rptr rfl rfl rfl rfl) ?_ | refine ax_q (q_load1_rptr rfl rfl (by assumption) rfl) ?_ | refine ax_q (q_load1_rptr rfl rfl (mapAt (by first | assumption | omega)) rfl) ?_
 refine ax_call rfl (vcall_own (c_pexpr hs h hd hv) hP hmv false (fun _ => 1002) [1000] ⟨rfl, rfl, rfl, rfl, ⟨rfl, trivial⟩, rfl, rfl, rfl⟩ (.pass rfl rfl .nil) ?_)
 rintro r h ⟨rfl, rfl⟩
 refine ⟨(fun e => bif Nat.beq e 1000 then 1002 else 3), [0], ⟨rfl, rfl, rfl, rfl, mem1 rfl, rfl, rfl, fun h => absurd h Bool.false_ne_true⟩, ?_⟩
 refine ax_e (e_st rfl rfl rfl rfl rfl rfl rfl) ?_
 refine ax_nil ?_
 refine retN (fun e => bif Nat.beq e 3 then 0 else e) [1000, 1001, 1002, 3] rfl rfl rfl rfl rfl ?_
 exact ⟨rfl, rfl⟩


/- loop.example/g00332/impl.ParseExpr -/
def k_c_ParseExpr : XCode :=
 .seq (.ops [.op (some 2) (.alloc [.nils 7]),
   .op (some 3) (.mov (.k (.int .i64 0)))])
 (.keep [0, 2] (.seq (.ops [.op (some 9) (.mov (.t 0)),
   .call (some 10) 10 [.t 9],
   .op (some 8) (.mov (.t 10)),
   .op (some 11) (.ext (.t 8) 0),
   .op (some 12) (.ext (.t 8) 1),
   .op (some 4) (.mov (.t 11)),
   .op (some 5) (.mov (.t 12))])
 (.keep [2, 4, 5] (.seq (.seq (.ops [.op (some 13) (.mov (.t 5)),
   .op (some 14) (.bin .neq (.t 13) (.k (.int .i64 0)))])
  (.keep [2, 4, 5, 14] (.cond (.t 14)
  (.seq (.ops [.op (some 15) (.build [.nils 7] []),
    .op (some 16) (.mov (.t 5)),
    .op none (.store 1 (.t 2) (.t 15)),
    .op (some 3) (.mov (.t 16))])
   (.keep [2, 3] (.ret)))
  (.skip))))
 (.keep [2, 4] (.seq (.ops [.op (some 17) (.mov (.t 4)),
   .op (some 18) (.build [.nils 1, .nils 7, .int .i64 0] [(0, 1, .t 17)]),
   .op (some 19) (.box (.t 18)),
   .op (some 20) (.build [.nils 7] []),
   .op (some 6) (.alloc [.nilp]),
   .op (some 7) (.alloc [.nils 7]),
   .op none (.store 1 (.t 6) (.t 19)),
   .op none (.store 1 (.t 7) (.t 20))])
 (.keep [2, 6, 7] (.seq (.ops [.op (some 21) (.mkfn 29 [.t 6, .t 7]),
   .call (some 22) 28 [.t 21],
   .op (some 5) (.mov (.t 22))])
 (.keep [2, 5, 6, 7] (.seq (.seq (.ops [.op (some 23) (.mov (.t 5)),
   .op (some 24) (.bin .eql (.t 23) (.k (.int .i64 0))),
   .op (some 25) (.mov (.t 24)),
   .andor 32 true 2 25 [.op (some 26) (.load1 (.t 6)), .op (some 27) (.nilck (.t 26)), .op (some 28) (.fadr (.t 27) 0), .op (some 29) (.load1 (.t 28)), .op (some 30) (.lenS (.t 29)), .op (some 31) (.bin .gtr (.t 30) (.k (.int .i64 0)))] (.t 31)])
  (.keep [2, 5, 7, 32] (.cond (.t 32)
  (.ops [.op (some 5) (.mov (.k (.int .i64 3)))])
  (.skip))))
 (.keep [2, 5, 7] (.seq (.seq (.ops [.op (some 33) (.mov (.t 5)),
   .op (some 34) (.bin .neq (.t 33) (.k (.int .i64 0)))])
  (.keep [2, 5, 7, 34] (.cond (.t 34)
  (.seq (.ops [.op (some 35) (.build [.nils 7] []),
    .op (some 36) (.mov (.t 5)),
    .op none (.store 1 (.t 2) (.t 35)),
    .op (some 3) (.mov (.t 36))])
   (.keep [2, 3] (.ret)))
  (.skip))))
 (.keep [2, 7] (.seq (.ops [.op (some 37) (.loadN 1 (.t 7)),
   .op none (.store 1 (.t 2) (.t 37)),
   .op (some 3) (.mov (.k (.int .i64 0)))])
 (.keep [2, 3] (.ret))))))))))))))))
theorem k_c_ParseExpr_fits : fitsF Tryz.prog 9 ⟨38, k_c_ParseExpr, [.cN 2 1, .t 3]⟩ = true := by kernel_rfl
set_option maxHeartbeats 4000000 in
theorem c_ParseExpr {t : Str} {e : GExpr} (h : PEok t e) : Con Tryz.prog noMv 9 [str t] [] (fun r h => r = .tup [.agg [.osl 0 7 0 e.Nodes.length], int 0] ∧ h = [(0, .rows 7 (e.Nodes.map GExprNode.row))]) := by
 refine con_of2 k_c_ParseExpr_fits rfl fun C hP hmv => ?_
 unfold k_c_ParseExpr
 obtain ⟨hl, tk, f, k, hlx, htl, hok, hp, hd, hv, hnl⟩ := h
 have hs : PS.ok ⟨tk, [], 0⟩ := ⟨hok, htl, Nat.zero_le _, Nat.zero_le _⟩
 refine cx_seq ?_
 refine cx_ops ?_
 refine ax_e (e_alloc (by decide) rfl rfl) ?_
 refine ax_q (q_mov rfl) ?_
 refine ax_nil ?_
 refine cx_keep rfl rfl ?_
 refine cx_seq ?_
 refine cx_ops ?_
 refine ax_q (q_mov rfl) ?_
 first | refine ax_call rfl (vc_pure (c_LexSql (t := t) (ts := tk) ?_ ?_ ?_) hP rfl ?_) | refine ax_call rfl (vc_lend (c_LexSql (t := t) (ts := tk) ?_ ?_ ?_) hP (by repeat (first | exact lal_id _ rfl | exact LAL.nil | refine LAL.cons ?_ ?_ | exact la_id _ rfl | exact LA.lend (lend_whole rfl (by first | (simp; done) | (rw [List.length_map]; rfl))) | refine LA.agg ?_ | refine LA.fn ?_ | refine LA.lend ?_ | exact Lend.d _ | exact Lend.zs _ | exact lend_whole rfl (by first | (simp; done) | (rw [List.length_map]; rfl)) | refine Lend.ptr rfl ?_ | refine Lend.fn ?_ | exact LendL.nil | refine LendL.cons ?_ ?_)) ?_)
 ·
  first | assumption | omega | (simp; done) | (simp; omega)
 ·
  first | assumption | omega | (simp; done) | (simp; omega)
 ·
  first | assumption | omega | (simp; done) | (simp; omega)
 rintro r h ⟨rfl, rfl⟩
 refine ⟨fun i => 10 + 200 * i, [0], ⟨rfl, rfl, rfl, rfl, rfl, (by first | exact (fun h => absurd h Bool.false_ne_true) | exact (fun _ => ⟨rfl, (noisl_of (by repeat (first | exact trivial | refine ⟨noisl_map (fun _ => rfl), ?_⟩ | refine ⟨?_, ?_⟩)))⟩))⟩, ?_⟩
 skip
 refine ax_q (q_mov rfl) ?_
 refine ax_q (q_ext rfl rfl) ?_
 refine ax_q (q_ext rfl rfl) ?_
 refine ax_q (q_mov rfl) ?_
 refine ax_q (q_mov rfl) ?_
 refine ax_nil ?_
 refine cx_keep rfl rfl ?_
 refine cx_seq ?_
 refine cx_seq ?_
 refine cx_ops ?_
 refine ax_q (q_mov rfl) ?_
 refine ax_q (q_ibin rfl rfl rfl) ?_
 refine ax_nil ?_
 refine cx_keep rfl rfl ?_
 refine cx_cond rfl (fun h0 => ?_) (fun h0 => ?_)
 ·
  have h0 := nT h0
  exact absurd rfl h0
 ·
  have h0 := nF h0
  refine cx_skip ?_
  refine cx_keep rfl rfl ?_
  refine cx_seq ?_
  refine cx_ops ?_
  refine ax_q (q_mov rfl) ?_
  refine ax_wk (wk_frz 17 10 rfl rfl (.whole (List.length_map _).symm) rfl) ?_
  refine ax_q (q_build rfl) ?_
  refine ax_e (e_box rfl rfl (by decide) rfl rfl rfl) ?_
  refine ax_q (q_build rfl) ?_
  refine ax_e (e_alloc (by decide) rfl rfl) ?_
  refine ax_e (e_alloc (by decide) rfl rfl) ?_
  refine ax_e (e_st rfl rfl rfl rfl rfl rfl rfl) ?_
  refine ax_e (e_st rfl rfl rfl rfl rfl rfl rfl) ?_
  refine ax_nil ?_
  refine cx_keep rfl rfl ?_
  refine cx_seq ?_
  refine cx_ops ?_
  refine ax_q (q_mkfn rfl) ?_
  refine ax_call rfl (vcall_own (c_reading (g := 29) (caps := [.ptr 1000 0, .ptr 1001 0]) (by kernel_rfl) (c_ParseExpr1 hs hp hd hv)) hP hmv false (fun e => bif Nat.beq e 1000 then 6 else bif Nat.beq e 1001 then 7 else 19) [1000, 1001, 1002] ⟨rfl, rfl, rfl, rfl, ⟨rfl, rfl, rfl, trivial⟩, rfl, rfl, rfl⟩ (.pass rfl rfl .nil) ?_)
  rintro r h ⟨rfl, rfl⟩
  refine ⟨(fun e => bif Nat.beq e 1000 then 6 else bif Nat.beq e 1001 then 7 else bif Nat.beq e 1002 then 19 else 22), [0], ⟨rfl, rfl, rfl, rfl, mem3 rfl rfl rfl, rfl, rfl, fun h => absurd h Bool.false_ne_true⟩, ?_⟩
  refine ax_q (q_mov rfl) ?_
  refine ax_nil ?_
  refine cx_keep rfl rfl ?_
  refine cx_seq ?_
  refine cx_seq ?_
  refine cx_ops ?_
  refine ax_q (q_mov rfl) ?_
  refine ax_q (q_ibin rfl rfl rfl) ?_
  refine ax_q (q_mov rfl) ?_
  apply ax_and rfl rfl
  ·
   intro g
   have g := dT g
   refine ax_q (q_load1_ptr rfl rfl rfl) ?_
   first | refine ax_q (q_nilck_ptr rfl) ?_ | refine ax_q (q_nilck_rptr rfl) ?_ | refine ax_q (q_nilck_ip rfl) ?_
   first | refine ax_q (q_fadr_ptr rfl) ?_ | refine ax_q (q_fadr_rptr rfl) ?_ | refine ax_q (q_fadr_ip rfl) ?_
   first | refine ax_q (q_load1_ptr rfl rfl rfl) ?_ | refine ax_q (q_load1_ip rfl) ?_ | refine ax_q (q_load1_rptr rfl rfl rfl rfl) ?_ | refine ax_q (q_load1_rptr rfl rfl (by assumption) rfl) ?_ | refine ax_q (q_load1_rptr rfl rfl (mapAt (by first | assumption | omega)) rfl) ?_
   first | refine ax_q (q_lenS_map rfl) ?_ | refine ax_q (q_lenS_osl rfl) ?_ | refine ax_q (q_lenS_zs rfl) ?_ | refine ax_q (q_lenS rfl) ?_
   refine ax_q (q_ibin rfl rfl rfl) ?_
   exact ax_nil ⟨rfl, by repeat (first | exact trivial | refine ⟨rfl, ?_⟩ | refine ⟨?_, ?_⟩)⟩
  refine ax_nil ?_
  refine cx_keep rfl rfl ?_
  refine cx_cond rfl (fun h1 => ?_) (fun h1 => ?_)
  ·
   have h1 := (fun h => And.intro (dT (and_T h).1) (dT (and_T h).2)) h1
   exfalso
   have := h1.2
   simp at this
  ·
   have h1 := (fun h => (and_F h).imp dF dF) h1
   refine cx_skip ?_
   refine cx_keep rfl rfl ?_
   refine cx_seq ?_
   refine cx_seq ?_
   refine cx_ops ?_
   refine ax_q (q_mov rfl) ?_
   refine ax_q (q_ibin rfl rfl rfl) ?_
   refine ax_nil ?_
   refine cx_keep rfl rfl ?_
   refine cx_cond rfl (fun h2 => ?_) (fun h2 => ?_)
   ·
    have h2 := nT h2
    exact absurd rfl h2
   ·
    have h2 := nF h2
    refine cx_skip ?_
    refine cx_keep rfl rfl ?_
    refine cx_seq ?_
    refine cx_ops ?_
    refine ax_q (q_ldN rfl rfl rfl) ?_
    refine ax_e (e_st rfl rfl rfl rfl rfl rfl rfl) ?_
    refine ax_q (q_mov rfl) ?_
    refine ax_nil ?_
    refine cx_keep rfl rfl ?_
    refine cx_ret (retN (fun _ => 0) [22] rfl rfl rfl rfl rfl ?_)
    exact ⟨rfl, rfl⟩


/- loop.example/g00332/laws.sameExpr -/
def k_c_sameExpr : XCode :=
 .seq (.ops [.op (some 2) (.box (.t 0)),
   .op (some 3) (.box (.t 1)),
   .op (some 4) (.mov (.k (.bool false)))])
 (.keep [2, 3] (.seq (.seq (.ops [.op (some 6) (.fadr (.t 2) 0),
   .op (some 7) (.load1 (.t 6)),
   .op (some 8) (.lenS (.t 7)),
   .op (some 9) (.fadr (.t 3) 0),
   .op (some 10) (.load1 (.t 9)),
   .op (some 11) (.lenS (.t 10)),
   .op (some 12) (.bin .neq (.t 8) (.t 11))])
  (.keep [2, 3, 12] (.cond (.t 12)
  (.seq (.ops [.op (some 4) (.mov (.k (.bool false)))])
   (.keep [4] (.ret)))
  (.skip))))
 (.keep [2, 3] (.seq (.seq (.ops [.op (some 5) (.mov (.k (.int .i64 0)))])
  (.keep [2, 3, 5] (.block 0 (.loop (.seq (.seq (.ops [.op (some 13) (.mov (.t 5)),
     .op (some 14) (.fadr (.t 2) 0),
     .op (some 15) (.load1 (.t 14)),
     .op (some 16) (.lenS (.t 15)),
     .op (some 17) (.bin .lss (.t 13) (.t 16))])
   (.keep [2, 3, 5, 17] (.cond (.t 17)
    (.skip)
    (.exit 0))))
   (.keep [2, 3, 5] (.seq (.block 1 (.seq (.draw [.op (some 20) (.fadr (.t 2) 0),
     .op (some 21) (.load1 (.t 20)),
     .op (some 22) (.mov (.t 5)),
     .op (some 23) (.iadr 7 (.t 21) (.t 22)),
     .op (some 24) (.loadN 7 (.t 23)),
     .op (some 25) (.fadr (.t 3) 0),
     .op (some 26) (.load1 (.t 25)),
     .op (some 27) (.mov (.t 5)),
     .op (some 28) (.iadr 7 (.t 26) (.t 27)),
     .op (some 29) (.loadN 7 (.t 28)),
     .op (some 30) (.eqs true [0, 0, 0, 0, 0, 0, 2] (.t 24) (.t 29))])
    (.keep [2, 3, 5, 30] (.cond (.t 30)
    (.seq (.ops [.op (some 4) (.mov (.k (.bool false)))])
     (.keep [4] (.ret)))
    (.skip)))))
   (.keep [2, 3, 5] (.ops [.op (some 18) (.mov (.t 5)),
    .op (some 19) (.bin .add (.t 18) (.k (.int .i64 1))),
    .op (some 5) (.mov (.t 19))])))))))))
 (.keep [] (.seq (.ops [.op (some 4) (.mov (.k (.bool true)))])
 (.keep [4] (.ret))))))))
theorem k_c_sameExpr_fits : fitsF Tryz.prog 12 ⟨31, k_c_sameExpr, [.t 4]⟩ = true := by kernel_rfl
theorem c_sameExpr {a b : GExpr} (ha : a.Nodes.length ≤ 1048576) (hb : b.Nodes.length ≤ 1048576) : Con Tryz.prog noMv 12 [a.av, b.av] [] (fun r h => r = bool (eqb a.Nodes b.Nodes) ∧ h = []) := by
 refine con_of2 k_c_sameExpr_fits rfl fun C hP hmv => ?_
 unfold k_c_sameExpr
 refine cx_seq ?_
 refine cx_ops ?_
 refine ax_e (e_box rfl rfl (by decide) rfl rfl rfl) ?_
 refine ax_e (e_box rfl rfl (by decide) rfl rfl rfl) ?_
 refine ax_q (q_mov rfl) ?_
 refine ax_nil ?_
 refine cx_keep rfl rfl ?_
 refine cx_seq ?_
 refine cx_seq ?_
 refine cx_ops ?_
 refine ax_q (q_fadr_ptr rfl) ?_
 refine ax_q (q_load1_ptr rfl rfl rfl) ?_
 first | refine ax_q (q_lenS_map rfl) ?_ | refine ax_q (q_lenS_osl rfl) ?_ | refine ax_q (q_lenS_zs rfl) ?_ | refine ax_q (q_lenS rfl) ?_
 refine ax_q (q_fadr_ptr rfl) ?_
 refine ax_q (q_load1_ptr rfl rfl rfl) ?_
 first | refine ax_q (q_lenS_map rfl) ?_ | refine ax_q (q_lenS_osl rfl) ?_ | refine ax_q (q_lenS_zs rfl) ?_ | refine ax_q (q_lenS rfl) ?_
 refine ax_q (q_ibin rfl rfl rfl) ?_
 refine ax_nil ?_
 refine cx_keep rfl rfl ?_
 refine cx_cond rfl (fun h0 => ?_) (fun h0 => ?_)
 ·
  have h0 := nT h0
  refine cx_seq ?_
  refine cx_ops ?_
  refine ax_q (q_mov rfl) ?_
  refine ax_nil ?_
  refine cx_keep rfl rfl ?_
  refine cx_ret (ret0 rfl rfl ?_)
  exact ⟨by rw [eqb_f (fun e => by rw [e] at h0; exact h0 rfl)]; rfl, rfl⟩
 ·
  have h0 := nF h0
  have hlen : a.Nodes.length = b.Nodes.length := by omega
  refine cx_skip ?_
  refine cx_keep rfl rfl ?_
  refine cx_seq ?_
  refine cx_seq ?_
  refine cx_ops ?_
  refine ax_q (q_mov rfl) ?_
  refine ax_nil ?_
  refine cx_keep rfl rfl ?_
  refine cx_block ?_
  refine cx_loopU (fun n k => k ≤ a.Nodes.length ∧ n = a.Nodes.length - k ∧ ∀ i, i < k → a.Nodes[i]? = b.Nodes[i]?) (fun k : Nat => [(5, int k)]) (fun _ => [(2, .box [.d (.sl 7 (a.Nodes.map GExprNode.row))]), (3, .box [.d (.sl 7 (b.Nodes.map GExprNode.row))])]) ⟨_, 0, ⟨Nat.zero_le _, rfl, fun i hi => absurd hi (Nat.not_lt_zero _)⟩, by repeat (first | exact trivial | refine ⟨rfl, ?_⟩ | refine ⟨?_, ?_⟩)⟩ ?_
  rintro n k ⟨hk, rfl, hb⟩
  refine cx_seq ?_
  refine cx_seq ?_
  refine cx_ops ?_
  refine ax_q (q_mov rfl) ?_
  refine ax_q (q_fadr_ptr rfl) ?_
  refine ax_q (q_load1_ptr rfl rfl rfl) ?_
  first | refine ax_q (q_lenS_map rfl) ?_ | refine ax_q (q_lenS_osl rfl) ?_ | refine ax_q (q_lenS_zs rfl) ?_ | refine ax_q (q_lenS rfl) ?_
  refine ax_q (q_ibin rfl rfl rfl) ?_
  refine ax_nil ?_
  refine cx_keep rfl rfl ?_
  refine cx_cond rfl (fun h1 => ?_) (fun h1 => ?_)
  ·
   have h1 := dT h1
   have h1x : k < a.Nodes.length := by omega
   have h1y : k < b.Nodes.length := by omega
   refine cx_skip ?_
   refine cx_keep rfl rfl ?_
   refine cx_seq ?_
   refine cx_block ?_
   refine cx_seq ?_
   refine cx_draw ?_
   refine ax_q (q_fadr_ptr rfl) ?_
   refine ax_q (q_load1_ptr rfl rfl rfl) ?_
   refine ax_q (q_mov rfl) ?_
   refine ax_q (q_ix rfl rfl (mapAt h1x)) ?_
   first | refine ax_q (q_ldN rfl rfl rfl) ?_ | refine ax_q (q_loadN_ip rfl (Nat.le_refl _)) ?_ | refine ax_q (q_loadN_ip rfl (by decide)) ?_ | refine ax_q (q_loadN_rptr rfl rfl (by assumption) (by decide)) ?_ | refine ax_q (q_loadN_rptr rfl rfl (mapAt (by first | assumption | omega)) (by decide)) ?_
   refine ax_q (q_fadr_ptr rfl) ?_
   refine ax_q (q_load1_ptr rfl rfl rfl) ?_
   refine ax_q (q_mov rfl) ?_
   refine ax_q (q_ix rfl rfl (mapAt h1y)) ?_
   first | refine ax_q (q_ldN rfl rfl rfl) ?_ | refine ax_q (q_loadN_ip rfl (Nat.le_refl _)) ?_ | refine ax_q (q_loadN_ip rfl (by decide)) ?_ | refine ax_q (q_loadN_rptr rfl rfl (by assumption) (by decide)) ?_ | refine ax_q (q_loadN_rptr rfl rfl (mapAt (by first | assumption | omega)) (by decide)) ?_
   first | refine ax_q (GExprNode.q_eqs rfl rfl) ?_ | refine ax_q (q_eqs rfl rfl rfl) ?_
   refine ax_nil ?_
   refine cx_keep rfl rfl ?_
   refine cx_cond rfl (fun h2 => ?_) (fun h2 => ?_)
   ·
    have h2 := bT h2
    refine cx_seq ?_
    refine cx_ops ?_
    refine ax_q (q_mov rfl) ?_
    refine ax_nil ?_
    refine cx_keep rfl rfl ?_
    refine cx_ret (ret0 rfl rfl ?_)
    exact ⟨by rw [eqb_f (fun e => eqn_no h1x h1y e (by rw [h2]; decide))]; rfl, rfl⟩
   ·
    have h2 := bF h2
    refine cx_skip ?_
    refine cx_keep rfl rfl ?_
    refine cx_ops ?_
    refine ax_q (q_mov rfl) ?_
    refine ax_qe (r' := int ((k + 1 : Nat) : Int)) (q_ibin rfl rfl rfl) (by rw [wi (by omega) (by omega)]; rfl) ?_
    refine ax_q (q_mov rfl) ?_
    refine ax_nil ?_
    exact ⟨_, k + 1, by omega, ⟨by omega, rfl, eqn_step h1x h1y hb (eqb_iff.1 h2)⟩, by repeat (first | exact trivial | refine ⟨rfl, ?_⟩ | refine ⟨?_, ?_⟩)⟩
  ·
   have h1 := dF h1
   have h1x : k = a.Nodes.length := by omega
   refine cx_exit rfl ?_
   refine cx_keep rfl rfl ?_
   refine cx_seq ?_
   refine cx_ops ?_
   refine ax_q (q_mov rfl) ?_
   refine ax_nil ?_
   refine cx_keep rfl rfl ?_
   refine cx_ret (ret0 rfl rfl ?_)
   exact ⟨by rw [eqb_t (eqn_end hlen h1x hb)]; rfl, rfl⟩


/- loop.example/g00332/laws.at -/
def k_c_at : XCode :=
 .seq (.ops [.op (some 6) (.mov (.k (.int .i64 0)))])
 (.keep [0, 1, 2] (.seq (.seq (.ops [.op (some 7) (.mov (.t 2)),
   .op (some 8) (.bin .leq (.t 7) (.k (.int .i64 1)))])
  (.keep [0, 1, 2, 8] (.cond (.t 8)
  (.seq (.ops [.op (some 6) (.mov (.k (.int .i64 0)))])
   (.keep [6] (.ret)))
  (.skip))))
 (.keep [0, 1, 2] (.seq (.seq (.ops [.op (some 9) (.mov (.t 0)),
   .op (some 10) (.lenS (.t 9)),
   .op (some 11) (.bin .eql (.t 10) (.k (.int .i64 0)))])
  (.keep [0, 1, 2, 11] (.cond (.t 11)
  (.seq (.ops [.op (some 12) (.mov (.t 1)),
    .op (some 13) (.bin .mul (.t 12) (.k (.int .i64 7))),
    .op (some 14) (.mov (.t 2)),
    .op (some 15) (.bin .rem (.t 13) (.t 14)),
    .op (some 6) (.mov (.t 15))])
   (.keep [6] (.ret)))
  (.skip))))
 (.keep [0, 1, 2] (.seq (.draw [.op (some 16) (.mov (.t 0)),
   .op (some 17) (.mov (.t 1)),
   .op (some 18) (.mov (.t 0)),
   .op (some 19) (.lenS (.t 18)),
   .op (some 20) (.bin .rem (.t 17) (.t 19)),
   .op (some 21) (.iadr 1 (.t 16) (.t 20)),
   .op (some 22) (.load1 (.t 21)),
   .op (some 23) (.conv .i64 (.t 22)),
   .op (some 24) (.bin .mul (.t 23) (.k (.int .i64 31))),
   .op (some 25) (.mov (.t 0)),
   .op (some 26) (.mov (.t 1)),
   .op (some 27) (.bin .add (.t 26) (.k (.int .i64 1))),
   .op (some 28) (.mov (.t 0)),
   .op (some 29) (.lenS (.t 28)),
   .op (some 30) (.bin .rem (.t 27) (.t 29)),
   .op (some 31) (.iadr 1 (.t 25) (.t 30)),
   .op (some 32) (.load1 (.t 31)),
   .op (some 33) (.conv .i64 (.t 32)),
   .op (some 34) (.bin .add (.t 24) (.t 33)),
   .op (some 35) (.mov (.t 1)),
   .op (some 36) (.mov (.t 0)),
   .op (some 37) (.lenS (.t 36)),
   .op (some 38) (.bin .quo (.t 35) (.t 37)),
   .op (some 39) (.bin .add (.t 34) (.t 38)),
   .op (some 40) (.mov (.t 2)),
   .op (some 41) (.bin .rem (.t 39) (.t 40)),
   .op (some 6) (.mov (.t 41))])
 (.keep [6] (.ret))))))))
theorem k_c_at_fits : fitsF Tryz.prog 15 ⟨42, k_c_at, [.t 6]⟩ = true := by kernel_rfl
theorem c_at {more : Str} {i n : Int} (hl : more.length ≤ 1048576) (hi : 0 ≤ i ∧ i ≤ 1000) (hn : n ≤ 1000000000) : Con Tryz.prog noMv 15 [.d (.sl 1 (more.map byteRow)), int i, int n] [] (fun r h => r = int (atF more i n) ∧ h = []) := by
 refine con_of2 k_c_at_fits rfl fun C hP hmv => ?_
 unfold k_c_at
 refine cx_seq ?_
 refine cx_ops ?_
 refine ax_q (q_mov rfl) ?_
 refine ax_nil ?_
 refine cx_keep rfl rfl ?_
 refine cx_seq ?_
 refine cx_seq ?_
 refine cx_ops ?_
 refine ax_q (q_mov rfl) ?_
 refine ax_q (q_ibin rfl rfl rfl) ?_
 refine ax_nil ?_
 refine cx_keep rfl rfl ?_
 refine cx_cond rfl (fun h0 => ?_) (fun h0 => ?_)
 ·
  have h0 := dT h0
  refine cx_seq ?_
  refine cx_ops ?_
  refine ax_q (q_mov rfl) ?_
  refine ax_nil ?_
  refine cx_keep rfl rfl ?_
  refine cx_ret (ret0 rfl rfl ?_)
  exact ⟨by unfold atF; rw [if_pos h0]; rfl, rfl⟩
 ·
  have h0 := dF h0
  refine cx_skip ?_
  refine cx_keep rfl rfl ?_
  refine cx_seq ?_
  refine cx_seq ?_
  refine cx_ops ?_
  refine ax_q (q_mov rfl) ?_
  first | refine ax_q (q_lenS_map rfl) ?_ | refine ax_q (q_lenS_osl rfl) ?_ | refine ax_q (q_lenS_zs rfl) ?_ | refine ax_q (q_lenS rfl) ?_
  refine ax_q (q_ibin rfl rfl rfl) ?_
  refine ax_nil ?_
  refine cx_keep rfl rfl ?_
  refine cx_cond rfl (fun h1 => ?_) (fun h1 => ?_)
  ·
   have h1 := dT h1
   have hm0 : more = [] := List.eq_nil_of_length_eq_zero (by omega)
   refine cx_seq ?_
   refine cx_ops ?_
   refine ax_q (q_mov rfl) ?_
   refine ax_q (q_mul rfl rfl (by omega)) ?_
   refine ax_q (q_mov rfl) ?_
   refine ax_q (q_mod rfl rfl (by omega) (by omega)) ?_
   refine ax_q (q_mov rfl) ?_
   refine ax_nil ?_
   refine cx_keep rfl rfl ?_
   refine cx_ret (ret0 rfl rfl ?_)
   exact ⟨by unfold atF; rw [if_neg h0, if_pos hm0]; rfl, rfl⟩
  ·
   have h1 := dF h1
   have hm0 : more ≠ [] := fun h => h1 (by rw [h]; rfl)
   have hm1 : 0 < more.length := List.length_pos_iff.2 hm0
   have hi1 : (i % more.length).toNat < more.length := by have := Int.emod_nonneg i (show (more.length : Int) ≠ 0 by omega); have := Int.emod_lt_of_pos i (show 0 < (more.length : Int) by omega); omega
   have hi2 : ((i + 1) % more.length).toNat < more.length := by have := Int.emod_nonneg (i + 1) (show (more.length : Int) ≠ 0 by omega); have := Int.emod_lt_of_pos (i + 1) (show 0 < (more.length : Int) by omega); omega
   have hb1 := (more[(i % more.length).toNat]).toNat_lt
   have hb2 := (more[((i + 1) % more.length).toNat]).toNat_lt
   have hdv := ediv_bounds (a := i) (b := more.length) hi.1 (by omega)
   refine cx_skip ?_
   refine cx_keep rfl rfl ?_
   refine cx_seq ?_
   refine cx_draw ?_
   refine ax_q (q_mov rfl) ?_
   refine ax_q (q_mov rfl) ?_
   refine ax_q (q_mov rfl) ?_
   first | refine ax_q (q_lenS_map rfl) ?_ | refine ax_q (q_lenS_osl rfl) ?_ | refine ax_q (q_lenS_zs rfl) ?_ | refine ax_q (q_lenS rfl) ?_
   refine ax_q (q_mod rfl rfl (by omega) (by omega)) ?_
   refine ax_q (q_ixI rfl rfl (Int.emod_nonneg _ (by omega)) (mapAt hi1)) ?_
   first | refine ax_q (q_load1_ptr rfl rfl rfl) ?_ | refine ax_q (q_load1_ip rfl) ?_ | refine ax_q (q_load1_rptr rfl rfl rfl rfl) ?_ | refine ax_q (q_load1_rptr rfl rfl (by assumption) rfl) ?_ | refine ax_q (q_load1_rptr rfl rfl (mapAt (by first | assumption | omega)) rfl) ?_
   first | refine ax_q (q_convB rfl) ?_ | refine ax_q (q_convI rfl (by omega)) ?_ | refine ax_q (q_convU8 rfl) ?_ | refine ax_q (q_conv rfl) ?_
   refine ax_q (q_mul rfl rfl (by omega)) ?_
   refine ax_q (q_mov rfl) ?_
   refine ax_q (q_mov rfl) ?_
   refine ax_q (q_add rfl rfl (by omega)) ?_
   refine ax_q (q_mov rfl) ?_
   first | refine ax_q (q_lenS_map rfl) ?_ | refine ax_q (q_lenS_osl rfl) ?_ | refine ax_q (q_lenS_zs rfl) ?_ | refine ax_q (q_lenS rfl) ?_
   refine ax_q (q_mod rfl rfl (by omega) (by omega)) ?_
   refine ax_q (q_ixI rfl rfl (Int.emod_nonneg _ (by omega)) (mapAt hi2)) ?_
   first | refine ax_q (q_load1_ptr rfl rfl rfl) ?_ | refine ax_q (q_load1_ip rfl) ?_ | refine ax_q (q_load1_rptr rfl rfl rfl rfl) ?_ | refine ax_q (q_load1_rptr rfl rfl (by assumption) rfl) ?_ | refine ax_q (q_load1_rptr rfl rfl (mapAt (by first | assumption | omega)) rfl) ?_
   first | refine ax_q (q_convB rfl) ?_ | refine ax_q (q_convI rfl (by omega)) ?_ | refine ax_q (q_convU8 rfl) ?_ | refine ax_q (q_conv rfl) ?_
   refine ax_q (q_add rfl rfl (by omega)) ?_
   refine ax_q (q_mov rfl) ?_
   refine ax_q (q_mov rfl) ?_
   first | refine ax_q (q_lenS_map rfl) ?_ | refine ax_q (q_lenS_osl rfl) ?_ | refine ax_q (q_lenS_zs rfl) ?_ | refine ax_q (q_lenS rfl) ?_
   refine ax_q (q_div rfl rfl (by omega) (by omega) (by omega)) ?_
   refine ax_q (q_add rfl rfl (by omega)) ?_
   refine ax_q (q_mov rfl) ?_
   refine ax_q (q_mod rfl rfl (by omega) (by omega)) ?_
   refine ax_q (q_mov rfl) ?_
   refine ax_nil ?_
   refine cx_keep rfl rfl ?_
   refine cx_ret (ret0 rfl rfl ?_)
   exact ⟨by unfold atF; rw [if_neg h0, if_neg hm0, getD_at hi1, getD_at hi2]; rfl, rfl⟩


/- loop.example/g00332/spec.l01In -/
def k_c_l01In : XCode :=
 .seq (.ops [.op (some 6) (.mov (.k (.bool false)))])
 (.keep [0, 1, 2] (.seq (.ops [.op (some 7) (.mov (.t 1)),
   .op (some 8) (.mov (.t 0)),
   .op (some 9) (.bin .leq (.t 7) (.t 8)),
   .op (some 10) (.mov (.t 9)),
   .andor 14 true 3 10 [.op (some 11) (.mov (.t 0)), .op (some 12) (.mov (.t 2)), .op (some 13) (.bin .leq (.t 11) (.t 12))] (.t 13),
   .op (some 6) (.mov (.t 14))])
 (.keep [6] (.ret))))
theorem k_c_l01In_fits : fitsF Tryz.prog 50 ⟨15, k_c_l01In, [.t 6]⟩ = true := by kernel_rfl
theorem c_l01In {n lo hi : Int} : Con Tryz.prog noMv 50 [int n, int lo, int hi] [] (fun r h => r = bool (inR n lo hi) ∧ h = []) := by
 refine con_of2 k_c_l01In_fits rfl fun C hP hmv => ?_
 unfold k_c_l01In
 refine cx_seq ?_
 refine cx_ops ?_
 refine ax_q (q_mov rfl) ?_
 refine ax_nil ?_
 refine cx_keep rfl rfl ?_
 refine cx_seq ?_
 refine cx_ops ?_
 refine ax_q (q_mov rfl) ?_
 refine ax_q (q_mov rfl) ?_
 refine ax_q (q_ibin rfl rfl rfl) ?_
 refine ax_q (q_mov rfl) ?_
 apply ax_and rfl rfl
 ·
  intro g
  have g := dT g
  refine ax_q (q_mov rfl) ?_
  refine ax_q (q_mov rfl) ?_
  refine ax_q (q_ibin rfl rfl rfl) ?_
  exact ax_nil ⟨rfl, by repeat (first | exact trivial | refine ⟨rfl, ?_⟩ | refine ⟨?_, ?_⟩)⟩
 refine ax_q (q_mov rfl) ?_
 refine ax_nil ?_
 refine cx_keep rfl rfl ?_
 refine cx_ret (ret0 rfl rfl ?_)
 exact ⟨rfl, rfl⟩


/- loop.example/g00332/spec.l10Letter -/
def k_c_l10Letter : XCode :=
 .seq (.ops [.op (some 2) (.mov (.k (.bool false)))])
 (.keep [0] (.seq (.ops [.op (some 3) (.mov (.t 0)),
   .op (some 4) (.conv .i64 (.t 3)),
   .call (some 5) 50 [.t 4, .k (.int .i64 97), .k (.int .i64 122)],
   .op (some 2) (.mov (.t 5))])
 (.keep [2] (.ret))))
theorem k_c_l10Letter_fits : fitsF Tryz.prog 61 ⟨6, k_c_l10Letter, [.t 2]⟩ = true := by kernel_rfl
theorem c_l10Letter {b : UInt8} : Con Tryz.prog noMv 61 [.d (.int .u8 b.toNat)] [] (fun r h => r = bool (letB b) ∧ h = []) := by
 refine con_of2 k_c_l10Letter_fits rfl fun C hP hmv => ?_
 unfold k_c_l10Letter
 refine cx_seq ?_
 refine cx_ops ?_
 refine ax_q (q_mov rfl) ?_
 refine ax_nil ?_
 refine cx_keep rfl rfl ?_
 refine cx_seq ?_
 refine cx_ops ?_
 refine ax_q (q_mov rfl) ?_
 first | refine ax_q (q_convB rfl) ?_ | refine ax_q (q_convI rfl (by omega)) ?_ | refine ax_q (q_convU8 rfl) ?_ | refine ax_q (q_conv rfl) ?_
 first | refine ax_call rfl (vc_pure0 (c_l01In  ) hP rfl rfl ?_) | refine ax_call rfl (vc_lend0 (c_l01In  ) hP (by repeat (first | exact lal_id _ rfl | exact LAL.nil | refine LAL.cons ?_ ?_ | exact la_id _ rfl | exact LA.lend (lend_whole rfl (by first | (simp; done) | (rw [List.length_map]; rfl))) | refine LA.agg ?_ | refine LA.fn ?_ | refine LA.lend ?_ | exact Lend.d _ | exact Lend.zs _ | exact lend_whole rfl (by first | (simp; done) | (rw [List.length_map]; rfl)) | refine Lend.ptr rfl ?_ | refine Lend.fn ?_ | exact LendL.nil | refine LendL.cons ?_ ?_)) rfl rfl ?_)
 refine ax_q (q_mov rfl) ?_
 refine ax_nil ?_
 refine cx_keep rfl rfl ?_
 refine cx_ret (ret0 rfl rfl ?_)
 exact ⟨rfl, rfl⟩


/- loop.example/g00332/spec.l00Digit -/
def k_c_l00Digit : XCode :=
 .seq (.ops [.op (some 2) (.mov (.k (.bool false)))])
 (.keep [0] (.seq (.ops [.op (some 3) (.mov (.t 0)),
   .op (some 4) (.bin .geq (.t 3) (.k (.int .u8 48))),
   .op (some 5) (.mov (.t 4)),
   .andor 8 true 2 5 [.op (some 6) (.mov (.t 0)), .op (some 7) (.bin .leq (.t 6) (.k (.int .u8 57)))] (.t 7),
   .op (some 2) (.mov (.t 8))])
 (.keep [2] (.ret))))
theorem k_c_l00Digit_fits : fitsF Tryz.prog 62 ⟨9, k_c_l00Digit, [.t 2]⟩ = true := by kernel_rfl
theorem c_l00Digit {b : UInt8} : Con Tryz.prog noMv 62 [.d (.int .u8 b.toNat)] [] (fun r h => r = bool (digB b) ∧ h = []) := by
 refine con_of2 k_c_l00Digit_fits rfl fun C hP hmv => ?_
 unfold k_c_l00Digit
 refine cx_seq ?_
 refine cx_ops ?_
 refine ax_q (q_mov rfl) ?_
 refine ax_nil ?_
 refine cx_keep rfl rfl ?_
 refine cx_seq ?_
 refine cx_ops ?_
 refine ax_q (q_mov rfl) ?_
 refine ax_q (q_ibin rfl rfl rfl) ?_
 refine ax_q (q_mov rfl) ?_
 apply ax_and rfl rfl
 ·
  intro g
  have g := dT g
  refine ax_q (q_mov rfl) ?_
  refine ax_q (q_ibin rfl rfl rfl) ?_
  exact ax_nil ⟨rfl, by repeat (first | exact trivial | refine ⟨rfl, ?_⟩ | refine ⟨?_, ?_⟩)⟩
 refine ax_q (q_mov rfl) ?_
 refine ax_nil ?_
 refine cx_keep rfl rfl ?_
 refine cx_ret (ret0 rfl rfl ?_)
 exact ⟨by rw [digB_eq]; rfl, rfl⟩

end Go.Proofs.YthdafcdhnjapnaaGreatDoor
