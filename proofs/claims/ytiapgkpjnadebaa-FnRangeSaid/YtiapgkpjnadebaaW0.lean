/- The walks: what each function computes, as a contract without a world (part 0). -/
import Derived.Test.YtiapgkpjnadebaaProg
import Derived.Test.YtiapgkpjnadebaaD1
namespace Go.Proofs.Ytiapgkpjnadebaa
open Go Go.AM
set_option maxRecDepth 10000
set_option linter.unusedVariables false
set_option linter.unusedSimpArgs false
/- loop.example/g00332/spec.l00Source -/
def k_c_l00Source : XCode :=
 .seq (.ops [.op (some 2) (.mov (.k (.nilp)))])
 (.keep [0] (.seq (.ops [.op (some 3) (.mov (.t 0)),
   .op (some 4) (.mov (.t 0)),
   .op (some 5) (.lenS (.t 4)),
   .op (some 6) (.bin .rem (.t 5) (.k (.int .i64 1000))),
   .op (some 7) (.build [.nils 1, .int .i64 0, .int .i64 0] [(0, 1, .t 3), (2, 1, .t 6)]),
   .op (some 8) (.box (.t 7)),
   .op (some 2) (.mov (.t 8))])
 (.keep [2] (.ret))))
theorem k_c_l00Source_fits : fitsF Try.prog 16 ⟨9, k_c_l00Source, [.t 2]⟩ = true := by kernel_rfl
theorem c_l00Source {code : Str} (hl : code.length ≤ 1048576) : Con Try.prog noMv 16 [.d (.sl 1 (code.map byteRow))] [] (fun r h => r = .ptr 0 0 ∧ h = (srcOf code).h 0) := by
 refine con_of2 k_c_l00Source_fits rfl fun C hP hmv => ?_
 unfold k_c_l00Source
 refine cx_seq ?_
 refine cx_ops ?_
 refine ax_q (q_mov rfl) ?_
 refine ax_nil ?_
 refine cx_keep rfl rfl ?_
 refine cx_seq ?_
 refine cx_ops ?_
 refine ax_q (q_mov rfl) ?_
 refine ax_q (q_mov rfl) ?_
 first | refine ax_q (q_lenS_map rfl) ?_ | refine ax_q (q_lenS_osl rfl) ?_ | refine ax_q (q_lenS_zs rfl) ?_ | refine ax_q (q_lenS rfl) ?_
 refine ax_q (q_mod rfl rfl (by omega) (by omega)) ?_
 refine ax_q (q_build rfl) ?_
 refine ax_e (e_box rfl rfl (by decide) rfl rfl rfl) ?_
 refine ax_q (q_mov rfl) ?_
 refine ax_nil ?_
 refine cx_keep rfl rfl ?_
 refine cx_ret (retN (fun _ => 0) [8] rfl rfl rfl rfl rfl ?_)
 exact ⟨rfl, rfl⟩


/- loop.example/g00332/spec.l09At -/
def k_c_l09At : XCode :=
 .seq (.ops [.op (some 4) (.mov (.k (.int .i64 0)))])
 (.keep [0, 1] (.seq (.ops [.op (some 5) (.mov (.k (.int .i64 0)))])
 (.keep [0, 1, 5] (.seq (.block 0 (.loop (.seq (.seq (.ops [.op (some 6) (.mov (.t 5)),
     .op (some 7) (.mov (.t 0)),
     .op (some 8) (.lenS (.t 7)),
     .op (some 9) (.bin .lss (.t 6) (.t 8)),
     .op (some 10) (.mov (.t 9)),
     .andor 17 true 4 10 [.op (some 11) (.mov (.t 0)), .op (some 12) (.mov (.t 5)), .op (some 13) (.iadr 1 (.t 11) (.t 12)), .op (some 14) (.load1 (.t 13)), .op (some 15) (.mov (.t 1)), .op (some 16) (.bin .lss (.t 14) (.t 15))] (.t 16)])
   (.keep [0, 1, 5, 17] (.cond (.t 17)
    (.skip)
    (.exit 0))))
   (.keep [0, 1, 5] (.block 1 (.ops [.op (some 18) (.mov (.t 5)),
    .op (some 19) (.bin .add (.t 18) (.k (.int .i64 1))),
    .op (some 5) (.mov (.t 19))]))))))
 (.keep [5] (.seq (.ops [.op (some 20) (.mov (.t 5)),
   .op (some 4) (.mov (.t 20))])
 (.keep [4] (.ret))))))))
theorem k_c_l09At_fits : fitsF Try.prog 28 ⟨21, k_c_l09At, [.t 4]⟩ = true := by kernel_rfl
theorem c_l09At {xs : List Str} {key : Str} (ha : Asc xs) (hl : xs.length ≤ 1000000) : Con Try.prog noMv 28 [.d (.sl 1 (xs.map strRow)), str key] [] (fun r h => r = int (posS xs key : Nat) ∧ h = []) := by
 refine con_of2 k_c_l09At_fits rfl fun C hP hmv => ?_
 unfold k_c_l09At
 refine cx_seq ?_
 refine cx_ops ?_
 refine ax_q (q_mov rfl) ?_
 refine ax_nil ?_
 refine cx_keep rfl rfl ?_
 refine cx_seq ?_
 refine cx_ops ?_
 refine ax_q (q_mov rfl) ?_
 refine ax_nil ?_
 refine cx_keep rfl rfl ?_
 refine cx_seq ?_
 refine cx_block ?_
 refine cx_loopU (fun n k => k ≤ xs.length ∧ n = xs.length - k ∧ ∀ j (h : j < xs.length), j < k → Op.bytesLess xs[j] key = true) (fun k : Nat => [(5, int k)]) (fun _ => []) ⟨_, 0, ⟨Nat.zero_le _, rfl, fun j h hj => by omega⟩, by repeat (first | exact trivial | refine ⟨rfl, ?_⟩ | refine ⟨?_, ?_⟩)⟩ ?_
 rintro n k ⟨hk, rfl, ht⟩
 refine cx_seq ?_
 refine cx_seq ?_
 refine cx_ops ?_
 refine ax_q (q_mov rfl) ?_
 refine ax_q (q_mov rfl) ?_
 first | refine ax_q (q_lenS_map rfl) ?_ | refine ax_q (q_lenS_osl rfl) ?_ | refine ax_q (q_lenS_zs rfl) ?_ | refine ax_q (q_lenS rfl) ?_
 refine ax_q (q_ibin rfl rfl rfl) ?_
 refine ax_q (q_mov rfl) ?_
 apply ax_and rfl rfl
 ·
  intro g
  have g := dT g
  refine ax_q (q_mov rfl) ?_
  refine ax_q (q_mov rfl) ?_
  refine ax_q (q_ix (row := strRow (xs.getD k [])) rfl rfl (strD (by omega))) ?_
  first | refine ax_q (q_load1_ptr rfl rfl rfl) ?_ | refine ax_q (q_load1_ip rfl) ?_ | refine ax_q (q_load1_rptr rfl rfl rfl rfl) ?_ | refine ax_q (q_load1_rptr rfl rfl (by assumption) rfl) ?_ | refine ax_q (q_load1_rptr rfl rfl (mapAt (by first | assumption | omega)) rfl) ?_
  refine ax_q (q_mov rfl) ?_
  refine ax_q (q_sbin rfl rfl rfl) ?_
  exact ax_nil ⟨rfl, by repeat (first | exact trivial | refine ⟨rfl, ?_⟩ | refine ⟨?_, ?_⟩)⟩
 refine ax_nil ?_
 refine cx_keep rfl rfl ?_
 refine cx_cond rfl (fun h0 => ?_) (fun h0 => ?_)
 ·
  rw [Bool.and_eq_true] at h0
  have h0x : k < xs.length := by have := of_decide_eq_true h0.1; omega
  have hx0 : Op.bytesLess xs[k] key = true := by have h := h0.2; rw [show xs.getD k [] = xs[k] from by simp [h0x]] at h; exact h
  refine cx_skip ?_
  refine cx_keep rfl rfl ?_
  refine cx_block ?_
  refine cx_ops ?_
  refine ax_q (q_mov rfl) ?_
  refine ax_qe (r' := int ((k + 1 : Nat) : Int)) (q_ibin rfl rfl rfl) (by rw [wi (by omega) (by omega)]; rfl) ?_
  refine ax_q (q_mov rfl) ?_
  refine ax_nil ?_
  exact ⟨_, k + 1, by omega, ⟨by omega, rfl, fun j h hj => by
   rcases Nat.lt_or_ge j k with h1 | h1
   ·
    exact ht j h h1
   ·
    obtain rfl : j = k := by omega
    exact hx0⟩, by repeat (first | exact trivial | refine ⟨rfl, ?_⟩ | refine ⟨?_, ?_⟩)⟩
 ·
  have e : k = posS xs key := posS_of ha hk (fun j h hj => ht j h hj) (fun h => by
   rw [Bool.and_eq_false_iff] at h0
   rcases h0 with h0 | h0
   ·
    exact absurd (show (k : Int) < (xs.length : Int) by omega) (of_decide_eq_false h0)
   ·
    rw [show xs.getD k [] = xs[k] from by simp [h]] at h0; exact h0)
  subst e
  refine cx_exit rfl ?_
  refine cx_keep rfl rfl ?_
  refine cx_seq ?_
  refine cx_ops ?_
  refine ax_q (q_mov rfl) ?_
  refine ax_q (q_mov rfl) ?_
  refine ax_nil ?_
  refine cx_keep rfl rfl ?_
  refine cx_ret (ret0 rfl rfl ?_)
  exact ⟨rfl, rfl⟩


/- (ptr loop.example/g00332/spec.l00Src).byte -/
def k_c_byte : XCode :=
 .seq (.ops [.op (some 2) (.mov (.k (.int .i64 0)))])
 (.keep [0] (.seq (.ops [.op (some 3) (.mov (.t 0)),
   .op (some 4) (.nilck (.t 3)),
   .op (some 5) (.fadr (.t 4) 1),
   .op (some 6) (.load1 (.t 5)),
   .op (some 7) (.bin .add (.t 6) (.k (.int .i64 1))),
   .op (some 8) (.nilck (.t 3)),
   .op (some 9) (.fadr (.t 8) 1),
   .op none (.store 1 (.t 9) (.t 7))])
 (.keep [0] (.seq (.seq (.draw [.op (some 10) (.mov (.t 0)),
   .op (some 11) (.nilck (.t 10)),
   .op (some 12) (.fadr (.t 11) 1),
   .op (some 13) (.load1 (.t 12)),
   .op (some 14) (.mov (.t 0)),
   .op (some 15) (.nilck (.t 14)),
   .op (some 16) (.fadr (.t 15) 0),
   .op (some 17) (.load1 (.t 16)),
   .op (some 18) (.lenS (.t 17)),
   .op (some 19) (.bin .leq (.t 13) (.t 18))])
  (.keep [0, 19] (.cond (.t 19)
  (.seq (.drawE [[], [], [1], [1, 2], [1, 2, 3], [1, 2, 3, 4], [], [6], [6, 7], [6, 7, 8], [], [10], [10, 11], [10, 11, 12], [10, 11, 12, 13], [6, 7, 8, 9, 10, 11, 12, 13, 14], [6, 7, 8, 9, 10, 11, 12, 13, 14, 15], [6, 7, 8, 9, 10, 11, 12, 13, 14, 15, 16], [1, 2, 3, 4, 5, 6, 7, 8, 9, 10, 11, 12, 13, 14, 15, 16, 17], [1, 2, 3, 4, 5, 6, 7, 8, 9, 10, 11, 12, 13, 14, 15, 16, 17, 18], [1, 2, 3, 4, 5, 6, 7, 8, 9, 10, 11, 12, 13, 14, 15, 16, 17, 18, 19], [0, 1, 2, 3, 4, 5, 6, 7, 8, 9, 10, 11, 12, 13, 14, 15, 16, 17, 18, 19, 20], [0, 1, 2, 3, 4, 5, 6, 7, 8, 9, 10, 11, 12, 13, 14, 15, 16, 17, 18, 19, 20, 21], [0, 1, 2, 3, 4, 5, 6, 7, 8, 9, 10, 11, 12, 13, 14, 15, 16, 17, 18, 19, 20, 21, 22]] [.op (some 20) (.mov (.t 0)),
    .op (some 21) (.mov (.t 0)),
    .op (some 22) (.nilck (.t 21)),
    .op (some 23) (.fadr (.t 22) 2),
    .op (some 24) (.load1 (.t 23)),
    .op (some 25) (.bin .mul (.t 24) (.k (.int .i64 31))),
    .op (some 26) (.mov (.t 0)),
    .op (some 27) (.nilck (.t 26)),
    .op (some 28) (.fadr (.t 27) 0),
    .op (some 29) (.load1 (.t 28)),
    .op (some 30) (.mov (.t 0)),
    .op (some 31) (.nilck (.t 30)),
    .op (some 32) (.fadr (.t 31) 1),
    .op (some 33) (.load1 (.t 32)),
    .op (some 34) (.bin .sub (.t 33) (.k (.int .i64 1))),
    .op (some 35) (.iadr 1 (.t 29) (.t 34)),
    .op (some 36) (.load1 (.t 35)),
    .op (some 37) (.conv .i64 (.t 36)),
    .op (some 38) (.bin .add (.t 25) (.t 37)),
    .op (some 39) (.bin .add (.t 38) (.k (.int .i64 7))),
    .op (some 40) (.bin .rem (.t 39) (.k (.int .i64 2147483648)))]
    [.op (some 41) (.nilck (.t 20)),
    .op (some 42) (.fadr (.t 41) 2),
    .op none (.store 1 (.t 42) (.t 40))])
   (.keep [0] (.seq (.draw [.op (some 43) (.mov (.t 0)),
    .op (some 44) (.nilck (.t 43)),
    .op (some 45) (.fadr (.t 44) 0),
    .op (some 46) (.load1 (.t 45)),
    .op (some 47) (.mov (.t 0)),
    .op (some 48) (.nilck (.t 47)),
    .op (some 49) (.fadr (.t 48) 1),
    .op (some 50) (.load1 (.t 49)),
    .op (some 51) (.bin .sub (.t 50) (.k (.int .i64 1))),
    .op (some 52) (.iadr 1 (.t 46) (.t 51)),
    .op (some 53) (.load1 (.t 52)),
    .op (some 54) (.conv .i64 (.t 53)),
    .op (some 2) (.mov (.t 54))])
   (.keep [2] (.ret)))))
  (.skip))))
 (.keep [0] (.seq (.seq (.ops [.op (some 55) (.mov (.t 0)),
   .op (some 56) (.nilck (.t 55)),
   .op (some 57) (.fadr (.t 56) 1),
   .op (some 58) (.load1 (.t 57)),
   .op (some 59) (.bin .gtr (.t 58) (.k (.int .i64 3000)))])
  (.keep [0, 59] (.cond (.t 59)
  (.seq (.ops [.op (some 2) (.mov (.k (.int .i64 0)))])
   (.keep [2] (.ret)))
  (.skip))))
 (.keep [0] (.seq (.ops [.op (some 60) (.mov (.t 0)),
   .op (some 61) (.mov (.t 0)),
   .op (some 62) (.nilck (.t 61)),
   .op (some 63) (.fadr (.t 62) 2),
   .op (some 64) (.load1 (.t 63)),
   .op (some 65) (.bin .mul (.t 64) (.k (.int .i64 1103515245))),
   .op (some 66) (.bin .add (.t 65) (.k (.int .i64 12345))),
   .op (some 67) (.bin .rem (.t 66) (.k (.int .i64 2147483648))),
   .op (some 68) (.nilck (.t 60)),
   .op (some 69) (.fadr (.t 68) 2),
   .op none (.store 1 (.t 69) (.t 67))])
 (.keep [0] (.seq (.ops [.op (some 70) (.mov (.t 0)),
   .op (some 71) (.nilck (.t 70)),
   .op (some 72) (.fadr (.t 71) 2),
   .op (some 73) (.load1 (.t 72)),
   .op (some 74) (.bin .quo (.t 73) (.k (.int .i64 65536))),
   .op (some 75) (.bin .rem (.t 74) (.k (.int .i64 256))),
   .op (some 2) (.mov (.t 75))])
 (.keep [2] (.ret))))))))))))
theorem k_c_byte_fits : fitsF Try.prog 49 ⟨76, k_c_byte, [.t 2]⟩ = true := by kernel_rfl
set_option maxHeartbeats 2000000 in
theorem c_byte {s : Src} {n : Nat} (hs : s.ok (n + 1)) : Con Try.prog noMv 49 [.ptr 1000 0] (s.h 1000) (fun r h => r = int (byteF s).1 ∧ h = ((byteF s).2).h 1000) := by
 refine con_of2 k_c_byte_fits rfl fun C hP hmv => ?_
 unfold k_c_byte
 have hp := hs.pos; have hd := hs.seed; have hl := hs.len
 refine cx_seq ?_
 refine cx_ops ?_
 refine ax_q (q_mov rfl) ?_
 refine ax_nil ?_
 refine cx_keep rfl rfl ?_
 refine cx_seq ?_
 refine cx_ops ?_
 refine ax_q (q_mov rfl) ?_
 first | refine ax_q (q_nilck_ptr rfl) ?_ | refine ax_q (q_nilck_rptr rfl) ?_ | refine ax_q (q_nilck_ip rfl) ?_
 first | refine ax_q (q_fadr_ptr rfl) ?_ | refine ax_q (q_fadr_rptr rfl) ?_ | refine ax_q (q_fadr_ip rfl) ?_
 first | refine ax_q (q_load1_ptr rfl rfl rfl) ?_ | refine ax_q (q_load1_ip rfl) ?_ | refine ax_q (q_load1_rptr rfl rfl rfl rfl) ?_ | refine ax_q (q_load1_rptr rfl rfl (by assumption) rfl) ?_ | refine ax_q (q_load1_rptr rfl rfl (mapAt (by first | assumption | omega)) rfl) ?_
 refine ax_q (q_add rfl rfl (by omega)) ?_
 first | refine ax_q (q_nilck_ptr rfl) ?_ | refine ax_q (q_nilck_rptr rfl) ?_ | refine ax_q (q_nilck_ip rfl) ?_
 first | refine ax_q (q_fadr_ptr rfl) ?_ | refine ax_q (q_fadr_rptr rfl) ?_ | refine ax_q (q_fadr_ip rfl) ?_
 refine ax_e (e_st rfl rfl rfl rfl rfl rfl rfl) ?_
 refine ax_nil ?_
 refine cx_keep rfl rfl ?_
 refine cx_seq ?_
 refine cx_seq ?_
 refine cx_draw ?_
 refine ax_q (q_mov rfl) ?_
 first | refine ax_q (q_nilck_ptr rfl) ?_ | refine ax_q (q_nilck_rptr rfl) ?_ | refine ax_q (q_nilck_ip rfl) ?_
 first | refine ax_q (q_fadr_ptr rfl) ?_ | refine ax_q (q_fadr_rptr rfl) ?_ | refine ax_q (q_fadr_ip rfl) ?_
 first | refine ax_q (q_load1_ptr rfl rfl rfl) ?_ | refine ax_q (q_load1_ip rfl) ?_ | refine ax_q (q_load1_rptr rfl rfl rfl rfl) ?_ | refine ax_q (q_load1_rptr rfl rfl (by assumption) rfl) ?_ | refine ax_q (q_load1_rptr rfl rfl (mapAt (by first | assumption | omega)) rfl) ?_
 refine ax_q (q_mov rfl) ?_
 first | refine ax_q (q_nilck_ptr rfl) ?_ | refine ax_q (q_nilck_rptr rfl) ?_ | refine ax_q (q_nilck_ip rfl) ?_
 first | refine ax_q (q_fadr_ptr rfl) ?_ | refine ax_q (q_fadr_rptr rfl) ?_ | refine ax_q (q_fadr_ip rfl) ?_
 first | refine ax_q (q_load1_ptr rfl rfl rfl) ?_ | refine ax_q (q_load1_ip rfl) ?_ | refine ax_q (q_load1_rptr rfl rfl rfl rfl) ?_ | refine ax_q (q_load1_rptr rfl rfl (by assumption) rfl) ?_ | refine ax_q (q_load1_rptr rfl rfl (mapAt (by first | assumption | omega)) rfl) ?_
 first | refine ax_q (q_lenS_map rfl) ?_ | refine ax_q (q_lenS_osl rfl) ?_ | refine ax_q (q_lenS_zs rfl) ?_ | refine ax_q (q_lenS rfl) ?_
 refine ax_q (q_ibin rfl rfl rfl) ?_
 refine ax_nil ?_
 refine cx_keep rfl rfl ?_
 refine cx_cond rfl (fun h0 => ?_) (fun h0 => ?_)
 ·
  have h0 := dT h0
  have hi : (s.pos + 1 - 1).toNat < s.code.length := by omega
  have hb := (s.code[(s.pos + 1 - 1).toNat]).toNat_lt
  have hg : s.code.getD s.pos.toNat 0 = s.code[(s.pos + 1 - 1).toNat] := by
   rw [← getD_at hi]; congr 2; omega
  refine cx_seq ?_
  refine cx_drawL 0 20 (fun _ => false) (fun _ => true) [] ([]) [[0], [0], [21], [22], [23], [24], [0], [26], [27], [28], [0], [30], [31], [32], [33], [29, 34], [35], [36], [25, 37], [38], [39]] [[], [], [], [], [], [], [], [], [], [], [], [], [], [], [], [], [], [], [], [], []] rfl ?_
  first | refine ⟨⟨20, _, []⟩, .inl ⟨rfl, rfl, rfl, locl_of (loc_q (q_mov rfl))⟩, ?_⟩
  first | refine ⟨_, .inr ⟨rfl, _, rfl, .inr ⟨rfl, rfl, .inr rfl, rfl, rfl⟩, loc_q (q_mov rfl)⟩, ?_⟩
  first | refine ⟨_, .inr ⟨rfl, _, rfl, .inr ⟨rfl, rfl, .inr rfl, rfl, rfl⟩, loc_q (q_nilck_ptr rfl)⟩, ?_⟩ | refine ⟨_, .inr ⟨rfl, _, rfl, .inr ⟨rfl, rfl, .inr rfl, rfl, rfl⟩, loc_q (q_nilck_rptr rfl)⟩, ?_⟩ | refine ⟨_, .inr ⟨rfl, _, rfl, .inr ⟨rfl, rfl, .inr rfl, rfl, rfl⟩, loc_q (q_nilck_ip rfl)⟩, ?_⟩
  first | refine ⟨_, .inr ⟨rfl, _, rfl, .inr ⟨rfl, rfl, .inr rfl, rfl, rfl⟩, loc_q (q_fadr_ptr rfl)⟩, ?_⟩ | refine ⟨_, .inr ⟨rfl, _, rfl, .inr ⟨rfl, rfl, .inr rfl, rfl, rfl⟩, loc_q (q_fadr_rptr rfl)⟩, ?_⟩ | refine ⟨_, .inr ⟨rfl, _, rfl, .inr ⟨rfl, rfl, .inr rfl, rfl, rfl⟩, loc_q (q_fadr_ip rfl)⟩, ?_⟩
  first | refine ⟨_, .inr ⟨rfl, _, rfl, .inr ⟨rfl, rfl, .inr rfl, rfl, rfl⟩, loc_q (q_load1_ptr rfl rfl rfl)⟩, ?_⟩ | refine ⟨_, .inr ⟨rfl, _, rfl, .inr ⟨rfl, rfl, .inr rfl, rfl, rfl⟩, loc_q (q_load1_ip rfl)⟩, ?_⟩ | refine ⟨_, .inr ⟨rfl, _, rfl, .inr ⟨rfl, rfl, .inr rfl, rfl, rfl⟩, loc_q (q_load1_rptr rfl rfl rfl rfl)⟩, ?_⟩ | refine ⟨_, .inr ⟨rfl, _, rfl, .inr ⟨rfl, rfl, .inr rfl, rfl, rfl⟩, loc_q (q_load1_rptr rfl rfl (by assumption) rfl)⟩, ?_⟩ | refine ⟨_, .inr ⟨rfl, _, rfl, .inr ⟨rfl, rfl, .inr rfl, rfl, rfl⟩, loc_q (q_load1_rptr rfl rfl (mapAt (by first | assumption | omega)) rfl)⟩, ?_⟩
  first | refine ⟨_, .inr ⟨rfl, _, rfl, .inr ⟨rfl, rfl, .inr rfl, rfl, rfl⟩, loc_q (q_mul rfl rfl (by omega))⟩, ?_⟩
  first | refine ⟨_, .inr ⟨rfl, _, rfl, .inr ⟨rfl, rfl, .inr rfl, rfl, rfl⟩, loc_q (q_mov rfl)⟩, ?_⟩
  first | refine ⟨_, .inr ⟨rfl, _, rfl, .inr ⟨rfl, rfl, .inr rfl, rfl, rfl⟩, loc_q (q_nilck_ptr rfl)⟩, ?_⟩ | refine ⟨_, .inr ⟨rfl, _, rfl, .inr ⟨rfl, rfl, .inr rfl, rfl, rfl⟩, loc_q (q_nilck_rptr rfl)⟩, ?_⟩ | refine ⟨_, .inr ⟨rfl, _, rfl, .inr ⟨rfl, rfl, .inr rfl, rfl, rfl⟩, loc_q (q_nilck_ip rfl)⟩, ?_⟩
  first | refine ⟨_, .inr ⟨rfl, _, rfl, .inr ⟨rfl, rfl, .inr rfl, rfl, rfl⟩, loc_q (q_fadr_ptr rfl)⟩, ?_⟩ | refine ⟨_, .inr ⟨rfl, _, rfl, .inr ⟨rfl, rfl, .inr rfl, rfl, rfl⟩, loc_q (q_fadr_rptr rfl)⟩, ?_⟩ | refine ⟨_, .inr ⟨rfl, _, rfl, .inr ⟨rfl, rfl, .inr rfl, rfl, rfl⟩, loc_q (q_fadr_ip rfl)⟩, ?_⟩
  first | refine ⟨_, .inr ⟨rfl, _, rfl, .inr ⟨rfl, rfl, .inr rfl, rfl, rfl⟩, loc_q (q_load1_ptr rfl rfl rfl)⟩, ?_⟩ | refine ⟨_, .inr ⟨rfl, _, rfl, .inr ⟨rfl, rfl, .inr rfl, rfl, rfl⟩, loc_q (q_load1_ip rfl)⟩, ?_⟩ | refine ⟨_, .inr ⟨rfl, _, rfl, .inr ⟨rfl, rfl, .inr rfl, rfl, rfl⟩, loc_q (q_load1_rptr rfl rfl rfl rfl)⟩, ?_⟩ | refine ⟨_, .inr ⟨rfl, _, rfl, .inr ⟨rfl, rfl, .inr rfl, rfl, rfl⟩, loc_q (q_load1_rptr rfl rfl (by assumption) rfl)⟩, ?_⟩ | refine ⟨_, .inr ⟨rfl, _, rfl, .inr ⟨rfl, rfl, .inr rfl, rfl, rfl⟩, loc_q (q_load1_rptr rfl rfl (mapAt (by first | assumption | omega)) rfl)⟩, ?_⟩
  first | refine ⟨_, .inr ⟨rfl, _, rfl, .inr ⟨rfl, rfl, .inr rfl, rfl, rfl⟩, loc_q (q_mov rfl)⟩, ?_⟩
  first | refine ⟨_, .inr ⟨rfl, _, rfl, .inr ⟨rfl, rfl, .inr rfl, rfl, rfl⟩, loc_q (q_nilck_ptr rfl)⟩, ?_⟩ | refine ⟨_, .inr ⟨rfl, _, rfl, .inr ⟨rfl, rfl, .inr rfl, rfl, rfl⟩, loc_q (q_nilck_rptr rfl)⟩, ?_⟩ | refine ⟨_, .inr ⟨rfl, _, rfl, .inr ⟨rfl, rfl, .inr rfl, rfl, rfl⟩, loc_q (q_nilck_ip rfl)⟩, ?_⟩
  first | refine ⟨_, .inr ⟨rfl, _, rfl, .inr ⟨rfl, rfl, .inr rfl, rfl, rfl⟩, loc_q (q_fadr_ptr rfl)⟩, ?_⟩ | refine ⟨_, .inr ⟨rfl, _, rfl, .inr ⟨rfl, rfl, .inr rfl, rfl, rfl⟩, loc_q (q_fadr_rptr rfl)⟩, ?_⟩ | refine ⟨_, .inr ⟨rfl, _, rfl, .inr ⟨rfl, rfl, .inr rfl, rfl, rfl⟩, loc_q (q_fadr_ip rfl)⟩, ?_⟩
  first | refine ⟨_, .inr ⟨rfl, _, rfl, .inr ⟨rfl, rfl, .inr rfl, rfl, rfl⟩, loc_q (q_load1_ptr rfl rfl rfl)⟩, ?_⟩ | refine ⟨_, .inr ⟨rfl, _, rfl, .inr ⟨rfl, rfl, .inr rfl, rfl, rfl⟩, loc_q (q_load1_ip rfl)⟩, ?_⟩ | refine ⟨_, .inr ⟨rfl, _, rfl, .inr ⟨rfl, rfl, .inr rfl, rfl, rfl⟩, loc_q (q_load1_rptr rfl rfl rfl rfl)⟩, ?_⟩ | refine ⟨_, .inr ⟨rfl, _, rfl, .inr ⟨rfl, rfl, .inr rfl, rfl, rfl⟩, loc_q (q_load1_rptr rfl rfl (by assumption) rfl)⟩, ?_⟩ | refine ⟨_, .inr ⟨rfl, _, rfl, .inr ⟨rfl, rfl, .inr rfl, rfl, rfl⟩, loc_q (q_load1_rptr rfl rfl (mapAt (by first | assumption | omega)) rfl)⟩, ?_⟩
  first | refine ⟨_, .inr ⟨rfl, _, rfl, .inr ⟨rfl, rfl, .inr rfl, rfl, rfl⟩, loc_q (q_sub rfl rfl (by omega))⟩, ?_⟩
  first | refine ⟨_, .inr ⟨rfl, _, rfl, .inr ⟨rfl, rfl, .inr rfl, rfl, rfl⟩, loc_q (q_ixI rfl rfl (by omega) (mapAt hi))⟩, ?_⟩
  first | refine ⟨_, .inr ⟨rfl, _, rfl, .inr ⟨rfl, rfl, .inr rfl, rfl, rfl⟩, loc_q (q_load1_ptr rfl rfl rfl)⟩, ?_⟩ | refine ⟨_, .inr ⟨rfl, _, rfl, .inr ⟨rfl, rfl, .inr rfl, rfl, rfl⟩, loc_q (q_load1_ip rfl)⟩, ?_⟩ | refine ⟨_, .inr ⟨rfl, _, rfl, .inr ⟨rfl, rfl, .inr rfl, rfl, rfl⟩, loc_q (q_load1_rptr rfl rfl rfl rfl)⟩, ?_⟩ | refine ⟨_, .inr ⟨rfl, _, rfl, .inr ⟨rfl, rfl, .inr rfl, rfl, rfl⟩, loc_q (q_load1_rptr rfl rfl (by assumption) rfl)⟩, ?_⟩ | refine ⟨_, .inr ⟨rfl, _, rfl, .inr ⟨rfl, rfl, .inr rfl, rfl, rfl⟩, loc_q (q_load1_rptr rfl rfl (mapAt (by first | assumption | omega)) rfl)⟩, ?_⟩
  first | refine ⟨_, .inr ⟨rfl, _, rfl, .inr ⟨rfl, rfl, .inr rfl, rfl, rfl⟩, loc_q (q_convB rfl)⟩, ?_⟩ | refine ⟨_, .inr ⟨rfl, _, rfl, .inr ⟨rfl, rfl, .inr rfl, rfl, rfl⟩, loc_q (q_convI rfl (by omega))⟩, ?_⟩ | refine ⟨_, .inr ⟨rfl, _, rfl, .inr ⟨rfl, rfl, .inr rfl, rfl, rfl⟩, loc_q (q_convU8 rfl)⟩, ?_⟩ | refine ⟨_, .inr ⟨rfl, _, rfl, .inr ⟨rfl, rfl, .inr rfl, rfl, rfl⟩, loc_q (q_conv rfl)⟩, ?_⟩
  first | refine ⟨_, .inr ⟨rfl, _, rfl, .inr ⟨rfl, rfl, .inr rfl, rfl, rfl⟩, loc_q (q_add rfl rfl (by omega))⟩, ?_⟩
  first | refine ⟨_, .inr ⟨rfl, _, rfl, .inr ⟨rfl, rfl, .inr rfl, rfl, rfl⟩, loc_q (q_add rfl rfl (by omega))⟩, ?_⟩
  first | refine ⟨_, .inr ⟨rfl, _, rfl, .inr ⟨rfl, rfl, .inr rfl, rfl, rfl⟩, loc_q (q_mod rfl rfl (by omega) (by omega))⟩, ?_⟩
  refine ⟨rfl, ?_⟩
  first | refine ax_q (q_nilck_ptr rfl) ?_ | refine ax_q (q_nilck_rptr rfl) ?_ | refine ax_q (q_nilck_ip rfl) ?_
  first | refine ax_q (q_fadr_ptr rfl) ?_ | refine ax_q (q_fadr_rptr rfl) ?_ | refine ax_q (q_fadr_ip rfl) ?_
  refine ax_e (e_st rfl rfl rfl rfl rfl rfl rfl) ?_
  refine ax_nil ?_
  refine cx_keep rfl rfl ?_
  refine cx_seq ?_
  refine cx_draw ?_
  refine ax_q (q_mov rfl) ?_
  first | refine ax_q (q_nilck_ptr rfl) ?_ | refine ax_q (q_nilck_rptr rfl) ?_ | refine ax_q (q_nilck_ip rfl) ?_
  first | refine ax_q (q_fadr_ptr rfl) ?_ | refine ax_q (q_fadr_rptr rfl) ?_ | refine ax_q (q_fadr_ip rfl) ?_
  first | refine ax_q (q_load1_ptr rfl rfl rfl) ?_ | refine ax_q (q_load1_ip rfl) ?_ | refine ax_q (q_load1_rptr rfl rfl rfl rfl) ?_ | refine ax_q (q_load1_rptr rfl rfl (by assumption) rfl) ?_ | refine ax_q (q_load1_rptr rfl rfl (mapAt (by first | assumption | omega)) rfl) ?_
  refine ax_q (q_mov rfl) ?_
  first | refine ax_q (q_nilck_ptr rfl) ?_ | refine ax_q (q_nilck_rptr rfl) ?_ | refine ax_q (q_nilck_ip rfl) ?_
  first | refine ax_q (q_fadr_ptr rfl) ?_ | refine ax_q (q_fadr_rptr rfl) ?_ | refine ax_q (q_fadr_ip rfl) ?_
  first | refine ax_q (q_load1_ptr rfl rfl rfl) ?_ | refine ax_q (q_load1_ip rfl) ?_ | refine ax_q (q_load1_rptr rfl rfl rfl rfl) ?_ | refine ax_q (q_load1_rptr rfl rfl (by assumption) rfl) ?_ | refine ax_q (q_load1_rptr rfl rfl (mapAt (by first | assumption | omega)) rfl) ?_
  refine ax_q (q_sub rfl rfl (by omega)) ?_
  refine ax_q (q_ixI rfl rfl (by omega) (mapAt hi)) ?_
  first | refine ax_q (q_load1_ptr rfl rfl rfl) ?_ | refine ax_q (q_load1_ip rfl) ?_ | refine ax_q (q_load1_rptr rfl rfl rfl rfl) ?_ | refine ax_q (q_load1_rptr rfl rfl (by assumption) rfl) ?_ | refine ax_q (q_load1_rptr rfl rfl (mapAt (by first | assumption | omega)) rfl) ?_
  first | refine ax_q (q_convB rfl) ?_ | refine ax_q (q_convI rfl (by omega)) ?_ | refine ax_q (q_convU8 rfl) ?_ | refine ax_q (q_conv rfl) ?_
  refine ax_q (q_mov rfl) ?_
  refine ax_nil ?_
  refine cx_keep rfl rfl ?_
  refine cx_ret (retN id [1000] rfl rfl rfl rfl rfl ?_)
  rw [byteF_1 h0, hg]; exact ⟨rfl, rfl⟩
 ·
  have h0 := dF h0
  refine cx_skip ?_
  refine cx_keep rfl rfl ?_
  refine cx_seq ?_
  refine cx_seq ?_
  refine cx_ops ?_
  refine ax_q (q_mov rfl) ?_
  first | refine ax_q (q_nilck_ptr rfl) ?_ | refine ax_q (q_nilck_rptr rfl) ?_ | refine ax_q (q_nilck_ip rfl) ?_
  first | refine ax_q (q_fadr_ptr rfl) ?_ | refine ax_q (q_fadr_rptr rfl) ?_ | refine ax_q (q_fadr_ip rfl) ?_
  first | refine ax_q (q_load1_ptr rfl rfl rfl) ?_ | refine ax_q (q_load1_ip rfl) ?_ | refine ax_q (q_load1_rptr rfl rfl rfl rfl) ?_ | refine ax_q (q_load1_rptr rfl rfl (by assumption) rfl) ?_ | refine ax_q (q_load1_rptr rfl rfl (mapAt (by first | assumption | omega)) rfl) ?_
  refine ax_q (q_ibin rfl rfl rfl) ?_
  refine ax_nil ?_
  refine cx_keep rfl rfl ?_
  refine cx_cond rfl (fun h1 => ?_) (fun h1 => ?_)
  ·
   have h1 := dT h1
   refine cx_seq ?_
   refine cx_ops ?_
   refine ax_q (q_mov rfl) ?_
   refine ax_nil ?_
   refine cx_keep rfl rfl ?_
   refine cx_ret (retN id [1000] rfl rfl rfl rfl rfl ?_)
   rw [byteF_2 h0 h1]; exact ⟨rfl, rfl⟩
  ·
   have h1 := dF h1
   refine cx_skip ?_
   refine cx_keep rfl rfl ?_
   refine cx_seq ?_
   refine cx_ops ?_
   refine ax_q (q_mov rfl) ?_
   refine ax_q (q_mov rfl) ?_
   first | refine ax_q (q_nilck_ptr rfl) ?_ | refine ax_q (q_nilck_rptr rfl) ?_ | refine ax_q (q_nilck_ip rfl) ?_
   first | refine ax_q (q_fadr_ptr rfl) ?_ | refine ax_q (q_fadr_rptr rfl) ?_ | refine ax_q (q_fadr_ip rfl) ?_
   first | refine ax_q (q_load1_ptr rfl rfl rfl) ?_ | refine ax_q (q_load1_ip rfl) ?_ | refine ax_q (q_load1_rptr rfl rfl rfl rfl) ?_ | refine ax_q (q_load1_rptr rfl rfl (by assumption) rfl) ?_ | refine ax_q (q_load1_rptr rfl rfl (mapAt (by first | assumption | omega)) rfl) ?_
   refine ax_q (q_mul rfl rfl (by omega)) ?_
   refine ax_q (q_add rfl rfl (by omega)) ?_
   refine ax_q (q_mod rfl rfl (by omega) (by omega)) ?_
   first | refine ax_q (q_nilck_ptr rfl) ?_ | refine ax_q (q_nilck_rptr rfl) ?_ | refine ax_q (q_nilck_ip rfl) ?_
   first | refine ax_q (q_fadr_ptr rfl) ?_ | refine ax_q (q_fadr_rptr rfl) ?_ | refine ax_q (q_fadr_ip rfl) ?_
   refine ax_e (e_st rfl rfl rfl rfl rfl rfl rfl) ?_
   refine ax_nil ?_
   refine cx_keep rfl rfl ?_
   refine cx_seq ?_
   refine cx_ops ?_
   refine ax_q (q_mov rfl) ?_
   first | refine ax_q (q_nilck_ptr rfl) ?_ | refine ax_q (q_nilck_rptr rfl) ?_ | refine ax_q (q_nilck_ip rfl) ?_
   first | refine ax_q (q_fadr_ptr rfl) ?_ | refine ax_q (q_fadr_rptr rfl) ?_ | refine ax_q (q_fadr_ip rfl) ?_
   first | refine ax_q (q_load1_ptr rfl rfl rfl) ?_ | refine ax_q (q_load1_ip rfl) ?_ | refine ax_q (q_load1_rptr rfl rfl rfl rfl) ?_ | refine ax_q (q_load1_rptr rfl rfl (by assumption) rfl) ?_ | refine ax_q (q_load1_rptr rfl rfl (mapAt (by first | assumption | omega)) rfl) ?_
   refine ax_q (q_div rfl rfl (by omega) (by omega) (by omega)) ?_
   refine ax_q (q_mod rfl rfl (by omega) (by omega)) ?_
   refine ax_q (q_mov rfl) ?_
   refine ax_nil ?_
   refine cx_keep rfl rfl ?_
   refine cx_ret (retN id [1000] rfl rfl rfl rfl rfl ?_)
   rw [byteF_3 h0 h1]; exact ⟨rfl, rfl⟩


/- (ptr loop.example/g00332/spec.l00Src).next -/
def k_c_next : XCode :=
 .seq (.ops [.op (some 4) (.mov (.k (.int .i64 0)))])
 (.keep [0, 1] (.seq (.seq (.ops [.op (some 8) (.mov (.t 1)),
   .op (some 9) (.bin .leq (.t 8) (.k (.int .i64 1)))])
  (.keep [0, 1, 9] (.cond (.t 9)
  (.seq (.ops [.op (some 4) (.mov (.k (.int .i64 0)))])
   (.keep [4] (.ret)))
  (.skip))))
 (.keep [0, 1] (.seq (.seq (.ops [.op (some 10) (.mov (.t 1)),
   .op (some 11) (.bin .leq (.t 10) (.k (.int .i64 256)))])
  (.keep [0, 1, 11] (.cond (.t 11)
  (.seq (.ops [.op (some 12) (.mov (.t 0)),
    .call (some 13) 49 [.t 12],
    .op (some 14) (.mov (.t 1)),
    .op (some 15) (.bin .rem (.t 13) (.t 14)),
    .op (some 4) (.mov (.t 15))])
   (.keep [4] (.ret)))
  (.skip))))
 (.keep [0, 1] (.seq (.ops [.op (some 16) (.mov (.t 0)),
   .call (some 17) 49 [.t 16],
   .op (some 5) (.mov (.t 17))])
 (.keep [0, 1, 5] (.seq (.ops [.op (some 18) (.mov (.t 0)),
   .call (some 19) 49 [.t 18],
   .op (some 6) (.mov (.t 19))])
 (.keep [0, 1, 5, 6] (.seq (.ops [.op (some 20) (.mov (.t 0)),
   .call (some 21) 49 [.t 20],
   .op (some 7) (.mov (.t 21))])
 (.keep [1, 5, 6, 7] (.seq (.ops [.op (some 22) (.mov (.t 5)),
   .op (some 23) (.bin .mul (.t 22) (.k (.int .i64 65536))),
   .op (some 24) (.mov (.t 6)),
   .op (some 25) (.bin .mul (.t 24) (.k (.int .i64 256))),
   .op (some 26) (.bin .add (.t 23) (.t 25)),
   .op (some 27) (.mov (.t 7)),
   .op (some 28) (.bin .add (.t 26) (.t 27)),
   .op (some 29) (.mov (.t 1)),
   .op (some 30) (.bin .rem (.t 28) (.t 29)),
   .op (some 4) (.mov (.t 30))])
 (.keep [4] (.ret))))))))))))))
theorem k_c_next_fits : fitsF Try.prog 30 ⟨31, k_c_next, [.t 4]⟩ = true := by kernel_rfl
theorem c_next {s : Src} {m : Int} {n : Nat} (hs : s.ok (n + 3)) : Con Try.prog noMv 30 [.ptr 1000 0, int m] (s.h 1000) (fun r h => r = int (nextF s m).1 ∧ h = ((nextF s m).2).h 1000) := by
 refine con_of2 k_c_next_fits rfl fun C hP hmv => ?_
 unfold k_c_next
 refine cx_seq ?_
 refine cx_ops ?_
 refine ax_q (q_mov rfl) ?_
 refine ax_nil ?_
 refine cx_keep rfl rfl ?_
 refine cx_seq ?_
 refine cx_seq ?_
 refine cx_ops ?_
 refine ax_q (q_mov rfl) ?_
 refine ax_q (q_ibin rfl rfl rfl) ?_
 refine ax_nil ?_
 refine cx_keep rfl rfl ?_
 refine cx_cond rfl (fun h0 => ?_) (fun h0 => ?_)
 ·
  have h0 := dT h0
  refine cx_seq ?_
  refine cx_ops ?_
  refine ax_q (q_mov rfl) ?_
  refine ax_nil ?_
  refine cx_keep rfl rfl ?_
  refine cx_ret (retN id [1000] rfl rfl rfl rfl rfl ?_)
  rw [nextF_1 h0]; exact ⟨rfl, rfl⟩
 ·
  have h0 := dF h0
  refine cx_skip ?_
  refine cx_keep rfl rfl ?_
  refine cx_seq ?_
  refine cx_seq ?_
  refine cx_ops ?_
  refine ax_q (q_mov rfl) ?_
  refine ax_q (q_ibin rfl rfl rfl) ?_
  refine ax_nil ?_
  refine cx_keep rfl rfl ?_
  refine cx_cond rfl (fun h1 => ?_) (fun h1 => ?_)
  ·
   have h1 := dT h1
   refine cx_seq ?_
   refine cx_ops ?_
   refine ax_q (q_mov rfl) ?_
   obtain ⟨k1, k2, k3⟩ := byteF_ok (n := n + 2) hs
   refine ax_call rfl (vcall_own (c_byte (n := n + 2) ?_) hP hmv false (fun _ => 1000) [1000] ⟨rfl, rfl, rfl, rfl, ⟨rfl, trivial⟩, rfl, rfl, rfl⟩ (.pass rfl rfl .nil) ?_)
   ·
    first | assumption | omega | (simp; done) | (simp; omega)
   rintro r h ⟨rfl, rfl⟩
   refine ⟨fun _ => 1000, [], ⟨rfl, rfl, rfl, rfl, mem1 rfl, rfl, rfl, fun h => absurd h Bool.false_ne_true⟩, ?_⟩
   refine ax_q (q_mov rfl) ?_
   refine ax_q (q_mod rfl rfl (by omega) (by omega)) ?_
   refine ax_q (q_mov rfl) ?_
   refine ax_nil ?_
   refine cx_keep rfl rfl ?_
   refine cx_ret (retN id [1000] rfl rfl rfl rfl rfl ?_)
   rw [nextF_2 h0 h1]; exact ⟨rfl, rfl⟩
  ·
   have h1 := dF h1
   refine cx_skip ?_
   refine cx_keep rfl rfl ?_
   refine cx_seq ?_
   refine cx_ops ?_
   refine ax_q (q_mov rfl) ?_
   obtain ⟨k1, k2, k3⟩ := byteF_ok (n := n + 2) hs
   obtain ⟨k4, k5, k6⟩ := byteF_ok (n := n + 1) k1
   obtain ⟨k7, k8, k9⟩ := byteF_ok (n := n) k4
   refine ax_call rfl (vcall_own (c_byte (n := n + 2) ?_) hP hmv false (fun _ => 1000) [1000] ⟨rfl, rfl, rfl, rfl, ⟨rfl, trivial⟩, rfl, rfl, rfl⟩ (.pass rfl rfl .nil) ?_)
   ·
    first | assumption | omega | (simp; done) | (simp; omega)
   rintro r h ⟨rfl, rfl⟩
   refine ⟨fun _ => 1000, [], ⟨rfl, rfl, rfl, rfl, mem1 rfl, rfl, rfl, fun h => absurd h Bool.false_ne_true⟩, ?_⟩
   refine ax_q (q_mov rfl) ?_
   refine ax_nil ?_
   refine cx_keep rfl rfl ?_
   refine cx_seq ?_
   refine cx_ops ?_
   refine ax_q (q_mov rfl) ?_
   refine ax_call rfl (vcall_own (c_byte (n := n + 1) ?_) hP hmv false (fun _ => 1000) [1000] ⟨rfl, rfl, rfl, rfl, ⟨rfl, trivial⟩, rfl, rfl, rfl⟩ (.pass rfl rfl .nil) ?_)
   ·
    first | assumption | omega | (simp; done) | (simp; omega)
   rintro r h ⟨rfl, rfl⟩
   refine ⟨fun _ => 1000, [], ⟨rfl, rfl, rfl, rfl, mem1 rfl, rfl, rfl, fun h => absurd h Bool.false_ne_true⟩, ?_⟩
   refine ax_q (q_mov rfl) ?_
   refine ax_nil ?_
   refine cx_keep rfl rfl ?_
   refine cx_seq ?_
   refine cx_ops ?_
   refine ax_q (q_mov rfl) ?_
   refine ax_call rfl (vcall_own (c_byte (n := n) ?_) hP hmv false (fun _ => 1000) [1000] ⟨rfl, rfl, rfl, rfl, ⟨rfl, trivial⟩, rfl, rfl, rfl⟩ (.pass rfl rfl .nil) ?_)
   ·
    first | assumption | omega | (simp; done) | (simp; omega)
   rintro r h ⟨rfl, rfl⟩
   refine ⟨fun _ => 1000, [], ⟨rfl, rfl, rfl, rfl, mem1 rfl, rfl, rfl, fun h => absurd h Bool.false_ne_true⟩, ?_⟩
   refine ax_q (q_mov rfl) ?_
   refine ax_nil ?_
   refine cx_keep rfl rfl ?_
   refine cx_seq ?_
   refine cx_ops ?_
   refine ax_q (q_mov rfl) ?_
   refine ax_q (q_mul rfl rfl (by omega)) ?_
   refine ax_q (q_mov rfl) ?_
   refine ax_q (q_mul rfl rfl (by omega)) ?_
   refine ax_q (q_add rfl rfl (by omega)) ?_
   refine ax_q (q_mov rfl) ?_
   refine ax_q (q_add rfl rfl (by omega)) ?_
   refine ax_q (q_mov rfl) ?_
   refine ax_q (q_mod rfl rfl (by omega) (by omega)) ?_
   refine ax_q (q_mov rfl) ?_
   refine ax_nil ?_
   refine cx_keep rfl rfl ?_
   refine cx_ret (retN id [1000] rfl rfl rfl rfl rfl ?_)
   rw [nextF_3 h0 h1]; exact ⟨rfl, rfl⟩


/- (ptr loop.example/g00332/spec.l00Src).size -/
def k_c_size : XCode :=
 .seq (.ops [.op (some 4) (.mov (.k (.int .i64 0)))])
 (.keep [0, 1] (.seq (.ops [.op (some 5) (.mov (.t 0)),
   .op (some 6) (.nilck (.t 5)),
   .op (some 7) (.fadr (.t 6) 0),
   .op (some 8) (.load1 (.t 7)),
   .op (some 9) (.lenS (.t 8)),
   .op (some 10) (.bin .quo (.t 9) (.k (.int .i64 12))),
   .op (some 11) (.bin .add (.k (.int .i64 1)) (.t 10)),
   .op (some 12) (.mov (.t 1)),
   .op (some 13) (.mx false (.t 11) (.t 12)),
   .op (some 4) (.mov (.t 13))])
 (.keep [4] (.ret))))
theorem k_c_size_fits : fitsF Try.prog 31 ⟨14, k_c_size, [.t 4]⟩ = true := by kernel_rfl
theorem c_size {s : Src} {k : Int} (hs : s.ok 0) (hk : 1 ≤ k ∧ k ≤ 1000) : Con Try.prog noMv 31 [.ptr 1000 0, int k] (s.h 1000) (fun r h => r = int (sizeF s.code.length k) ∧ h = (s).h 1000) := by
 refine con_of2 k_c_size_fits rfl fun C hP hmv => ?_
 unfold k_c_size
 have hl := hs.len
 refine cx_seq ?_
 refine cx_ops ?_
 refine ax_q (q_mov rfl) ?_
 refine ax_nil ?_
 refine cx_keep rfl rfl ?_
 refine cx_seq ?_
 refine cx_ops ?_
 refine ax_q (q_mov rfl) ?_
 first | refine ax_q (q_nilck_ptr rfl) ?_ | refine ax_q (q_nilck_rptr rfl) ?_ | refine ax_q (q_nilck_ip rfl) ?_
 first | refine ax_q (q_fadr_ptr rfl) ?_ | refine ax_q (q_fadr_rptr rfl) ?_ | refine ax_q (q_fadr_ip rfl) ?_
 first | refine ax_q (q_load1_ptr rfl rfl rfl) ?_ | refine ax_q (q_load1_ip rfl) ?_ | refine ax_q (q_load1_rptr rfl rfl rfl rfl) ?_ | refine ax_q (q_load1_rptr rfl rfl (by assumption) rfl) ?_ | refine ax_q (q_load1_rptr rfl rfl (mapAt (by first | assumption | omega)) rfl) ?_
 first | refine ax_q (q_lenS_map rfl) ?_ | refine ax_q (q_lenS_osl rfl) ?_ | refine ax_q (q_lenS_zs rfl) ?_ | refine ax_q (q_lenS rfl) ?_
 refine ax_q (q_div rfl rfl (by omega) (by omega) (by omega)) ?_
 refine ax_q (q_add rfl rfl (by omega)) ?_
 refine ax_q (q_mov rfl) ?_
 refine ax_qe (r' := int (sizeF s.code.length k)) (q_mx rfl rfl) (by unfold sizeF; rfl) ?_
 refine ax_q (q_mov rfl) ?_
 refine ax_nil ?_
 refine cx_keep rfl rfl ?_
 refine cx_ret (retN id [1000] rfl rfl rfl rfl rfl ?_)
 exact ⟨rfl, rfl⟩


/- (ptr loop.example/g00332/spec.l00Src).treeKey -/
def k_c_treeKey : XCode :=
 .seq (.ops [.op (some 2) (.mov (.k (.str [])))])
 (.keep [0] (.seq (.ops [.op (some 3) (.mov (.t 0)),
   .call (some 4) 30 [.t 3, .k (.int .i64 6)],
   .op (some 5) (.bin .add (.k (.int .i64 97)) (.t 4)),
   .op (some 6) (.conv .u8 (.t 5)),
   .op (some 7) (.mov (.t 0)),
   .call (some 8) 30 [.t 7, .k (.int .i64 6)],
   .op (some 9) (.bin .add (.k (.int .i64 97)) (.t 8)),
   .op (some 10) (.conv .u8 (.t 9)),
   .op (some 11) (.bslice 1 [.t 6, .t 10]),
   .op (some 12) (.b2s (.t 11)),
   .op (some 2) (.mov (.t 12))])
 (.keep [2] (.ret))))
theorem k_c_treeKey_fits : fitsF Try.prog 32 ⟨13, k_c_treeKey, [.t 2]⟩ = true := by kernel_rfl
theorem c_treeKey {s : Src} {n : Nat} (hs : s.ok (n + 6)) : Con Try.prog noMv 32 [.ptr 1000 0] (s.h 1000) (fun r h => ∃ (k : Str) (s2 : Src), k.length = 2 ∧ Op.bytesLess k zzz = true ∧ s2.ok n ∧ r = str k ∧ h = s2.h 1000) := by
 refine con_of2 k_c_treeKey_fits rfl fun C hP hmv => ?_
 unfold k_c_treeKey
 obtain ⟨k1, k2, k3⟩ := nextF_ok (s := s) (n := 6) (k := n + 3) hs
 have k3 := k3 (by omega)
 obtain ⟨k4, k5, k6⟩ := nextF_ok (s := (nextF s 6).2) (n := 6) (k := n) k1
 have k6 := k6 (by omega)
 refine cx_seq ?_
 refine cx_ops ?_
 refine ax_q (q_mov rfl) ?_
 refine ax_nil ?_
 refine cx_keep rfl rfl ?_
 refine cx_seq ?_
 refine cx_ops ?_
 refine ax_q (q_mov rfl) ?_
 refine ax_call rfl (vcall_own (c_next (n := n + 3) ?_) hP hmv false (fun _ => 1000) [1000] ⟨rfl, rfl, rfl, rfl, ⟨rfl, trivial⟩, rfl, rfl, rfl⟩ (.pass rfl rfl (.pass rfl rfl .nil)) ?_)
 ·
  first | assumption | omega | (simp; done) | (simp; omega)
 rintro r h ⟨rfl, rfl⟩
 refine ⟨fun _ => 1000, [], ⟨rfl, rfl, rfl, rfl, mem1 rfl, rfl, rfl, fun h => absurd h Bool.false_ne_true⟩, ?_⟩
 refine ax_q (q_add rfl rfl (by omega)) ?_
 first | refine ax_q (q_convB rfl) ?_ | refine ax_q (q_convI rfl (by omega)) ?_ | refine ax_q (q_convU8 rfl) ?_ | refine ax_q (q_conv rfl) ?_
 refine ax_q (q_mov rfl) ?_
 refine ax_call rfl (vcall_own (c_next (n := n) ?_) hP hmv false (fun _ => 1000) [1000] ⟨rfl, rfl, rfl, rfl, ⟨rfl, trivial⟩, rfl, rfl, rfl⟩ (.pass rfl rfl (.pass rfl rfl .nil)) ?_)
 ·
  first | assumption | omega | (simp; done) | (simp; omega)
 rintro r h ⟨rfl, rfl⟩
 refine ⟨fun _ => 1000, [], ⟨rfl, rfl, rfl, rfl, mem1 rfl, rfl, rfl, fun h => absurd h Bool.false_ne_true⟩, ?_⟩
 refine ax_q (q_add rfl rfl (by omega)) ?_
 first | refine ax_q (q_convB rfl) ?_ | refine ax_q (q_convI rfl (by omega)) ?_ | refine ax_q (q_convU8 rfl) ?_ | refine ax_q (q_conv rfl) ?_
 refine ax_e (e_bsliceD (rows := (keyF (nextF s 6).1 (nextF (nextF s 6).2 6).1).map byteRow) rfl) ?_
 refine ax_qe (r' := .d (.str (keyF (nextF s 6).1 (nextF (nextF s 6).2 6).1))) (q_b2s rfl (src_sl 1 _) rfl ⟨0, 1, 0, 0, .inr (.inr rfl)⟩) (rfl) ?_
 refine ax_q (q_mov rfl) ?_
 refine ax_nil ?_
 refine cx_keep rfl rfl ?_
 refine cx_ret (retN id [1000] rfl rfl rfl rfl rfl ?_)
 exact ⟨keyF (nextF s 6).1 (nextF (nextF s 6).2 6).1, (nextF (nextF s 6).2 6).2, rfl, keyF_lt k2 k3, k4, rfl, rfl⟩


/- (ptr loop.example/g00332/spec.l00Src).treeKeys -/
def k_c_treeKeys : XCode :=
 .seq (.ops [.op (some 2) (.mov (.k (.nils 1)))])
 (.keep [0] (.seq (.ops [.op (some 7) (.bslice 1 []),
   .op (some 3) (.mov (.t 7))])
 (.keep [0, 3] (.seq (.seq (.ops [.op (some 8) (.mov (.t 0)),
   .op (some 9) (.mov (.t 0)),
   .call (some 10) 31 [.t 9, .k (.int .i64 40)],
   .op (some 11) (.bin .add (.t 10) (.k (.int .i64 8))),
   .call (some 12) 30 [.t 8, .t 11],
   .op (some 4) (.mov (.t 12))])
  (.keep [0, 3, 4] (.block 0 (.loop (.seq (.seq (.ops [.op (some 13) (.mov (.t 4)),
     .op (some 14) (.bin .gtr (.t 13) (.k (.int .i64 0)))])
   (.keep [0, 3, 4, 14] (.cond (.t 14)
    (.skip)
    (.exit 0))))
   (.keep [0, 3, 4] (.seq (.block 1 (.seq (.ops [.op (some 17) (.mov (.t 0)),
     .call (some 18) 32 [.t 17],
     .op (some 5) (.mov (.t 18))])
    (.keep [0, 3, 4, 5] (.seq (.ops [.op (some 19) (.mov (.t 3)),
     .op (some 20) (.mov (.t 5)),
     .call (some 21) 28 [.t 19, .t 20],
     .op (some 6) (.mov (.t 21))])
    (.keep [0, 3, 4, 5, 6] (.seq (.ops [.op (some 22) (.mov (.t 6)),
     .op (some 23) (.mov (.t 3)),
     .op (some 24) (.lenS (.t 23)),
     .op (some 25) (.bin .eql (.t 22) (.t 24)),
     .op (some 26) (.mov (.t 25)),
     .andor 33 false 4 26 [.op (some 27) (.mov (.t 3)), .op (some 28) (.mov (.t 6)), .op (some 29) (.iadr 1 (.t 27) (.t 28)), .op (some 30) (.load1 (.t 29)), .op (some 31) (.mov (.t 5)), .op (some 32) (.bin .neq (.t 30) (.t 31))] (.t 32)])
    (.keep [0, 3, 4, 5, 6, 33] (.cond (.t 33)
    (.drawE [[], [], [], [1, 2], [0, 1, 2, 3], [], [5], [0, 1, 2, 3, 4, 5, 6], [], [], [8, 9], [0, 1, 2, 3, 4, 5, 6, 7, 8, 9, 10], [0, 1, 2, 3, 4, 5, 6, 7, 8, 9, 10, 11]] [.op (some 34) (.bslice 1 []),
      .op (some 35) (.mov (.t 3)),
      .op (some 36) (.mov (.t 6)),
      .op (some 37) (.slc 1 (.t 35) none (some (.t 36)) none),
      .op (some 38) (.app 1 16 [.str []] (.t 34) (.t 37)),
      .op (some 39) (.mov (.t 5)),
      .op (some 40) (.bslice 1 [.t 39]),
      .op (some 41) (.app 1 16 [.str []] (.t 38) (.t 40)),
      .op (some 42) (.mov (.t 3)),
      .op (some 43) (.mov (.t 6)),
      .op (some 44) (.slc 1 (.t 42) (some (.t 43)) none none)]
     [.op (some 45) (.app 1 16 [.str []] (.t 41) (.t 44)),
      .op (some 3) (.mov (.t 45))])
    (.skip)))))))))
   (.keep [0, 3, 4] (.ops [.op (some 15) (.mov (.t 4)),
    .op (some 16) (.bin .sub (.t 15) (.k (.int .i64 1))),
    .op (some 4) (.mov (.t 16))])))))))))
 (.keep [3] (.seq (.ops [.op (some 46) (.mov (.t 3)),
   .op (some 2) (.mov (.t 46))])
 (.keep [2] (.ret))))))))
theorem k_c_treeKeys_fits : fitsF Try.prog 17 ⟨47, k_c_treeKeys, [.t 2]⟩ = true := by kernel_rfl
set_option maxHeartbeats 2000000 in
theorem c_treeKeys {s : Src} (hs : s.ok 1000) : Con Try.prog noMv 17 [.ptr 1000 0] [(1000, s.box)] (fun r h => ∃ (l : List Str) (s2 : Src), TKS l ∧ l.length ≤ 50 ∧ r = .d (.sl 1 (l.map strRow)) ∧ h = [(1000, s2.box)]) := by
 refine con_of2 k_c_treeKeys_fits rfl fun C hP hmv => ?_
 unfold k_c_treeKeys
 have hsz := sizeF_b (n := s.code.length) (k := 40) (by omega)
 obtain ⟨k1, k2, k3⟩ := nextF_ok (s := s) (n := sizeF s.code.length 40 + 8) (k := 900) (hs.mono (by omega))
 have k3 := k3 (by omega)
 refine cx_seq ?_
 refine cx_ops ?_
 refine ax_q (q_mov rfl) ?_
 refine ax_nil ?_
 refine cx_keep rfl rfl ?_
 refine cx_seq ?_
 refine cx_ops ?_
 refine ax_e (e_bsliceD (rows := []) rfl) ?_
 refine ax_q (q_mov rfl) ?_
 refine ax_nil ?_
 refine cx_keep rfl rfl ?_
 refine cx_seq ?_
 refine cx_seq ?_
 refine cx_ops ?_
 refine ax_q (q_mov rfl) ?_
 refine ax_q (q_mov rfl) ?_
 refine ax_call rfl (vcall_own (c_size (k := 40) ?_ ?_) hP hmv false (fun _ => 1000) [1000] ⟨rfl, rfl, rfl, rfl, ⟨rfl, trivial⟩, rfl, rfl, rfl⟩ (.pass rfl rfl (.pass rfl rfl .nil)) ?_)
 ·
  exact hs.mono (by omega)
 ·
  first | assumption | omega | (simp; done) | (simp; omega)
 rintro r h ⟨rfl, rfl⟩
 refine ⟨fun _ => 1000, [], ⟨rfl, rfl, rfl, rfl, mem1 rfl, rfl, rfl, fun h => absurd h Bool.false_ne_true⟩, ?_⟩
 refine ax_q (q_add rfl rfl (by omega)) ?_
 refine ax_call rfl (vcall_own (c_next (n := 900) ?_) hP hmv false (fun _ => 1000) [1000] ⟨rfl, rfl, rfl, rfl, ⟨rfl, trivial⟩, rfl, rfl, rfl⟩ (.pass rfl rfl (.pass rfl rfl .nil)) ?_)
 ·
  exact hs.mono (by omega)
 rintro r h ⟨rfl, rfl⟩
 refine ⟨fun _ => 1000, [], ⟨rfl, rfl, rfl, rfl, mem1 rfl, rfl, rfl, fun h => absurd h Bool.false_ne_true⟩, ?_⟩
 refine ax_q (q_mov rfl) ?_
 refine ax_nil ?_
 refine cx_keep rfl rfl ?_
 refine cx_block ?_
 obtain ⟨N, hN⟩ : ∃ N : Nat, (nextF s (sizeF s.code.length 40 + 8)).1 = (N : Int) := ⟨(nextF s (sizeF s.code.length 40 + 8)).1.toNat, by omega⟩
 rw [hN] at k3 ⊢
 refine cx_loopU (fun m (p : Nat × List Str × Src) => p.1 = m ∧ p.1 + p.2.1.length ≤ 48 ∧ p.2.2.ok (6 * p.1 + 10) ∧ TKS p.2.1) (fun p => [(4, int p.1), (3, .d (.sl 1 (p.2.1.map strRow)))]) (fun p => [(1000, p.2.2.box)])
  ⟨_, (N, [], (nextF s (sizeF s.code.length 40 + 8)).2), ⟨rfl, by simp only [List.length_nil]; omega, k1.mono (by simp only; omega), TKS.nil⟩, by repeat (first | exact trivial | refine ⟨rfl, ?_⟩ | refine ⟨?_, ?_⟩)⟩ ?_
 rintro m ⟨n, out, u⟩ ⟨rfl, hn, hu, hT⟩
 simp only at hn hu hT ⊢
 refine cx_seq ?_
 refine cx_seq ?_
 refine cx_ops ?_
 refine ax_q (q_mov rfl) ?_
 refine ax_q (q_ibin rfl rfl rfl) ?_
 refine ax_nil ?_
 refine cx_keep rfl rfl ?_
 refine cx_cond rfl (fun h0 => ?_) (fun h0 => ?_)
 ·
  have h0 := dT h0
  obtain ⟨n, rfl⟩ : ∃ n2, n = n2 + 1 := ⟨n - 1, by omega⟩
  refine cx_skip ?_
  refine cx_keep rfl rfl ?_
  refine cx_seq ?_
  refine cx_block ?_
  refine cx_seq ?_
  refine cx_ops ?_
  refine ax_q (q_mov rfl) ?_
  refine ax_call rfl (vcall_own (c_treeKey (n := 6 * n + 10) ?_) hP hmv false (fun _ => 1000) [1000] ⟨rfl, rfl, rfl, rfl, ⟨rfl, trivial⟩, rfl, rfl, rfl⟩ (.pass rfl rfl .nil) ?_)
  ·
   exact hu.mono (by omega)
  rintro r h ⟨K, S2, hK2, hKz, hS2, rfl, rfl⟩
  refine ⟨fun _ => 1000, [], ⟨rfl, rfl, rfl, rfl, mem1 rfl, rfl, rfl, fun h => absurd h Bool.false_ne_true⟩, ?_⟩
  have hpl := @posS_le out K
  refine ax_q (q_mov rfl) ?_
  refine ax_nil ?_
  refine cx_keep rfl rfl ?_
  refine cx_seq ?_
  refine cx_ops ?_
  refine ax_q (q_mov rfl) ?_
  refine ax_q (q_mov rfl) ?_
  first | refine ax_call rfl (vc_pure0 (c_l09At (xs := out) (key := K) ?_ ?_) hP rfl rfl ?_) | refine ax_call rfl (vc_lend0 (c_l09At (xs := out) (key := K) ?_ ?_) hP (by repeat (first | exact lal_id _ rfl | exact LAL.nil | refine LAL.cons ?_ ?_ | exact la_id _ rfl | exact LA.lend (lend_whole rfl (by first | (simp; done) | (rw [List.length_map]; rfl))) | refine LA.agg ?_ | refine LA.fn ?_ | refine LA.lend ?_ | exact Lend.d _ | exact Lend.zs _ | exact lend_whole rfl (by first | (simp; done) | (rw [List.length_map]; rfl)) | refine Lend.ptr rfl ?_ | refine Lend.fn ?_ | exact LendL.nil | refine LendL.cons ?_ ?_)) rfl rfl ?_)
  ·
   exact hT.ks.asc
  ·
   first | assumption | omega | (simp; done) | (simp; omega)
  refine ax_q (q_mov rfl) ?_
  refine ax_nil ?_
  refine cx_keep rfl rfl ?_
  refine cx_seq ?_
  refine cx_ops ?_
  refine ax_q (q_mov rfl) ?_
  refine ax_q (q_mov rfl) ?_
  first | refine ax_q (q_lenS_map rfl) ?_ | refine ax_q (q_lenS_osl rfl) ?_ | refine ax_q (q_lenS_zs rfl) ?_ | refine ax_q (q_lenS rfl) ?_
  refine ax_q (q_ibin rfl rfl rfl) ?_
  refine ax_q (q_mov rfl) ?_
  apply ax_or rfl rfl
  ·
   intro g
   have g := dF g
   refine ax_q (q_mov rfl) ?_
   refine ax_q (q_mov rfl) ?_
   refine ax_q (q_ix (row := strRow (out.getD (posS out K) [])) rfl rfl (strD (by omega))) ?_
   first | refine ax_q (q_load1_ptr rfl rfl rfl) ?_ | refine ax_q (q_load1_ip rfl) ?_ | refine ax_q (q_load1_rptr rfl rfl rfl rfl) ?_ | refine ax_q (q_load1_rptr rfl rfl (by assumption) rfl) ?_ | refine ax_q (q_load1_rptr rfl rfl (mapAt (by first | assumption | omega)) rfl) ?_
   refine ax_q (q_mov rfl) ?_
   refine ax_q (q_sbin rfl rfl rfl) ?_
   exact ax_nil ⟨rfl, by repeat (first | exact trivial | refine ⟨rfl, ?_⟩ | refine ⟨?_, ?_⟩)⟩
  refine ax_nil ?_
  refine cx_keep rfl rfl ?_
  refine cx_cond rfl (fun h1 => ?_) (fun h1 => ?_)
  ·
   rw [hit_or hT.ks.asc] at h1
   have h1 : hitS out K = false := bT h1
   refine cx_drawL 7 41 (Nat.beq 38) (nrA 38) [] ([(38, .rows 1 (((out.take (posS out K)) ++ [K]).map strRow))]) [[], [3], [6], [35, 36], [34, 37], [5], [39], [38, 40], [3], [6], [42, 43]] [[], [], [], [], [], [], [], [38], [38], [38], [38]] rfl ?_
   first | refine ⟨_, .inr ⟨rfl, _, rfl, .inl rfl, loc_bsliceZ⟩, ?_⟩
   first | refine ⟨_, .inr ⟨rfl, _, rfl, .inl rfl, loc_q (q_mov rfl)⟩, ?_⟩
   first | refine ⟨_, .inr ⟨rfl, _, rfl, .inl rfl, loc_q (q_mov rfl)⟩, ?_⟩
   first | refine ⟨_, .inr ⟨rfl, _, rfl, .inl rfl, loc_qe (r' := .d (.sl 1 ((out.take (posS out K)).map strRow))) (q_slc rfl rfl rfl (by omega) (by omega) (by simp; omega)) (slR_take (by omega))⟩, ?_⟩
   first | refine ⟨_, .inr ⟨rfl, _, rfl, .inl rfl, loc_appZ (n := posS out K) (rs := (out.take (posS out K)).map strRow) rfl rfl (fun _ _ h => src_sl 1 _) (bnd0 (by simp; omega) (by decide)) (by simp; omega) rfl⟩, ?_⟩
   first | refine ⟨_, .inr ⟨rfl, _, rfl, .inl rfl, loc_q (q_mov rfl)⟩, ?_⟩
   first | refine ⟨_, .inr ⟨rfl, _, rfl, .inl rfl, loc_bsliceD (rows := [K].map strRow) rfl⟩, ?_⟩
   refine ⟨⟨41, _, []⟩, .inl ⟨rfl, rfl, rfl, locl_app (n' := posS out K + 1) (rs' := ((out.take (posS out K)) ++ [K]).map strRow) rfl rfl (by simp; omega) rfl (fun _ _ h => src_sl 1 _) (.inl (by decide)) (hbnd (by omega) (by simp) (by decide)) (by simp) (by rw [List.take_of_length_le (by simp; omega), List.map_append])⟩, ?_⟩
   first | refine ⟨_, .inr ⟨rfl, _, rfl, .inr ⟨rfl, rfl, .inr rfl, rfl, rfl⟩, loc_q (q_mov rfl)⟩, ?_⟩
   first | refine ⟨_, .inr ⟨rfl, _, rfl, .inr ⟨rfl, rfl, .inr rfl, rfl, rfl⟩, loc_q (q_mov rfl)⟩, ?_⟩
   first | refine ⟨_, .inr ⟨rfl, _, rfl, .inr ⟨rfl, rfl, .inr rfl, rfl, rfl⟩, loc_qe (r' := .d (.sl 1 ((out.drop (posS out K)).map strRow))) (q_slc rfl rfl rfl (by omega) (by simp; omega) (by simp)) (slR_drop (by omega))⟩, ?_⟩
   refine ⟨rfl, ?_⟩
   refine ax_e (e_appn (n' := (insA out (posS out K) K).length) (rs' := (insA out (posS out K) K).map strRow) rfl rfl (by simp; omega) rfl (src_sl 1 _) (.inl (by decide)) (hbnd (by omega) (by simp; omega) (by decide)) (by rw [insA_len posS_le]; simp; omega) (by rw [List.take_of_length_le (by simp; omega), ← List.map_append, List.append_assoc]; rfl)) ?_
   refine ax_wk (wk_frz 45 38 rfl rfl (.whole (by simp)) rfl) ?_
   refine ax_q (q_mov rfl) ?_
   refine ax_nil ?_
   refine cx_keep rfl rfl ?_
   refine cx_ops ?_
   refine ax_q (q_mov rfl) ?_
   refine ax_qe (r' := int (n : Nat)) (q_ibin rfl rfl rfl) (by rw [wi (by omega) (by omega)]; exact congrArg AM.int (by omega)) ?_
   refine ax_q (q_mov rfl) ?_
   refine ax_nil ?_
   exact ⟨_, (n, (insA out (posS out K) K), S2), Nat.lt_succ_self _, ⟨rfl, by simp only [insA_len posS_le]; omega, hS2.mono (by omega), hT.ins h1 (by omega) hK2 hKz⟩, by repeat (first | exact trivial | refine ⟨rfl, ?_⟩ | refine ⟨?_, ?_⟩)⟩
  ·
   rw [hit_or hT.ks.asc] at h1
   have h1 : hitS out K = true := bF h1
   refine cx_skip ?_
   refine cx_keep rfl rfl ?_
   refine cx_ops ?_
   refine ax_q (q_mov rfl) ?_
   refine ax_qe (r' := int (n : Nat)) (q_ibin rfl rfl rfl) (by rw [wi (by omega) (by omega)]; exact congrArg AM.int (by omega)) ?_
   refine ax_q (q_mov rfl) ?_
   refine ax_nil ?_
   exact ⟨_, (n, out, S2), Nat.lt_succ_self _, ⟨rfl, by simp only; omega, hS2.mono (by omega), hT⟩, by repeat (first | exact trivial | refine ⟨rfl, ?_⟩ | refine ⟨?_, ?_⟩)⟩
 ·
  have h0 := dF h0
  refine cx_exit rfl ?_
  refine cx_keep rfl rfl ?_
  refine cx_seq ?_
  refine cx_ops ?_
  refine ax_q (q_mov rfl) ?_
  refine ax_q (q_mov rfl) ?_
  refine ax_nil ?_
  refine cx_keep rfl rfl ?_
  refine cx_ret (retN id [1000] rfl rfl rfl rfl rfl ?_)
  exact ⟨out, u, hT, by omega, rfl, rfl⟩


/- loop.example/g00332/spec.TreeKeysOf -/
def k_c_TreeKeysOf : XCode :=
 .seq (.ops [.op (some 2) (.mov (.k (.nils 1)))])
 (.keep [0] (.seq (.ops [.op (some 3) (.mov (.t 0)),
   .call (some 4) 16 [.t 3],
   .call (some 5) 17 [.t 4],
   .op (some 2) (.mov (.t 5))])
 (.keep [2] (.ret))))
theorem k_c_TreeKeysOf_fits : fitsF Try.prog 5 ⟨6, k_c_TreeKeysOf, [.t 2]⟩ = true := by kernel_rfl
theorem c_TreeKeysOf {code : Str} (hl : code.length ≤ 1048576) : Con Try.prog noMv 5 [.d (.sl 1 (code.map byteRow))] [] (fun r h => ∃ l : List Str, TKS l ∧ l.length ≤ 50 ∧ r = .d (.sl 1 (l.map strRow)) ∧ h = []) := by
 refine con_of2 k_c_TreeKeysOf_fits rfl fun C hP hmv => ?_
 unfold k_c_TreeKeysOf
 refine cx_seq ?_
 refine cx_ops ?_
 refine ax_q (q_mov rfl) ?_
 refine ax_nil ?_
 refine cx_keep rfl rfl ?_
 refine cx_seq ?_
 refine cx_ops ?_
 refine ax_q (q_mov rfl) ?_
 refine ax_call rfl (vc_pure (c_l00Source hl) hP rfl ?_)
 rintro r h ⟨rfl, rfl⟩
 refine ⟨fun _ => 4, [0], ⟨rfl, rfl, rfl, rfl, rfl, fun h => absurd h Bool.false_ne_true⟩, ?_⟩
 refine ax_call rfl (vcall_own (c_treeKeys ((srcOf_ok hl).mono (by omega))) hP hmv false (fun _ => 4) [1000] ⟨rfl, rfl, rfl, rfl, ⟨rfl, trivial⟩, rfl, rfl, rfl⟩ (.pass rfl rfl .nil) ?_)
 rintro r h ⟨l, s2, hT, hl2, rfl, rfl⟩
 refine ⟨fun _ => 4, [], ⟨rfl, rfl, rfl, rfl, mem1 rfl, rfl, rfl, fun h => absurd h Bool.false_ne_true⟩, ?_⟩
 refine ax_q (q_mov rfl) ?_
 refine ax_nil ?_
 refine cx_keep rfl rfl ?_
 refine cx_ret (retN id [] rfl rfl rfl rfl rfl ?_)
 exact ⟨l, hT, hl2, rfl, rfl⟩


/- loop.example/g00332/impl.NewTree -/
def k_c_NewTree : XCode :=
 .seq (.ops [.op (some 0) (.alloc [.int .i64 0, .nils 3])])
 (.keep [0] (.seq (.ops [.op (some 1) (.build [.bool false, .nils 1, .nils 1] [(0, 1, .k (.bool true))]),
   .op (some 2) (.bslice 3 [.t 1]),
   .op (some 3) (.build [.int .i64 0, .nils 3] [(1, 1, .t 2)]),
   .op none (.store 2 (.t 0) (.t 3))])
 (.keep [0] (.ret))))
theorem k_c_NewTree_fits : fitsF Try.prog 6 ⟨4, k_c_NewTree, [.cN 0 2]⟩ = true := by kernel_rfl
theorem c_NewTree  : Con Try.prog noMv 6 [] [] (fun r h => r = .agg [.d (.int .i64 (treeT ([] : List Str)).root), .d (.sl 3 ((treeT ([] : List Str)).nodes.map TN.row))] ∧ h = []) := by
 refine con_of2 k_c_NewTree_fits rfl fun C hP hmv => ?_
 unfold k_c_NewTree
 refine cx_seq ?_
 refine cx_ops ?_
 refine ax_e (e_alloc (by decide) rfl rfl) ?_
 refine ax_nil ?_
 refine cx_keep rfl rfl ?_
 refine cx_seq ?_
 refine cx_ops ?_
 refine ax_q (q_build rfl) ?_
 refine ax_e (e_bsliceD (rows := [TN.row ⟨true, [], []⟩]) rfl) ?_
 refine ax_q (q_build rfl) ?_
 refine ax_e (e_st rfl rfl rfl rfl rfl rfl rfl) ?_
 refine ax_nil ?_
 refine cx_keep rfl rfl ?_
 refine cx_ret (ret0 rfl rfl ?_)
 exact ⟨rfl, rfl⟩


/- loop.example/g00332/laws.at -/
def k_c_at : XCode :=
 .seq (.ops [.op (some 6) (.mov (.k (.int .i64 0)))])
 (.keep [0, 1, 2] (.seq (.seq (.ops [.op (some 7) (.mov (.t 2)),
   .op (some 8) (.bin .leq (.t 7) (.k (.int .i64 1)))])
  (.keep [0, 1, 2, 8] (.cond (.t 8)
  (.seq (.ops [.op (some 6) (.mov (.k (.int .i64 0)))])
   (.keep [6] (.ret)))
  (.skip))))
 (.keep [0, 1, 2] (.seq (.seq (.ops [.op (some 9) (.mov (.t 0)),
   .op (some 10) (.lenS (.t 9)),
   .op (some 11) (.bin .eql (.t 10) (.k (.int .i64 0)))])
  (.keep [0, 1, 2, 11] (.cond (.t 11)
  (.seq (.ops [.op (some 12) (.mov (.t 1)),
    .op (some 13) (.bin .mul (.t 12) (.k (.int .i64 7))),
    .op (some 14) (.mov (.t 2)),
    .op (some 15) (.bin .rem (.t 13) (.t 14)),
    .op (some 6) (.mov (.t 15))])
   (.keep [6] (.ret)))
  (.skip))))
 (.keep [0, 1, 2] (.seq (.draw [.op (some 16) (.mov (.t 0)),
   .op (some 17) (.mov (.t 1)),
   .op (some 18) (.mov (.t 0)),
   .op (some 19) (.lenS (.t 18)),
   .op (some 20) (.bin .rem (.t 17) (.t 19)),
   .op (some 21) (.iadr 1 (.t 16) (.t 20)),
   .op (some 22) (.load1 (.t 21)),
   .op (some 23) (.conv .i64 (.t 22)),
   .op (some 24) (.bin .mul (.t 23) (.k (.int .i64 31))),
   .op (some 25) (.mov (.t 0)),
   .op (some 26) (.mov (.t 1)),
   .op (some 27) (.bin .add (.t 26) (.k (.int .i64 1))),
   .op (some 28) (.mov (.t 0)),
   .op (some 29) (.lenS (.t 28)),
   .op (some 30) (.bin .rem (.t 27) (.t 29)),
   .op (some 31) (.iadr 1 (.t 25) (.t 30)),
   .op (some 32) (.load1 (.t 31)),
   .op (some 33) (.conv .i64 (.t 32)),
   .op (some 34) (.bin .add (.t 24) (.t 33)),
   .op (some 35) (.mov (.t 1)),
   .op (some 36) (.mov (.t 0)),
   .op (some 37) (.lenS (.t 36)),
   .op (some 38) (.bin .quo (.t 35) (.t 37)),
   .op (some 39) (.bin .add (.t 34) (.t 38)),
   .op (some 40) (.mov (.t 2)),
   .op (some 41) (.bin .rem (.t 39) (.t 40)),
   .op (some 6) (.mov (.t 41))])
 (.keep [6] (.ret))))))))
theorem k_c_at_fits : fitsF Try.prog 7 ⟨42, k_c_at, [.t 6]⟩ = true := by kernel_rfl
theorem c_at {more : Str} {i n : Int} (hl : more.length ≤ 1048576) (hi : 0 ≤ i ∧ i ≤ 1000) (hn : n ≤ 1000000000) : Con Try.prog noMv 7 [.d (.sl 1 (more.map byteRow)), int i, int n] [] (fun r h => r = int (atF more i n) ∧ h = []) := by
 refine con_of2 k_c_at_fits rfl fun C hP hmv => ?_
 unfold k_c_at
 refine cx_seq ?_
 refine cx_ops ?_
 refine ax_q (q_mov rfl) ?_
 refine ax_nil ?_
 refine cx_keep rfl rfl ?_
 refine cx_seq ?_
 refine cx_seq ?_
 refine cx_ops ?_
 refine ax_q (q_mov rfl) ?_
 refine ax_q (q_ibin rfl rfl rfl) ?_
 refine ax_nil ?_
 refine cx_keep rfl rfl ?_
 refine cx_cond rfl (fun h0 => ?_) (fun h0 => ?_)
 ·
  have h0 := dT h0
  refine cx_seq ?_
  refine cx_ops ?_
  refine ax_q (q_mov rfl) ?_
  refine ax_nil ?_
  refine cx_keep rfl rfl ?_
  refine cx_ret (ret0 rfl rfl ?_)
  exact ⟨by unfold atF; rw [if_pos h0]; rfl, rfl⟩
 ·
  have h0 := dF h0
  refine cx_skip ?_
  refine cx_keep rfl rfl ?_
  refine cx_seq ?_
  refine cx_seq ?_
  refine cx_ops ?_
  refine ax_q (q_mov rfl) ?_
  first | refine ax_q (q_lenS_map rfl) ?_ | refine ax_q (q_lenS_osl rfl) ?_ | refine ax_q (q_lenS_zs rfl) ?_ | refine ax_q (q_lenS rfl) ?_
  refine ax_q (q_ibin rfl rfl rfl) ?_
  refine ax_nil ?_
  refine cx_keep rfl rfl ?_
  refine cx_cond rfl (fun h1 => ?_) (fun h1 => ?_)
  ·
   have h1 := dT h1
   have hm0 : more = [] := List.eq_nil_of_length_eq_zero (by omega)
   refine cx_seq ?_
   refine cx_ops ?_
   refine ax_q (q_mov rfl) ?_
   refine ax_q (q_mul rfl rfl (by omega)) ?_
   refine ax_q (q_mov rfl) ?_
   refine ax_q (q_mod rfl rfl (by omega) (by omega)) ?_
   refine ax_q (q_mov rfl) ?_
   refine ax_nil ?_
   refine cx_keep rfl rfl ?_
   refine cx_ret (ret0 rfl rfl ?_)
   exact ⟨by unfold atF; rw [if_neg h0, if_pos hm0]; rfl, rfl⟩
  ·
   have h1 := dF h1
   have hm0 : more ≠ [] := fun h => h1 (by rw [h]; rfl)
   have hm1 : 0 < more.length := List.length_pos_iff.2 hm0
   have hi1 : (i % more.length).toNat < more.length := by have := Int.emod_nonneg i (show (more.length : Int) ≠ 0 by omega); have := Int.emod_lt_of_pos i (show 0 < (more.length : Int) by omega); omega
   have hi2 : ((i + 1) % more.length).toNat < more.length := by have := Int.emod_nonneg (i + 1) (show (more.length : Int) ≠ 0 by omega); have := Int.emod_lt_of_pos (i + 1) (show 0 < (more.length : Int) by omega); omega
   have hb1 := (more[(i % more.length).toNat]).toNat_lt
   have hb2 := (more[((i + 1) % more.length).toNat]).toNat_lt
   have hdv := ediv_bounds (a := i) (b := more.length) hi.1 (by omega)
   refine cx_skip ?_
   refine cx_keep rfl rfl ?_
   refine cx_seq ?_
   refine cx_draw ?_
   refine ax_q (q_mov rfl) ?_
   refine ax_q (q_mov rfl) ?_
   refine ax_q (q_mov rfl) ?_
   first | refine ax_q (q_lenS_map rfl) ?_ | refine ax_q (q_lenS_osl rfl) ?_ | refine ax_q (q_lenS_zs rfl) ?_ | refine ax_q (q_lenS rfl) ?_
   refine ax_q (q_mod rfl rfl (by omega) (by omega)) ?_
   refine ax_q (q_ixI rfl rfl (Int.emod_nonneg _ (by omega)) (mapAt hi1)) ?_
   first | refine ax_q (q_load1_ptr rfl rfl rfl) ?_ | refine ax_q (q_load1_ip rfl) ?_ | refine ax_q (q_load1_rptr rfl rfl rfl rfl) ?_ | refine ax_q (q_load1_rptr rfl rfl (by assumption) rfl) ?_ | refine ax_q (q_load1_rptr rfl rfl (mapAt (by first | assumption | omega)) rfl) ?_
   first | refine ax_q (q_convB rfl) ?_ | refine ax_q (q_convI rfl (by omega)) ?_ | refine ax_q (q_convU8 rfl) ?_ | refine ax_q (q_conv rfl) ?_
   refine ax_q (q_mul rfl rfl (by omega)) ?_
   refine ax_q (q_mov rfl) ?_
   refine ax_q (q_mov rfl) ?_
   refine ax_q (q_add rfl rfl (by omega)) ?_
   refine ax_q (q_mov rfl) ?_
   first | refine ax_q (q_lenS_map rfl) ?_ | refine ax_q (q_lenS_osl rfl) ?_ | refine ax_q (q_lenS_zs rfl) ?_ | refine ax_q (q_lenS rfl) ?_
   refine ax_q (q_mod rfl rfl (by omega) (by omega)) ?_
   refine ax_q (q_ixI rfl rfl (Int.emod_nonneg _ (by omega)) (mapAt hi2)) ?_
   first | refine ax_q (q_load1_ptr rfl rfl rfl) ?_ | refine ax_q (q_load1_ip rfl) ?_ | refine ax_q (q_load1_rptr rfl rfl rfl rfl) ?_ | refine ax_q (q_load1_rptr rfl rfl (by assumption) rfl) ?_ | refine ax_q (q_load1_rptr rfl rfl (mapAt (by first | assumption | omega)) rfl) ?_
   first | refine ax_q (q_convB rfl) ?_ | refine ax_q (q_convI rfl (by omega)) ?_ | refine ax_q (q_convU8 rfl) ?_ | refine ax_q (q_conv rfl) ?_
   refine ax_q (q_add rfl rfl (by omega)) ?_
   refine ax_q (q_mov rfl) ?_
   refine ax_q (q_mov rfl) ?_
   first | refine ax_q (q_lenS_map rfl) ?_ | refine ax_q (q_lenS_osl rfl) ?_ | refine ax_q (q_lenS_zs rfl) ?_ | refine ax_q (q_lenS rfl) ?_
   refine ax_q (q_div rfl rfl (by omega) (by omega) (by omega)) ?_
   refine ax_q (q_add rfl rfl (by omega)) ?_
   refine ax_q (q_mov rfl) ?_
   refine ax_q (q_mod rfl rfl (by omega) (by omega)) ?_
   refine ax_q (q_mov rfl) ?_
   refine ax_nil ?_
   refine cx_keep rfl rfl ?_
   refine cx_ret (ret0 rfl rfl ?_)
   exact ⟨by unfold atF; rw [if_neg h0, if_neg hm0, getD_at hi1, getD_at hi2]; rfl, rfl⟩


/- slices.IndexFunc[[]string,string] -/
def k_c_IndexFunc_Str : XCode :=
 .seq (.ops [.op (some 4) (.mov (.k (.int .i64 0)))])
 (.keep [0, 1] (.seq (.seq (.ops [.op (some 6) (.mov (.t 0)),
   .op (some 7) (.lenS (.t 6)),
   .op (some 8) (.mov (.k (.int .i64 0)))])
  (.keep [0, 1, 7, 8] (.block 0 (.loop (.seq (.ops [.op (some 9) (.bin .lss (.t 8) (.t 7))])
   (.keep [0, 1, 7, 8, 9] (.seq (.cond (.t 9)
    (.skip)
    (.exit 0))
   (.keep [0, 1, 7, 8] (.seq (.block 1 (.seq (.ops [.op (some 10) (.mov (.t 8)),
     .op (some 5) (.mov (.t 10))])
    (.keep [0, 1, 5, 7, 8] (.seq (.ops [.op (some 11) (.mov (.t 1)),
     .op (some 12) (.mov (.t 0)),
     .op (some 13) (.mov (.t 5)),
     .op (some 14) (.iadr 1 (.t 12) (.t 13)),
     .op (some 15) (.load1 (.t 14)),
     .callv (some 16) (.t 11) [.t 15]])
    (.keep [0, 1, 5, 7, 8, 16] (.cond (.t 16)
    (.seq (.ops [.op (some 17) (.mov (.t 5)),
      .op (some 4) (.mov (.t 17))])
     (.keep [4] (.ret)))
    (.skip)))))))
   (.keep [0, 1, 7, 8] (.ops [.op (some 18) (.bin .add (.t 8) (.k (.int .i64 1))),
    .op (some 8) (.mov (.t 18))])))))))))))
 (.keep [] (.seq (.ops [.op (some 4) (.mov (.k (.int .i64 (-1))))])
 (.keep [4] (.ret))))))
theorem k_c_IndexFunc_Str_fits : fitsF Try.prog 45 ⟨19, k_c_IndexFunc_Str, [.t 4]⟩ = true := by kernel_rfl
theorem c_IndexFunc_Str {xs : List Str} {f : Nat} {ds : List D} (p : Str → Bool) (hw : xs.length ≤ 9223372036854775807) (hb : hasBody Try.prog f = true) (hf : ∀ s ∈ xs, Con Try.prog noMv f (str s :: ds.map AV.d) [] (fun r h => r = bool (p s) ∧ h = [])) : Con Try.prog noMv 45 [.d (.sl 1 (xs.map strRow)), .d (.fn (.func f) ds)] [] (fun r h => r = int (idxOf p xs 0) ∧ h = []) := by
 refine con_of2 k_c_IndexFunc_Str_fits rfl fun C hP hmv => ?_
 unfold k_c_IndexFunc_Str
 refine cx_seq ?_
 refine cx_ops ?_
 refine ax_q (q_mov rfl) ?_
 refine ax_nil ?_
 refine cx_keep rfl rfl ?_
 refine cx_seq ?_
 refine cx_seq ?_
 refine cx_ops ?_
 refine ax_q (q_mov rfl) ?_
 first | refine ax_q (q_lenS_map rfl) ?_ | refine ax_q (q_lenS_osl rfl) ?_ | refine ax_q (q_lenS_zs rfl) ?_ | refine ax_q (q_lenS rfl) ?_
 refine ax_q (q_mov rfl) ?_
 refine ax_nil ?_
 refine cx_keep rfl rfl ?_
 refine cx_block ?_
 refine cx_loopU (fun n k => k ≤ xs.length ∧ n = xs.length - k ∧ ∀ i, i < k → ∀ x, xs[i]? = some x → p x = false) (fun k : Nat => [(8, int k)]) (fun _ => []) ⟨_, 0, ⟨by omega, rfl, fun i hi => by omega⟩, by repeat (first | exact trivial | refine ⟨rfl, ?_⟩ | refine ⟨?_, ?_⟩)⟩ ?_
 rintro n k ⟨hk, rfl, ht⟩
 refine cx_seq ?_
 refine cx_ops ?_
 refine ax_q (q_ibin rfl rfl rfl) ?_
 refine ax_nil ?_
 refine cx_keep rfl rfl ?_
 refine cx_seq ?_
 refine cx_cond rfl (fun h0 => ?_) (fun h0 => ?_)
 ·
  have h0 := dT h0
  have h0x : k < xs.length := by omega
  refine cx_skip ?_
  refine cx_keep rfl rfl ?_
  refine cx_seq ?_
  refine cx_block ?_
  refine cx_seq ?_
  refine cx_ops ?_
  refine ax_q (q_mov rfl) ?_
  refine ax_q (q_mov rfl) ?_
  refine ax_nil ?_
  refine cx_keep rfl rfl ?_
  refine cx_seq ?_
  refine cx_ops ?_
  refine ax_q (q_mov rfl) ?_
  refine ax_q (q_mov rfl) ?_
  refine ax_q (q_mov rfl) ?_
  refine ax_q (q_ix rfl rfl (mapAt h0x)) ?_
  first | refine ax_q (q_load1_ptr rfl rfl rfl) ?_ | refine ax_q (q_load1_ip rfl) ?_ | refine ax_q (q_load1_rptr rfl rfl rfl rfl) ?_ | refine ax_q (q_load1_rptr rfl rfl (by assumption) rfl) ?_ | refine ax_q (q_load1_rptr rfl rfl (mapAt (by first | assumption | omega)) rfl) ?_
  refine ax_callvD rfl (by rw [hP]; exact hb) rfl (vc_pure0 (hf _ (List.getElem_mem h0x)) hP (refs_cons rfl ds) rfl ?_)
  refine ax_nil ?_
  refine cx_keep rfl rfl ?_
  refine cx_cond rfl (fun h1 => ?_) (fun h1 => ?_)
  ·
   skip
   refine cx_seq ?_
   refine cx_ops ?_
   refine ax_q (q_mov rfl) ?_
   refine ax_q (q_mov rfl) ?_
   refine ax_nil ?_
   refine cx_keep rfl rfl ?_
   refine cx_ret (ret0 rfl rfl ?_)
   exact ⟨by rw [idxOf_hit h0x ht h1]; rfl, rfl⟩
  ·
   skip
   refine cx_skip ?_
   refine cx_keep rfl rfl ?_
   refine cx_ops ?_
   refine ax_qe (r' := int ((k + 1 : Nat) : Int)) (q_ibin rfl rfl rfl) (by rw [wi (by omega) (by omega)]; rfl) ?_
   refine ax_q (q_mov rfl) ?_
   refine ax_nil ?_
   exact ⟨_, k + 1, by omega, ⟨by omega, rfl, before_step h0x ht h1⟩, by repeat (first | exact trivial | refine ⟨rfl, ?_⟩ | refine ⟨?_, ?_⟩)⟩
 ·
  have h0 := dF h0
  have h0x : k = xs.length := by omega
  refine cx_exit rfl ?_
  refine cx_keep rfl rfl ?_
  refine cx_seq ?_
  refine cx_ops ?_
  refine ax_q (q_mov rfl) ?_
  refine ax_nil ?_
  refine cx_keep rfl rfl ?_
  refine cx_ret (ret0 rfl rfl ?_)
  exact ⟨by rw [idxOf_none (fun i hi => ht i (by omega))]; rfl, rfl⟩


/- slices.ContainsFunc[[]string,string] -/
def k_c_ContainsFunc_Str : XCode :=
 .seq (.ops [.op (some 4) (.mov (.k (.bool false)))])
 (.keep [0, 1] (.seq (.ops [.op (some 5) (.mov (.t 0)),
   .op (some 6) (.mov (.t 1)),
   .call (some 7) 45 [.t 5, .t 6],
   .op (some 8) (.bin .geq (.t 7) (.k (.int .i64 0))),
   .op (some 4) (.mov (.t 8))])
 (.keep [4] (.ret))))
theorem k_c_ContainsFunc_Str_fits : fitsF Try.prog 41 ⟨9, k_c_ContainsFunc_Str, [.t 4]⟩ = true := by kernel_rfl
theorem c_ContainsFunc_Str {xs : List Str} {f : Nat} {ds : List D} (p : Str → Bool) (hw : xs.length ≤ 9223372036854775807) (hb : hasBody Try.prog f = true) (hf : ∀ s ∈ xs, Con Try.prog noMv f (str s :: ds.map AV.d) [] (fun r h => r = bool (p s) ∧ h = [])) : Con Try.prog noMv 41 [.d (.sl 1 (xs.map strRow)), .d (.fn (.func f) ds)] [] (fun r h => r = bool (xs.any p) ∧ h = []) := by
 refine con_of2 k_c_ContainsFunc_Str_fits rfl fun C hP hmv => ?_
 unfold k_c_ContainsFunc_Str
 refine cx_seq ?_
 refine cx_ops ?_
 refine ax_q (q_mov rfl) ?_
 refine ax_nil ?_
 refine cx_keep rfl rfl ?_
 refine cx_seq ?_
 refine cx_ops ?_
 refine ax_q (q_mov rfl) ?_
 refine ax_q (q_mov rfl) ?_
 refine ax_call rfl (vc_pure0 (c_IndexFunc_Str p hw hb hf) hP rfl rfl ?_)
 refine ax_qe (r' := bool (xs.any p)) (q_ibin rfl rfl rfl) (congrArg AM.bool any_idxOf) ?_
 refine ax_q (q_mov rfl) ?_
 refine ax_nil ?_
 refine cx_keep rfl rfl ?_
 refine cx_ret (ret0 rfl rfl ?_)
 exact ⟨rfl, rfl⟩


/- loop.example/g00332/impl.isLong$1 -/
def k_c_isLong1 : XCode :=
 .seq (.ops [.op (some 2) (.mov (.k (.bool false)))])
 (.keep [0] (.seq (.ops [.op (some 3) (.mov (.t 0)),
   .op (some 4) (.lenT (.t 3)),
   .op (some 5) (.bin .gtr (.t 4) (.k (.int .i64 65536))),
   .op (some 2) (.mov (.t 5))])
 (.keep [2] (.ret))))
theorem k_c_isLong1_fits : fitsF Try.prog 42 ⟨6, k_c_isLong1, [.t 2]⟩ = true := by kernel_rfl
theorem c_isLong1 {s : Str} : Con Try.prog noMv 42 [str s] [] (fun r h => r = bool (long64 s) ∧ h = []) := by
 refine con_of2 k_c_isLong1_fits rfl fun C hP hmv => ?_
 unfold k_c_isLong1
 refine cx_seq ?_
 refine cx_ops ?_
 refine ax_q (q_mov rfl) ?_
 refine ax_nil ?_
 refine cx_keep rfl rfl ?_
 refine cx_seq ?_
 refine cx_ops ?_
 refine ax_q (q_mov rfl) ?_
 refine ax_q (q_lenT rfl) ?_
 refine ax_q (q_ibin rfl rfl rfl) ?_
 refine ax_q (q_mov rfl) ?_
 refine ax_nil ?_
 refine cx_keep rfl rfl ?_
 refine cx_ret (ret0 rfl rfl ?_)
 exact ⟨rfl, rfl⟩


/- loop.example/g00332/impl.isLong -/
def k_c_isLong : XCode :=
 .seq (.ops [.op (some 2) (.mov (.k (.bool false)))])
 (.keep [0] (.seq (.ops [.op (some 3) (.mov (.t 0)),
   .call (some 4) 41 [.t 3, .f 42],
   .op (some 2) (.mov (.t 4))])
 (.keep [2] (.ret))))
theorem k_c_isLong_fits : fitsF Try.prog 22 ⟨5, k_c_isLong, [.t 2]⟩ = true := by kernel_rfl
theorem c_isLong {xs : List Str} (hw : xs.length ≤ 1048576) : Con Try.prog noMv 22 [.d (.sl 1 (xs.map strRow))] [] (fun r h => r = bool (xs.any long64) ∧ h = []) := by
 refine con_of2 k_c_isLong_fits rfl fun C hP hmv => ?_
 unfold k_c_isLong
 refine cx_seq ?_
 refine cx_ops ?_
 refine ax_q (q_mov rfl) ?_
 refine ax_nil ?_
 refine cx_keep rfl rfl ?_
 refine cx_seq ?_
 refine cx_ops ?_
 refine ax_q (q_mov rfl) ?_
 refine ax_call rfl (vc_lend0 (c_ContainsFunc_Str (xs := xs) (ds := []) long64 (by omega) (by kernel_rfl) (fun s _ => c_isLong1)) hP (by repeat (first | exact lal_id _ rfl | exact LAL.nil | refine LAL.cons ?_ ?_ | exact la_id _ rfl | exact LA.lend (lend_whole rfl (by first | (simp; done) | (rw [List.length_map]; rfl))) | refine LA.agg ?_ | refine LA.fn ?_ | refine LA.lend ?_ | exact Lend.d _ | exact Lend.zs _ | exact lend_whole rfl (by first | (simp; done) | (rw [List.length_map]; rfl)) | refine Lend.ptr rfl ?_ | refine Lend.fn ?_ | exact LendL.nil | refine LendL.cons ?_ ?_)) rfl rfl ?_)
 refine ax_q (q_mov rfl) ?_
 refine ax_nil ?_
 refine cx_keep rfl rfl ?_
 refine cx_ret (ret0 rfl rfl ?_)
 exact ⟨rfl, rfl⟩


/- loop.example/g00332/impl.inRange -/
def k_c_inRange : XCode :=
 .seq (.ops [.op (some 6) (.mov (.k (.bool false)))])
 (.keep [0, 1, 2] (.seq (.ops [.op (some 7) (.mov (.t 1)),
   .op (some 8) (.mov (.t 0)),
   .op (some 9) (.bin .leq (.t 7) (.t 8)),
   .op (some 10) (.mov (.t 9)),
   .andor 14 true 3 10 [.op (some 11) (.mov (.t 0)), .op (some 12) (.mov (.t 2)), .op (some 13) (.bin .leq (.t 11) (.t 12))] (.t 13),
   .op (some 6) (.mov (.t 14))])
 (.keep [6] (.ret))))
theorem k_c_inRange_fits : fitsF Try.prog 50 ⟨15, k_c_inRange, [.t 6]⟩ = true := by kernel_rfl
theorem c_inRange {n lo hi : Int} : Con Try.prog noMv 50 [int n, int lo, int hi] [] (fun r h => r = bool (inR n lo hi) ∧ h = []) := by
 refine con_of2 k_c_inRange_fits rfl fun C hP hmv => ?_
 unfold k_c_inRange
 refine cx_seq ?_
 refine cx_ops ?_
 refine ax_q (q_mov rfl) ?_
 refine ax_nil ?_
 refine cx_keep rfl rfl ?_
 refine cx_seq ?_
 refine cx_ops ?_
 refine ax_q (q_mov rfl) ?_
 refine ax_q (q_mov rfl) ?_
 refine ax_q (q_ibin rfl rfl rfl) ?_
 refine ax_q (q_mov rfl) ?_
 apply ax_and rfl rfl
 ·
  intro g
  have g := dT g
  refine ax_q (q_mov rfl) ?_
  refine ax_q (q_mov rfl) ?_
  refine ax_q (q_ibin rfl rfl rfl) ?_
  exact ax_nil ⟨rfl, by repeat (first | exact trivial | refine ⟨rfl, ?_⟩ | refine ⟨?_, ?_⟩)⟩
 refine ax_q (q_mov rfl) ?_
 refine ax_nil ?_
 refine cx_keep rfl rfl ?_
 refine cx_ret (ret0 rfl rfl ?_)
 exact ⟨rfl, rfl⟩


/- loop.example/g00332/impl.isKey -/
def k_c_isKey : XCode :=
 .seq (.ops [.op (some 2) (.mov (.k (.bool false)))])
 (.keep [0] (.seq (.ops [.op (some 3) (.mov (.t 0)),
   .op (some 4) (.lenT (.t 3)),
   .call (some 5) 50 [.t 4, .k (.int .i64 1), .k (.int .i64 30)],
   .op (some 2) (.mov (.t 5))])
 (.keep [2] (.ret))))
theorem k_c_isKey_fits : fitsF Try.prog 33 ⟨6, k_c_isKey, [.t 2]⟩ = true := by kernel_rfl
theorem c_isKey {s : Str} : Con Try.prog noMv 33 [str s] [] (fun r h => r = bool (inR s.length 1 30) ∧ h = []) := by
 refine con_of2 k_c_isKey_fits rfl fun C hP hmv => ?_
 unfold k_c_isKey
 refine cx_seq ?_
 refine cx_ops ?_
 refine ax_q (q_mov rfl) ?_
 refine ax_nil ?_
 refine cx_keep rfl rfl ?_
 refine cx_seq ?_
 refine cx_ops ?_
 refine ax_q (q_mov rfl) ?_
 refine ax_q (q_lenT rfl) ?_
 first | refine ax_call rfl (vc_pure0 (c_inRange  ) hP rfl rfl ?_) | refine ax_call rfl (vc_lend0 (c_inRange  ) hP (by repeat (first | exact lal_id _ rfl | exact LAL.nil | refine LAL.cons ?_ ?_ | exact la_id _ rfl | exact LA.lend (lend_whole rfl (by first | (simp; done) | (rw [List.length_map]; rfl))) | refine LA.agg ?_ | refine LA.fn ?_ | refine LA.lend ?_ | exact Lend.d _ | exact Lend.zs _ | exact lend_whole rfl (by first | (simp; done) | (rw [List.length_map]; rfl)) | refine Lend.ptr rfl ?_ | refine Lend.fn ?_ | exact LendL.nil | refine LendL.cons ?_ ?_)) rfl rfl ?_)
 refine ax_q (q_mov rfl) ?_
 refine ax_nil ?_
 refine cx_keep rfl rfl ?_
 refine cx_ret (ret0 rfl rfl ?_)
 exact ⟨rfl, rfl⟩


/- loop.example/g00332/impl.isPlace -/
def k_c_isPlace : XCode :=
 .seq (.ops [.op (some 4) (.mov (.k (.bool false)))])
 (.keep [0, 1] (.seq (.ops [.op (some 5) (.mov (.t 0)),
   .op (some 6) (.mov (.t 1)),
   .op (some 7) (.bin .sub (.t 6) (.k (.int .i64 1))),
   .call (some 8) 50 [.t 5, .k (.int .i64 0), .t 7],
   .op (some 4) (.mov (.t 8))])
 (.keep [4] (.ret))))
theorem k_c_isPlace_fits : fitsF Try.prog 53 ⟨9, k_c_isPlace, [.t 4]⟩ = true := by kernel_rfl
theorem c_isPlace {n k : Int} (hk : 0 ≤ k ∧ k ≤ 1048576) : Con Try.prog noMv 53 [int n, int k] [] (fun r h => r = bool (inR n 0 (k - 1)) ∧ h = []) := by
 refine con_of2 k_c_isPlace_fits rfl fun C hP hmv => ?_
 unfold k_c_isPlace
 refine cx_seq ?_
 refine cx_ops ?_
 refine ax_q (q_mov rfl) ?_
 refine ax_nil ?_
 refine cx_keep rfl rfl ?_
 refine cx_seq ?_
 refine cx_ops ?_
 refine ax_q (q_mov rfl) ?_
 refine ax_q (q_mov rfl) ?_
 refine ax_q (q_sub rfl rfl (by omega)) ?_
 first | refine ax_call rfl (vc_pure0 (c_inRange  ) hP rfl rfl ?_) | refine ax_call rfl (vc_lend0 (c_inRange  ) hP (by repeat (first | exact lal_id _ rfl | exact LAL.nil | refine LAL.cons ?_ ?_ | exact la_id _ rfl | exact LA.lend (lend_whole rfl (by first | (simp; done) | (rw [List.length_map]; rfl))) | refine LA.agg ?_ | refine LA.fn ?_ | refine LA.lend ?_ | exact Lend.d _ | exact Lend.zs _ | exact lend_whole rfl (by first | (simp; done) | (rw [List.length_map]; rfl)) | refine Lend.ptr rfl ?_ | refine Lend.fn ?_ | exact LendL.nil | refine LendL.cons ?_ ?_)) rfl rfl ?_)
 refine ax_q (q_mov rfl) ?_
 refine ax_nil ?_
 refine cx_keep rfl rfl ?_
 refine cx_ret (ret0 rfl rfl ?_)
 exact ⟨rfl, rfl⟩


/- (ptr loop.example/g00332/impl.treeLook).node -/
def k_c_node_look : XCode :=
 .seq (.ops [.op (some 8) (.mov (.k (.int .i64 0)))])
 (.keep [0, 1, 2, 3] (.seq (.ops [.op (some 14) (.mov (.t 0)),
   .op (some 15) (.nilck (.t 14)),
   .op (some 16) (.fadr (.t 15) 3),
   .op (some 17) (.load1 (.t 16)),
   .op (some 18) (.lenS (.t 17)),
   .op (some 9) (.mov (.t 18))])
 (.keep [0, 1, 2, 3, 9] (.seq (.seq (.ops [.op (some 19) (.mov (.t 0)),
   .op (some 20) (.nilck (.t 19)),
   .op (some 21) (.fadr (.t 20) 5),
   .op (some 22) (.load1 (.t 21)),
   .op (some 23) (.mov (.t 22)),
   .andor 33 false 4 23 [.op (some 24) (.mov (.t 1)), .op (some 25) (.mov (.t 0)), .op (some 26) (.nilck (.t 25)), .op (some 27) (.fadr (.t 26) 0), .op (some 28) (.fadr (.t 27) 1), .op (some 29) (.load1 (.t 28)), .op (some 30) (.lenS (.t 29)), .call (some 31) 53 [.t 24, .t 30], .op (some 32) (.not (.t 31))] (.t 32),
   .op (some 34) (.mov (.t 33)),
   .andor 42 false 15 34 [.op (some 35) (.mov (.t 0)), .op (some 36) (.nilck (.t 35)), .op (some 37) (.fadr (.t 36) 2), .op (some 38) (.load1 (.t 37)), .op (some 39) (.mov (.t 1)), .op (some 40) (.iadr 1 (.t 38) (.t 39)), .op (some 41) (.load1 (.t 40))] (.t 41)])
  (.keep [0, 1, 2, 3, 9, 42] (.cond (.t 42)
  (.seq (.ops [.op (some 43) (.mov (.t 0)),
    .op (some 44) (.nilck (.t 43)),
    .op (some 45) (.fadr (.t 44) 5),
    .op none (.store 1 (.t 45) (.k (.bool true)))])
   (.keep [9] (.seq (.ops [.op (some 46) (.mov (.t 9)),
    .op (some 8) (.mov (.t 46))])
   (.keep [8] (.ret)))))
  (.skip))))
 (.keep [0, 1, 2, 3, 9] (.seq (.ops [.op (some 47) (.mov (.t 0)),
   .op (some 48) (.nilck (.t 47)),
   .op (some 49) (.fadr (.t 48) 2),
   .op (some 50) (.load1 (.t 49)),
   .op (some 51) (.mov (.t 1)),
   .op (some 52) (.iadr 1 (.t 50) (.t 51)),
   .op none (.store 1 (.t 52) (.k (.bool true)))])
 (.keep [0, 1, 2, 3, 9] (.seq (.ops [.op (some 53) (.mov (.t 0)),
   .op (some 54) (.nilck (.t 53)),
   .op (some 55) (.fadr (.t 54) 0),
   .op (some 56) (.fadr (.t 55) 1),
   .op (some 57) (.load1 (.t 56)),
   .op (some 58) (.mov (.t 1)),
   .op (some 59) (.iadr 3 (.t 57) (.t 58)),
   .op (some 60) (.loadN 3 (.t 59)),
   .op (some 10) (.alloc [.bool false, .nils 1, .nils 1]),
   .op none (.store 3 (.t 10) (.t 60))])
 (.keep [0, 2, 3, 9, 10] (.seq (.seq (.ops [.op (some 61) (.fadr (.t 10) 0),
   .op (some 62) (.load1 (.t 61))])
  (.keep [0, 2, 3, 9, 10, 62] (.cond (.t 62)
  (.seq (.ops [.op (some 63) (.mov (.t 0)),
    .op (some 64) (.fadr (.t 10) 2),
    .op (some 65) (.load1 (.t 64)),
    .op (some 66) (.lenS (.t 65)),
    .op (some 67) (.bin .gtr (.t 66) (.k (.int .i64 0))),
    .op (some 68) (.mov (.t 67)),
    .andor 73 false 5 68 [.op (some 69) (.fadr (.t 10) 1), .op (some 70) (.load1 (.t 69)), .op (some 71) (.lenS (.t 70)), .op (some 72) (.bin .gtr (.t 71) (.k (.int .i64 4)))] (.t 72),
    .op (some 74) (.mov (.t 73)),
    .andor 83 false 11 74 [.op (some 75) (.fadr (.t 10) 1), .op (some 76) (.load1 (.t 75)), .op (some 77) (.lenS (.t 76)), .op (some 78) (.bin .eql (.t 77) (.k (.int .i64 0))), .op (some 79) (.mov (.t 78)), .andor 82 true 16 79 [.op (some 80) (.mov (.t 3)), .op (some 81) (.not (.t 80))] (.t 81)] (.t 82),
    .op (some 84) (.mov (.t 83)),
    .andor 98 false 21 84 [.op (some 85) (.mov (.t 0)), .op (some 86) (.nilck (.t 85)), .op (some 87) (.fadr (.t 86) 4), .op (some 88) (.load1 (.t 87)), .op (some 89) (.bin .neq (.t 88) (.k (.int .i64 0))), .op (some 90) (.mov (.t 89)), .andor 97 true 27 90 [.op (some 91) (.mov (.t 0)), .op (some 92) (.nilck (.t 91)), .op (some 93) (.fadr (.t 92) 4), .op (some 94) (.load1 (.t 93)), .op (some 95) (.mov (.t 2)), .op (some 96) (.bin .neq (.t 94) (.t 95))] (.t 96)] (.t 97),
    .op (some 99) (.nilck (.t 63)),
    .op (some 100) (.fadr (.t 99) 5),
    .op none (.store 1 (.t 100) (.t 98))])
   (.keep [0, 2, 9, 10] (.seq (.ops [.op (some 101) (.mov (.t 0)),
    .op (some 102) (.mov (.t 2)),
    .op (some 103) (.nilck (.t 101)),
    .op (some 104) (.fadr (.t 103) 4),
    .op none (.store 1 (.t 104) (.t 102))])
   (.keep [0, 9, 10] (.seq (.drawE [[], [], [1], [1, 2], [1, 2, 3], [], [5], [1, 2, 3, 4, 5, 6], [0, 1, 2, 3, 4, 5, 6, 7], [0, 1, 2, 3, 4, 5, 6, 7, 8], [0, 1, 2, 3, 4, 5, 6, 7, 8, 9]] [.op (some 105) (.mov (.t 0)),
    .op (some 106) (.mov (.t 0)),
    .op (some 107) (.nilck (.t 106)),
    .op (some 108) (.fadr (.t 107) 3),
    .op (some 109) (.load1 (.t 108)),
    .op (some 110) (.fadr (.t 10) 1),
    .op (some 111) (.load1 (.t 110)),
    .op (some 112) (.app 1 16 [.str []] (.t 109) (.t 111))]
    [.op (some 113) (.nilck (.t 105)),
    .op (some 114) (.fadr (.t 113) 3),
    .op none (.store 1 (.t 114) (.t 112))])
   (.keep [9] (.seq (.ops [.op (some 115) (.mov (.t 9)),
    .op (some 8) (.mov (.t 115))])
   (.keep [8] (.ret)))))))))
  (.skip))))
 (.keep [0, 2, 9, 10] (.seq (.seq (.ops [.op (some 116) (.mov (.t 0)),
   .op (some 117) (.fadr (.t 10) 1),
   .op (some 118) (.load1 (.t 117)),
   .op (some 119) (.lenS (.t 118)),
   .op (some 120) (.bin .gtr (.t 119) (.k (.int .i64 4))),
   .op (some 121) (.mov (.t 120)),
   .andor 130 false 5 121 [.op (some 122) (.fadr (.t 10) 2), .op (some 123) (.load1 (.t 122)), .op (some 124) (.lenS (.t 123)), .op (some 125) (.fadr (.t 10) 1), .op (some 126) (.load1 (.t 125)), .op (some 127) (.lenS (.t 126)), .op (some 128) (.bin .add (.t 127) (.k (.int .i64 1))), .op (some 129) (.bin .neq (.t 124) (.t 128))] (.t 129),
   .op (some 131) (.mov (.t 130)),
   .andor 136 false 15 131 [.op (some 132) (.fadr (.t 10) 2), .op (some 133) (.load1 (.t 132)), .op (some 134) (.lenS (.t 133)), .op (some 135) (.bin .lss (.t 134) (.k (.int .i64 2)))] (.t 135),
   .op (some 137) (.nilck (.t 116)),
   .op (some 138) (.fadr (.t 137) 5),
   .op none (.store 1 (.t 138) (.t 136))])
  (.keep [0, 2, 9, 10] (.seq (.ops [.op (some 139) (.mov (.t 0)),
   .op (some 140) (.nilck (.t 139)),
   .op (some 141) (.fadr (.t 140) 5),
   .op (some 142) (.load1 (.t 141))])
  (.keep [0, 2, 9, 10, 142] (.cond (.t 142)
  (.seq (.ops [.op (some 143) (.mov (.t 9)),
    .op (some 8) (.mov (.t 143))])
   (.keep [8] (.ret)))
  (.skip))))))
 (.keep [0, 2, 9, 10] (.seq (.seq (.ops [.op (some 144) (.fadr (.t 10) 2),
   .op (some 145) (.load1 (.t 144)),
   .op (some 146) (.lenS (.t 145)),
   .op (some 147) (.mov (.k (.int .i64 0)))])
  (.keep [0, 2, 9, 10, 145, 146, 147] (.block 0 (.loop (.seq (.ops [.op (some 148) (.bin .lss (.t 147) (.t 146))])
   (.keep [0, 2, 9, 10, 145, 146, 147, 148] (.seq (.cond (.t 148)
    (.skip)
    (.exit 0))
   (.keep [0, 2, 9, 10, 145, 146, 147] (.seq (.block 1 (.seq (.ops [.op (some 149) (.mov (.t 147)),
     .op (some 150) (.iadr 1 (.t 145) (.t 147)),
     .op (some 151) (.load1 (.t 150)),
     .op (some 11) (.mov (.t 149)),
     .op (some 12) (.mov (.t 151))])
    (.keep [0, 2, 9, 10, 11, 12, 145, 146, 147] (.seq (.ops [.op (some 152) (.mov (.t 0)),
     .op (some 153) (.mov (.t 12)),
     .op (some 154) (.mov (.t 2)),
     .op (some 155) (.bin .add (.t 154) (.k (.int .i64 1))),
     .call (some 156) 43 [.t 152, .t 153, .t 155, .k (.bool false)],
     .op (some 13) (.mov (.t 156))])
    (.keep [0, 2, 9, 10, 11, 13, 145, 146, 147] (.seq (.draw [.op (some 157) (.mov (.t 0)),
     .op (some 158) (.nilck (.t 157)),
     .op (some 159) (.fadr (.t 158) 5),
     .op (some 160) (.load1 (.t 159)),
     .op (some 161) (.mov (.t 160)),
     .andor 180 false 4 161 [.op (some 162) (.mov (.t 11)), .op (some 163) (.bin .gtr (.t 162) (.k (.int .i64 0))), .op (some 164) (.mov (.t 163)), .andor 179 true 7 164 [.op (some 165) (.mov (.t 0)), .op (some 166) (.nilck (.t 165)), .op (some 167) (.fadr (.t 166) 3), .op (some 168) (.load1 (.t 167)), .op (some 169) (.mov (.t 13)), .op (some 170) (.iadr 1 (.t 168) (.t 169)), .op (some 171) (.load1 (.t 170)), .op (some 172) (.fadr (.t 10) 1), .op (some 173) (.load1 (.t 172)), .op (some 174) (.mov (.t 11)), .op (some 175) (.bin .sub (.t 174) (.k (.int .i64 1))), .op (some 176) (.iadr 1 (.t 173) (.t 175)), .op (some 177) (.load1 (.t 176)), .op (some 178) (.bin .neq (.t 171) (.t 177))] (.t 178)] (.t 179)])
    (.keep [0, 2, 9, 10, 145, 146, 147, 180] (.cond (.t 180)
    (.seq (.ops [.op (some 181) (.mov (.t 0)),
      .op (some 182) (.nilck (.t 181)),
      .op (some 183) (.fadr (.t 182) 5),
      .op none (.store 1 (.t 183) (.k (.bool true)))])
     (.keep [9] (.seq (.ops [.op (some 184) (.mov (.t 9)),
      .op (some 8) (.mov (.t 184))])
     (.keep [8] (.ret)))))
    (.skip)))))))))
   (.keep [0, 2, 9, 10, 145, 146, 147] (.ops [.op (some 185) (.bin .add (.t 147) (.k (.int .i64 1))),
    .op (some 147) (.mov (.t 185))])))))))))))
 (.keep [9] (.seq (.ops [.op (some 186) (.mov (.t 9)),
   .op (some 8) (.mov (.t 186))])
 (.keep [8] (.ret))))))))))))))))))
theorem k_c_node_look_fits : fitsF Try.prog 43 ⟨187, k_c_node_look, [.t 8]⟩ = true := by kernel_rfl
set_option maxHeartbeats 4000000 in
theorem c_node_look {t : GTree} {f k d : Nat} {r : Bool} {st st' : LK Str} {b : Nat} (hn : t.nodes.length ≤ 200) (hh : tnodeF t f k d r st = some (st', b)) : Con Try.prog (fun e => Nat.beq e 1002) 43 [.ptr 1000 0, int k, int d, bool r] [(1000, .box [.d (.int .i64 t.root), .d (.sl 3 (t.nodes.map TN.row)), .osl 1001 1 0 st.seen.length, .osl 1002 1 0 st.keys.length, .d (.int .i64 st.deep), .d (.bool false)]), (1001, .rows 1 (st.seen.map boolRow)), (1002, .rows 1 (st.keys.map strRow))] (fun r h => r = int (b : Nat) ∧ h = [(1000, .box [.d (.int .i64 t.root), .d (.sl 3 (t.nodes.map TN.row)), .osl 1001 1 0 st'.seen.length, .osl 1002 1 0 st'.keys.length, .d (.int .i64 st'.deep), .d (.bool false)]), (1001, .rows 1 (st'.seen.map boolRow)), (1002, .rows 1 (st'.keys.map strRow))]) := by
 induction f generalizing k d r st st' b with
 | zero => cases hh
 | succ f ih =>
  refine con_of2 k_c_node_look_fits rfl fun C hP hmv => ?_
  unfold k_c_node_look
  obtain ⟨n, N, hc⟩ := node_at hh
  have q1 := N.inn
  have q2 := N.sn
  have q3 := N.le
  have q4 := N.dp
  have q5 := N.ks
  have q6 := N.kd
  obtain rfl := N.b_
  refine cx_seq ?_
  refine cx_ops ?_
  refine ax_q (q_mov rfl) ?_
  refine ax_nil ?_
  refine cx_keep rfl rfl ?_
  refine cx_seq ?_
  refine cx_ops ?_
  refine ax_q (q_mov rfl) ?_
  first | refine ax_q (q_nilck_ptr rfl) ?_ | refine ax_q (q_nilck_rptr rfl) ?_ | refine ax_q (q_nilck_ip rfl) ?_
  first | refine ax_q (q_fadr_ptr rfl) ?_ | refine ax_q (q_fadr_rptr rfl) ?_ | refine ax_q (q_fadr_ip rfl) ?_
  first | refine ax_q (q_load1_ptr rfl rfl rfl) ?_ | refine ax_q (q_load1_ip rfl) ?_ | refine ax_q (q_load1_rptr rfl rfl rfl rfl) ?_ | refine ax_q (q_load1_rptr rfl rfl (by assumption) rfl) ?_ | refine ax_q (q_load1_rptr rfl rfl (mapAt (by first | assumption | omega)) rfl) ?_
  first | refine ax_q (q_lenS_map rfl) ?_ | refine ax_q (q_lenS_osl rfl) ?_ | refine ax_q (q_lenS_zs rfl) ?_ | refine ax_q (q_lenS rfl) ?_
  refine ax_q (q_mov rfl) ?_
  refine ax_nil ?_
  refine cx_keep rfl rfl ?_
  refine cx_seq ?_
  refine cx_seq ?_
  refine cx_ops ?_
  refine ax_q (q_mov rfl) ?_
  first | refine ax_q (q_nilck_ptr rfl) ?_ | refine ax_q (q_nilck_rptr rfl) ?_ | refine ax_q (q_nilck_ip rfl) ?_
  first | refine ax_q (q_fadr_ptr rfl) ?_ | refine ax_q (q_fadr_rptr rfl) ?_ | refine ax_q (q_fadr_ip rfl) ?_
  first | refine ax_q (q_load1_ptr rfl rfl rfl) ?_ | refine ax_q (q_load1_ip rfl) ?_ | refine ax_q (q_load1_rptr rfl rfl rfl rfl) ?_ | refine ax_q (q_load1_rptr rfl rfl (by assumption) rfl) ?_ | refine ax_q (q_load1_rptr rfl rfl (mapAt (by first | assumption | omega)) rfl) ?_
  refine ax_q (q_mov rfl) ?_
  apply ax_or rfl rfl
  ·
   intro g
   refine ax_q (q_mov rfl) ?_
   refine ax_q (q_mov rfl) ?_
   first | refine ax_q (q_nilck_ptr rfl) ?_ | refine ax_q (q_nilck_rptr rfl) ?_ | refine ax_q (q_nilck_ip rfl) ?_
   first | refine ax_q (q_fadr_ptr rfl) ?_ | refine ax_q (q_fadr_rptr rfl) ?_ | refine ax_q (q_fadr_ip rfl) ?_
   first | refine ax_q (q_fadr_ptr rfl) ?_ | refine ax_q (q_fadr_rptr rfl) ?_ | refine ax_q (q_fadr_ip rfl) ?_
   first | refine ax_q (q_load1_ptr rfl rfl rfl) ?_ | refine ax_q (q_load1_ip rfl) ?_ | refine ax_q (q_load1_rptr rfl rfl rfl rfl) ?_ | refine ax_q (q_load1_rptr rfl rfl (by assumption) rfl) ?_ | refine ax_q (q_load1_rptr rfl rfl (mapAt (by first | assumption | omega)) rfl) ?_
   first | refine ax_q (q_lenS_map rfl) ?_ | refine ax_q (q_lenS_osl rfl) ?_ | refine ax_q (q_lenS_zs rfl) ?_ | refine ax_q (q_lenS rfl) ?_
   first | refine ax_call rfl (vc_pure0 (c_isPlace  ?_) hP rfl rfl ?_) | refine ax_call rfl (vc_lend0 (c_isPlace  ?_) hP (by repeat (first | exact lal_id _ rfl | exact LAL.nil | refine LAL.cons ?_ ?_ | exact la_id _ rfl | exact LA.lend (lend_whole rfl (by first | (simp; done) | (rw [List.length_map]; rfl))) | refine LA.agg ?_ | refine LA.fn ?_ | refine LA.lend ?_ | exact Lend.d _ | exact Lend.zs _ | exact lend_whole rfl (by first | (simp; done) | (rw [List.length_map]; rfl)) | refine Lend.ptr rfl ?_ | refine Lend.fn ?_ | exact LendL.nil | refine LendL.cons ?_ ?_)) rfl rfl ?_)
   ·
    first | assumption | omega | (simp; done) | (simp; omega)
   refine ax_q (q_not rfl) ?_
   exact ax_nil ⟨rfl, by repeat (first | exact trivial | refine ⟨rfl, ?_⟩ | refine ⟨?_, ?_⟩)⟩
  refine ax_q (q_mov rfl) ?_
  apply ax_or rfl rfl
  ·
   intro g
   have g := (fun h => And.intro (id (or_F h).1) (bF (or_F h).2)) g
   refine ax_q (q_mov rfl) ?_
   first | refine ax_q (q_nilck_ptr rfl) ?_ | refine ax_q (q_nilck_rptr rfl) ?_ | refine ax_q (q_nilck_ip rfl) ?_
   first | refine ax_q (q_fadr_ptr rfl) ?_ | refine ax_q (q_fadr_rptr rfl) ?_ | refine ax_q (q_fadr_ip rfl) ?_
   first | refine ax_q (q_load1_ptr rfl rfl rfl) ?_ | refine ax_q (q_load1_ip rfl) ?_ | refine ax_q (q_load1_rptr rfl rfl rfl rfl) ?_ | refine ax_q (q_load1_rptr rfl rfl (by assumption) rfl) ?_ | refine ax_q (q_load1_rptr rfl rfl (mapAt (by first | assumption | omega)) rfl) ?_
   refine ax_q (q_mov rfl) ?_
   refine ax_q (q_ixo rfl rfl q2) ?_
   refine ax_q (q_load1_rptr (r := boolRow (st.seen.getD k true)) rfl rfl (boolD q2) rfl) ?_
   exact ax_nil ⟨rfl, by repeat (first | exact trivial | refine ⟨rfl, ?_⟩ | refine ⟨?_, ?_⟩)⟩
  refine ax_nil ?_
  refine cx_keep rfl rfl ?_
  refine cx_cond rfl (fun h0 => ?_) (fun h0 => ?_)
  ·
   have h0 := (fun h => (or_T h).imp (fun h => (or_T h).imp id bT) id) h0
   exfalso
   rcases h0 with (h | h) | h
   ·
    cases h
   ·
    rw [inR_iff.2 (show (0 : Int) ≤ (k : Int) ∧ (k : Int) ≤ (t.nodes.length : Int) - 1 by omega)] at h; cases h
   ·
    rw [N.no] at h; cases h
  ·
   have h0 := (fun h => And.intro ((fun h => And.intro (id (or_F h).1) (bF (or_F h).2)) (or_F h).1) (id (or_F h).2)) h0
   refine cx_skip ?_
   refine cx_keep rfl rfl ?_
   refine cx_seq ?_
   refine cx_ops ?_
   refine ax_q (q_mov rfl) ?_
   first | refine ax_q (q_nilck_ptr rfl) ?_ | refine ax_q (q_nilck_rptr rfl) ?_ | refine ax_q (q_nilck_ip rfl) ?_
   first | refine ax_q (q_fadr_ptr rfl) ?_ | refine ax_q (q_fadr_rptr rfl) ?_ | refine ax_q (q_fadr_ip rfl) ?_
   first | refine ax_q (q_load1_ptr rfl rfl rfl) ?_ | refine ax_q (q_load1_ip rfl) ?_ | refine ax_q (q_load1_rptr rfl rfl rfl rfl) ?_ | refine ax_q (q_load1_rptr rfl rfl (by assumption) rfl) ?_ | refine ax_q (q_load1_rptr rfl rfl (mapAt (by first | assumption | omega)) rfl) ?_
   refine ax_q (q_mov rfl) ?_
   refine ax_q (q_ixo rfl rfl q2) ?_
   refine ax_e (e_str (rs' := (st.seen.set k true).map boolRow) (row := boolRow (st.seen.getD k true)) (q := boolRow true) rfl rfl rfl rfl rfl rfl (boolD q2) rfl rfl List.map_set.symm) ?_
   refine ax_nil ?_
   refine cx_keep rfl rfl ?_
   refine cx_seq ?_
   refine cx_ops ?_
   refine ax_q (q_mov rfl) ?_
   first | refine ax_q (q_nilck_ptr rfl) ?_ | refine ax_q (q_nilck_rptr rfl) ?_ | refine ax_q (q_nilck_ip rfl) ?_
   first | refine ax_q (q_fadr_ptr rfl) ?_ | refine ax_q (q_fadr_rptr rfl) ?_ | refine ax_q (q_fadr_ip rfl) ?_
   first | refine ax_q (q_fadr_ptr rfl) ?_ | refine ax_q (q_fadr_rptr rfl) ?_ | refine ax_q (q_fadr_ip rfl) ?_
   first | refine ax_q (q_load1_ptr rfl rfl rfl) ?_ | refine ax_q (q_load1_ip rfl) ?_ | refine ax_q (q_load1_rptr rfl rfl rfl rfl) ?_ | refine ax_q (q_load1_rptr rfl rfl (by assumption) rfl) ?_ | refine ax_q (q_load1_rptr rfl rfl (mapAt (by first | assumption | omega)) rfl) ?_
   refine ax_q (q_mov rfl) ?_
   refine ax_q (q_ix rfl rfl (mapO N.at_)) ?_
   first | refine ax_q (q_ldN rfl rfl rfl) ?_ | refine ax_q (q_loadN_ip rfl (Nat.le_refl _)) ?_ | refine ax_q (q_loadN_ip rfl (by decide)) ?_ | refine ax_q (q_loadN_rptr rfl rfl (by assumption) (by decide)) ?_ | refine ax_q (q_loadN_rptr rfl rfl (mapAt (by first | assumption | omega)) (by decide)) ?_
   refine ax_e (e_alloc (by decide) rfl rfl) ?_
   refine ax_e (e_st rfl rfl rfl rfl rfl rfl rfl) ?_
   refine ax_nil ?_
   refine cx_keep rfl rfl ?_
   refine cx_seq ?_
   refine cx_seq ?_
   refine cx_ops ?_
   refine ax_q (q_fadr_ptr rfl) ?_
   refine ax_q (q_load1_ptr rfl rfl rfl) ?_
   refine ax_nil ?_
   refine cx_keep rfl rfl ?_
   refine cx_cond rfl (fun h1 => ?_) (fun h1 => ?_)
   ·
    skip
    obtain ⟨hf, g1, g2, g3, e⟩ := hc.resolve_right (fun q => by rw [q.1] at h1; cases h1)
    subst e
    refine cx_seq ?_
    refine cx_ops ?_
    refine ax_q (q_mov rfl) ?_
    refine ax_q (q_fadr_ptr rfl) ?_
    refine ax_q (q_load1_ptr rfl rfl rfl) ?_
    first | refine ax_q (q_lenS_map rfl) ?_ | refine ax_q (q_lenS_osl rfl) ?_ | refine ax_q (q_lenS_zs rfl) ?_ | refine ax_q (q_lenS rfl) ?_
    refine ax_q (q_ibin rfl rfl rfl) ?_
    refine ax_q (q_mov rfl) ?_
    apply ax_or rfl rfl
    ·
     intro g
     have g := dF g
     refine ax_q (q_fadr_ptr rfl) ?_
     refine ax_q (q_load1_ptr rfl rfl rfl) ?_
     first | refine ax_q (q_lenS_map rfl) ?_ | refine ax_q (q_lenS_osl rfl) ?_ | refine ax_q (q_lenS_zs rfl) ?_ | refine ax_q (q_lenS rfl) ?_
     refine ax_q (q_ibin rfl rfl rfl) ?_
     exact ax_nil ⟨rfl, by repeat (first | exact trivial | refine ⟨rfl, ?_⟩ | refine ⟨?_, ?_⟩)⟩
    refine ax_q (q_mov rfl) ?_
    apply ax_or rfl rfl
    ·
     intro g
     have g := (fun h => And.intro (dF (or_F h).1) (dF (or_F h).2)) g
     refine ax_q (q_fadr_ptr rfl) ?_
     refine ax_q (q_load1_ptr rfl rfl rfl) ?_
     first | refine ax_q (q_lenS_map rfl) ?_ | refine ax_q (q_lenS_osl rfl) ?_ | refine ax_q (q_lenS_zs rfl) ?_ | refine ax_q (q_lenS rfl) ?_
     refine ax_q (q_ibin rfl rfl rfl) ?_
     refine ax_q (q_mov rfl) ?_
     apply ax_and rfl rfl
     ·
      intro g
      have g := dT g
      refine ax_q (q_mov rfl) ?_
      refine ax_q (q_not rfl) ?_
      exact ax_nil ⟨rfl, by repeat (first | exact trivial | refine ⟨rfl, ?_⟩ | refine ⟨?_, ?_⟩)⟩
     exact ax_nil ⟨rfl, by repeat (first | exact trivial | refine ⟨rfl, ?_⟩ | refine ⟨?_, ?_⟩)⟩
    refine ax_q (q_mov rfl) ?_
    apply ax_or rfl rfl
    ·
     intro g
     have g := (fun h => And.intro ((fun h => And.intro (dF (or_F h).1) (dF (or_F h).2)) (or_F h).1) ((fun h => (and_F h).imp dF bF) (or_F h).2)) g
     refine ax_q (q_mov rfl) ?_
     first | refine ax_q (q_nilck_ptr rfl) ?_ | refine ax_q (q_nilck_rptr rfl) ?_ | refine ax_q (q_nilck_ip rfl) ?_
     first | refine ax_q (q_fadr_ptr rfl) ?_ | refine ax_q (q_fadr_rptr rfl) ?_ | refine ax_q (q_fadr_ip rfl) ?_
     first | refine ax_q (q_load1_ptr rfl rfl rfl) ?_ | refine ax_q (q_load1_ip rfl) ?_ | refine ax_q (q_load1_rptr rfl rfl rfl rfl) ?_ | refine ax_q (q_load1_rptr rfl rfl (by assumption) rfl) ?_ | refine ax_q (q_load1_rptr rfl rfl (mapAt (by first | assumption | omega)) rfl) ?_
     refine ax_q (q_ibin rfl rfl rfl) ?_
     refine ax_q (q_mov rfl) ?_
     apply ax_and rfl rfl
     ·
      intro g
      have g := nT g
      refine ax_q (q_mov rfl) ?_
      first | refine ax_q (q_nilck_ptr rfl) ?_ | refine ax_q (q_nilck_rptr rfl) ?_ | refine ax_q (q_nilck_ip rfl) ?_
      first | refine ax_q (q_fadr_ptr rfl) ?_ | refine ax_q (q_fadr_rptr rfl) ?_ | refine ax_q (q_fadr_ip rfl) ?_
      first | refine ax_q (q_load1_ptr rfl rfl rfl) ?_ | refine ax_q (q_load1_ip rfl) ?_ | refine ax_q (q_load1_rptr rfl rfl rfl rfl) ?_ | refine ax_q (q_load1_rptr rfl rfl (by assumption) rfl) ?_ | refine ax_q (q_load1_rptr rfl rfl (mapAt (by first | assumption | omega)) rfl) ?_
      refine ax_q (q_mov rfl) ?_
      refine ax_q (q_ibin rfl rfl rfl) ?_
      exact ax_nil ⟨rfl, by repeat (first | exact trivial | refine ⟨rfl, ?_⟩ | refine ⟨?_, ?_⟩)⟩
     exact ax_nil ⟨rfl, by repeat (first | exact trivial | refine ⟨rfl, ?_⟩ | refine ⟨?_, ?_⟩)⟩
    rw [leaf_ok g1 q5 g2 g3]
    first | refine ax_q (q_nilck_ptr rfl) ?_ | refine ax_q (q_nilck_rptr rfl) ?_ | refine ax_q (q_nilck_ip rfl) ?_
    first | refine ax_q (q_fadr_ptr rfl) ?_ | refine ax_q (q_fadr_rptr rfl) ?_ | refine ax_q (q_fadr_ip rfl) ?_
    refine ax_e (e_st rfl rfl rfl rfl rfl rfl rfl) ?_
    refine ax_nil ?_
    refine cx_keep rfl rfl ?_
    refine cx_seq ?_
    refine cx_ops ?_
    refine ax_q (q_mov rfl) ?_
    refine ax_q (q_mov rfl) ?_
    first | refine ax_q (q_nilck_ptr rfl) ?_ | refine ax_q (q_nilck_rptr rfl) ?_ | refine ax_q (q_nilck_ip rfl) ?_
    first | refine ax_q (q_fadr_ptr rfl) ?_ | refine ax_q (q_fadr_rptr rfl) ?_ | refine ax_q (q_fadr_ip rfl) ?_
    refine ax_e (e_st rfl rfl rfl rfl rfl rfl rfl) ?_
    refine ax_nil ?_
    refine cx_keep rfl rfl ?_
    refine cx_seq ?_
    refine cx_drawL 7 112 (Nat.beq 1002) (nrA 1002) [] ([(1002, .rows 1 ((st.keys ++ n.keys).map strRow))]) [[0], [0], [106], [107], [108], [10], [110], [109, 111]] [[1002, 1000], [], [], [], [], [], [], [1002, 1000]] rfl ?_
    first | refine ⟨_, .inr ⟨rfl, _, rfl, .inr ⟨rfl, rfl, .inr rfl, rfl, rfl⟩, loc_q (q_mov rfl)⟩, ?_⟩
    first | refine ⟨_, .inr ⟨rfl, _, rfl, .inl rfl, loc_q (q_mov rfl)⟩, ?_⟩
    first | refine ⟨_, .inr ⟨rfl, _, rfl, .inl rfl, loc_q (q_nilck_ptr rfl)⟩, ?_⟩ | refine ⟨_, .inr ⟨rfl, _, rfl, .inl rfl, loc_q (q_nilck_rptr rfl)⟩, ?_⟩ | refine ⟨_, .inr ⟨rfl, _, rfl, .inl rfl, loc_q (q_nilck_ip rfl)⟩, ?_⟩
    first | refine ⟨_, .inr ⟨rfl, _, rfl, .inl rfl, loc_q (q_fadr_ptr rfl)⟩, ?_⟩ | refine ⟨_, .inr ⟨rfl, _, rfl, .inl rfl, loc_q (q_fadr_rptr rfl)⟩, ?_⟩ | refine ⟨_, .inr ⟨rfl, _, rfl, .inl rfl, loc_q (q_fadr_ip rfl)⟩, ?_⟩
    first | refine ⟨_, .inr ⟨rfl, _, rfl, .inl rfl, loc_q (q_load1_ptr rfl rfl rfl)⟩, ?_⟩ | refine ⟨_, .inr ⟨rfl, _, rfl, .inl rfl, loc_q (q_load1_ip rfl)⟩, ?_⟩ | refine ⟨_, .inr ⟨rfl, _, rfl, .inl rfl, loc_q (q_load1_rptr rfl rfl rfl rfl)⟩, ?_⟩ | refine ⟨_, .inr ⟨rfl, _, rfl, .inl rfl, loc_q (q_load1_rptr rfl rfl (by assumption) rfl)⟩, ?_⟩ | refine ⟨_, .inr ⟨rfl, _, rfl, .inl rfl, loc_q (q_load1_rptr rfl rfl (mapAt (by first | assumption | omega)) rfl)⟩, ?_⟩
    first | refine ⟨_, .inr ⟨rfl, _, rfl, .inl rfl, loc_q (q_fadr_ptr rfl)⟩, ?_⟩
    first | refine ⟨_, .inr ⟨rfl, _, rfl, .inl rfl, loc_q (q_load1_ptr rfl rfl rfl)⟩, ?_⟩
    refine ⟨⟨112, _, []⟩, .inl ⟨rfl, rfl, rfl, locl_app (n' := (st.keys ++ n.keys).length) (rs' := (st.keys ++ n.keys).map strRow) rfl rfl (by simp) rfl (fun _ _ h => src_sl 1 _) (.inr (by rw [hmv]; rfl)) (hbnd (by omega) (by rw [List.length_map]; omega) (by decide)) (by simp) app_all⟩, ?_⟩
    refine ⟨rfl, ?_⟩
    first | refine ax_q (q_nilck_ptr rfl) ?_ | refine ax_q (q_nilck_rptr rfl) ?_ | refine ax_q (q_nilck_ip rfl) ?_
    first | refine ax_q (q_fadr_ptr rfl) ?_ | refine ax_q (q_fadr_rptr rfl) ?_ | refine ax_q (q_fadr_ip rfl) ?_
    refine ax_e (e_st rfl rfl rfl rfl rfl rfl rfl) ?_
    refine ax_nil ?_
    refine cx_keep rfl rfl ?_
    refine cx_seq ?_
    refine cx_ops ?_
    refine ax_q (q_mov rfl) ?_
    refine ax_q (q_mov rfl) ?_
    refine ax_nil ?_
    refine cx_keep rfl rfl ?_
    refine cx_ret (retN id [1000, 1001, 1002] rfl rfl rfl rfl rfl ?_)
    refine ⟨rfl, ?_⟩
    simp only [List.length_set]
    rfl
   ·
    skip
    obtain ⟨hf, g1, g2, hks⟩ := hc.resolve_left (fun q => by rw [q.1] at h1; cases h1)
    refine cx_skip ?_
    refine cx_keep rfl rfl ?_
    refine cx_seq ?_
    refine cx_seq ?_
    refine cx_ops ?_
    refine ax_q (q_mov rfl) ?_
    refine ax_q (q_fadr_ptr rfl) ?_
    refine ax_q (q_load1_ptr rfl rfl rfl) ?_
    first | refine ax_q (q_lenS_map rfl) ?_ | refine ax_q (q_lenS_osl rfl) ?_ | refine ax_q (q_lenS_zs rfl) ?_ | refine ax_q (q_lenS rfl) ?_
    refine ax_q (q_ibin rfl rfl rfl) ?_
    refine ax_q (q_mov rfl) ?_
    apply ax_or rfl rfl
    ·
     intro g
     have g := dF g
     refine ax_q (q_fadr_ptr rfl) ?_
     refine ax_q (q_load1_ptr rfl rfl rfl) ?_
     first | refine ax_q (q_lenS_map rfl) ?_ | refine ax_q (q_lenS_osl rfl) ?_ | refine ax_q (q_lenS_zs rfl) ?_ | refine ax_q (q_lenS rfl) ?_
     refine ax_q (q_fadr_ptr rfl) ?_
     refine ax_q (q_load1_ptr rfl rfl rfl) ?_
     first | refine ax_q (q_lenS_map rfl) ?_ | refine ax_q (q_lenS_osl rfl) ?_ | refine ax_q (q_lenS_zs rfl) ?_ | refine ax_q (q_lenS rfl) ?_
     refine ax_q (q_add rfl rfl (by omega)) ?_
     refine ax_q (q_ibin rfl rfl rfl) ?_
     exact ax_nil ⟨rfl, by repeat (first | exact trivial | refine ⟨rfl, ?_⟩ | refine ⟨?_, ?_⟩)⟩
    refine ax_q (q_mov rfl) ?_
    apply ax_or rfl rfl
    ·
     intro g
     have g := (fun h => And.intro (dF (or_F h).1) (nF (or_F h).2)) g
     refine ax_q (q_fadr_ptr rfl) ?_
     refine ax_q (q_load1_ptr rfl rfl rfl) ?_
     first | refine ax_q (q_lenS_map rfl) ?_ | refine ax_q (q_lenS_osl rfl) ?_ | refine ax_q (q_lenS_zs rfl) ?_ | refine ax_q (q_lenS rfl) ?_
     refine ax_q (q_ibin rfl rfl rfl) ?_
     exact ax_nil ⟨rfl, by repeat (first | exact trivial | refine ⟨rfl, ?_⟩ | refine ⟨?_, ?_⟩)⟩
    rw [inner_ok g1 q5 g2]
    first | refine ax_q (q_nilck_ptr rfl) ?_ | refine ax_q (q_nilck_rptr rfl) ?_ | refine ax_q (q_nilck_ip rfl) ?_
    first | refine ax_q (q_fadr_ptr rfl) ?_ | refine ax_q (q_fadr_rptr rfl) ?_ | refine ax_q (q_fadr_ip rfl) ?_
    refine ax_e (e_st rfl rfl rfl rfl rfl rfl rfl) ?_
    refine ax_nil ?_
    refine cx_keep rfl rfl ?_
    refine cx_seq ?_
    refine cx_ops ?_
    refine ax_q (q_mov rfl) ?_
    first | refine ax_q (q_nilck_ptr rfl) ?_ | refine ax_q (q_nilck_rptr rfl) ?_ | refine ax_q (q_nilck_ip rfl) ?_
    first | refine ax_q (q_fadr_ptr rfl) ?_ | refine ax_q (q_fadr_rptr rfl) ?_ | refine ax_q (q_fadr_ip rfl) ?_
    first | refine ax_q (q_load1_ptr rfl rfl rfl) ?_ | refine ax_q (q_load1_ip rfl) ?_ | refine ax_q (q_load1_rptr rfl rfl rfl rfl) ?_ | refine ax_q (q_load1_rptr rfl rfl (by assumption) rfl) ?_ | refine ax_q (q_load1_rptr rfl rfl (mapAt (by first | assumption | omega)) rfl) ?_
    refine ax_nil ?_
    refine cx_keep rfl rfl ?_
    refine cx_cond rfl (fun h2 => ?_) (fun h2 => ?_)
    ·
     skip
     exact absurd h2 Bool.false_ne_true
    ·
     skip
     refine cx_skip ?_
     refine cx_keep rfl rfl ?_
     refine cx_seq ?_
     refine cx_seq ?_
     refine cx_ops ?_
     refine ax_q (q_fadr_ptr rfl) ?_
     refine ax_q (q_load1_ptr rfl rfl rfl) ?_
     first | refine ax_q (q_lenS_map rfl) ?_ | refine ax_q (q_lenS_osl rfl) ?_ | refine ax_q (q_lenS_zs rfl) ?_ | refine ax_q (q_lenS rfl) ?_
     refine ax_q (q_mov rfl) ?_
     refine ax_nil ?_
     refine cx_keep rfl rfl ?_
     refine cx_block ?_
     refine cx_loopU (fun m (p : Nat × LK Str) => p.1 ≤ n.kids.length ∧ m = n.kids.length - p.1 ∧ p.2.seen.length = st.seen.length ∧ kidsF (fun k st => tnodeF t f k (d + 1) false st) n.keys p.1 (n.kids.drop p.1) p.2 = some st') (fun p => [(147, int p.1)]) (fun p => (10, .box [.d (.bool n.leaf), .d (.sl 1 (n.keys.map strRow)), .d (.sl 1 (n.kids.map kidRow))]) :: [(1000, .box [.d (.int .i64 t.root), .d (.sl 3 (t.nodes.map TN.row)), .osl 1001 1 0 p.2.seen.length, .osl 1002 1 0 p.2.keys.length, .d (.int .i64 p.2.deep), .d (.bool false)]), (1001, .rows 1 (p.2.seen.map boolRow)), (1002, .rows 1 (p.2.keys.map strRow))])
      ⟨_, (0, ⟨(st.seen.set k true), st.keys, st.deep⟩), ⟨Nat.zero_le _, rfl, by simp, hks⟩, by simp only [List.length_set]; exact (by repeat (first | exact trivial | refine ⟨rfl, ?_⟩ | refine ⟨?_, ?_⟩))⟩ ?_
     rintro m ⟨i, s⟩ ⟨hi, rfl, hsl, hks2⟩
     simp only at hi hsl hks2 ⊢
     refine cx_seq ?_
     refine cx_ops ?_
     refine ax_q (q_ibin rfl rfl rfl) ?_
     refine ax_nil ?_
     refine cx_keep rfl rfl ?_
     refine cx_seq ?_
     refine cx_cond rfl (fun h3 => ?_) (fun h3 => ?_)
     ·
      have h3 := dT h3
      have h3x : i < n.kids.length := by omega
      obtain ⟨s2, b2, hr, hk2, hk3⟩ := kidsF_at h3x hks2
      refine cx_skip ?_
      refine cx_keep rfl rfl ?_
      refine cx_seq ?_
      refine cx_block ?_
      refine cx_seq ?_
      refine cx_ops ?_
      refine ax_q (q_mov rfl) ?_
      refine ax_q (q_ix rfl rfl (mapAt h3x)) ?_
      first | refine ax_q (q_load1_ptr rfl rfl rfl) ?_ | refine ax_q (q_load1_ip rfl) ?_ | refine ax_q (q_load1_rptr rfl rfl rfl rfl) ?_ | refine ax_q (q_load1_rptr rfl rfl (by assumption) rfl) ?_ | refine ax_q (q_load1_rptr rfl rfl (mapAt (by first | assumption | omega)) rfl) ?_
      refine ax_q (q_mov rfl) ?_
      refine ax_q (q_mov rfl) ?_
      refine ax_nil ?_
      refine cx_keep rfl rfl ?_
      refine cx_seq ?_
      refine cx_ops ?_
      refine ax_q (q_mov rfl) ?_
      refine ax_q (q_mov rfl) ?_
      refine ax_q (q_mov rfl) ?_
      refine ax_qe (r' := int ((d + 1 : Nat) : Int)) (q_ibin rfl rfl rfl) (by rw [wi (by omega) (by omega)]; rfl) ?_
      refine ax_call rfl (vcall_own (ih hr) hP hmv false (fun e => bif Nat.beq e 1000 then 1000 else bif Nat.beq e 1001 then 1001 else 1002) [1000, 1001, 1002] ⟨rfl, rfl, rfl, rfl, ⟨rfl, rfl, rfl, trivial⟩, rfl, rfl, rfl⟩ (.pass rfl rfl (.pass rfl rfl (.pass rfl rfl (.pass rfl rfl .nil)))) ?_)
      rintro r h ⟨rfl, rfl⟩
      refine ⟨(fun e => bif Nat.beq e 1000 then 1000 else bif Nat.beq e 1001 then 1001 else 1002), [], ⟨rfl, rfl, rfl, rfl, mem3 rfl rfl rfl, rfl, rfl, fun h => absurd h Bool.false_ne_true⟩, ?_⟩
      refine ax_q (q_mov rfl) ?_
      refine ax_nil ?_
      refine cx_keep rfl rfl ?_
      refine cx_seq ?_
      refine cx_draw ?_
      refine ax_q (q_mov rfl) ?_
      first | refine ax_q (q_nilck_ptr rfl) ?_ | refine ax_q (q_nilck_rptr rfl) ?_ | refine ax_q (q_nilck_ip rfl) ?_
      first | refine ax_q (q_fadr_ptr rfl) ?_ | refine ax_q (q_fadr_rptr rfl) ?_ | refine ax_q (q_fadr_ip rfl) ?_
      first | refine ax_q (q_load1_ptr rfl rfl rfl) ?_ | refine ax_q (q_load1_ip rfl) ?_ | refine ax_q (q_load1_rptr rfl rfl rfl rfl) ?_ | refine ax_q (q_load1_rptr rfl rfl (by assumption) rfl) ?_ | refine ax_q (q_load1_rptr rfl rfl (mapAt (by first | assumption | omega)) rfl) ?_
      refine ax_q (q_mov rfl) ?_
      apply ax_or rfl rfl
      ·
       intro g
       refine ax_q (q_mov rfl) ?_
       refine ax_q (q_ibin rfl rfl rfl) ?_
       refine ax_q (q_mov rfl) ?_
       apply ax_and rfl rfl
       ·
        intro g
        have g := dT g
        refine ax_q (q_mov rfl) ?_
        first | refine ax_q (q_nilck_ptr rfl) ?_ | refine ax_q (q_nilck_rptr rfl) ?_ | refine ax_q (q_nilck_ip rfl) ?_
        first | refine ax_q (q_fadr_ptr rfl) ?_ | refine ax_q (q_fadr_rptr rfl) ?_ | refine ax_q (q_fadr_ip rfl) ?_
        first | refine ax_q (q_load1_ptr rfl rfl rfl) ?_ | refine ax_q (q_load1_ip rfl) ?_ | refine ax_q (q_load1_rptr rfl rfl rfl rfl) ?_ | refine ax_q (q_load1_rptr rfl rfl (by assumption) rfl) ?_ | refine ax_q (q_load1_rptr rfl rfl (mapAt (by first | assumption | omega)) rfl) ?_
        refine ax_q (q_mov rfl) ?_
        refine ax_q (q_ixo rfl rfl (hk2 (by omega)).1) ?_
        refine ax_q (q_load1_rptr (r := strRow (s2.keys.getD b2 [])) rfl rfl (strD (hk2 (by omega)).1) rfl) ?_
        refine ax_q (q_fadr_ptr rfl) ?_
        refine ax_q (q_load1_ptr rfl rfl rfl) ?_
        refine ax_q (q_mov rfl) ?_
        refine ax_qe (r' := int ((i - 1 : Nat) : Int)) (q_ibin rfl rfl rfl) (by rw [wi (by omega) (by omega)]; exact congrArg AM.int (by omega)) ?_
        refine ax_q (q_ix (row := strRow (n.keys.getD (i - 1) [])) rfl rfl (strD (hk2 (by omega)).2.1)) ?_
        first | refine ax_q (q_load1_ptr rfl rfl rfl) ?_ | refine ax_q (q_load1_ip rfl) ?_ | refine ax_q (q_load1_rptr rfl rfl rfl rfl) ?_ | refine ax_q (q_load1_rptr rfl rfl (by assumption) rfl) ?_ | refine ax_q (q_load1_rptr rfl rfl (mapAt (by first | assumption | omega)) rfl) ?_
        refine ax_q (q_sbin rfl rfl rfl) ?_
        exact ax_nil ⟨rfl, by repeat (first | exact trivial | refine ⟨rfl, ?_⟩ | refine ⟨?_, ?_⟩)⟩
       exact ax_nil ⟨rfl, by repeat (first | exact trivial | refine ⟨rfl, ?_⟩ | refine ⟨?_, ?_⟩)⟩
      refine ax_nil ?_
      refine cx_keep rfl rfl ?_
      refine cx_cond rfl (fun h4 => ?_) (fun h4 => ?_)
      ·
       skip
       exfalso
       by_cases hi0 : 0 < i
       ·
        rw [(hk2 hi0).2.2] at h4; simp at h4
       ·
        rw [decide_eq_false (show ¬ (0 : Int) < (i : Int) by omega)] at h4; cases h4
      ·
       skip
       refine cx_skip ?_
       refine cx_keep rfl rfl ?_
       refine cx_ops ?_
       refine ax_qe (r' := int ((i + 1 : Nat) : Int)) (q_ibin rfl rfl rfl) (by rw [wi (by omega) (by omega)]; rfl) ?_
       refine ax_q (q_mov rfl) ?_
       refine ax_nil ?_
       exact ⟨_, (i + 1, s2), by simp only; omega, ⟨by simp only; omega, rfl, by simp only; rw [(look_mono hr).1]; exact hsl, hk3⟩, by repeat (first | exact trivial | refine ⟨rfl, ?_⟩ | refine ⟨?_, ?_⟩)⟩
     ·
      have h3 := dF h3
      have h3x : i = n.kids.length := by omega
      obtain rfl := kidsF_end (by omega) hks2
      refine cx_exit rfl ?_
      refine cx_keep rfl rfl ?_
      refine cx_seq ?_
      refine cx_ops ?_
      refine ax_q (q_mov rfl) ?_
      refine ax_q (q_mov rfl) ?_
      refine ax_nil ?_
      refine cx_keep rfl rfl ?_
      refine cx_ret (retN id [1000, 1001, 1002] rfl rfl rfl rfl rfl ?_)
      exact ⟨rfl, rfl⟩


/- slices.Index[[]bool,bool] -/
def k_c_Index_Bool : XCode :=
 .seq (.ops [.op (some 4) (.mov (.k (.int .i64 0)))])
 (.keep [0, 1] (.seq (.seq (.ops [.op (some 6) (.mov (.t 0)),
   .op (some 7) (.lenS (.t 6)),
   .op (some 8) (.mov (.k (.int .i64 0)))])
  (.keep [0, 1, 7, 8] (.block 0 (.loop (.seq (.ops [.op (some 9) (.bin .lss (.t 8) (.t 7))])
   (.keep [0, 1, 7, 8, 9] (.seq (.cond (.t 9)
    (.skip)
    (.exit 0))
   (.keep [0, 1, 7, 8] (.seq (.block 1 (.seq (.ops [.op (some 10) (.mov (.t 8)),
     .op (some 5) (.mov (.t 10))])
    (.keep [0, 1, 5, 7, 8] (.seq (.ops [.op (some 11) (.mov (.t 1)),
     .op (some 12) (.mov (.t 0)),
     .op (some 13) (.mov (.t 5)),
     .op (some 14) (.iadr 1 (.t 12) (.t 13)),
     .op (some 15) (.load1 (.t 14)),
     .op (some 16) (.eqb false (.t 11) (.t 15))])
    (.keep [0, 1, 5, 7, 8, 16] (.cond (.t 16)
    (.seq (.ops [.op (some 17) (.mov (.t 5)),
      .op (some 4) (.mov (.t 17))])
     (.keep [4] (.ret)))
    (.skip)))))))
   (.keep [0, 1, 7, 8] (.ops [.op (some 18) (.bin .add (.t 8) (.k (.int .i64 1))),
    .op (some 8) (.mov (.t 18))])))))))))))
 (.keep [] (.seq (.ops [.op (some 4) (.mov (.k (.int .i64 (-1))))])
 (.keep [4] (.ret))))))
theorem k_c_Index_Bool_fits : fitsF Try.prog 54 ⟨19, k_c_Index_Bool, [.t 4]⟩ = true := by kernel_rfl
theorem c_Index_Bool {xs : List Bool} {v : Bool} (hw : xs.length ≤ 9223372036854775807) : Con Try.prog noMv 54 [.d (.sl 1 (xs.map boolRow)), bool v] [] (fun r h => r = int (idxOf (fun s => eqb v s) xs 0) ∧ h = []) := by
 refine con_of2 k_c_Index_Bool_fits rfl fun C hP hmv => ?_
 unfold k_c_Index_Bool
 refine cx_seq ?_
 refine cx_ops ?_
 refine ax_q (q_mov rfl) ?_
 refine ax_nil ?_
 refine cx_keep rfl rfl ?_
 refine cx_seq ?_
 refine cx_seq ?_
 refine cx_ops ?_
 refine ax_q (q_mov rfl) ?_
 first | refine ax_q (q_lenS_map rfl) ?_ | refine ax_q (q_lenS_osl rfl) ?_ | refine ax_q (q_lenS_zs rfl) ?_ | refine ax_q (q_lenS rfl) ?_
 refine ax_q (q_mov rfl) ?_
 refine ax_nil ?_
 refine cx_keep rfl rfl ?_
 refine cx_block ?_
 refine cx_loopU (fun n k => k ≤ xs.length ∧ n = xs.length - k ∧ ∀ i, i < k → ∀ x, xs[i]? = some x → (fun s => eqb v s) x = false) (fun k : Nat => [(8, int k)]) (fun _ => []) ⟨_, 0, ⟨by omega, rfl, fun i hi => by omega⟩, by repeat (first | exact trivial | refine ⟨rfl, ?_⟩ | refine ⟨?_, ?_⟩)⟩ ?_
 rintro n k ⟨hk, rfl, ht⟩
 refine cx_seq ?_
 refine cx_ops ?_
 refine ax_q (q_ibin rfl rfl rfl) ?_
 refine ax_nil ?_
 refine cx_keep rfl rfl ?_
 refine cx_seq ?_
 refine cx_cond rfl (fun h0 => ?_) (fun h0 => ?_)
 ·
  have h0 := dT h0
  have h0x : k < xs.length := by omega
  refine cx_skip ?_
  refine cx_keep rfl rfl ?_
  refine cx_seq ?_
  refine cx_block ?_
  refine cx_seq ?_
  refine cx_ops ?_
  refine ax_q (q_mov rfl) ?_
  refine ax_q (q_mov rfl) ?_
  refine ax_nil ?_
  refine cx_keep rfl rfl ?_
  refine cx_seq ?_
  refine cx_ops ?_
  refine ax_q (q_mov rfl) ?_
  refine ax_q (q_mov rfl) ?_
  refine ax_q (q_mov rfl) ?_
  refine ax_q (q_ix rfl rfl (mapAt h0x)) ?_
  first | refine ax_q (q_load1_ptr rfl rfl rfl) ?_ | refine ax_q (q_load1_ip rfl) ?_ | refine ax_q (q_load1_rptr rfl rfl rfl rfl) ?_ | refine ax_q (q_load1_rptr rfl rfl (by assumption) rfl) ?_ | refine ax_q (q_load1_rptr rfl rfl (mapAt (by first | assumption | omega)) rfl) ?_
  refine ax_q (q_eqb rfl rfl) ?_
  refine ax_nil ?_
  refine cx_keep rfl rfl ?_
  refine cx_cond rfl (fun h1 => ?_) (fun h1 => ?_)
  ·
   have h1 : eqb v xs[k] = true := eqb_t (dT h1)
   refine cx_seq ?_
   refine cx_ops ?_
   refine ax_q (q_mov rfl) ?_
   refine ax_q (q_mov rfl) ?_
   refine ax_nil ?_
   refine cx_keep rfl rfl ?_
   refine cx_ret (ret0 rfl rfl ?_)
   exact ⟨by rw [idxOf_hit h0x ht h1]; rfl, rfl⟩
  ·
   have h1 : eqb v xs[k] = false := eqb_f (dF h1)
   refine cx_skip ?_
   refine cx_keep rfl rfl ?_
   refine cx_ops ?_
   refine ax_qe (r' := int ((k + 1 : Nat) : Int)) (q_ibin rfl rfl rfl) (by rw [wi (by omega) (by omega)]; rfl) ?_
   refine ax_q (q_mov rfl) ?_
   refine ax_nil ?_
   exact ⟨_, k + 1, by omega, ⟨by omega, rfl, before_step h0x ht h1⟩, by repeat (first | exact trivial | refine ⟨rfl, ?_⟩ | refine ⟨?_, ?_⟩)⟩
 ·
  have h0 := dF h0
  have h0x : k = xs.length := by omega
  refine cx_exit rfl ?_
  refine cx_keep rfl rfl ?_
  refine cx_seq ?_
  refine cx_ops ?_
  refine ax_q (q_mov rfl) ?_
  refine ax_nil ?_
  refine cx_keep rfl rfl ?_
  refine cx_ret (ret0 rfl rfl ?_)
  exact ⟨by rw [idxOf_none (fun i hi => ht i (by omega))]; rfl, rfl⟩


/- slices.Contains[[]bool,bool] -/
def k_c_Contains_Bool : XCode :=
 .seq (.ops [.op (some 4) (.mov (.k (.bool false)))])
 (.keep [0, 1] (.seq (.ops [.op (some 5) (.mov (.t 0)),
   .op (some 6) (.mov (.t 1)),
   .call (some 7) 54 [.t 5, .t 6],
   .op (some 8) (.bin .geq (.t 7) (.k (.int .i64 0))),
   .op (some 4) (.mov (.t 8))])
 (.keep [4] (.ret))))
theorem k_c_Contains_Bool_fits : fitsF Try.prog 44 ⟨9, k_c_Contains_Bool, [.t 4]⟩ = true := by kernel_rfl
theorem c_Contains_Bool {xs : List Bool} {v : Bool} (hw : xs.length ≤ 9223372036854775807) : Con Try.prog noMv 44 [.d (.sl 1 (xs.map boolRow)), bool v] [] (fun r h => r = bool (xs.any (fun s => eqb v s)) ∧ h = []) := by
 refine con_of2 k_c_Contains_Bool_fits rfl fun C hP hmv => ?_
 unfold k_c_Contains_Bool
 refine cx_seq ?_
 refine cx_ops ?_
 refine ax_q (q_mov rfl) ?_
 refine ax_nil ?_
 refine cx_keep rfl rfl ?_
 refine cx_seq ?_
 refine cx_ops ?_
 refine ax_q (q_mov rfl) ?_
 refine ax_q (q_mov rfl) ?_
 first | refine ax_call rfl (vc_pure0 (c_Index_Bool (v := v) ?_) hP rfl rfl ?_) | refine ax_call rfl (vc_lend0 (c_Index_Bool (v := v) ?_) hP (by repeat (first | exact lal_id _ rfl | exact LAL.nil | refine LAL.cons ?_ ?_ | exact la_id _ rfl | exact LA.lend (lend_whole rfl (by first | (simp; done) | (rw [List.length_map]; rfl))) | refine LA.agg ?_ | refine LA.fn ?_ | refine LA.lend ?_ | exact Lend.d _ | exact Lend.zs _ | exact lend_whole rfl (by first | (simp; done) | (rw [List.length_map]; rfl)) | refine Lend.ptr rfl ?_ | refine Lend.fn ?_ | exact LendL.nil | refine LendL.cons ?_ ?_)) rfl rfl ?_)
 ·
  first | assumption | omega | (simp; done) | (simp; omega)
 refine ax_qe (r' := bool (xs.any (fun s => eqb v s))) (q_ibin rfl rfl rfl) (congrArg AM.bool any_idxOf) ?_
 refine ax_q (q_mov rfl) ?_
 refine ax_nil ?_
 refine cx_keep rfl rfl ?_
 refine cx_ret (ret0 rfl rfl ?_)
 exact ⟨rfl, rfl⟩


/- (loop.example/g00332/impl.Tree).keys -/
def k_c_keysT : XCode :=
 .seq (.ops [.op (some 1) (.box (.t 0)),
   .op (some 2) (.mov (.k (.nils 1))),
   .op (some 3) (.mov (.k (.bool false)))])
 (.keep [1] (.seq (.seq (.ops [.op (some 7) (.fadr (.t 1) 1),
   .op (some 8) (.load1 (.t 7)),
   .op (some 9) (.lenS (.t 8)),
   .op (some 10) (.bin .gtr (.t 9) (.k (.int .i64 200)))])
  (.keep [1, 10] (.cond (.t 10)
  (.seq (.ops [.op (some 2) (.mov (.k (.nils 1))),
    .op (some 3) (.mov (.k (.bool false)))])
   (.keep [2, 3] (.ret)))
  (.skip))))
 (.keep [1] (.seq (.drawE [[], [], [1], [1, 2], [1, 2, 3], [0, 1, 2, 3, 4], [0, 1, 2, 3, 4, 5], [0, 1, 2, 3, 4, 5, 6]] [.op (some 11) (.loadN 2 (.t 1)),
   .op (some 12) (.fadr (.t 1) 1),
   .op (some 13) (.load1 (.t 12)),
   .op (some 14) (.lenS (.t 13)),
   .op (some 15) (.mkslice 1 1 [.bool false] (.t 14) (.t 14))]
  [.op (some 16) (.build [.int .i64 0, .nils 3, .nils 1, .nils 1, .int .i64 0, .bool false] [(0, 2, .t 11), (2, 1, .t 15)]),
   .op (some 17) (.box (.t 16)),
   .op (some 4) (.mov (.t 17))])
 (.keep [1, 4] (.seq (.ops [.op (some 18) (.mov (.t 4)),
   .op (some 19) (.fadr (.t 1) 0),
   .op (some 20) (.load1 (.t 19)),
   .call (some 21) 43 [.t 18, .t 20, .k (.int .i64 1), .k (.bool true)]])
 (.keep [4] (.seq (.seq (.ops [.op (some 22) (.mov (.t 4)),
   .op (some 23) (.nilck (.t 22)),
   .op (some 24) (.fadr (.t 23) 5),
   .op (some 25) (.load1 (.t 24)),
   .op (some 26) (.mov (.t 25)),
   .andor 32 false 4 26 [.op (some 27) (.mov (.t 4)), .op (some 28) (.nilck (.t 27)), .op (some 29) (.fadr (.t 28) 2), .op (some 30) (.load1 (.t 29)), .call (some 31) 44 [.t 30, .k (.bool false)]] (.t 31),
   .op (some 33) (.mov (.t 32)),
   .andor 40 false 11 33 [.op (some 34) (.mov (.t 4)), .op (some 35) (.nilck (.t 34)), .op (some 36) (.fadr (.t 35) 3), .op (some 37) (.load1 (.t 36)), .op (some 38) (.lenS (.t 37)), .op (some 39) (.bin .gtr (.t 38) (.k (.int .i64 60)))] (.t 39)])
  (.keep [4, 40] (.cond (.t 40)
  (.seq (.ops [.op (some 2) (.mov (.k (.nils 1))),
    .op (some 3) (.mov (.k (.bool false)))])
   (.keep [2, 3] (.ret)))
  (.skip))))
 (.keep [4] (.seq (.seq (.ops [.op (some 41) (.mov (.t 4)),
   .op (some 42) (.nilck (.t 41)),
   .op (some 43) (.fadr (.t 42) 3),
   .op (some 44) (.load1 (.t 43)),
   .op (some 45) (.lenS (.t 44)),
   .op (some 46) (.mov (.k (.int .i64 0)))])
  (.keep [4, 44, 45, 46] (.block 0 (.loop (.seq (.ops [.op (some 47) (.bin .lss (.t 46) (.t 45))])
   (.keep [4, 44, 45, 46, 47] (.seq (.cond (.t 47)
    (.skip)
    (.exit 0))
   (.keep [4, 44, 45, 46] (.seq (.block 1 (.seq (.ops [.op (some 48) (.mov (.t 46)),
     .op (some 49) (.iadr 1 (.t 44) (.t 46)),
     .op (some 50) (.load1 (.t 49)),
     .op (some 5) (.mov (.t 48)),
     .op (some 6) (.mov (.t 50))])
    (.keep [4, 5, 6, 44, 45, 46] (.seq (.ops [.op (some 51) (.mov (.t 6)),
     .call (some 52) 33 [.t 51],
     .op (some 53) (.not (.t 52)),
     .op (some 54) (.mov (.t 53)),
     .andor 69 false 3 54 [.op (some 55) (.mov (.t 5)), .op (some 56) (.bin .gtr (.t 55) (.k (.int .i64 0))), .op (some 57) (.mov (.t 56)), .andor 68 true 6 57 [.op (some 58) (.mov (.t 4)), .op (some 59) (.nilck (.t 58)), .op (some 60) (.fadr (.t 59) 3), .op (some 61) (.load1 (.t 60)), .op (some 62) (.mov (.t 5)), .op (some 63) (.bin .sub (.t 62) (.k (.int .i64 1))), .op (some 64) (.iadr 1 (.t 61) (.t 63)), .op (some 65) (.load1 (.t 64)), .op (some 66) (.mov (.t 6)), .op (some 67) (.bin .geq (.t 65) (.t 66))] (.t 67)] (.t 68)])
    (.keep [4, 44, 45, 46, 69] (.cond (.t 69)
    (.seq (.ops [.op (some 2) (.mov (.k (.nils 1))),
      .op (some 3) (.mov (.k (.bool false)))])
     (.keep [2, 3] (.ret)))
    (.skip)))))))
   (.keep [4, 44, 45, 46] (.ops [.op (some 70) (.bin .add (.t 46) (.k (.int .i64 1))),
    .op (some 46) (.mov (.t 70))])))))))))))
 (.keep [4] (.seq (.ops [.op (some 71) (.mov (.t 4)),
   .op (some 72) (.nilck (.t 71)),
   .op (some 73) (.fadr (.t 72) 3),
   .op (some 74) (.load1 (.t 73)),
   .op (some 2) (.mov (.t 74)),
   .op (some 3) (.mov (.k (.bool true)))])
 (.keep [2, 3] (.ret))))))))))))))
theorem k_c_keysT_fits : fitsF Try.prog 23 ⟨75, k_c_keysT, [.t 2, .t 3]⟩ = true := by kernel_rfl
theorem c_keysT {ks : List Str} (hk : KS ks) : Con Try.prog noMv 23 [.agg [.d (.int .i64 (treeT ks).root), .d (.sl 3 ((treeT ks).nodes.map TN.row))]] [] (fun r h => r = .tup [.osl 0 1 0 ks.length, bool true] ∧ h = [(0, .rows 1 (ks.map strRow))]) := by
 refine con_of2 k_c_keysT_fits rfl fun C hP hmv => ?_
 unfold k_c_keysT
 have K := hk.look
 obtain ⟨⟨sn, kk, dd⟩, hlk, hs1, hs2⟩ := K.lk
 simp only at hs1 hs2
 have hs2 := hs2.symm
 subst hs1
 subst hs2
 have q1 := K.nd
 have q2 := K.rt
 have q3 := hk.ln
 refine cx_seq ?_
 refine cx_ops ?_
 refine ax_e (e_box rfl rfl (by decide) rfl rfl rfl) ?_
 refine ax_q (q_mov rfl) ?_
 refine ax_q (q_mov rfl) ?_
 refine ax_nil ?_
 refine cx_keep rfl rfl ?_
 refine cx_seq ?_
 refine cx_seq ?_
 refine cx_ops ?_
 refine ax_q (q_fadr_ptr rfl) ?_
 refine ax_q (q_load1_ptr rfl rfl rfl) ?_
 first | refine ax_q (q_lenS_map rfl) ?_ | refine ax_q (q_lenS_osl rfl) ?_ | refine ax_q (q_lenS_zs rfl) ?_ | refine ax_q (q_lenS rfl) ?_
 refine ax_q (q_ibin rfl rfl rfl) ?_
 refine ax_nil ?_
 refine cx_keep rfl rfl ?_
 refine cx_cond rfl (fun h0 => ?_) (fun h0 => ?_)
 ·
  have h0 := dT h0
  exfalso; omega
 ·
  have h0 := dF h0
  refine cx_skip ?_
  refine cx_keep rfl rfl ?_
  refine cx_seq ?_
  refine cx_drawL 0 11 (fun _ => false) (fun _ => true) [] ([]) [[1], [1], [12], [13], [14]] [[], [], [], [], []] rfl ?_
  first | refine ⟨⟨11, _, []⟩, .inl ⟨rfl, rfl, rfl, locl_of (loc_q (q_ldN rfl rfl rfl))⟩, ?_⟩
  first | refine ⟨_, .inr ⟨rfl, _, rfl, .inr ⟨rfl, rfl, .inr rfl, rfl, rfl⟩, loc_q (q_fadr_ptr rfl)⟩, ?_⟩
  first | refine ⟨_, .inr ⟨rfl, _, rfl, .inr ⟨rfl, rfl, .inr rfl, rfl, rfl⟩, loc_q (q_load1_ptr rfl rfl rfl)⟩, ?_⟩
  first | refine ⟨_, .inr ⟨rfl, _, rfl, .inr ⟨rfl, rfl, .inr rfl, rfl, rfl⟩, loc_q (q_lenS_map rfl)⟩, ?_⟩ | refine ⟨_, .inr ⟨rfl, _, rfl, .inr ⟨rfl, rfl, .inr rfl, rfl, rfl⟩, loc_q (q_lenS_osl rfl)⟩, ?_⟩ | refine ⟨_, .inr ⟨rfl, _, rfl, .inr ⟨rfl, rfl, .inr rfl, rfl, rfl⟩, loc_q (q_lenS_zs rfl)⟩, ?_⟩ | refine ⟨_, .inr ⟨rfl, _, rfl, .inr ⟨rfl, rfl, .inr rfl, rfl, rfl⟩, loc_q (q_lenS rfl)⟩, ?_⟩
  first | refine ⟨_, .inr ⟨rfl, _, rfl, .inr ⟨rfl, rfl, .inr rfl, rfl, rfl⟩, loc_mkB rfl rfl rfl (by omega)⟩, ?_⟩
  refine ⟨rfl, ?_⟩
  refine ax_q (q_build rfl) ?_
  refine ax_e (e_box rfl rfl (by decide) rfl rfl rfl) ?_
  refine ax_q (q_mov rfl) ?_
  refine ax_nil ?_
  refine cx_keep rfl rfl ?_
  refine cx_seq ?_
  refine cx_ops ?_
  refine ax_q (q_mov rfl) ?_
  refine ax_q (q_fadr_ptr rfl) ?_
  refine ax_q (q_load1_ptr rfl rfl rfl) ?_
  refine ax_wk (wk_virt 901 1 rfl rfl rfl) ?_
  refine ax_wk (wk_zsb 17 901 3 rfl rfl rfl) ?_
  refine ax_call rfl (vcall_own (c_node_look (st := ⟨List.replicate (treeT ks).nodes.length false, [], 0⟩) q1 hlk) hP hmv false (fun e => bif Nat.beq e 1000 then 17 else bif Nat.beq e 1001 then 15 else 901) [1000, 1001, 1002] ⟨rfl, rfl, rfl, rfl, ⟨rfl, rfl, rfl, trivial⟩, rfl, rfl, rfl⟩ (.pass rfl rfl (.pass rfl rfl (.pass rfl rfl (.pass rfl rfl .nil)))) ?_)
  rintro r h ⟨rfl, rfl⟩
  refine ⟨(fun e => bif Nat.beq e 1000 then 17 else bif Nat.beq e 1001 then 15 else 901), [], ⟨rfl, rfl, rfl, rfl, mem3 rfl rfl rfl, rfl, rfl, fun h => absurd h Bool.false_ne_true⟩, ?_⟩
  dsimp only
  refine ax_nil ?_
  refine cx_keep rfl rfl ?_
  refine cx_seq ?_
  refine cx_seq ?_
  refine cx_ops ?_
  refine ax_q (q_mov rfl) ?_
  first | refine ax_q (q_nilck_ptr rfl) ?_ | refine ax_q (q_nilck_rptr rfl) ?_ | refine ax_q (q_nilck_ip rfl) ?_
  first | refine ax_q (q_fadr_ptr rfl) ?_ | refine ax_q (q_fadr_rptr rfl) ?_ | refine ax_q (q_fadr_ip rfl) ?_
  first | refine ax_q (q_load1_ptr rfl rfl rfl) ?_ | refine ax_q (q_load1_ip rfl) ?_ | refine ax_q (q_load1_rptr rfl rfl rfl rfl) ?_ | refine ax_q (q_load1_rptr rfl rfl (by assumption) rfl) ?_ | refine ax_q (q_load1_rptr rfl rfl (mapAt (by first | assumption | omega)) rfl) ?_
  refine ax_q (q_mov rfl) ?_
  apply ax_or rfl rfl
  ·
   intro g
   refine ax_q (q_mov rfl) ?_
   first | refine ax_q (q_nilck_ptr rfl) ?_ | refine ax_q (q_nilck_rptr rfl) ?_ | refine ax_q (q_nilck_ip rfl) ?_
   first | refine ax_q (q_fadr_ptr rfl) ?_ | refine ax_q (q_fadr_rptr rfl) ?_ | refine ax_q (q_fadr_ip rfl) ?_
   first | refine ax_q (q_load1_ptr rfl rfl rfl) ?_ | refine ax_q (q_load1_ip rfl) ?_ | refine ax_q (q_load1_rptr rfl rfl rfl rfl) ?_ | refine ax_q (q_load1_rptr rfl rfl (by assumption) rfl) ?_ | refine ax_q (q_load1_rptr rfl rfl (mapAt (by first | assumption | omega)) rfl) ?_
   first | refine ax_call rfl (vc_pure0 (c_Contains_Bool (xs := (List.replicate (treeT ks).nodes.length true)) (v := false) ?_) hP rfl rfl ?_) | refine ax_call rfl (vc_lend0 (c_Contains_Bool (xs := (List.replicate (treeT ks).nodes.length true)) (v := false) ?_) hP (by repeat (first | exact lal_id _ rfl | exact LAL.nil | refine LAL.cons ?_ ?_ | exact la_id _ rfl | exact LA.lend (lend_whole rfl (by first | (simp; done) | (rw [List.length_map]; rfl))) | refine LA.agg ?_ | refine LA.fn ?_ | refine LA.lend ?_ | exact Lend.d _ | exact Lend.zs _ | exact lend_whole rfl (by first | (simp; done) | (rw [List.length_map]; rfl)) | refine Lend.ptr rfl ?_ | refine Lend.fn ?_ | exact LendL.nil | refine LendL.cons ?_ ?_)) rfl rfl ?_)
   ·
    rw [List.length_replicate]; omega
   exact ax_nil ⟨rfl, by repeat (first | exact trivial | refine ⟨rfl, ?_⟩ | refine ⟨?_, ?_⟩)⟩
  refine ax_q (q_mov rfl) ?_
  apply ax_or rfl rfl
  ·
   intro g
   have g := (fun h => And.intro (id (or_F h).1) (id (or_F h).2)) g
   refine ax_q (q_mov rfl) ?_
   first | refine ax_q (q_nilck_ptr rfl) ?_ | refine ax_q (q_nilck_rptr rfl) ?_ | refine ax_q (q_nilck_ip rfl) ?_
   first | refine ax_q (q_fadr_ptr rfl) ?_ | refine ax_q (q_fadr_rptr rfl) ?_ | refine ax_q (q_fadr_ip rfl) ?_
   first | refine ax_q (q_load1_ptr rfl rfl rfl) ?_ | refine ax_q (q_load1_ip rfl) ?_ | refine ax_q (q_load1_rptr rfl rfl rfl rfl) ?_ | refine ax_q (q_load1_rptr rfl rfl (by assumption) rfl) ?_ | refine ax_q (q_load1_rptr rfl rfl (mapAt (by first | assumption | omega)) rfl) ?_
   first | refine ax_q (q_lenS_map rfl) ?_ | refine ax_q (q_lenS_osl rfl) ?_ | refine ax_q (q_lenS_zs rfl) ?_ | refine ax_q (q_lenS rfl) ?_
   refine ax_q (q_ibin rfl rfl rfl) ?_
   exact ax_nil ⟨rfl, by repeat (first | exact trivial | refine ⟨rfl, ?_⟩ | refine ⟨?_, ?_⟩)⟩
  refine ax_nil ?_
  refine cx_keep rfl rfl ?_
  refine cx_cond rfl (fun h1 => ?_) (fun h1 => ?_)
  ·
   have h1 := (fun h => (or_T h).imp (fun h => (or_T h).imp id id) dT) h1
   exfalso
   rcases h1 with (h | h) | h
   ·
    cases h
   ·
    rw [any_rep] at h; cases h
   ·
    omega
  ·
   have h1 := (fun h => And.intro ((fun h => And.intro (id (or_F h).1) (id (or_F h).2)) (or_F h).1) (dF (or_F h).2)) h1
   refine cx_skip ?_
   refine cx_keep rfl rfl ?_
   refine cx_seq ?_
   refine cx_seq ?_
   refine cx_ops ?_
   refine ax_q (q_mov rfl) ?_
   first | refine ax_q (q_nilck_ptr rfl) ?_ | refine ax_q (q_nilck_rptr rfl) ?_ | refine ax_q (q_nilck_ip rfl) ?_
   first | refine ax_q (q_fadr_ptr rfl) ?_ | refine ax_q (q_fadr_rptr rfl) ?_ | refine ax_q (q_fadr_ip rfl) ?_
   first | refine ax_q (q_load1_ptr rfl rfl rfl) ?_ | refine ax_q (q_load1_ip rfl) ?_ | refine ax_q (q_load1_rptr rfl rfl rfl rfl) ?_ | refine ax_q (q_load1_rptr rfl rfl (by assumption) rfl) ?_ | refine ax_q (q_load1_rptr rfl rfl (mapAt (by first | assumption | omega)) rfl) ?_
   first | refine ax_q (q_lenS_map rfl) ?_ | refine ax_q (q_lenS_osl rfl) ?_ | refine ax_q (q_lenS_zs rfl) ?_ | refine ax_q (q_lenS rfl) ?_
   refine ax_q (q_mov rfl) ?_
   refine ax_nil ?_
   refine cx_keep rfl rfl ?_
   refine cx_block ?_
   refine cx_loopU (fun m k => k ≤ ks.length ∧ m = ks.length - k) (fun k : Nat => [(46, int k)]) (fun _ => [(1, .box [.d (.int .i64 (treeT ks).root), .d (.sl 3 ((treeT ks).nodes.map TN.row))]), (17, .box [.d (.int .i64 (treeT ks).root), .d (.sl 3 ((treeT ks).nodes.map TN.row)), .osl 15 1 0 (List.replicate (treeT ks).nodes.length true).length, .osl 901 1 0 ks.length, .d (.int .i64 dd), .d (.bool false)]), (15, .rows 1 ((List.replicate (treeT ks).nodes.length true).map boolRow)), (901, .rows 1 (ks.map strRow))]) ⟨_, 0, ⟨Nat.zero_le _, rfl⟩, by repeat (first | exact trivial | refine ⟨rfl, ?_⟩ | refine ⟨?_, ?_⟩)⟩ ?_
   rintro m k ⟨hk0, rfl⟩
   refine cx_seq ?_
   refine cx_ops ?_
   refine ax_q (q_ibin rfl rfl rfl) ?_
   refine ax_nil ?_
   refine cx_keep rfl rfl ?_
   refine cx_seq ?_
   refine cx_cond rfl (fun h2 => ?_) (fun h2 => ?_)
   ·
    have h2 := dT h2
    have h2x : k < ks.length := by omega
    have hz := hk.sz _ (List.getElem_mem h2x)
    refine cx_skip ?_
    refine cx_keep rfl rfl ?_
    refine cx_seq ?_
    refine cx_block ?_
    refine cx_seq ?_
    refine cx_ops ?_
    refine ax_q (q_mov rfl) ?_
    refine ax_q (q_ixo rfl rfl h2x) ?_
    refine ax_q (q_load1_rptr (r := strRow ks[k]) rfl rfl (mapAt h2x) rfl) ?_
    refine ax_q (q_mov rfl) ?_
    refine ax_q (q_mov rfl) ?_
    refine ax_nil ?_
    refine cx_keep rfl rfl ?_
    refine cx_seq ?_
    refine cx_ops ?_
    refine ax_q (q_mov rfl) ?_
    first | refine ax_call rfl (vc_pure0 (c_isKey (s := ks[k]) ) hP rfl rfl ?_) | refine ax_call rfl (vc_lend0 (c_isKey (s := ks[k]) ) hP (by repeat (first | exact lal_id _ rfl | exact LAL.nil | refine LAL.cons ?_ ?_ | exact la_id _ rfl | exact LA.lend (lend_whole rfl (by first | (simp; done) | (rw [List.length_map]; rfl))) | refine LA.agg ?_ | refine LA.fn ?_ | refine LA.lend ?_ | exact Lend.d _ | exact Lend.zs _ | exact lend_whole rfl (by first | (simp; done) | (rw [List.length_map]; rfl)) | refine Lend.ptr rfl ?_ | refine Lend.fn ?_ | exact LendL.nil | refine LendL.cons ?_ ?_)) rfl rfl ?_)
    refine ax_q (q_not rfl) ?_
    refine ax_q (q_mov rfl) ?_
    apply ax_or rfl rfl
    ·
     intro g
     have g := bF g
     refine ax_q (q_mov rfl) ?_
     refine ax_q (q_ibin rfl rfl rfl) ?_
     refine ax_q (q_mov rfl) ?_
     apply ax_and rfl rfl
     ·
      intro g
      have g := dT g
      refine ax_q (q_mov rfl) ?_
      first | refine ax_q (q_nilck_ptr rfl) ?_ | refine ax_q (q_nilck_rptr rfl) ?_ | refine ax_q (q_nilck_ip rfl) ?_
      first | refine ax_q (q_fadr_ptr rfl) ?_ | refine ax_q (q_fadr_rptr rfl) ?_ | refine ax_q (q_fadr_ip rfl) ?_
      first | refine ax_q (q_load1_ptr rfl rfl rfl) ?_ | refine ax_q (q_load1_ip rfl) ?_ | refine ax_q (q_load1_rptr rfl rfl rfl rfl) ?_ | refine ax_q (q_load1_rptr rfl rfl (by assumption) rfl) ?_ | refine ax_q (q_load1_rptr rfl rfl (mapAt (by first | assumption | omega)) rfl) ?_
      refine ax_q (q_mov rfl) ?_
      refine ax_qe (r' := int ((k - 1 : Nat) : Int)) (q_ibin rfl rfl rfl) (by rw [wi (by omega) (by omega)]; exact congrArg AM.int (by omega)) ?_
      refine ax_q (q_ixo rfl rfl (by omega)) ?_
      refine ax_q (q_load1_rptr (r := strRow (ks.getD (k - 1) [])) rfl rfl (strD (by omega)) rfl) ?_
      refine ax_q (q_mov rfl) ?_
      refine ax_q (q_sbin rfl rfl rfl) ?_
      exact ax_nil ⟨rfl, by repeat (first | exact trivial | refine ⟨rfl, ?_⟩ | refine ⟨?_, ?_⟩)⟩
     exact ax_nil ⟨rfl, by repeat (first | exact trivial | refine ⟨rfl, ?_⟩ | refine ⟨?_, ?_⟩)⟩
    refine ax_nil ?_
    refine cx_keep rfl rfl ?_
    refine cx_cond rfl (fun h3 => ?_) (fun h3 => ?_)
    ·
     skip
     exfalso
     rw [inR_iff.2 (show (1 : Int) ≤ (ks[k].length : Int) ∧ (ks[k].length : Int) ≤ 30 by omega)] at h3
     by_cases hi0 : 0 < k
     ·
      have := hk.asc.lt (i := k - 1) (j := k) (by omega) h2x
      rw [show ks.getD (k - 1) [] = ks[k - 1] from by simp [show k - 1 < ks.length from by omega], this] at h3; simp at h3
     ·
      rw [decide_eq_false (show ¬ (0 : Int) < (k : Int) by omega)] at h3; simp at h3
    ·
     skip
     refine cx_skip ?_
     refine cx_keep rfl rfl ?_
     refine cx_ops ?_
     refine ax_qe (r' := int ((k + 1 : Nat) : Int)) (q_ibin rfl rfl rfl) (by rw [wi (by omega) (by omega)]; rfl) ?_
     refine ax_q (q_mov rfl) ?_
     refine ax_nil ?_
     exact ⟨_, k + 1, by omega, ⟨by omega, rfl⟩, by repeat (first | exact trivial | refine ⟨rfl, ?_⟩ | refine ⟨?_, ?_⟩)⟩
   ·
    have h2 := dF h2
    refine cx_exit rfl ?_
    refine cx_keep rfl rfl ?_
    refine cx_seq ?_
    refine cx_ops ?_
    refine ax_q (q_mov rfl) ?_
    first | refine ax_q (q_nilck_ptr rfl) ?_ | refine ax_q (q_nilck_rptr rfl) ?_ | refine ax_q (q_nilck_ip rfl) ?_
    first | refine ax_q (q_fadr_ptr rfl) ?_ | refine ax_q (q_fadr_rptr rfl) ?_ | refine ax_q (q_fadr_ip rfl) ?_
    first | refine ax_q (q_load1_ptr rfl rfl rfl) ?_ | refine ax_q (q_load1_ip rfl) ?_ | refine ax_q (q_load1_rptr rfl rfl rfl rfl) ?_ | refine ax_q (q_load1_rptr rfl rfl (by assumption) rfl) ?_ | refine ax_q (q_load1_rptr rfl rfl (mapAt (by first | assumption | omega)) rfl) ?_
    refine ax_q (q_mov rfl) ?_
    refine ax_q (q_mov rfl) ?_
    refine ax_nil ?_
    refine cx_keep rfl rfl ?_
    refine cx_ret (retN (fun _ => 0) [901] rfl rfl rfl rfl rfl ?_)
    exact ⟨rfl, rfl⟩


/- loop.example/g00332/impl.treeAsked -/
def k_c_treeAsked : XCode :=
 .seq (.ops [.op (some 2) (.box (.t 0)),
   .op (some 4) (.mov (.k (.nils 1))),
   .op (some 5) (.mov (.k (.int .i64 0)))])
 (.keep [1, 2] (.seq (.seq (.ops [.op (some 8) (.mov (.t 1)),
   .op (some 9) (.bslice 1 [.t 8]),
   .call (some 10) 22 [.t 9]])
  (.keep [1, 2, 10] (.cond (.t 10)
  (.seq (.ops [.op (some 4) (.mov (.k (.nils 1))),
    .op (some 5) (.mov (.k (.int .i64 2)))])
   (.keep [4, 5] (.ret)))
  (.skip))))
 (.keep [1, 2] (.seq (.ops [.op (some 12) (.loadN 2 (.t 2)),
   .call (some 13) 23 [.t 12],
   .op (some 11) (.mov (.t 13)),
   .op (some 14) (.ext (.t 11) 0),
   .op (some 15) (.ext (.t 11) 1),
   .op (some 6) (.mov (.t 14)),
   .op (some 7) (.mov (.t 15))])
 (.keep [1, 6, 7] (.seq (.block 0 (.seq (.ops [.op (some 17) (.mov (.t 7)),
    .op (some 18) (.not (.t 17)),
    .op (some 16) (.mov (.t 18))])
  (.keep [1, 6, 16] (.cond (.t 16)
   (.seq (.ops [.op (some 4) (.mov (.k (.nils 1))),
     .op (some 5) (.mov (.k (.int .i64 1)))])
   (.keep [4, 5] (.ret)))
   (.seq (.ops [.op (some 20) (.mov (.t 1)),
     .call (some 21) 33 [.t 20],
     .op (some 22) (.not (.t 21)),
     .op (some 19) (.mov (.t 22))])
   (.keep [6, 19] (.cond (.t 19)
    (.seq (.ops [.op (some 4) (.mov (.k (.nils 1))),
      .op (some 5) (.mov (.k (.int .i64 4)))])
    (.keep [4, 5] (.ret)))
    (.skip))))))))
 (.keep [6] (.seq (.ops [.op (some 23) (.mov (.t 6)),
   .op (some 4) (.mov (.t 23)),
   .op (some 5) (.mov (.k (.int .i64 0)))])
 (.keep [4, 5] (.ret))))))))))
theorem k_c_treeAsked_fits : fitsF Try.prog 18 ⟨24, k_c_treeAsked, [.t 4, .t 5]⟩ = true := by kernel_rfl
theorem c_treeAsked {ks : List Str} {key : Str} (hk : KS ks) (hz : 1 ≤ key.length ∧ key.length ≤ 30) : Con Try.prog noMv 18 [.agg [.d (.int .i64 (treeT ks).root), .d (.sl 3 ((treeT ks).nodes.map TN.row))], str key] [] (fun r h => r = .tup [.osl 0 1 0 ks.length, int 0] ∧ h = [(0, .rows 1 (ks.map strRow))]) := by
 refine con_of2 k_c_treeAsked_fits rfl fun C hP hmv => ?_
 unfold k_c_treeAsked
 have q3 := hk.ln
 refine cx_seq ?_
 refine cx_ops ?_
 refine ax_e (e_box rfl rfl (by decide) rfl rfl rfl) ?_
 refine ax_q (q_mov rfl) ?_
 refine ax_q (q_mov rfl) ?_
 refine ax_nil ?_
 refine cx_keep rfl rfl ?_
 refine cx_seq ?_
 refine cx_seq ?_
 refine cx_ops ?_
 refine ax_q (q_mov rfl) ?_
 refine ax_e (e_bsliceD (rows := [key].map strRow) rfl) ?_
 first | refine ax_call rfl (vc_pure0 (c_isLong (xs := [key]) ?_) hP rfl rfl ?_) | refine ax_call rfl (vc_lend0 (c_isLong (xs := [key]) ?_) hP (by repeat (first | exact lal_id _ rfl | exact LAL.nil | refine LAL.cons ?_ ?_ | exact la_id _ rfl | exact LA.lend (lend_whole rfl (by first | (simp; done) | (rw [List.length_map]; rfl))) | refine LA.agg ?_ | refine LA.fn ?_ | refine LA.lend ?_ | exact Lend.d _ | exact Lend.zs _ | exact lend_whole rfl (by first | (simp; done) | (rw [List.length_map]; rfl)) | refine Lend.ptr rfl ?_ | refine Lend.fn ?_ | exact LendL.nil | refine LendL.cons ?_ ?_)) rfl rfl ?_)
 ·
  simp
 refine ax_nil ?_
 refine cx_keep rfl rfl ?_
 refine cx_cond rfl (fun h0 => ?_) (fun h0 => ?_)
 ·
  skip
  exfalso; rw [show [key].any long64 = false from by unfold long64; simp; omega] at h0; cases h0
 ·
  skip
  refine cx_skip ?_
  refine cx_keep rfl rfl ?_
  refine cx_seq ?_
  refine cx_ops ?_
  refine ax_q (q_ldN rfl rfl rfl) ?_
  first | refine ax_call rfl (vc_pure (c_keysT  ?_) hP rfl ?_) | refine ax_call rfl (vc_lend (c_keysT  ?_) hP (by repeat (first | exact lal_id _ rfl | exact LAL.nil | refine LAL.cons ?_ ?_ | exact la_id _ rfl | exact LA.lend (lend_whole rfl (by first | (simp; done) | (rw [List.length_map]; rfl))) | refine LA.agg ?_ | refine LA.fn ?_ | refine LA.lend ?_ | exact Lend.d _ | exact Lend.zs _ | exact lend_whole rfl (by first | (simp; done) | (rw [List.length_map]; rfl)) | refine Lend.ptr rfl ?_ | refine Lend.fn ?_ | exact LendL.nil | refine LendL.cons ?_ ?_)) ?_)
  ·
   first | assumption | omega | (simp; done) | (simp; omega)
  rintro r h ⟨rfl, rfl⟩
  refine ⟨fun i => 13 + 200 * i, [0], ⟨rfl, rfl, rfl, rfl, rfl, (by first | exact (fun h => absurd h Bool.false_ne_true) | exact (fun _ => ⟨rfl, (noisl_of (by repeat (first | exact trivial | refine ⟨noisl_map (fun _ => rfl), ?_⟩ | refine ⟨?_, ?_⟩)))⟩))⟩, ?_⟩
  skip
  refine ax_q (q_mov rfl) ?_
  refine ax_q (q_ext rfl rfl) ?_
  refine ax_q (q_ext rfl rfl) ?_
  refine ax_q (q_mov rfl) ?_
  refine ax_q (q_mov rfl) ?_
  refine ax_nil ?_
  refine cx_keep rfl rfl ?_
  refine cx_seq ?_
  refine cx_block ?_
  refine cx_seq ?_
  refine cx_ops ?_
  refine ax_q (q_mov rfl) ?_
  refine ax_q (q_not rfl) ?_
  refine ax_q (q_mov rfl) ?_
  refine ax_nil ?_
  refine cx_keep rfl rfl ?_
  refine cx_cond rfl (fun h1 => ?_) (fun h1 => ?_)
  ·
   skip
   exact absurd h1 Bool.false_ne_true
  ·
   skip
   refine cx_seq ?_
   refine cx_ops ?_
   refine ax_q (q_mov rfl) ?_
   first | refine ax_call rfl (vc_pure0 (c_isKey  ) hP rfl rfl ?_) | refine ax_call rfl (vc_lend0 (c_isKey  ) hP (by repeat (first | exact lal_id _ rfl | exact LAL.nil | refine LAL.cons ?_ ?_ | exact la_id _ rfl | exact LA.lend (lend_whole rfl (by first | (simp; done) | (rw [List.length_map]; rfl))) | refine LA.agg ?_ | refine LA.fn ?_ | refine LA.lend ?_ | exact Lend.d _ | exact Lend.zs _ | exact lend_whole rfl (by first | (simp; done) | (rw [List.length_map]; rfl)) | refine Lend.ptr rfl ?_ | refine Lend.fn ?_ | exact LendL.nil | refine LendL.cons ?_ ?_)) rfl rfl ?_)
   refine ax_q (q_not rfl) ?_
   refine ax_q (q_mov rfl) ?_
   refine ax_nil ?_
   refine cx_keep rfl rfl ?_
   refine cx_cond rfl (fun h2 => ?_) (fun h2 => ?_)
   ·
    skip
    exfalso; rw [inR_iff.2 (show (1 : Int) ≤ (key.length : Int) ∧ (key.length : Int) ≤ 30 by omega)] at h2; cases h2
   ·
    skip
    refine cx_skip ?_
    refine cx_keep rfl rfl ?_
    refine cx_seq ?_
    refine cx_ops ?_
    refine ax_q (q_mov rfl) ?_
    refine ax_q (q_mov rfl) ?_
    refine ax_q (q_mov rfl) ?_
    refine ax_nil ?_
    refine cx_keep rfl rfl ?_
    refine cx_ret (retN (fun _ => 0) [13] rfl rfl rfl rfl rfl ?_)
    exact ⟨rfl, rfl⟩


/- cmp.isNaN[string] -/
def k_c_cmp_isNaN : XCode :=
 .seq (.ops [.op (some 2) (.mov (.k (.bool false)))])
 (.keep [0] (.seq (.ops [.op (some 3) (.mov (.t 0)),
   .op (some 4) (.mov (.t 0)),
   .op (some 5) (.bin .neq (.t 3) (.t 4)),
   .op (some 2) (.mov (.t 5))])
 (.keep [2] (.ret))))
theorem k_c_cmp_isNaN_fits : fitsF Try.prog 51 ⟨6, k_c_cmp_isNaN, [.t 2]⟩ = true := by kernel_rfl
theorem c_cmp_isNaN {s : Str} : Con Try.prog noMv 51 [str s] [] (fun r h => r = bool false ∧ h = []) := by
 refine con_of2 k_c_cmp_isNaN_fits rfl fun C hP hmv => ?_
 unfold k_c_cmp_isNaN
 refine cx_seq ?_
 refine cx_ops ?_
 refine ax_q (q_mov rfl) ?_
 refine ax_nil ?_
 refine cx_keep rfl rfl ?_
 refine cx_seq ?_
 refine cx_ops ?_
 refine ax_q (q_mov rfl) ?_
 refine ax_q (q_mov rfl) ?_
 refine ax_q (q_sbin rfl rfl rfl) ?_
 refine ax_q (q_mov rfl) ?_
 refine ax_nil ?_
 refine cx_keep rfl rfl ?_
 refine cx_ret (ret0 rfl rfl ?_)
 exact ⟨by simp; rfl, rfl⟩


/- cmp.Less[string] -/
def k_c_Less : XCode :=
 .seq (.ops [.op (some 4) (.mov (.k (.bool false)))])
 (.keep [0, 1] (.seq (.ops [.op (some 5) (.mov (.t 0)),
   .call (some 6) 51 [.t 5],
   .op (some 7) (.mov (.t 6)),
   .andor 11 true 2 7 [.op (some 8) (.mov (.t 1)), .call (some 9) 51 [.t 8], .op (some 10) (.not (.t 9))] (.t 10),
   .op (some 12) (.mov (.t 11)),
   .andor 16 false 7 12 [.op (some 13) (.mov (.t 0)), .op (some 14) (.mov (.t 1)), .op (some 15) (.bin .lss (.t 13) (.t 14))] (.t 15),
   .op (some 4) (.mov (.t 16))])
 (.keep [4] (.ret))))
theorem k_c_Less_fits : fitsF Try.prog 34 ⟨17, k_c_Less, [.t 4]⟩ = true := by kernel_rfl
theorem c_Less {a b : Str} : Con Try.prog noMv 34 [str a, str b] [] (fun r h => r = bool (Op.bytesLess a b) ∧ h = []) := by
 refine con_of2 k_c_Less_fits rfl fun C hP hmv => ?_
 unfold k_c_Less
 refine cx_seq ?_
 refine cx_ops ?_
 refine ax_q (q_mov rfl) ?_
 refine ax_nil ?_
 refine cx_keep rfl rfl ?_
 refine cx_seq ?_
 refine cx_ops ?_
 refine ax_q (q_mov rfl) ?_
 first | refine ax_call rfl (vc_pure0 (c_cmp_isNaN  ) hP rfl rfl ?_) | refine ax_call rfl (vc_lend0 (c_cmp_isNaN  ) hP (by repeat (first | exact lal_id _ rfl | exact LAL.nil | refine LAL.cons ?_ ?_ | exact la_id _ rfl | exact LA.lend (lend_whole rfl (by first | (simp; done) | (rw [List.length_map]; rfl))) | refine LA.agg ?_ | refine LA.fn ?_ | refine LA.lend ?_ | exact Lend.d _ | exact Lend.zs _ | exact lend_whole rfl (by first | (simp; done) | (rw [List.length_map]; rfl)) | refine Lend.ptr rfl ?_ | refine Lend.fn ?_ | exact LendL.nil | refine LendL.cons ?_ ?_)) rfl rfl ?_)
 refine ax_q (q_mov rfl) ?_
 apply ax_and rfl rfl
 ·
  intro g
  refine ax_q (q_mov rfl) ?_
  first | refine ax_call rfl (vc_pure0 (c_cmp_isNaN  ) hP rfl rfl ?_) | refine ax_call rfl (vc_lend0 (c_cmp_isNaN  ) hP (by repeat (first | exact lal_id _ rfl | exact LAL.nil | refine LAL.cons ?_ ?_ | exact la_id _ rfl | exact LA.lend (lend_whole rfl (by first | (simp; done) | (rw [List.length_map]; rfl))) | refine LA.agg ?_ | refine LA.fn ?_ | refine LA.lend ?_ | exact Lend.d _ | exact Lend.zs _ | exact lend_whole rfl (by first | (simp; done) | (rw [List.length_map]; rfl)) | refine Lend.ptr rfl ?_ | refine Lend.fn ?_ | exact LendL.nil | refine LendL.cons ?_ ?_)) rfl rfl ?_)
  refine ax_q (q_not rfl) ?_
  exact ax_nil ⟨rfl, by repeat (first | exact trivial | refine ⟨rfl, ?_⟩ | refine ⟨?_, ?_⟩)⟩
 refine ax_q (q_mov rfl) ?_
 apply ax_or rfl rfl
 ·
  intro g
  have g := (fun h => (and_F h).imp id bF) g
  refine ax_q (q_mov rfl) ?_
  refine ax_q (q_mov rfl) ?_
  refine ax_q (q_sbin rfl rfl rfl) ?_
  exact ax_nil ⟨rfl, by repeat (first | exact trivial | refine ⟨rfl, ?_⟩ | refine ⟨?_, ?_⟩)⟩
 refine ax_q (q_mov rfl) ?_
 refine ax_nil ?_
 refine cx_keep rfl rfl ?_
 refine cx_ret (ret0 rfl rfl ?_)
 exact ⟨by simp; rfl, rfl⟩


/- slices.isNaN[string] -/
def k_c_slices_isNaN : XCode :=
 .seq (.ops [.op (some 2) (.mov (.k (.bool false)))])
 (.keep [0] (.seq (.ops [.op (some 3) (.mov (.t 0)),
   .op (some 4) (.mov (.t 0)),
   .op (some 5) (.bin .neq (.t 3) (.t 4)),
   .op (some 2) (.mov (.t 5))])
 (.keep [2] (.ret))))
theorem k_c_slices_isNaN_fits : fitsF Try.prog 35 ⟨6, k_c_slices_isNaN, [.t 2]⟩ = true := by kernel_rfl
theorem c_slices_isNaN {s : Str} : Con Try.prog noMv 35 [str s] [] (fun r h => r = bool false ∧ h = []) := by
 refine con_of2 k_c_slices_isNaN_fits rfl fun C hP hmv => ?_
 unfold k_c_slices_isNaN
 refine cx_seq ?_
 refine cx_ops ?_
 refine ax_q (q_mov rfl) ?_
 refine ax_nil ?_
 refine cx_keep rfl rfl ?_
 refine cx_seq ?_
 refine cx_ops ?_
 refine ax_q (q_mov rfl) ?_
 refine ax_q (q_mov rfl) ?_
 refine ax_q (q_sbin rfl rfl rfl) ?_
 refine ax_q (q_mov rfl) ?_
 refine ax_nil ?_
 refine cx_keep rfl rfl ?_
 refine cx_ret (ret0 rfl rfl ?_)
 exact ⟨by simp; rfl, rfl⟩


/- slices.BinarySearch[[]string,string] -/
def k_c_BinS : XCode :=
 .seq (.ops [.op (some 4) (.mov (.k (.int .i64 0))),
   .op (some 5) (.mov (.k (.bool false)))])
 (.keep [0, 1] (.seq (.ops [.op (some 10) (.mov (.t 0)),
   .op (some 11) (.lenS (.t 10)),
   .op (some 6) (.mov (.t 11))])
 (.keep [0, 1, 6] (.seq (.ops [.op (some 12) (.mov (.t 6)),
   .op (some 7) (.mov (.k (.int .i64 0))),
   .op (some 8) (.mov (.t 12))])
 (.keep [0, 1, 6, 7, 8] (.seq (.block 0 (.loop (.seq (.seq (.ops [.op (some 13) (.mov (.t 7)),
     .op (some 14) (.mov (.t 8)),
     .op (some 15) (.bin .lss (.t 13) (.t 14))])
   (.keep [0, 1, 6, 7, 8, 15] (.cond (.t 15)
    (.skip)
    (.exit 0))))
   (.keep [0, 1, 6, 7, 8] (.block 1 (.seq (.ops [.op (some 16) (.mov (.t 7)),
     .op (some 17) (.mov (.t 8)),
     .op (some 18) (.bin .add (.t 16) (.t 17)),
     .op (some 19) (.conv .u64 (.t 18)),
     .op (some 20) (.bin .shr (.t 19) (.k (.int .u64 1))),
     .op (some 21) (.conv .i64 (.t 20)),
     .op (some 9) (.mov (.t 21))])
   (.keep [0, 1, 6, 7, 8, 9] (.seq (.ops [.op (some 22) (.mov (.t 0)),
     .op (some 23) (.mov (.t 9)),
     .op (some 24) (.iadr 1 (.t 22) (.t 23)),
     .op (some 25) (.load1 (.t 24)),
     .op (some 26) (.mov (.t 1)),
     .call (some 27) 34 [.t 25, .t 26]])
   (.keep [0, 1, 6, 7, 8, 9, 27] (.cond (.t 27)
    (.ops [.op (some 28) (.mov (.t 9)),
     .op (some 29) (.bin .add (.t 28) (.k (.int .i64 1))),
     .op (some 7) (.mov (.t 29))])
    (.ops [.op (some 30) (.mov (.t 9)),
     .op (some 8) (.mov (.t 30))])))))))))))
 (.keep [0, 1, 6, 7] (.seq (.ops [.op (some 31) (.mov (.t 7)),
   .op (some 32) (.mov (.t 7)),
   .op (some 33) (.mov (.t 6)),
   .op (some 34) (.bin .lss (.t 32) (.t 33)),
   .op (some 35) (.mov (.t 34)),
   .andor 53 true 4 35 [.op (some 36) (.mov (.t 0)), .op (some 37) (.mov (.t 7)), .op (some 38) (.iadr 1 (.t 36) (.t 37)), .op (some 39) (.load1 (.t 38)), .op (some 40) (.mov (.t 1)), .op (some 41) (.bin .eql (.t 39) (.t 40)), .op (some 42) (.mov (.t 41)), .andor 52 false 11 42 [.op (some 43) (.mov (.t 0)), .op (some 44) (.mov (.t 7)), .op (some 45) (.iadr 1 (.t 43) (.t 44)), .op (some 46) (.load1 (.t 45)), .call (some 47) 35 [.t 46], .op (some 48) (.mov (.t 47)), .andor 51 true 17 48 [.op (some 49) (.mov (.t 1)), .call (some 50) 35 [.t 49]] (.t 50)] (.t 51)] (.t 52),
   .op (some 4) (.mov (.t 31)),
   .op (some 5) (.mov (.t 53))])
 (.keep [4, 5] (.ret))))))))))
theorem k_c_BinS_fits : fitsF Try.prog 19 ⟨54, k_c_BinS, [.t 4, .t 5]⟩ = true := by kernel_rfl
theorem c_BinS {xs : List Str} {s : Str} (ha : Asc xs) (hl : xs.length ≤ 1000000) : Con Try.prog noMv 19 [.d (.sl 1 (xs.map strRow)), str s] [] (fun r h => r = .tup [int (posS xs s : Nat), bool (hitS xs s)] ∧ h = []) := by
 refine con_of2 k_c_BinS_fits rfl fun C hP hmv => ?_
 unfold k_c_BinS
 refine cx_seq ?_
 refine cx_ops ?_
 refine ax_q (q_mov rfl) ?_
 refine ax_q (q_mov rfl) ?_
 refine ax_nil ?_
 refine cx_keep rfl rfl ?_
 refine cx_seq ?_
 refine cx_ops ?_
 refine ax_q (q_mov rfl) ?_
 first | refine ax_q (q_lenS_map rfl) ?_ | refine ax_q (q_lenS_osl rfl) ?_ | refine ax_q (q_lenS_zs rfl) ?_ | refine ax_q (q_lenS rfl) ?_
 refine ax_q (q_mov rfl) ?_
 refine ax_nil ?_
 refine cx_keep rfl rfl ?_
 refine cx_seq ?_
 refine cx_ops ?_
 refine ax_q (q_mov rfl) ?_
 refine ax_q (q_mov rfl) ?_
 refine ax_q (q_mov rfl) ?_
 refine ax_nil ?_
 refine cx_keep rfl rfl ?_
 refine cx_seq ?_
 refine cx_block ?_
 refine cx_loopU (fun n (p : Nat × Nat) => p.1 ≤ posS xs s ∧ posS xs s ≤ p.2 ∧ p.2 ≤ xs.length ∧ n = p.2 - p.1) (fun p => [(7, int (p.1 : Nat)), (8, int (p.2 : Nat))]) (fun _ => []) ⟨_, (0, xs.length), ⟨Nat.zero_le _, posS_le, Nat.le_refl _, rfl⟩, by repeat (first | exact trivial | refine ⟨rfl, ?_⟩ | refine ⟨?_, ?_⟩)⟩ ?_
 rintro n ⟨i, j⟩ ⟨hi, hj, hjl, rfl⟩
 simp only at hi hj hjl ⊢
 refine cx_seq ?_
 refine cx_seq ?_
 refine cx_ops ?_
 refine ax_q (q_mov rfl) ?_
 refine ax_q (q_mov rfl) ?_
 refine ax_q (q_ibin rfl rfl rfl) ?_
 refine ax_nil ?_
 refine cx_keep rfl rfl ?_
 refine cx_cond rfl (fun h0 => ?_) (fun h0 => ?_)
 ·
  have h0 := dT h0
  have hij : i < j := by omega
  have hh : (i + j) / 2 < xs.length := by omega
  refine cx_skip ?_
  refine cx_keep rfl rfl ?_
  refine cx_block ?_
  refine cx_seq ?_
  refine cx_ops ?_
  refine ax_q (q_mov rfl) ?_
  refine ax_q (q_mov rfl) ?_
  refine ax_qe (r' := int ((i + j : Nat) : Int)) (q_ibin rfl rfl rfl) (by rw [wi (by omega) (by omega)]; rfl) ?_
  refine ax_qe (r' := .d (.int .u64 ((i + j : Nat) : Int))) (q_conv rfl) (u64N (by omega)) ?_
  refine ax_qe (r' := .d (.int .u64 (((i + j) / 2 : Nat) : Int))) (q_ishf rfl rfl rfl (by omega)) (shrN) ?_
  refine ax_qe (r' := int (((i + j) / 2 : Nat) : Int)) (q_conv rfl) (i64N (by omega)) ?_
  refine ax_q (q_mov rfl) ?_
  refine ax_nil ?_
  refine cx_keep rfl rfl ?_
  refine cx_seq ?_
  refine cx_ops ?_
  refine ax_q (q_mov rfl) ?_
  refine ax_q (q_mov rfl) ?_
  refine ax_q (q_ix rfl rfl (mapAt hh)) ?_
  first | refine ax_q (q_load1_ptr rfl rfl rfl) ?_ | refine ax_q (q_load1_ip rfl) ?_ | refine ax_q (q_load1_rptr rfl rfl rfl rfl) ?_ | refine ax_q (q_load1_rptr rfl rfl (by assumption) rfl) ?_ | refine ax_q (q_load1_rptr rfl rfl (mapAt (by first | assumption | omega)) rfl) ?_
  refine ax_q (q_mov rfl) ?_
  first | refine ax_call rfl (vc_pure0 (c_Less  ) hP rfl rfl ?_) | refine ax_call rfl (vc_lend0 (c_Less  ) hP (by repeat (first | exact lal_id _ rfl | exact LAL.nil | refine LAL.cons ?_ ?_ | exact la_id _ rfl | exact LA.lend (lend_whole rfl (by first | (simp; done) | (rw [List.length_map]; rfl))) | refine LA.agg ?_ | refine LA.fn ?_ | refine LA.lend ?_ | exact Lend.d _ | exact Lend.zs _ | exact lend_whole rfl (by first | (simp; done) | (rw [List.length_map]; rfl)) | refine Lend.ptr rfl ?_ | refine Lend.fn ?_ | exact LendL.nil | refine LendL.cons ?_ ?_)) rfl rfl ?_)
  refine ax_nil ?_
  refine cx_keep rfl rfl ?_
  refine cx_cond rfl (fun h1 => ?_) (fun h1 => ?_)
  ·
   skip
   refine cx_ops ?_
   refine ax_q (q_mov rfl) ?_
   refine ax_qe (r' := int (((i + j) / 2 + 1 : Nat) : Int)) (q_ibin rfl rfl rfl) (by rw [wi (by omega) (by omega)]; rfl) ?_
   refine ax_q (q_mov rfl) ?_
   refine ax_nil ?_
   exact ⟨_, ((i + j) / 2 + 1, j), by simp only; omega, ⟨by simp only; exact Nat.lt_of_not_le (fun h => by have := posS_hi ha h hh; rw [h1] at this; cases this), by simp only; omega, by simp only; omega, rfl⟩, by repeat (first | exact trivial | refine ⟨rfl, ?_⟩ | refine ⟨?_, ?_⟩)⟩
  ·
   skip
   refine cx_ops ?_
   refine ax_q (q_mov rfl) ?_
   refine ax_q (q_mov rfl) ?_
   refine ax_nil ?_
   exact ⟨_, (i, (i + j) / 2), by simp only; omega, ⟨by simp only; omega, by simp only; exact Nat.le_of_not_lt (fun h => by have := posS_lo h hh; rw [h1] at this; cases this), by simp only; omega, rfl⟩, by repeat (first | exact trivial | refine ⟨rfl, ?_⟩ | refine ⟨?_, ?_⟩)⟩
 ·
  have h0 := dF h0
  have hij : i = posS xs s := by omega
  subst hij
  refine cx_exit rfl ?_
  refine cx_keep rfl rfl ?_
  refine cx_seq ?_
  refine cx_ops ?_
  refine ax_q (q_mov rfl) ?_
  refine ax_q (q_mov rfl) ?_
  refine ax_q (q_mov rfl) ?_
  refine ax_q (q_ibin rfl rfl rfl) ?_
  refine ax_q (q_mov rfl) ?_
  apply ax_and rfl rfl
  ·
   intro g
   have g := dT g
   refine ax_q (q_mov rfl) ?_
   refine ax_q (q_mov rfl) ?_
   refine ax_q (q_ix (row := strRow (xs.getD (posS xs s) [])) rfl rfl (strD (by omega))) ?_
   first | refine ax_q (q_load1_ptr rfl rfl rfl) ?_ | refine ax_q (q_load1_ip rfl) ?_ | refine ax_q (q_load1_rptr rfl rfl rfl rfl) ?_ | refine ax_q (q_load1_rptr rfl rfl (by assumption) rfl) ?_ | refine ax_q (q_load1_rptr rfl rfl (mapAt (by first | assumption | omega)) rfl) ?_
   refine ax_q (q_mov rfl) ?_
   refine ax_q (q_sbin rfl rfl rfl) ?_
   refine ax_q (q_mov rfl) ?_
   apply ax_or rfl rfl
   ·
    intro g
    have g := dF g
    refine ax_q (q_mov rfl) ?_
    refine ax_q (q_mov rfl) ?_
    refine ax_q (q_ix (row := strRow (xs.getD (posS xs s) [])) rfl rfl (strD (by omega))) ?_
    first | refine ax_q (q_load1_ptr rfl rfl rfl) ?_ | refine ax_q (q_load1_ip rfl) ?_ | refine ax_q (q_load1_rptr rfl rfl rfl rfl) ?_ | refine ax_q (q_load1_rptr rfl rfl (by assumption) rfl) ?_ | refine ax_q (q_load1_rptr rfl rfl (mapAt (by first | assumption | omega)) rfl) ?_
    first | refine ax_call rfl (vc_pure0 (c_slices_isNaN  ) hP rfl rfl ?_) | refine ax_call rfl (vc_lend0 (c_slices_isNaN  ) hP (by repeat (first | exact lal_id _ rfl | exact LAL.nil | refine LAL.cons ?_ ?_ | exact la_id _ rfl | exact LA.lend (lend_whole rfl (by first | (simp; done) | (rw [List.length_map]; rfl))) | refine LA.agg ?_ | refine LA.fn ?_ | refine LA.lend ?_ | exact Lend.d _ | exact Lend.zs _ | exact lend_whole rfl (by first | (simp; done) | (rw [List.length_map]; rfl)) | refine Lend.ptr rfl ?_ | refine Lend.fn ?_ | exact LendL.nil | refine LendL.cons ?_ ?_)) rfl rfl ?_)
    refine ax_q (q_mov rfl) ?_
    apply ax_and rfl rfl
    ·
     intro g
     refine ax_q (q_mov rfl) ?_
     first | refine ax_call rfl (vc_pure0 (c_slices_isNaN  ) hP rfl rfl ?_) | refine ax_call rfl (vc_lend0 (c_slices_isNaN  ) hP (by repeat (first | exact lal_id _ rfl | exact LAL.nil | refine LAL.cons ?_ ?_ | exact la_id _ rfl | exact LA.lend (lend_whole rfl (by first | (simp; done) | (rw [List.length_map]; rfl))) | refine LA.agg ?_ | refine LA.fn ?_ | refine LA.lend ?_ | exact Lend.d _ | exact Lend.zs _ | exact lend_whole rfl (by first | (simp; done) | (rw [List.length_map]; rfl)) | refine Lend.ptr rfl ?_ | refine Lend.fn ?_ | exact LendL.nil | refine LendL.cons ?_ ?_)) rfl rfl ?_)
     exact ax_nil ⟨rfl, by repeat (first | exact trivial | refine ⟨rfl, ?_⟩ | refine ⟨?_, ?_⟩)⟩
    exact ax_nil ⟨rfl, by repeat (first | exact trivial | refine ⟨rfl, ?_⟩ | refine ⟨?_, ?_⟩)⟩
   exact ax_nil ⟨rfl, by repeat (first | exact trivial | refine ⟨rfl, ?_⟩ | refine ⟨?_, ?_⟩)⟩
  refine ax_q (q_mov rfl) ?_
  refine ax_q (q_mov rfl) ?_
  refine ax_nil ?_
  refine cx_keep rfl rfl ?_
  refine cx_ret (ret0 rfl rfl ?_)
  exact ⟨by rw [← hitS_and ha, Bool.and_false, Bool.or_false]; rfl, rfl⟩


/- loop.example/g00332/impl.chunk -/
def k_c_chunk : XCode :=
 .seq (.ops [.op (some 4) (.mov (.k (.int .i64 0)))])
 (.keep [0, 1] (.seq (.block 0 (.seq (.ops [.op (some 6) (.mov (.t 0)),
    .op (some 7) (.mov (.t 1)),
    .op (some 8) (.bin .leq (.t 6) (.t 7)),
    .op (some 5) (.mov (.t 8))])
  (.keep [0, 1, 5] (.cond (.t 5)
   (.seq (.ops [.op (some 9) (.mov (.t 0)),
     .op (some 4) (.mov (.t 9))])
   (.keep [4] (.ret)))
   (.seq (.ops [.op (some 11) (.mov (.t 0)),
     .op (some 12) (.mov (.t 1)),
     .op (some 13) (.bin .add (.t 12) (.k (.int .i64 1))),
     .op (some 14) (.bin .eql (.t 11) (.t 13)),
     .op (some 10) (.mov (.t 14))])
   (.keep [1, 10] (.cond (.t 10)
    (.seq (.ops [.op (some 15) (.mov (.t 1)),
      .op (some 16) (.bin .sub (.t 15) (.k (.int .i64 1))),
      .op (some 4) (.mov (.t 16))])
    (.keep [4] (.ret)))
    (.skip))))))))
 (.keep [1] (.seq (.ops [.op (some 17) (.mov (.t 1)),
   .op (some 4) (.mov (.t 17))])
 (.keep [4] (.ret))))))
theorem k_c_chunk_fits : fitsF Try.prog 36 ⟨18, k_c_chunk, [.t 4]⟩ = true := by kernel_rfl
theorem c_chunk {a b : Nat} (ha : a ≤ 1000) (hb : 1 ≤ b ∧ b ≤ 100) : Con Try.prog noMv 36 [int a, int b] [] (fun r h => r = int (chunkN a b : Nat) ∧ h = []) := by
 refine con_of2 k_c_chunk_fits rfl fun C hP hmv => ?_
 unfold k_c_chunk
 refine cx_seq ?_
 refine cx_ops ?_
 refine ax_q (q_mov rfl) ?_
 refine ax_nil ?_
 refine cx_keep rfl rfl ?_
 refine cx_seq ?_
 refine cx_block ?_
 refine cx_seq ?_
 refine cx_ops ?_
 refine ax_q (q_mov rfl) ?_
 refine ax_q (q_mov rfl) ?_
 refine ax_q (q_ibin rfl rfl rfl) ?_
 refine ax_q (q_mov rfl) ?_
 refine ax_nil ?_
 refine cx_keep rfl rfl ?_
 refine cx_cond rfl (fun h0 => ?_) (fun h0 => ?_)
 ·
  have h0 := dT h0
  refine cx_seq ?_
  refine cx_ops ?_
  refine ax_q (q_mov rfl) ?_
  refine ax_q (q_mov rfl) ?_
  refine ax_nil ?_
  refine cx_keep rfl rfl ?_
  refine cx_ret (ret0 rfl rfl ?_)
  exact ⟨by unfold chunkN; rw [if_pos (by omega)]; rfl, rfl⟩
 ·
  have h0 := dF h0
  refine cx_seq ?_
  refine cx_ops ?_
  refine ax_q (q_mov rfl) ?_
  refine ax_q (q_mov rfl) ?_
  refine ax_q (q_add rfl rfl (by omega)) ?_
  refine ax_q (q_ibin rfl rfl rfl) ?_
  refine ax_q (q_mov rfl) ?_
  refine ax_nil ?_
  refine cx_keep rfl rfl ?_
  refine cx_cond rfl (fun h1 => ?_) (fun h1 => ?_)
  ·
   have h1 := dT h1
   refine cx_seq ?_
   refine cx_ops ?_
   refine ax_q (q_mov rfl) ?_
   refine ax_qe (r' := int ((b - 1 : Nat) : Int)) (q_ibin rfl rfl rfl) (by rw [wi (by omega) (by omega)]; exact congrArg AM.int (by omega)) ?_
   refine ax_q (q_mov rfl) ?_
   refine ax_nil ?_
   refine cx_keep rfl rfl ?_
   refine cx_ret (ret0 rfl rfl ?_)
   exact ⟨by unfold chunkN; rw [if_neg (by omega), if_pos (by omega)]; rfl, rfl⟩
  ·
   have h1 := dF h1
   refine cx_skip ?_
   refine cx_keep rfl rfl ?_
   refine cx_seq ?_
   refine cx_ops ?_
   refine ax_q (q_mov rfl) ?_
   refine ax_q (q_mov rfl) ?_
   refine ax_nil ?_
   refine cx_keep rfl rfl ?_
   refine cx_ret (ret0 rfl rfl ?_)
   exact ⟨by unfold chunkN; rw [if_neg (by omega), if_neg (by omega)]; rfl, rfl⟩


/- slices.Clone[[]string,string] -/
def k_c_CloneD_Str : XCode :=
 .seq (.ops [.op (some 2) (.mov (.k (.nils 1)))])
 (.keep [0] (.seq (.seq (.ops [.op (some 3) (.mov (.t 0)),
   .op (some 4) (.eqn false (.t 3))])
  (.keep [0, 4] (.cond (.t 4)
  (.seq (.ops [.op (some 2) (.mov (.k (.nils 1)))])
   (.keep [2] (.ret)))
  (.skip))))
 (.keep [0] (.seq (.ops [.op (some 5) (.bslice 1 []),
   .op (some 6) (.mov (.t 0)),
   .op (some 7) (.app 1 16 [.str []] (.t 5) (.t 6)),
   .op (some 2) (.mov (.t 7))])
 (.keep [2] (.ret))))))
theorem k_c_CloneD_Str_fits : fitsF Try.prog 37 ⟨8, k_c_CloneD_Str, [.t 2]⟩ = true := by kernel_rfl
theorem c_CloneD_Str {xs : List Str} (hw : xs.length ≤ 1048576) : Con Try.prog noMv 37 [.d (.sl 1 (xs.map strRow))] [] (fun r h => r = .d (.sl 1 (xs.map strRow)) ∧ h = []) := by
 refine con_of2 k_c_CloneD_Str_fits rfl fun C hP hmv => ?_
 unfold k_c_CloneD_Str
 refine cx_seq ?_
 refine cx_ops ?_
 refine ax_q (q_mov rfl) ?_
 refine ax_nil ?_
 refine cx_keep rfl rfl ?_
 refine cx_seq ?_
 refine cx_seq ?_
 refine cx_ops ?_
 refine ax_q (q_mov rfl) ?_
 refine ax_eqn_sl rfl (fun b hb => ?_)
 refine ax_nil ?_
 refine cx_keep rfl rfl ?_
 refine cx_cond rfl (fun h0 => ?_) (fun h0 => ?_)
 ·
  skip
  refine cx_seq ?_
  refine cx_ops ?_
  refine ax_q (q_mov rfl) ?_
  refine ax_nil ?_
  refine cx_keep rfl rfl ?_
  have hx : xs = [] := List.map_eq_nil_iff.1 (hb h0)
  subst hx
  refine cx_wk (wk_virt 900 1 rfl rfl rfl) ?_
  refine cx_wk (wk_zs 2 900 [] rfl rfl) ?_
  refine cx_wk (wk_frz 2 900 rfl rfl (.whole rfl) rfl) ?_
  refine cx_ret (retN id [] rfl rfl rfl rfl rfl ?_)
  exact ⟨rfl, rfl⟩
 ·
  skip
  refine cx_skip ?_
  refine cx_keep rfl rfl ?_
  refine cx_seq ?_
  refine cx_ops ?_
  refine ax_e (e_bslice rfl (by decide) rfl rfl) ?_
  refine ax_q (q_mov rfl) ?_
  refine ax_e (e_appn (n' := xs.length) (rs' := xs.map strRow) rfl rfl (Nat.le_refl _) rfl (src_sl 1 _) (.inl (by decide)) (by simp only [List.length_map, List.length_nil]; omega) (by simp) (by simp)) ?_
  refine ax_q (q_mov rfl) ?_
  refine ax_nil ?_
  refine cx_keep rfl rfl ?_
  refine cx_wk (wk_frz 2 5 rfl rfl (.whole (by simp)) rfl) ?_
  refine cx_ret (retN id [] rfl rfl rfl rfl rfl ?_)
  exact ⟨rfl, rfl⟩


/- slices.Clone[[]int,int] -/
def k_c_CloneD_Int : XCode :=
 .seq (.ops [.op (some 2) (.mov (.k (.nils 1)))])
 (.keep [0] (.seq (.seq (.ops [.op (some 3) (.mov (.t 0)),
   .op (some 4) (.eqn false (.t 3))])
  (.keep [0, 4] (.cond (.t 4)
  (.seq (.ops [.op (some 2) (.mov (.k (.nils 1)))])
   (.keep [2] (.ret)))
  (.skip))))
 (.keep [0] (.seq (.ops [.op (some 5) (.bslice 1 []),
   .op (some 6) (.mov (.t 0)),
   .op (some 7) (.app 1 8 [.int .i64 0] (.t 5) (.t 6)),
   .op (some 2) (.mov (.t 7))])
 (.keep [2] (.ret))))))
theorem k_c_CloneD_Int_fits : fitsF Try.prog 38 ⟨8, k_c_CloneD_Int, [.t 2]⟩ = true := by kernel_rfl
theorem c_CloneD_Int {xs : List Nat} (hw : xs.length ≤ 1048576) : Con Try.prog noMv 38 [.d (.sl 1 (xs.map kidRow))] [] (fun r h => r = .d (.sl 1 (xs.map kidRow)) ∧ h = []) := by
 refine con_of2 k_c_CloneD_Int_fits rfl fun C hP hmv => ?_
 unfold k_c_CloneD_Int
 refine cx_seq ?_
 refine cx_ops ?_
 refine ax_q (q_mov rfl) ?_
 refine ax_nil ?_
 refine cx_keep rfl rfl ?_
 refine cx_seq ?_
 refine cx_seq ?_
 refine cx_ops ?_
 refine ax_q (q_mov rfl) ?_
 refine ax_eqn_sl rfl (fun b hb => ?_)
 refine ax_nil ?_
 refine cx_keep rfl rfl ?_
 refine cx_cond rfl (fun h0 => ?_) (fun h0 => ?_)
 ·
  skip
  refine cx_seq ?_
  refine cx_ops ?_
  refine ax_q (q_mov rfl) ?_
  refine ax_nil ?_
  refine cx_keep rfl rfl ?_
  have hx : xs = [] := List.map_eq_nil_iff.1 (hb h0)
  subst hx
  refine cx_wk (wk_virt 900 1 rfl rfl rfl) ?_
  refine cx_wk (wk_zs 2 900 [] rfl rfl) ?_
  refine cx_wk (wk_frz 2 900 rfl rfl (.whole rfl) rfl) ?_
  refine cx_ret (retN id [] rfl rfl rfl rfl rfl ?_)
  exact ⟨rfl, rfl⟩
 ·
  skip
  refine cx_skip ?_
  refine cx_keep rfl rfl ?_
  refine cx_seq ?_
  refine cx_ops ?_
  refine ax_e (e_bslice rfl (by decide) rfl rfl) ?_
  refine ax_q (q_mov rfl) ?_
  refine ax_e (e_appn (n' := xs.length) (rs' := xs.map kidRow) rfl rfl (Nat.le_refl _) rfl (src_sl 1 _) (.inl (by decide)) (by simp only [List.length_map, List.length_nil]; omega) (by simp) (by simp)) ?_
  refine ax_q (q_mov rfl) ?_
  refine ax_nil ?_
  refine cx_keep rfl rfl ?_
  refine cx_wk (wk_frz 2 5 rfl rfl (.whole (by simp)) rfl) ?_
  refine cx_ret (retN id [] rfl rfl rfl rfl rfl ?_)
  exact ⟨rfl, rfl⟩


/- loop.example/g00332/impl.treeOf -/
def k_c_treeOf : XCode :=
 .seq (.ops [.op (some 2) (.alloc [.int .i64 0, .nils 3])])
 (.keep [0, 2] (.seq (.seq (.ops [.op (some 10) (.mov (.t 0)),
   .op (some 11) (.lenS (.t 10)),
   .op (some 12) (.bin .eql (.t 11) (.k (.int .i64 0)))])
  (.keep [0, 2, 12] (.cond (.t 12)
  (.seq (.ops [.call (some 13) 6 [],
    .op none (.store 2 (.t 2) (.t 13))])
   (.keep [2] (.ret)))
  (.skip))))
 (.keep [0, 2] (.seq (.ops [.op (some 14) (.build [.int .i64 0, .nils 3] []),
   .op (some 15) (.bslice 1 []),
   .op (some 16) (.bslice 1 []),
   .op (some 3) (.alloc [.int .i64 0, .nils 3]),
   .op none (.store 2 (.t 3) (.t 14)),
   .op (some 4) (.mov (.t 15)),
   .op (some 5) (.mov (.t 16))])
 (.keep [0, 2, 3, 4, 5] (.seq (.block 0 (.loop (.seq (.seq (.ops [.op (some 17) (.mov (.t 0)),
     .op (some 18) (.lenS (.t 17)),
     .op (some 19) (.bin .gtr (.t 18) (.k (.int .i64 0)))])
   (.keep [0, 2, 3, 4, 5, 19] (.cond (.t 19)
    (.skip)
    (.exit 0))))
   (.keep [0, 2, 3, 4, 5] (.block 1 (.seq (.ops [.op (some 20) (.mov (.t 0)),
     .op (some 21) (.lenS (.t 20)),
     .call (some 22) 36 [.t 21, .k (.int .i64 4)],
     .op (some 6) (.mov (.t 22))])
   (.keep [0, 2, 3, 4, 5, 6] (.seq (.drawE [[], [], [1], [1, 2], [1, 2, 3], [0, 1, 2, 3, 4], [], [], [7], [7, 8], [7, 8, 9], [0, 1, 2, 3, 4, 5, 6, 7, 8, 9, 10], [0, 1, 2, 3, 4, 5, 6, 7, 8, 9, 10, 11], [0, 1, 2, 3, 4, 5, 6, 7, 8, 9, 10, 11, 12]] [.op (some 23) (.mov (.t 4)),
     .op (some 24) (.fadr (.t 3) 1),
     .op (some 25) (.load1 (.t 24)),
     .op (some 26) (.lenS (.t 25)),
     .op (some 27) (.bslice 1 [.t 26]),
     .op (some 28) (.app 1 8 [.int .i64 0] (.t 23) (.t 27)),
     .op (some 29) (.mov (.t 5)),
     .op (some 30) (.mov (.t 0)),
     .op (some 31) (.iadr 1 (.t 30) (.k (.int .i64 0))),
     .op (some 32) (.load1 (.t 31)),
     .op (some 33) (.bslice 1 [.t 32])]
    [.op (some 34) (.app 1 16 [.str []] (.t 29) (.t 33)),
     .op (some 4) (.mov (.t 28)),
     .op (some 5) (.mov (.t 34))])
   (.keep [0, 2, 3, 4, 5, 6] (.seq (.drawE [[], [0], [], [], [2, 3], [2, 3, 4], [2, 3, 4, 5], [2, 3, 4, 5, 6], [0, 1, 2, 3, 4, 5, 6, 7], [0, 1, 2, 3, 4, 5, 6, 7, 8], [0, 1, 2, 3, 4, 5, 6, 7, 8, 9]] [.op (some 35) (.fadr (.t 3) 1),
     .op (some 36) (.load1 (.t 35)),
     .op (some 37) (.mov (.t 0)),
     .op (some 38) (.mov (.t 6)),
     .op (some 39) (.slc 1 (.t 37) none (some (.t 38)) none),
     .call (some 40) 37 [.t 39],
     .op (some 41) (.build [.bool false, .nils 1, .nils 1] [(0, 1, .k (.bool true)), (1, 1, .t 40)]),
     .op (some 42) (.bslice 3 [.t 41])]
    [.op (some 43) (.app 3 56 [.bool false, .nils 1, .nils 1] (.t 36) (.t 42)),
     .op (some 44) (.fadr (.t 3) 1),
     .op none (.store 1 (.t 44) (.t 43))])
   (.keep [0, 2, 3, 4, 5, 6] (.ops [.op (some 45) (.mov (.t 0)),
    .op (some 46) (.mov (.t 6)),
    .op (some 47) (.slc 1 (.t 45) (some (.t 46)) none none),
    .op (some 0) (.mov (.t 47))]))))))))))))
 (.keep [2, 3, 4, 5] (.seq (.block 2 (.loop (.seq (.seq (.ops [.op (some 48) (.mov (.t 4)),
     .op (some 49) (.lenS (.t 48)),
     .op (some 50) (.bin .gtr (.t 49) (.k (.int .i64 1)))])
   (.keep [2, 3, 4, 5, 50] (.cond (.t 50)
    (.skip)
    (.exit 2))))
   (.keep [2, 3, 4, 5] (.block 3 (.seq (.ops [.op (some 51) (.bslice 1 []),
     .op (some 52) (.bslice 1 []),
     .op (some 7) (.mov (.t 51)),
     .op (some 8) (.mov (.t 52))])
   (.keep [2, 3, 4, 5, 7, 8] (.seq (.block 4 (.loop (.seq (.seq (.ops [.op (some 53) (.mov (.t 4)),
       .op (some 54) (.lenS (.t 53)),
       .op (some 55) (.bin .gtr (.t 54) (.k (.int .i64 0)))])
     (.keep [2, 3, 4, 5, 7, 8, 55] (.cond (.t 55)
      (.skip)
      (.exit 4))))
     (.keep [2, 3, 4, 5, 7, 8] (.block 5 (.seq (.ops [.op (some 56) (.mov (.t 4)),
       .op (some 57) (.lenS (.t 56)),
       .call (some 58) 36 [.t 57, .k (.int .i64 5)],
       .op (some 9) (.mov (.t 58))])
     (.keep [2, 3, 4, 5, 7, 8, 9] (.seq (.drawE [[], [], [1], [1, 2], [1, 2, 3], [0, 1, 2, 3, 4], [], [], [7], [7, 8], [7, 8, 9], [0, 1, 2, 3, 4, 5, 6, 7, 8, 9, 10], [0, 1, 2, 3, 4, 5, 6, 7, 8, 9, 10, 11], [0, 1, 2, 3, 4, 5, 6, 7, 8, 9, 10, 11, 12]] [.op (some 59) (.mov (.t 7)),
       .op (some 60) (.fadr (.t 3) 1),
       .op (some 61) (.load1 (.t 60)),
       .op (some 62) (.lenS (.t 61)),
       .op (some 63) (.bslice 1 [.t 62]),
       .op (some 64) (.app 1 8 [.int .i64 0] (.t 59) (.t 63)),
       .op (some 65) (.mov (.t 8)),
       .op (some 66) (.mov (.t 5)),
       .op (some 67) (.iadr 1 (.t 66) (.k (.int .i64 0))),
       .op (some 68) (.load1 (.t 67)),
       .op (some 69) (.bslice 1 [.t 68])]
      [.op (some 70) (.app 1 16 [.str []] (.t 65) (.t 69)),
       .op (some 7) (.mov (.t 64)),
       .op (some 8) (.mov (.t 70))])
     (.keep [2, 3, 4, 5, 7, 8, 9] (.seq (.drawE [[], [0], [], [], [2, 3], [2, 3, 4], [], [], [6, 7], [2, 3, 4, 5, 6, 7, 8], [2, 3, 4, 5, 6, 7, 8, 9], [2, 3, 4, 5, 6, 7, 8, 9, 10], [0, 1, 2, 3, 4, 5, 6, 7, 8, 9, 10, 11], [0, 1, 2, 3, 4, 5, 6, 7, 8, 9, 10, 11, 12], [0, 1, 2, 3, 4, 5, 6, 7, 8, 9, 10, 11, 12, 13]] [.op (some 71) (.fadr (.t 3) 1),
       .op (some 72) (.load1 (.t 71)),
       .op (some 73) (.mov (.t 5)),
       .op (some 74) (.mov (.t 9)),
       .op (some 75) (.slc 1 (.t 73) (some (.k (.int .i64 1))) (some (.t 74)) none),
       .call (some 76) 37 [.t 75],
       .op (some 77) (.mov (.t 4)),
       .op (some 78) (.mov (.t 9)),
       .op (some 79) (.slc 1 (.t 77) none (some (.t 78)) none),
       .call (some 80) 38 [.t 79],
       .op (some 81) (.build [.bool false, .nils 1, .nils 1] [(1, 1, .t 76), (2, 1, .t 80)]),
       .op (some 82) (.bslice 3 [.t 81])]
      [.op (some 83) (.app 3 56 [.bool false, .nils 1, .nils 1] (.t 72) (.t 82)),
       .op (some 84) (.fadr (.t 3) 1),
       .op none (.store 1 (.t 84) (.t 83))])
     (.keep [2, 3, 4, 5, 7, 8, 9] (.draw [.op (some 85) (.mov (.t 4)),
      .op (some 86) (.mov (.t 9)),
      .op (some 87) (.slc 1 (.t 85) (some (.t 86)) none none),
      .op (some 88) (.mov (.t 5)),
      .op (some 89) (.mov (.t 9)),
      .op (some 90) (.slc 1 (.t 88) (some (.t 89)) none none),
      .op (some 4) (.mov (.t 87)),
      .op (some 5) (.mov (.t 90))]))))))))))))
   (.keep [2, 3, 7, 8] (.ops [.op (some 91) (.mov (.t 7)),
    .op (some 92) (.mov (.t 8)),
    .op (some 4) (.mov (.t 91)),
    .op (some 5) (.mov (.t 92))]))))))))))
 (.keep [2, 3, 4] (.seq (.ops [.op (some 93) (.mov (.t 4)),
   .op (some 94) (.iadr 1 (.t 93) (.k (.int .i64 0))),
   .op (some 95) (.load1 (.t 94)),
   .op (some 96) (.fadr (.t 3) 0),
   .op none (.store 1 (.t 96) (.t 95))])
 (.keep [2, 3] (.seq (.ops [.op (some 97) (.loadN 2 (.t 3)),
   .op none (.store 2 (.t 2) (.t 97))])
 (.keep [2] (.ret))))))))))))))
theorem k_c_treeOf_fits : fitsF Try.prog 20 ⟨98, k_c_treeOf, [.cN 2 2]⟩ = true := by kernel_rfl
set_option maxHeartbeats 4000000 in
theorem c_treeOf {ks : List Str} (hl : ks.length ≤ 61) : Con Try.prog noMv 20 [.d (.sl 1 (ks.map strRow))] [] (fun r h => r = .agg [.d (.int .i64 (treeT ks).root), .d (.sl 3 ((treeT ks).nodes.map TN.row))] ∧ h = []) := by
 refine con_of2 k_c_treeOf_fits rfl fun C hP hmv => ?_
 unfold k_c_treeOf
 have K := look_tree ([] : Str) (ks := ks) (by omega)
 refine cx_seq ?_
 refine cx_ops ?_
 refine ax_e (e_alloc (by decide) rfl rfl) ?_
 refine ax_nil ?_
 refine cx_keep rfl rfl ?_
 refine cx_seq ?_
 refine cx_seq ?_
 refine cx_ops ?_
 refine ax_q (q_mov rfl) ?_
 first | refine ax_q (q_lenS_map rfl) ?_ | refine ax_q (q_lenS_osl rfl) ?_ | refine ax_q (q_lenS_zs rfl) ?_ | refine ax_q (q_lenS rfl) ?_
 refine ax_q (q_ibin rfl rfl rfl) ?_
 refine ax_nil ?_
 refine cx_keep rfl rfl ?_
 refine cx_cond rfl (fun h0 => ?_) (fun h0 => ?_)
 ·
  have h0 := dT h0
  have hks : ks = [] := List.eq_nil_of_length_eq_zero (by omega)
  subst hks
  refine cx_seq ?_
  refine cx_ops ?_
  first | refine ax_call rfl (vc_pure0 (c_NewTree  ) hP rfl rfl ?_) | refine ax_call rfl (vc_lend0 (c_NewTree  ) hP (by repeat (first | exact lal_id _ rfl | exact LAL.nil | refine LAL.cons ?_ ?_ | exact la_id _ rfl | exact LA.lend (lend_whole rfl (by first | (simp; done) | (rw [List.length_map]; rfl))) | refine LA.agg ?_ | refine LA.fn ?_ | refine LA.lend ?_ | exact Lend.d _ | exact Lend.zs _ | exact lend_whole rfl (by first | (simp; done) | (rw [List.length_map]; rfl)) | refine Lend.ptr rfl ?_ | refine Lend.fn ?_ | exact LendL.nil | refine LendL.cons ?_ ?_)) rfl rfl ?_)
  refine ax_e (e_st rfl rfl rfl rfl rfl rfl rfl) ?_
  refine ax_nil ?_
  refine cx_keep rfl rfl ?_
  refine cx_ret (ret0 rfl rfl ?_)
  exact ⟨rfl, rfl⟩
 ·
  have h0 := dF h0
  obtain ⟨nsF, lvF_, leF, hL, hT⟩ := tree_start (by omega) K.tr
  generalize treeT ks = T at hT ⊢
  refine cx_skip ?_
  refine cx_keep rfl rfl ?_
  refine cx_seq ?_
  refine cx_ops ?_
  refine ax_q (q_build rfl) ?_
  refine ax_e (e_bslice rfl (by decide) rfl rfl) ?_
  refine ax_e (e_bslice rfl (by decide) rfl rfl) ?_
  refine ax_e (e_alloc (by decide) rfl rfl) ?_
  refine ax_e (e_st rfl rfl rfl rfl rfl rfl rfl) ?_
  refine ax_q (q_mov rfl) ?_
  refine ax_q (q_mov rfl) ?_
  refine ax_nil ?_
  refine cx_keep rfl rfl ?_
  refine cx_seq ?_
  refine cx_block ?_
  refine cx_wk (wk_virt 902 3 rfl rfl rfl) ?_
  refine cx_wk (wk_zsb 3 902 1 rfl rfl rfl) ?_
  refine cx_loopU (fun m (p : List Str × List GNode × List Nat × List Str) => p.1.length ≤ 61 ∧ lvF m p.1 p.2.1 p.2.2.1 p.2.2.2 = some (nsF, lvF_, leF)) (fun p => [(0, .d (.sl 1 (p.1.map strRow))), (4, .osl 15 1 0 p.2.2.1.length), (5, .osl 16 1 0 p.2.2.2.length)]) (fun p => [(2, .box [.d (.int .i64 0), .zs 3]), (3, .box [.d (.int .i64 0), .osl 902 3 0 p.2.1.length]), (902, .rows 3 (p.2.1.map TN.row)), (15, .rows 1 (p.2.2.1.map kidRow)), (16, .rows 1 (p.2.2.2.map strRow))])
   ⟨_, (ks, [], [], []), ⟨hl, hL⟩, by repeat (first | exact trivial | refine ⟨rfl, ?_⟩ | refine ⟨?_, ?_⟩)⟩ ?_
  rintro m ⟨rest, ns, lv, le⟩ ⟨hr, hs⟩
  simp only at hr hs ⊢
  refine cx_seq ?_
  refine cx_seq ?_
  refine cx_ops ?_
  refine ax_q (q_mov rfl) ?_
  first | refine ax_q (q_lenS_map rfl) ?_ | refine ax_q (q_lenS_osl rfl) ?_ | refine ax_q (q_lenS_zs rfl) ?_ | refine ax_q (q_lenS rfl) ?_
  refine ax_q (q_ibin rfl rfl rfl) ?_
  refine ax_nil ?_
  refine cx_keep rfl rfl ?_
  refine cx_cond rfl (fun h1 => ?_) (fun h1 => ?_)
  ·
   have h1 := dT h1
   obtain ⟨g, c, rfl, hc, s1, s2, s3, s4, s5, hs2⟩ := lv_step (by omega) hs
   refine cx_skip ?_
   refine cx_keep rfl rfl ?_
   refine cx_block ?_
   refine cx_seq ?_
   refine cx_ops ?_
   refine ax_q (q_mov rfl) ?_
   first | refine ax_q (q_lenS_map rfl) ?_ | refine ax_q (q_lenS_osl rfl) ?_ | refine ax_q (q_lenS_zs rfl) ?_ | refine ax_q (q_lenS rfl) ?_
   first | refine ax_call rfl (vc_pure0 (c_chunk (a := rest.length) (b := 4) ?_ ?_) hP rfl rfl ?_) | refine ax_call rfl (vc_lend0 (c_chunk (a := rest.length) (b := 4) ?_ ?_) hP (by repeat (first | exact lal_id _ rfl | exact LAL.nil | refine LAL.cons ?_ ?_ | exact la_id _ rfl | exact LA.lend (lend_whole rfl (by first | (simp; done) | (rw [List.length_map]; rfl))) | refine LA.agg ?_ | refine LA.fn ?_ | refine LA.lend ?_ | exact Lend.d _ | exact Lend.zs _ | exact lend_whole rfl (by first | (simp; done) | (rw [List.length_map]; rfl)) | refine Lend.ptr rfl ?_ | refine Lend.fn ?_ | exact LendL.nil | refine LendL.cons ?_ ?_)) rfl rfl ?_)
   ·
    first | assumption | omega | (simp; done) | (simp; omega)
   ·
    first | assumption | omega | (simp; done) | (simp; omega)
   rw [← hc]
   refine ax_q (q_mov rfl) ?_
   refine ax_nil ?_
   refine cx_keep rfl rfl ?_
   refine cx_seq ?_
   refine cx_drawL 5 28 (Nat.beq 15) (nrA 15) [] ([(15, .rows 1 ((lv ++ [ns.length]).map kidRow))]) [[4], [3], [24], [25], [26], [23, 27], [5], [0], [30], [31], [32]] [[], [], [], [], [], [15], [15], [15], [15], [15], [15]] rfl ?_
   first | refine ⟨_, .inr ⟨rfl, _, rfl, .inl rfl, loc_q (q_mov rfl)⟩, ?_⟩
   first | refine ⟨_, .inr ⟨rfl, _, rfl, .inl rfl, loc_q (q_fadr_ptr rfl)⟩, ?_⟩
   first | refine ⟨_, .inr ⟨rfl, _, rfl, .inl rfl, loc_q (q_load1_ptr rfl rfl rfl)⟩, ?_⟩
   first | refine ⟨_, .inr ⟨rfl, _, rfl, .inl rfl, loc_q (q_lenS_map rfl)⟩, ?_⟩ | refine ⟨_, .inr ⟨rfl, _, rfl, .inl rfl, loc_q (q_lenS_osl rfl)⟩, ?_⟩ | refine ⟨_, .inr ⟨rfl, _, rfl, .inl rfl, loc_q (q_lenS_zs rfl)⟩, ?_⟩ | refine ⟨_, .inr ⟨rfl, _, rfl, .inl rfl, loc_q (q_lenS rfl)⟩, ?_⟩
   first | refine ⟨_, .inr ⟨rfl, _, rfl, .inl rfl, loc_bsliceD (rows := [kidRow ns.length]) rfl⟩, ?_⟩
   refine ⟨⟨28, _, []⟩, .inl ⟨rfl, rfl, rfl, locl_app (n' := (lv ++ [ns.length]).length) (rs' := (lv ++ [ns.length]).map kidRow) rfl rfl (by simp) rfl (fun _ _ h => src_sl 1 _) (.inl (by decide)) (hbnd (by omega) (by simp) (by decide)) (by simp) (app_all (ys := [ns.length]) (row := kidRow))⟩, ?_⟩
   first | refine ⟨_, .inr ⟨rfl, _, rfl, .inr ⟨rfl, rfl, .inr rfl, rfl, rfl⟩, loc_q (q_mov rfl)⟩, ?_⟩
   first | refine ⟨_, .inr ⟨rfl, _, rfl, .inr ⟨rfl, rfl, .inr rfl, rfl, rfl⟩, loc_q (q_mov rfl)⟩, ?_⟩
   first | refine ⟨_, .inr ⟨rfl, _, rfl, .inr ⟨rfl, rfl, .inr rfl, rfl, rfl⟩, loc_q (q_ixI rfl rfl (by omega) (strD (by omega)))⟩, ?_⟩
   first | refine ⟨_, .inr ⟨rfl, _, rfl, .inr ⟨rfl, rfl, .inr rfl, rfl, rfl⟩, loc_q (q_load1_ptr rfl rfl rfl)⟩, ?_⟩ | refine ⟨_, .inr ⟨rfl, _, rfl, .inr ⟨rfl, rfl, .inr rfl, rfl, rfl⟩, loc_q (q_load1_ip rfl)⟩, ?_⟩ | refine ⟨_, .inr ⟨rfl, _, rfl, .inr ⟨rfl, rfl, .inr rfl, rfl, rfl⟩, loc_q (q_load1_rptr rfl rfl rfl rfl)⟩, ?_⟩ | refine ⟨_, .inr ⟨rfl, _, rfl, .inr ⟨rfl, rfl, .inr rfl, rfl, rfl⟩, loc_q (q_load1_rptr rfl rfl (by assumption) rfl)⟩, ?_⟩ | refine ⟨_, .inr ⟨rfl, _, rfl, .inr ⟨rfl, rfl, .inr rfl, rfl, rfl⟩, loc_q (q_load1_rptr rfl rfl (mapAt (by first | assumption | omega)) rfl)⟩, ?_⟩
   first | refine ⟨_, .inr ⟨rfl, _, rfl, .inr ⟨rfl, rfl, .inr rfl, rfl, rfl⟩, loc_bsliceD (rows := [strRow (rest.getD 0 [])]) rfl⟩, ?_⟩
   refine ⟨rfl, ?_⟩
   refine ax_e (e_appn (n' := (le ++ [rest.getD 0 []]).length) (rs' := (le ++ [rest.getD 0 []]).map strRow) rfl rfl (by simp) rfl (src_sl 1 _) (.inl (by decide)) (hbnd (by omega) (by simp) (by decide)) (by simp) (app_all (ys := [rest.getD 0 []]) (row := strRow))) ?_
   refine ax_q (q_mov rfl) ?_
   refine ax_q (q_mov rfl) ?_
   refine ax_nil ?_
   refine cx_keep rfl rfl ?_
   refine cx_seq ?_
   refine cx_drawL 0 35 (fun _ => false) (fun _ => true) [] ([]) [[3], [35], [0], [6], [37, 38], [39], [40], [41]] [[], [], [], [], [], [], [], []] rfl ?_
   first | refine ⟨⟨35, _, []⟩, .inl ⟨rfl, rfl, rfl, locl_of (loc_q (q_fadr_ptr rfl))⟩, ?_⟩
   first | refine ⟨_, .inr ⟨rfl, _, rfl, .inr ⟨rfl, rfl, .inl rfl, rfl, rfl⟩, loc_q (q_load1_ptr rfl rfl rfl)⟩, ?_⟩
   first | refine ⟨_, .inr ⟨rfl, _, rfl, .inr ⟨rfl, rfl, .inr rfl, rfl, rfl⟩, loc_q (q_mov rfl)⟩, ?_⟩
   first | refine ⟨_, .inr ⟨rfl, _, rfl, .inr ⟨rfl, rfl, .inr rfl, rfl, rfl⟩, loc_q (q_mov rfl)⟩, ?_⟩
   first | refine ⟨_, .inr ⟨rfl, _, rfl, .inr ⟨rfl, rfl, .inr rfl, rfl, rfl⟩, loc_qe (r' := .d (.sl 1 ((rest.take c).map strRow))) (q_slc rfl rfl rfl (by omega) (by omega) (by simp; omega)) (slR_take (by omega))⟩, ?_⟩
   first | refine ⟨_, .inr ⟨rfl, _, rfl, .inr ⟨rfl, rfl, .inr rfl, rfl, rfl⟩, loc_call (fun i => 40 + 200 * i) false rfl (c_CloneD_Str (xs := rest.take c) (by first | assumption | omega | (simp; done) | (simp; omega))) hP (.inr ⟨rfl, rfl, rfl⟩) rfl rfl (fun h => by cases h)⟩, ?_⟩ | refine ⟨_, .inr ⟨rfl, _, rfl, .inr ⟨rfl, rfl, .inr rfl, rfl, rfl⟩, loc_call (fun i => 40 + 200 * i) true rfl (c_CloneD_Str (xs := rest.take c) (by first | assumption | omega | (simp; done) | (simp; omega))) hP (.inl ⟨rfl, (by repeat (first | exact lal_id _ rfl | exact LAL.nil | refine LAL.cons ?_ ?_ | exact la_id _ rfl | exact LA.lend (lend_whole rfl (by first | (simp; done) | (rw [List.length_map]; rfl))) | refine LA.agg ?_ | refine LA.fn ?_ | refine LA.lend ?_ | exact Lend.d _ | exact Lend.zs _ | exact lend_whole rfl (by first | (simp; done) | (rw [List.length_map]; rfl)) | refine Lend.ptr rfl ?_ | refine Lend.fn ?_ | exact LendL.nil | refine LendL.cons ?_ ?_))⟩) rfl rfl (fun _ => ⟨rfl, noisl_of (by repeat (first | exact trivial | refine ⟨noisl_map (fun _ => rfl), ?_⟩ | refine ⟨?_, ?_⟩))⟩)⟩, ?_⟩
   first | refine ⟨_, .inr ⟨rfl, _, rfl, .inr ⟨rfl, rfl, .inr rfl, rfl, rfl⟩, loc_q (q_build rfl)⟩, ?_⟩
   first | refine ⟨_, .inr ⟨rfl, _, rfl, .inr ⟨rfl, rfl, .inr rfl, rfl, rfl⟩, loc_bsliceD (rows := [TN.row (⟨true, rest.take c, []⟩ : GNode)]) rfl⟩, ?_⟩
   refine ⟨rfl, ?_⟩
   refine ax_e (e_appn (n' := (ns ++ [(⟨true, rest.take c, []⟩ : GNode)]).length) (rs' := (ns ++ [(⟨true, rest.take c, []⟩ : GNode)]).map TN.row) rfl rfl (by simp) rfl (src_sl 3 _) (.inl (by decide)) (hbnd (by omega) (by simp) (by decide)) (by simp) (app_all (ys := [(⟨true, rest.take c, []⟩ : GNode)]) (row := TN.row))) ?_
   refine ax_q (q_fadr_ptr rfl) ?_
   refine ax_e (e_st rfl rfl rfl rfl rfl rfl rfl) ?_
   refine ax_nil ?_
   refine cx_keep rfl rfl ?_
   refine cx_ops ?_
   refine ax_q (q_mov rfl) ?_
   refine ax_q (q_mov rfl) ?_
   refine ax_qe (r' := .d (.sl 1 ((rest.drop c).map strRow))) (q_slc rfl rfl rfl (by omega) (by simp; omega) (by simp)) (slR_drop (by omega)) ?_
   refine ax_q (q_mov rfl) ?_
   refine ax_nil ?_
   exact ⟨_, (rest.drop c, ns ++ [(⟨true, rest.take c, []⟩ : GNode)], lv ++ [ns.length], le ++ [rest.getD 0 []]), Nat.lt_succ_self _, ⟨by simp only [List.length_drop]; omega, hs2⟩, by repeat (first | exact trivial | refine ⟨rfl, ?_⟩ | refine ⟨?_, ?_⟩)⟩
  ·
   have h1 := dF h1
   have hs3 := lv_end (by omega) hs
   rw [Prod.mk.injEq, Prod.mk.injEq] at hs3
   obtain ⟨rfl, rfl, rfl⟩ := hs3
   refine cx_exit rfl ?_
   refine cx_keep rfl rfl ?_
   refine cx_seq ?_
   refine cx_block ?_
   refine cx_wk (wk_frz 4 15 rfl rfl (.whole (by simp)) rfl) ?_
   refine cx_wk (wk_frz 5 16 rfl rfl (.whole (by simp)) rfl) ?_
   refine cx_loopU (fun m (p : List GNode × List Nat × List Str) => topF m p.1 p.2.1 p.2.2 = some T) (fun p => [(4, .d (.sl 1 (p.2.1.map kidRow))), (5, .d (.sl 1 (p.2.2.map strRow)))]) (fun p => [(2, .box [.d (.int .i64 0), .zs 3]), (3, .box [.d (.int .i64 0), .osl 902 3 0 p.1.length]), (902, .rows 3 (p.1.map TN.row))])
    ⟨_, (nsF, lvF_, leF), hT, by repeat (first | exact trivial | refine ⟨rfl, ?_⟩ | refine ⟨?_, ?_⟩)⟩ ?_
   rintro m ⟨ns, lv, le⟩ hs
   simp only at hs ⊢
   refine cx_seq ?_
   refine cx_seq ?_
   refine cx_ops ?_
   refine ax_q (q_mov rfl) ?_
   first | refine ax_q (q_lenS_map rfl) ?_ | refine ax_q (q_lenS_osl rfl) ?_ | refine ax_q (q_lenS_zs rfl) ?_ | refine ax_q (q_lenS rfl) ?_
   refine ax_q (q_ibin rfl rfl rfl) ?_
   refine ax_nil ?_
   refine cx_keep rfl rfl ?_
   refine cx_cond rfl (fun h2 => ?_) (fun h2 => ?_)
   ·
    have h2 := dT h2
    obtain ⟨g, nsU, abU, alU, rfl, s1, s2, hU, hs3⟩ := top_step (by omega) hs
    refine cx_skip ?_
    refine cx_keep rfl rfl ?_
    refine cx_block ?_
    refine cx_seq ?_
    refine cx_ops ?_
    refine ax_e (e_bslice rfl (by decide) rfl rfl) ?_
    refine ax_e (e_bslice rfl (by decide) rfl rfl) ?_
    refine ax_q (q_mov rfl) ?_
    refine ax_q (q_mov rfl) ?_
    refine ax_nil ?_
    refine cx_keep rfl rfl ?_
    refine cx_seq ?_
    refine cx_block ?_
    refine cx_loopU (fun m (p : List Nat × List Str × List GNode × List Nat × List Str) => p.1.length ≤ 200 ∧ upF m p.1 p.2.1 p.2.2.1 p.2.2.2.1 p.2.2.2.2 = some (nsU, abU, alU)) (fun p => [(4, .d (.sl 1 (p.1.map kidRow))), (5, .d (.sl 1 (p.2.1.map strRow))), (7, .osl 51 1 0 p.2.2.2.1.length), (8, .osl 52 1 0 p.2.2.2.2.length)]) (fun p => [(2, .box [.d (.int .i64 0), .zs 3]), (3, .box [.d (.int .i64 0), .osl 902 3 0 p.2.2.1.length]), (902, .rows 3 (p.2.2.1.map TN.row)), (51, .rows 1 (p.2.2.2.1.map kidRow)), (52, .rows 1 (p.2.2.2.2.map strRow))])
     ⟨_, (lv, le, ns, [], []), ⟨s2, hU⟩, by repeat (first | exact trivial | refine ⟨rfl, ?_⟩ | refine ⟨?_, ?_⟩)⟩ ?_
    rintro m ⟨lv, le, ns, ab, al⟩ ⟨hr, hs⟩
    simp only at hr hs ⊢
    refine cx_seq ?_
    refine cx_seq ?_
    refine cx_ops ?_
    refine ax_q (q_mov rfl) ?_
    first | refine ax_q (q_lenS_map rfl) ?_ | refine ax_q (q_lenS_osl rfl) ?_ | refine ax_q (q_lenS_zs rfl) ?_ | refine ax_q (q_lenS rfl) ?_
    refine ax_q (q_ibin rfl rfl rfl) ?_
    refine ax_nil ?_
    refine cx_keep rfl rfl ?_
    refine cx_cond rfl (fun h3 => ?_) (fun h3 => ?_)
    ·
     have h3 := dT h3
     obtain ⟨g2, c, rfl, hc, u1, u2, u3, u4, u5, u6, hu2⟩ := up_step (by omega) hs
     refine cx_skip ?_
     refine cx_keep rfl rfl ?_
     refine cx_block ?_
     refine cx_seq ?_
     refine cx_ops ?_
     refine ax_q (q_mov rfl) ?_
     first | refine ax_q (q_lenS_map rfl) ?_ | refine ax_q (q_lenS_osl rfl) ?_ | refine ax_q (q_lenS_zs rfl) ?_ | refine ax_q (q_lenS rfl) ?_
     first | refine ax_call rfl (vc_pure0 (c_chunk (a := lv.length) (b := 5) ?_ ?_) hP rfl rfl ?_) | refine ax_call rfl (vc_lend0 (c_chunk (a := lv.length) (b := 5) ?_ ?_) hP (by repeat (first | exact lal_id _ rfl | exact LAL.nil | refine LAL.cons ?_ ?_ | exact la_id _ rfl | exact LA.lend (lend_whole rfl (by first | (simp; done) | (rw [List.length_map]; rfl))) | refine LA.agg ?_ | refine LA.fn ?_ | refine LA.lend ?_ | exact Lend.d _ | exact Lend.zs _ | exact lend_whole rfl (by first | (simp; done) | (rw [List.length_map]; rfl)) | refine Lend.ptr rfl ?_ | refine Lend.fn ?_ | exact LendL.nil | refine LendL.cons ?_ ?_)) rfl rfl ?_)
     ·
      first | assumption | omega | (simp; done) | (simp; omega)
     ·
      first | assumption | omega | (simp; done) | (simp; omega)
     rw [← hc]
     refine ax_q (q_mov rfl) ?_
     refine ax_nil ?_
     refine cx_keep rfl rfl ?_
     refine cx_seq ?_
     refine cx_drawL 5 64 (Nat.beq 51) (nrA 51) [] ([(51, .rows 1 ((ab ++ [ns.length]).map kidRow))]) [[7], [3], [60], [61], [62], [59, 63], [8], [5], [66], [67], [68]] [[], [], [], [], [], [51], [51], [51], [51], [51], [51]] rfl ?_
     first | refine ⟨_, .inr ⟨rfl, _, rfl, .inl rfl, loc_q (q_mov rfl)⟩, ?_⟩
     first | refine ⟨_, .inr ⟨rfl, _, rfl, .inl rfl, loc_q (q_fadr_ptr rfl)⟩, ?_⟩
     first | refine ⟨_, .inr ⟨rfl, _, rfl, .inl rfl, loc_q (q_load1_ptr rfl rfl rfl)⟩, ?_⟩
     first | refine ⟨_, .inr ⟨rfl, _, rfl, .inl rfl, loc_q (q_lenS_map rfl)⟩, ?_⟩ | refine ⟨_, .inr ⟨rfl, _, rfl, .inl rfl, loc_q (q_lenS_osl rfl)⟩, ?_⟩ | refine ⟨_, .inr ⟨rfl, _, rfl, .inl rfl, loc_q (q_lenS_zs rfl)⟩, ?_⟩ | refine ⟨_, .inr ⟨rfl, _, rfl, .inl rfl, loc_q (q_lenS rfl)⟩, ?_⟩
     first | refine ⟨_, .inr ⟨rfl, _, rfl, .inl rfl, loc_bsliceD (rows := [kidRow ns.length]) rfl⟩, ?_⟩
     refine ⟨⟨64, _, []⟩, .inl ⟨rfl, rfl, rfl, locl_app (n' := (ab ++ [ns.length]).length) (rs' := (ab ++ [ns.length]).map kidRow) rfl rfl (by simp) rfl (fun _ _ h => src_sl 1 _) (.inl (by decide)) (hbnd (by omega) (by simp) (by decide)) (by simp) (app_all (ys := [ns.length]) (row := kidRow))⟩, ?_⟩
     first | refine ⟨_, .inr ⟨rfl, _, rfl, .inr ⟨rfl, rfl, .inr rfl, rfl, rfl⟩, loc_q (q_mov rfl)⟩, ?_⟩
     first | refine ⟨_, .inr ⟨rfl, _, rfl, .inr ⟨rfl, rfl, .inr rfl, rfl, rfl⟩, loc_q (q_mov rfl)⟩, ?_⟩
     first | refine ⟨_, .inr ⟨rfl, _, rfl, .inr ⟨rfl, rfl, .inr rfl, rfl, rfl⟩, loc_q (q_ixI rfl rfl (by omega) (strD (by omega)))⟩, ?_⟩
     first | refine ⟨_, .inr ⟨rfl, _, rfl, .inr ⟨rfl, rfl, .inr rfl, rfl, rfl⟩, loc_q (q_load1_ptr rfl rfl rfl)⟩, ?_⟩ | refine ⟨_, .inr ⟨rfl, _, rfl, .inr ⟨rfl, rfl, .inr rfl, rfl, rfl⟩, loc_q (q_load1_ip rfl)⟩, ?_⟩ | refine ⟨_, .inr ⟨rfl, _, rfl, .inr ⟨rfl, rfl, .inr rfl, rfl, rfl⟩, loc_q (q_load1_rptr rfl rfl rfl rfl)⟩, ?_⟩ | refine ⟨_, .inr ⟨rfl, _, rfl, .inr ⟨rfl, rfl, .inr rfl, rfl, rfl⟩, loc_q (q_load1_rptr rfl rfl (by assumption) rfl)⟩, ?_⟩ | refine ⟨_, .inr ⟨rfl, _, rfl, .inr ⟨rfl, rfl, .inr rfl, rfl, rfl⟩, loc_q (q_load1_rptr rfl rfl (mapAt (by first | assumption | omega)) rfl)⟩, ?_⟩
     first | refine ⟨_, .inr ⟨rfl, _, rfl, .inr ⟨rfl, rfl, .inr rfl, rfl, rfl⟩, loc_bsliceD (rows := [strRow (le.getD 0 [])]) rfl⟩, ?_⟩
     refine ⟨rfl, ?_⟩
     refine ax_e (e_appn (n' := (al ++ [le.getD 0 []]).length) (rs' := (al ++ [le.getD 0 []]).map strRow) rfl rfl (by simp) rfl (src_sl 1 _) (.inl (by decide)) (hbnd (by omega) (by simp) (by decide)) (by simp) (app_all (ys := [le.getD 0 []]) (row := strRow))) ?_
     refine ax_q (q_mov rfl) ?_
     refine ax_q (q_mov rfl) ?_
     refine ax_nil ?_
     refine cx_keep rfl rfl ?_
     refine cx_seq ?_
     refine cx_drawL 0 71 (fun _ => false) (fun _ => true) [] ([]) [[3], [71], [5], [9], [73, 74], [75], [4], [9], [77, 78], [79], [76, 80], [81]] [[], [], [], [], [], [], [], [], [], [], [], []] rfl ?_
     first | refine ⟨⟨71, _, []⟩, .inl ⟨rfl, rfl, rfl, locl_of (loc_q (q_fadr_ptr rfl))⟩, ?_⟩
     first | refine ⟨_, .inr ⟨rfl, _, rfl, .inr ⟨rfl, rfl, .inl rfl, rfl, rfl⟩, loc_q (q_load1_ptr rfl rfl rfl)⟩, ?_⟩
     first | refine ⟨_, .inr ⟨rfl, _, rfl, .inr ⟨rfl, rfl, .inr rfl, rfl, rfl⟩, loc_q (q_mov rfl)⟩, ?_⟩
     first | refine ⟨_, .inr ⟨rfl, _, rfl, .inr ⟨rfl, rfl, .inr rfl, rfl, rfl⟩, loc_q (q_mov rfl)⟩, ?_⟩
     first | refine ⟨_, .inr ⟨rfl, _, rfl, .inr ⟨rfl, rfl, .inr rfl, rfl, rfl⟩, loc_qe (r' := .d (.sl 1 (((le.drop 1).take (c - 1)).map strRow))) (q_slc rfl rfl rfl (by omega) (by omega) (by simp; omega)) (slR_mid rfl (by omega))⟩, ?_⟩
     first | refine ⟨_, .inr ⟨rfl, _, rfl, .inr ⟨rfl, rfl, .inr rfl, rfl, rfl⟩, loc_call (fun i => 76 + 200 * i) false rfl (c_CloneD_Str (xs := (le.drop 1).take (c - 1)) (by first | assumption | omega | (simp; done) | (simp; omega))) hP (.inr ⟨rfl, rfl, rfl⟩) rfl rfl (fun h => by cases h)⟩, ?_⟩ | refine ⟨_, .inr ⟨rfl, _, rfl, .inr ⟨rfl, rfl, .inr rfl, rfl, rfl⟩, loc_call (fun i => 76 + 200 * i) true rfl (c_CloneD_Str (xs := (le.drop 1).take (c - 1)) (by first | assumption | omega | (simp; done) | (simp; omega))) hP (.inl ⟨rfl, (by repeat (first | exact lal_id _ rfl | exact LAL.nil | refine LAL.cons ?_ ?_ | exact la_id _ rfl | exact LA.lend (lend_whole rfl (by first | (simp; done) | (rw [List.length_map]; rfl))) | refine LA.agg ?_ | refine LA.fn ?_ | refine LA.lend ?_ | exact Lend.d _ | exact Lend.zs _ | exact lend_whole rfl (by first | (simp; done) | (rw [List.length_map]; rfl)) | refine Lend.ptr rfl ?_ | refine Lend.fn ?_ | exact LendL.nil | refine LendL.cons ?_ ?_))⟩) rfl rfl (fun _ => ⟨rfl, noisl_of (by repeat (first | exact trivial | refine ⟨noisl_map (fun _ => rfl), ?_⟩ | refine ⟨?_, ?_⟩))⟩)⟩, ?_⟩
     first | refine ⟨_, .inr ⟨rfl, _, rfl, .inr ⟨rfl, rfl, .inr rfl, rfl, rfl⟩, loc_q (q_mov rfl)⟩, ?_⟩
     first | refine ⟨_, .inr ⟨rfl, _, rfl, .inr ⟨rfl, rfl, .inr rfl, rfl, rfl⟩, loc_q (q_mov rfl)⟩, ?_⟩
     first | refine ⟨_, .inr ⟨rfl, _, rfl, .inr ⟨rfl, rfl, .inr rfl, rfl, rfl⟩, loc_qe (r' := .d (.sl 1 ((lv.take c).map kidRow))) (q_slc rfl rfl rfl (by omega) (by omega) (by simp; omega)) (slR_take (by omega))⟩, ?_⟩
     first | refine ⟨_, .inr ⟨rfl, _, rfl, .inr ⟨rfl, rfl, .inr rfl, rfl, rfl⟩, loc_call (fun i => 80 + 200 * i) false rfl (c_CloneD_Int (xs := lv.take c) (by first | assumption | omega | (simp; done) | (simp; omega))) hP (.inr ⟨rfl, rfl, rfl⟩) rfl rfl (fun h => by cases h)⟩, ?_⟩ | refine ⟨_, .inr ⟨rfl, _, rfl, .inr ⟨rfl, rfl, .inr rfl, rfl, rfl⟩, loc_call (fun i => 80 + 200 * i) true rfl (c_CloneD_Int (xs := lv.take c) (by first | assumption | omega | (simp; done) | (simp; omega))) hP (.inl ⟨rfl, (by repeat (first | exact lal_id _ rfl | exact LAL.nil | refine LAL.cons ?_ ?_ | exact la_id _ rfl | exact LA.lend (lend_whole rfl (by first | (simp; done) | (rw [List.length_map]; rfl))) | refine LA.agg ?_ | refine LA.fn ?_ | refine LA.lend ?_ | exact Lend.d _ | exact Lend.zs _ | exact lend_whole rfl (by first | (simp; done) | (rw [List.length_map]; rfl)) | refine Lend.ptr rfl ?_ | refine Lend.fn ?_ | exact LendL.nil | refine LendL.cons ?_ ?_))⟩) rfl rfl (fun _ => ⟨rfl, noisl_of (by repeat (first | exact trivial | refine ⟨noisl_map (fun _ => rfl), ?_⟩ | refine ⟨?_, ?_⟩))⟩)⟩, ?_⟩
     first | refine ⟨_, .inr ⟨rfl, _, rfl, .inr ⟨rfl, rfl, .inr rfl, rfl, rfl⟩, loc_q (q_build rfl)⟩, ?_⟩
     first | refine ⟨_, .inr ⟨rfl, _, rfl, .inr ⟨rfl, rfl, .inr rfl, rfl, rfl⟩, loc_bsliceD (rows := [TN.row (⟨false, (le.drop 1).take (c - 1), lv.take c⟩ : GNode)]) rfl⟩, ?_⟩
     refine ⟨rfl, ?_⟩
     refine ax_e (e_appn (n' := (ns ++ [(⟨false, (le.drop 1).take (c - 1), lv.take c⟩ : GNode)]).length) (rs' := (ns ++ [(⟨false, (le.drop 1).take (c - 1), lv.take c⟩ : GNode)]).map TN.row) rfl rfl (by simp) rfl (src_sl 3 _) (.inl (by decide)) (hbnd (by omega) (by simp) (by decide)) (by simp) (app_all (ys := [(⟨false, (le.drop 1).take (c - 1), lv.take c⟩ : GNode)]) (row := TN.row))) ?_
     refine ax_q (q_fadr_ptr rfl) ?_
     refine ax_e (e_st rfl rfl rfl rfl rfl rfl rfl) ?_
     refine ax_nil ?_
     refine cx_keep rfl rfl ?_
     refine cx_draw ?_
     refine ax_q (q_mov rfl) ?_
     refine ax_q (q_mov rfl) ?_
     refine ax_qe (r' := .d (.sl 1 ((lv.drop c).map kidRow))) (q_slc rfl rfl rfl (by omega) (by simp; omega) (by simp)) (slR_drop (by omega)) ?_
     refine ax_q (q_mov rfl) ?_
     refine ax_q (q_mov rfl) ?_
     refine ax_qe (r' := .d (.sl 1 ((le.drop c).map strRow))) (q_slc rfl rfl rfl (by omega) (by simp; omega) (by simp)) (slR_drop (by omega)) ?_
     refine ax_q (q_mov rfl) ?_
     refine ax_q (q_mov rfl) ?_
     refine ax_nil ?_
     exact ⟨_, (lv.drop c, le.drop c, ns ++ [(⟨false, (le.drop 1).take (c - 1), lv.take c⟩ : GNode)], ab ++ [ns.length], al ++ [le.getD 0 []]), Nat.lt_succ_self _, ⟨by simp only [List.length_drop]; omega, hu2⟩, by repeat (first | exact trivial | refine ⟨rfl, ?_⟩ | refine ⟨?_, ?_⟩)⟩
    ·
     have h3 := dF h3
     have hs4 := up_end (by omega) hs
     rw [Prod.mk.injEq, Prod.mk.injEq] at hs4
     obtain ⟨rfl, rfl, rfl⟩ := hs4
     refine cx_exit rfl ?_
     refine cx_keep rfl rfl ?_
     refine cx_ops ?_
     refine ax_wk (wk_frz 7 51 rfl rfl (.whole (by simp)) rfl) ?_
     refine ax_wk (wk_frz 8 52 rfl rfl (.whole (by simp)) rfl) ?_
     refine ax_q (q_mov rfl) ?_
     refine ax_q (q_mov rfl) ?_
     refine ax_q (q_mov rfl) ?_
     refine ax_q (q_mov rfl) ?_
     refine ax_nil ?_
     exact ⟨_, (nsU, abU, alU), Nat.lt_succ_self _, hs3, by repeat (first | exact trivial | refine ⟨rfl, ?_⟩ | refine ⟨?_, ?_⟩)⟩
   ·
    have h2 := dF h2
    obtain ⟨s1, s2, rfl⟩ := top_end (by omega) hs
    refine cx_exit rfl ?_
    refine cx_keep rfl rfl ?_
    refine cx_seq ?_
    refine cx_ops ?_
    refine ax_q (q_mov rfl) ?_
    refine ax_q (q_ixI rfl rfl (by omega) (kidD (by omega))) ?_
    first | refine ax_q (q_load1_ptr rfl rfl rfl) ?_ | refine ax_q (q_load1_ip rfl) ?_ | refine ax_q (q_load1_rptr rfl rfl rfl rfl) ?_ | refine ax_q (q_load1_rptr rfl rfl (by assumption) rfl) ?_ | refine ax_q (q_load1_rptr rfl rfl (mapAt (by first | assumption | omega)) rfl) ?_
    refine ax_q (q_fadr_ptr rfl) ?_
    refine ax_e (e_st rfl rfl rfl rfl rfl rfl rfl) ?_
    refine ax_nil ?_
    refine cx_keep rfl rfl ?_
    refine cx_seq ?_
    refine cx_ops ?_
    refine ax_q (q_ldN rfl rfl rfl) ?_
    refine ax_wk (wk_frz 97 902 rfl rfl (.agg (.cons (.same rfl) (.cons (.whole (by simp)) .nil))) rfl) ?_
    refine ax_e (e_st rfl rfl rfl rfl rfl rfl rfl) ?_
    refine ax_nil ?_
    refine cx_keep rfl rfl ?_
    refine cx_ret (ret0 rfl rfl ?_)
    exact ⟨rfl, rfl⟩


/- slices.Reverse[[]string,string] -/
def k_c_ReverseP : XCode :=
 .seq (.ops [.op (some 4) (.mov (.t 0)),
   .op (some 5) (.lenS (.t 4)),
   .op (some 6) (.bin .sub (.t 5) (.k (.int .i64 1))),
   .op (some 2) (.mov (.k (.int .i64 0))),
   .op (some 3) (.mov (.t 6))])
 (.keep [0, 2, 3] (.block 0 (.loop (.seq (.seq (.ops [.op (some 7) (.mov (.t 2)),
    .op (some 8) (.mov (.t 3)),
    .op (some 9) (.bin .lss (.t 7) (.t 8))])
   (.keep [0, 2, 3, 9] (.cond (.t 9)
   (.skip)
   (.exit 0))))
  (.keep [0, 2, 3] (.seq (.block 1 (.drawE [[], [], [], [], [], [], [4, 5], [4, 5, 6], [], [], [8, 9], [8, 9, 10], [0, 1, 4, 5, 6, 7, 8, 9, 10, 11], [0, 1, 4, 5, 6, 7, 8, 9, 10, 11, 12], [0, 1, 2, 3, 4, 5, 6, 7, 8, 9, 10, 11, 12, 13], [0, 1, 2, 3, 4, 5, 6, 7, 8, 9, 10, 11, 12, 13, 14]] [.op (some 14) (.mov (.t 0)),
    .op (some 15) (.mov (.t 2)),
    .op (some 16) (.mov (.t 0)),
    .op (some 17) (.mov (.t 3)),
    .op (some 18) (.mov (.t 0)),
    .op (some 19) (.mov (.t 3)),
    .op (some 20) (.iadr 1 (.t 18) (.t 19)),
    .op (some 21) (.load1 (.t 20)),
    .op (some 22) (.mov (.t 0)),
    .op (some 23) (.mov (.t 2)),
    .op (some 24) (.iadr 1 (.t 22) (.t 23)),
    .op (some 25) (.load1 (.t 24)),
    .op (some 26) (.iadr 1 (.t 14) (.t 15)),
    .op none (.store 1 (.t 26) (.t 21))]
    [.op (some 27) (.iadr 1 (.t 16) (.t 17)),
    .op none (.store 1 (.t 27) (.t 25))]))
  (.keep [0, 2, 3] (.ops [.op (some 10) (.mov (.t 2)),
   .op (some 11) (.bin .add (.t 10) (.k (.int .i64 1))),
   .op (some 12) (.mov (.t 3)),
   .op (some 13) (.bin .sub (.t 12) (.k (.int .i64 1))),
   .op (some 2) (.mov (.t 11)),
   .op (some 3) (.mov (.t 13))]))))))))
theorem k_c_ReverseP_fits : fitsF Try.prog 57 ⟨28, k_c_ReverseP, []⟩ = true := by kernel_rfl
set_option maxHeartbeats 2000000 in
theorem c_ReverseP {xs : List Str} {s len : Nat} (hl : s + len ≤ xs.length) (hm : xs.length ≤ 1048576) : Con Try.prog noMv 57 [.osl 1000 1 s len] [(1000, .rows 1 (xs.map strRow))] (fun r h => r = .tup [] ∧ h = [(1000, .rows 1 ((revP xs s len).map strRow))]) := by
 refine con_of2 k_c_ReverseP_fits rfl fun C hP hmv => ?_
 unfold k_c_ReverseP
 refine cx_seq ?_
 refine cx_ops ?_
 refine ax_q (q_mov rfl) ?_
 first | refine ax_q (q_lenS_map rfl) ?_ | refine ax_q (q_lenS_osl rfl) ?_ | refine ax_q (q_lenS_zs rfl) ?_ | refine ax_q (q_lenS rfl) ?_
 refine ax_qe (r' := int ((len : Int) - 1 - (0 : Nat))) (q_ibin rfl rfl rfl) (by rw [wi (by omega) (by omega)]; exact congrArg AM.int (by omega)) ?_
 refine ax_q (q_mov rfl) ?_
 refine ax_q (q_mov rfl) ?_
 refine ax_nil ?_
 refine cx_keep rfl rfl ?_
 refine cx_block ?_
 refine cx_loopU (fun n i => 2 * i ≤ len ∧ n = len - i) (fun i : Nat => [(2, int i), (3, int ((len : Int) - 1 - i))]) (fun i => [(1000, .rows 1 ((revPK xs s len i).map strRow))]) ⟨_, 0, ⟨Nat.zero_le _, rfl⟩, by rw [revPK_0 hl]; exact (by repeat (first | exact trivial | refine ⟨rfl, ?_⟩ | refine ⟨?_, ?_⟩))⟩ ?_
 rintro n i ⟨hi, rfl⟩
 have hrl := revPK_len (i := i) hl
 refine cx_seq ?_
 refine cx_seq ?_
 refine cx_ops ?_
 refine ax_q (q_mov rfl) ?_
 refine ax_q (q_mov rfl) ?_
 refine ax_q (q_ibin rfl rfl rfl) ?_
 refine ax_nil ?_
 refine cx_keep rfl rfl ?_
 refine cx_cond rfl (fun h0 => ?_) (fun h0 => ?_)
 ·
  have h0 := dT h0
  refine cx_skip ?_
  refine cx_keep rfl rfl ?_
  refine cx_seq ?_
  refine cx_block ?_
  refine cx_drawL 13 5000 (fun _ => false) (fun _ => true) [] ([(1000, .rows 1 (((revPK xs s len i).set (s + i) ((revPK xs s len i)[(s + (len - 1 - i))]'(by omega))).map strRow))]) [[0], [2], [0], [3], [0], [3], [18, 19], [20], [0], [2], [22, 23], [24], [14, 15], [21, 26]] [[], [], [1000], [1000], [], [], [], [], [], [], [], [], [], [1000]] rfl ?_
  first | refine ⟨_, .inr ⟨rfl, _, rfl, .inl rfl, loc_q (q_mov rfl)⟩, ?_⟩
  first | refine ⟨_, .inr ⟨rfl, _, rfl, .inl rfl, loc_q (q_mov rfl)⟩, ?_⟩
  first | refine ⟨_, .inr ⟨rfl, _, rfl, .inr ⟨rfl, rfl, .inr rfl, rfl, rfl⟩, loc_q (q_mov rfl)⟩, ?_⟩
  first | refine ⟨_, .inr ⟨rfl, _, rfl, .inr ⟨rfl, rfl, .inr rfl, rfl, rfl⟩, loc_q (q_mov rfl)⟩, ?_⟩
  first | refine ⟨_, .inr ⟨rfl, _, rfl, .inl rfl, loc_q (q_mov rfl)⟩, ?_⟩
  first | refine ⟨_, .inr ⟨rfl, _, rfl, .inl rfl, loc_q (q_mov rfl)⟩, ?_⟩
  first | refine ⟨_, .inr ⟨rfl, _, rfl, .inl rfl, loc_q (q_ixs (j := (s + (len - 1 - i))) rfl rfl (by omega) (by omega) (by omega))⟩, ?_⟩
  first | refine ⟨_, .inr ⟨rfl, _, rfl, .inl rfl, loc_q (q_load1_rptr (r := strRow ((revPK xs s len i)[(s + (len - 1 - i))]'(by omega))) rfl rfl (mapAt (by omega)) rfl)⟩, ?_⟩
  first | refine ⟨_, .inr ⟨rfl, _, rfl, .inl rfl, loc_q (q_mov rfl)⟩, ?_⟩
  first | refine ⟨_, .inr ⟨rfl, _, rfl, .inl rfl, loc_q (q_mov rfl)⟩, ?_⟩
  first | refine ⟨_, .inr ⟨rfl, _, rfl, .inl rfl, loc_q (q_ixs (j := s + i) rfl rfl (by omega) (by omega) (by omega))⟩, ?_⟩
  first | refine ⟨_, .inr ⟨rfl, _, rfl, .inl rfl, loc_q (q_load1_rptr (r := strRow ((revPK xs s len i)[s + i]'(by omega))) rfl rfl (mapAt (by omega)) rfl)⟩, ?_⟩
  first | refine ⟨_, .inr ⟨rfl, _, rfl, .inl rfl, loc_q (q_ixs (j := s + i) rfl rfl (by omega) (by omega) (by omega))⟩, ?_⟩
  refine ⟨⟨5000, .dead, []⟩, .inl ⟨rfl, rfl, rfl, locl_str (row := strRow ((revPK xs s len i)[s + i]'(by omega))) (q := strRow ((revPK xs s len i)[(s + (len - 1 - i))]'(by omega))) rfl rfl rfl rfl rfl rfl (mapAt (by omega)) rfl rfl List.map_set.symm⟩, ?_⟩
  refine ⟨rfl, ?_⟩
  refine ax_q (q_ixs (j := (s + (len - 1 - i))) rfl rfl (by omega) (by omega) (by omega)) ?_
  refine ax_e (e_str (rs' := (((revPK xs s len i).set (s + i) ((revPK xs s len i)[(s + (len - 1 - i))]'(by omega))).set (s + (len - 1 - i)) ((revPK xs s len i)[s + i]'(by omega))).map strRow) (row := strRow (((revPK xs s len i).set (s + i) ((revPK xs s len i)[(s + (len - 1 - i))]'(by omega)))[(s + (len - 1 - i))]'(by rw [List.length_set]; omega))) (q := strRow ((revPK xs s len i)[s + i]'(by omega))) rfl rfl rfl rfl rfl rfl (mapAt (by rw [List.length_set]; omega)) rfl rfl List.map_set.symm) ?_
  refine ax_nil ?_
  refine cx_keep rfl rfl ?_
  refine cx_ops ?_
  refine ax_q (q_mov rfl) ?_
  refine ax_qe (r' := int ((i + 1 : Nat) : Int)) (q_ibin rfl rfl rfl) (by rw [wi (by omega) (by omega)]; rfl) ?_
  refine ax_q (q_mov rfl) ?_
  refine ax_qe (r' := int ((len : Int) - 1 - ((i + 1 : Nat) : Int))) (q_ibin rfl rfl rfl) (by rw [wi (by omega) (by omega)]; exact congrArg AM.int (by omega)) ?_
  refine ax_q (q_mov rfl) ?_
  refine ax_q (q_mov rfl) ?_
  refine ax_nil ?_
  exact ⟨_, i + 1, by omega, ⟨by omega, rfl⟩, by rw [← revPK_succ hl (by omega)]; exact (by repeat (first | exact trivial | refine ⟨rfl, ?_⟩ | refine ⟨?_, ?_⟩))⟩
 ·
  have h0 := dF h0
  have he : revPK xs s len i = revP xs s len := revPK_all hl hi (by omega)
  rw [he]
  refine cx_exit rfl ?_
  refine retN id [1000] rfl rfl rfl rfl rfl ?_
  exact ⟨rfl, rfl⟩


/- slices.rotateLeft[string] -/
def k_c_rotL : XCode :=
 .seq (.ops [.op (some 4) (.mov (.t 0)),
   .op (some 5) (.mov (.t 1)),
   .op (some 6) (.slc 1 (.t 4) none (some (.t 5)) none),
   .call (some 7) 57 [.t 6]])
 (.keep [0, 1] (.seq (.ops [.op (some 8) (.mov (.t 0)),
   .op (some 9) (.mov (.t 1)),
   .op (some 10) (.slc 1 (.t 8) (some (.t 9)) none none),
   .call (some 11) 57 [.t 10]])
 (.keep [0] (.ops [.op (some 12) (.mov (.t 0)),
  .call (some 13) 57 [.t 12]]))))
theorem k_c_rotL_fits : fitsF Try.prog 52 ⟨14, k_c_rotL, []⟩ = true := by kernel_rfl
theorem c_rotL {xs : List Str} {s len k : Nat} (hl : s + len ≤ xs.length) (hk : k ≤ len) (hm : xs.length ≤ 1048576) : Con Try.prog noMv 52 [.osl 1000 1 s len, int k] [(1000, .rows 1 (xs.map strRow))] (fun r h => r = .tup [] ∧ h = [(1000, .rows 1 ((revP (revP (revP xs s (k)) (s + (k)) (len - (k))) s len).map strRow))]) := by
 refine con_of2 k_c_rotL_fits rfl fun C hP hmv => ?_
 unfold k_c_rotL
 refine cx_seq ?_
 refine cx_ops ?_
 refine ax_q (q_mov rfl) ?_
 refine ax_q (q_mov rfl) ?_
 refine ax_qe (r' := .osl 1000 1 s k) (q_slc_osl rfl rfl rfl (by omega) (by omega) (by omega)) (oslE (by omega) (by omega)) ?_
 refine ax_call rfl (vcall_own (c_ReverseP (xs := xs) (s := s) (len := k) (by omega) (by omega)) hP hmv false (fun _ => 1000) [1000] ⟨rfl, rfl, rfl, rfl, ⟨rfl, trivial⟩, rfl, rfl, rfl⟩ (.pass rfl rfl .nil) ?_)
 rintro r h ⟨rfl, rfl⟩
 refine ⟨fun _ => 1000, [], ⟨rfl, rfl, rfl, rfl, mem1 rfl, rfl, rfl, fun h => absurd h Bool.false_ne_true⟩, ?_⟩
 have q1 := revP_len (xs := xs) (s := s) (len := k) (by omega)
 refine ax_nil ?_
 refine cx_keep rfl rfl ?_
 refine cx_seq ?_
 refine cx_ops ?_
 refine ax_q (q_mov rfl) ?_
 refine ax_q (q_mov rfl) ?_
 refine ax_qe (r' := .osl 1000 1 (s + k) (len - k)) (q_slc_osl rfl rfl rfl (by omega) (by omega) (by omega)) (oslE (by omega) (by omega)) ?_
 refine ax_call rfl (vcall_own (c_ReverseP (xs := revP xs s k) (s := s + k) (len := len - k) (by omega) (by omega)) hP hmv false (fun _ => 1000) [1000] ⟨rfl, rfl, rfl, rfl, ⟨rfl, trivial⟩, rfl, rfl, rfl⟩ (.pass rfl rfl .nil) ?_)
 rintro r h ⟨rfl, rfl⟩
 refine ⟨fun _ => 1000, [], ⟨rfl, rfl, rfl, rfl, mem1 rfl, rfl, rfl, fun h => absurd h Bool.false_ne_true⟩, ?_⟩
 have q2 := revP_len (xs := revP xs s k) (s := s + k) (len := len - k) (by omega)
 refine ax_nil ?_
 refine cx_keep rfl rfl ?_
 refine cx_ops ?_
 refine ax_q (q_mov rfl) ?_
 refine ax_call rfl (vcall_own (c_ReverseP (xs := revP (revP xs s k) (s + k) (len - k)) (s := s) (len := len) (by omega) (by omega)) hP hmv false (fun _ => 1000) [1000] ⟨rfl, rfl, rfl, rfl, ⟨rfl, trivial⟩, rfl, rfl, rfl⟩ (.pass rfl rfl .nil) ?_)
 rintro r h ⟨rfl, rfl⟩
 refine ⟨fun _ => 1000, [], ⟨rfl, rfl, rfl, rfl, mem1 rfl, rfl, rfl, fun h => absurd h Bool.false_ne_true⟩, ?_⟩
 refine ax_nil ?_
 refine retN id [1000] rfl rfl rfl rfl rfl ?_
 exact ⟨rfl, rfl⟩


/- slices.rotateRight[string] -/
def k_c_rotR : XCode :=
 .ops [.op (some 4) (.mov (.t 0)),
  .op (some 5) (.mov (.t 0)),
  .op (some 6) (.lenS (.t 5)),
  .op (some 7) (.mov (.t 1)),
  .op (some 8) (.bin .sub (.t 6) (.t 7)),
  .call (some 9) 52 [.t 4, .t 8]]
theorem k_c_rotR_fits : fitsF Try.prog 40 ⟨10, k_c_rotR, []⟩ = true := by kernel_rfl
theorem c_rotR {xs : List Str} {s len k : Nat} (hl : s + len ≤ xs.length) (hk : k ≤ len) (hm : xs.length ≤ 1048576) : Con Try.prog noMv 40 [.osl 1000 1 s len, int k] [(1000, .rows 1 (xs.map strRow))] (fun r h => r = .tup [] ∧ h = [(1000, .rows 1 ((revP (revP (revP xs s (len - k)) (s + (len - k)) (len - (len - k))) s len).map strRow))]) := by
 refine con_of2 k_c_rotR_fits rfl fun C hP hmv => ?_
 unfold k_c_rotR
 refine cx_ops ?_
 refine ax_q (q_mov rfl) ?_
 refine ax_q (q_mov rfl) ?_
 first | refine ax_q (q_lenS_map rfl) ?_ | refine ax_q (q_lenS_osl rfl) ?_ | refine ax_q (q_lenS_zs rfl) ?_ | refine ax_q (q_lenS rfl) ?_
 refine ax_q (q_mov rfl) ?_
 refine ax_qe (r' := int ((len - k : Nat) : Int)) (q_ibin rfl rfl rfl) (by rw [wi (by omega) (by omega)]; exact congrArg AM.int (by omega)) ?_
 refine ax_call rfl (vcall_own (c_rotL (xs := xs) (s := s) (len := len) (k := len - k) (by omega) (by omega) (by omega)) hP hmv false (fun _ => 1000) [1000] ⟨rfl, rfl, rfl, rfl, ⟨rfl, trivial⟩, rfl, rfl, rfl⟩ (.pass rfl rfl (.pass rfl rfl .nil)) ?_)
 rintro r h ⟨rfl, rfl⟩
 refine ⟨fun _ => 1000, [], ⟨rfl, rfl, rfl, rfl, mem1 rfl, rfl, rfl, fun h => absurd h Bool.false_ne_true⟩, ?_⟩
 refine ax_nil ?_
 refine retN id [1000] rfl rfl rfl rfl rfl ?_
 exact ⟨rfl, rfl⟩


/- slices.Insert[[]string,string] -/
def k_c_Insert_Str : XCode :=
 .seq (.ops [.op (some 6) (.mov (.k (.nils 1)))])
 (.keep [0, 1, 2] (.seq (.ops [.op (some 10) (.mov (.t 0)),
   .op (some 11) (.mov (.t 1)),
   .op (some 12) (.slc 1 (.t 10) (some (.t 11)) none none)])
 (.keep [0, 1, 2] (.seq (.ops [.op (some 13) (.mov (.t 2)),
   .op (some 14) (.lenS (.t 13)),
   .op (some 7) (.mov (.t 14))])
 (.keep [0, 1, 2, 7] (.seq (.seq (.ops [.op (some 15) (.mov (.t 7)),
   .op (some 16) (.bin .eql (.t 15) (.k (.int .i64 0)))])
  (.keep [0, 1, 2, 7, 16] (.cond (.t 16)
  (.seq (.ops [.op (some 17) (.mov (.t 0)),
    .op (some 6) (.mov (.t 17))])
   (.keep [6] (.ret)))
  (.skip))))
 (.keep [0, 1, 2, 7] (.seq (.ops [.op (some 18) (.mov (.t 0)),
   .op (some 19) (.lenS (.t 18)),
   .op (some 8) (.mov (.t 19))])
 (.keep [0, 1, 2, 7, 8] (.seq (.seq (.ops [.op (some 20) (.mov (.t 1)),
   .op (some 21) (.mov (.t 8)),
   .op (some 22) (.bin .eql (.t 20) (.t 21))])
  (.keep [0, 1, 2, 7, 8, 22] (.cond (.t 22)
  (.seq (.ops [.op (some 23) (.mov (.t 0)),
    .op (some 24) (.mov (.t 2)),
    .op (some 25) (.app 1 16 [.str []] (.t 23) (.t 24)),
    .op (some 6) (.mov (.t 25))])
   (.keep [6] (.ret)))
  (.skip))))
 (.keep [0, 1, 2, 7, 8] (.seq (.seq (.ops [.op (some 26) (.mov (.t 8)),
   .op (some 27) (.mov (.t 7)),
   .op (some 28) (.bin .add (.t 26) (.t 27)),
   .op (some 29) (.mov (.t 0)),
   .op (some 30) (.capS (.t 29)),
   .op (some 31) (.bin .gtr (.t 28) (.t 30))])
  (.keep [0, 1, 2, 7, 8, 31] (.cond (.t 31)
  (.seq (.ops [.op (some 32) (.mov (.t 0)),
    .op (some 33) (.mov (.t 1)),
    .op (some 34) (.slc 1 (.t 32) none (some (.t 33)) none),
    .op (some 35) (.mov (.t 8)),
    .op (some 36) (.mov (.t 7)),
    .op (some 37) (.bin .add (.t 35) (.t 36)),
    .op (some 38) (.mov (.t 1)),
    .op (some 39) (.bin .sub (.t 37) (.t 38)),
    .op (some 40) (.appz 1 16 [.str []] (.t 34) (.t 39)),
    .op (some 9) (.mov (.t 40))])
   (.keep [0, 1, 2, 7, 9] (.seq (.ops [.op (some 41) (.mov (.t 9)),
    .op (some 42) (.mov (.t 1)),
    .op (some 43) (.slc 1 (.t 41) (some (.t 42)) none none),
    .op (some 44) (.mov (.t 2)),
    .op (some 45) (.cpy 1 (.t 43) (.t 44))])
   (.keep [0, 1, 7, 9] (.seq (.drawE [[], [], [], [1, 2], [0, 1, 2, 3], [], [], [5, 6], [0, 1, 2, 3, 4, 5, 6, 7]] [.op (some 46) (.mov (.t 9)),
    .op (some 47) (.mov (.t 1)),
    .op (some 48) (.mov (.t 7)),
    .op (some 49) (.bin .add (.t 47) (.t 48)),
    .op (some 50) (.slc 1 (.t 46) (some (.t 49)) none none),
    .op (some 51) (.mov (.t 0)),
    .op (some 52) (.mov (.t 1)),
    .op (some 53) (.slc 1 (.t 51) (some (.t 52)) none none)]
    [.op (some 54) (.cpy 1 (.t 50) (.t 53))])
   (.keep [9] (.seq (.ops [.op (some 55) (.mov (.t 9)),
    .op (some 6) (.mov (.t 55))])
   (.keep [6] (.ret)))))))))
  (.skip))))
 (.keep [0, 1, 2, 7, 8] (.seq (.ops [.op (some 56) (.mov (.t 0)),
   .op (some 57) (.mov (.t 8)),
   .op (some 58) (.mov (.t 7)),
   .op (some 59) (.bin .add (.t 57) (.t 58)),
   .op (some 60) (.slc 1 (.t 56) none (some (.t 59)) none),
   .op (some 0) (.mov (.t 60))])
 (.keep [0, 1, 2, 7, 8] (.seq (.seq (.ops [.op (some 61) (.mov (.t 2)),
   .op (some 62) (.mov (.t 0)),
   .op (some 63) (.mov (.t 1)),
   .op (some 64) (.mov (.t 7)),
   .op (some 65) (.bin .add (.t 63) (.t 64)),
   .op (some 66) (.slc 1 (.t 62) (some (.t 65)) none none),
   .op (some 67) (.ext2 39 (.t 61) (.t 66)),
   .op (some 68) (.not (.t 67))])
  (.keep [0, 1, 2, 7, 8, 68] (.cond (.t 68)
  (.seq (.drawE [[], [], [], [1, 2], [0, 1, 2, 3], [], [], [5, 6], [0, 1, 2, 3, 4, 5, 6, 7]] [.op (some 69) (.mov (.t 0)),
    .op (some 70) (.mov (.t 1)),
    .op (some 71) (.mov (.t 7)),
    .op (some 72) (.bin .add (.t 70) (.t 71)),
    .op (some 73) (.slc 1 (.t 69) (some (.t 72)) none none),
    .op (some 74) (.mov (.t 0)),
    .op (some 75) (.mov (.t 1)),
    .op (some 76) (.slc 1 (.t 74) (some (.t 75)) none none)]
    [.op (some 77) (.cpy 1 (.t 73) (.t 76))])
   (.keep [0, 1, 2] (.seq (.ops [.op (some 78) (.mov (.t 0)),
    .op (some 79) (.mov (.t 1)),
    .op (some 80) (.slc 1 (.t 78) (some (.t 79)) none none),
    .op (some 81) (.mov (.t 2)),
    .op (some 82) (.cpy 1 (.t 80) (.t 81))])
   (.keep [0] (.seq (.ops [.op (some 83) (.mov (.t 0)),
    .op (some 6) (.mov (.t 83))])
   (.keep [6] (.ret)))))))
  (.skip))))
 (.keep [0, 1, 2, 7, 8] (.seq (.ops [.op (some 84) (.mov (.t 0)),
   .op (some 85) (.mov (.t 8)),
   .op (some 86) (.slc 1 (.t 84) (some (.t 85)) none none),
   .op (some 87) (.mov (.t 2)),
   .op (some 88) (.cpy 1 (.t 86) (.t 87))])
 (.keep [0, 1, 7] (.seq (.ops [.op (some 89) (.mov (.t 0)),
   .op (some 90) (.mov (.t 1)),
   .op (some 91) (.slc 1 (.t 89) (some (.t 90)) none none),
   .op (some 92) (.mov (.t 7)),
   .call (some 93) 40 [.t 91, .t 92]])
 (.keep [0] (.seq (.ops [.op (some 94) (.mov (.t 0)),
   .op (some 6) (.mov (.t 94))])
 (.keep [6] (.ret))))))))))))))))))))))))
theorem k_c_Insert_Str_fits : fitsF Try.prog 21 ⟨95, k_c_Insert_Str, [.t 6]⟩ = true := by kernel_rfl
set_option maxHeartbeats 4000000 in
theorem c_Insert_Str {xs : List Str} {x : Str} {i : Nat} (hi : i ≤ xs.length) (hl : xs.length ≤ 1000000) : Con Try.prog (fun e => Nat.beq e 1000) 21 [.osl 1000 1 0 xs.length, int (i : Nat), .osl 1001 1 0 1] [(1000, .rows 1 (xs.map strRow)), (1001, .rows 1 ([x].map strRow))] (fun r h => r = .osl 1000 1 0 (xs.length + 1) ∧ h = [(1000, .rows 1 ((insA xs i x).map strRow)), (1001, .rows 1 ([x].map strRow))]) := by
 refine con_of2 k_c_Insert_Str_fits rfl fun C hP hmv => ?_
 unfold k_c_Insert_Str
 refine cx_cap 0 rfl fun c hc => ?_
 refine cx_seq ?_
 refine cx_ops ?_
 refine ax_q (q_mov rfl) ?_
 refine ax_nil ?_
 refine cx_keep rfl rfl ?_
 refine cx_seq ?_
 refine cx_ops ?_
 refine ax_q (q_mov rfl) ?_
 refine ax_q (q_mov rfl) ?_
 refine ax_q (q_slcC rfl rfl rfl (by omega) (by omega) (by omega)) ?_
 refine ax_nil ?_
 refine cx_keep rfl rfl ?_
 refine cx_seq ?_
 refine cx_ops ?_
 refine ax_q (q_mov rfl) ?_
 first | refine ax_q (q_lenS_map rfl) ?_ | refine ax_q (q_lenS_osl rfl) ?_ | refine ax_q (q_lenS_zs rfl) ?_ | refine ax_q (q_lenS rfl) ?_
 refine ax_q (q_mov rfl) ?_
 refine ax_nil ?_
 refine cx_keep rfl rfl ?_
 refine cx_seq ?_
 refine cx_seq ?_
 refine cx_ops ?_
 refine ax_q (q_mov rfl) ?_
 refine ax_q (q_ibin rfl rfl rfl) ?_
 refine ax_nil ?_
 refine cx_keep rfl rfl ?_
 refine cx_cond rfl (fun h0 => ?_) (fun h0 => ?_)
 ·
  have h0 := dT h0
  exfalso; omega
 ·
  have h0 := dF h0
  refine cx_skip ?_
  refine cx_keep rfl rfl ?_
  refine cx_seq ?_
  refine cx_ops ?_
  refine ax_q (q_mov rfl) ?_
  refine ax_q (q_lenC rfl) ?_
  refine ax_q (q_mov rfl) ?_
  refine ax_nil ?_
  refine cx_keep rfl rfl ?_
  refine cx_seq ?_
  refine cx_seq ?_
  refine cx_ops ?_
  refine ax_q (q_mov rfl) ?_
  refine ax_q (q_mov rfl) ?_
  refine ax_q (q_ibin rfl rfl rfl) ?_
  refine ax_nil ?_
  refine cx_keep rfl rfl ?_
  refine cx_cond rfl (fun h1 => ?_) (fun h1 => ?_)
  ·
   have h1 := dT h1
   have hie : i = xs.length := by omega
   refine cx_seq ?_
   refine cx_ops ?_
   refine ax_q (q_mov rfl) ?_
   refine ax_q (q_mov rfl) ?_
   refine ax_wk (wk_uncap 23 rfl) ?_
   refine ax_e (e_appn (n' := xs.length + 1) (rs' := (insA xs i x).map strRow) rfl rfl (by simp) rfl (src_osl rfl (by simp)) (.inr (by rw [hmv]; rfl)) (hbnd (by omega) (by simp) (by decide)) (by simp) (by rw [ins_end hie]; exact app1 rfl)) ?_
   refine ax_q (q_mov rfl) ?_
   refine ax_nil ?_
   refine cx_keep rfl rfl ?_
   refine cx_ret (retN id [1000, 1001] rfl rfl rfl rfl rfl ?_)
   exact ⟨rfl, rfl⟩
  ·
   have h1 := dF h1
   have hil : i < xs.length := by omega
   refine cx_skip ?_
   refine cx_keep rfl rfl ?_
   refine cx_seq ?_
   refine cx_seq ?_
   refine cx_ops ?_
   refine ax_q (q_mov rfl) ?_
   refine ax_q (q_mov rfl) ?_
   refine ax_q (q_add rfl rfl (by omega)) ?_
   refine ax_q (q_mov rfl) ?_
   refine ax_q (q_capC rfl) ?_
   refine ax_q (q_ibin rfl rfl rfl) ?_
   refine ax_nil ?_
   refine cx_keep rfl rfl ?_
   refine cx_cond rfl (fun h2 => ?_) (fun h2 => ?_)
   ·
    have h2 := dT h2
    refine cx_seq ?_
    refine cx_ops ?_
    refine ax_q (q_mov rfl) ?_
    refine ax_q (q_mov rfl) ?_
    refine ax_qe (r' := .oslc 1000 1 (0) (i) (c)) (q_slcC rfl rfl rfl (by omega) (by omega) (by omega)) (oslcE (by omega) (by omega) (by omega)) ?_
    refine ax_q (q_mov rfl) ?_
    refine ax_q (q_mov rfl) ?_
    refine ax_q (q_add rfl rfl (by omega)) ?_
    refine ax_q (q_mov rfl) ?_
    refine ax_qe (r' := int ((xs.length + 1 - i : Nat) : Int)) (q_ibin rfl rfl rfl) (by
     rw [wi (by omega) (by omega)]
     exact congrArg AM.int (by omega)) ?_
    refine ax_ee (st'' := ⟨(40, .osl 40 1 0 (xs.length + 1)) :: _, (40, .rows 1 (((xs.map strRow).drop 0).take i)) :: _⟩) (e_appz_grow (n := xs.length + 1 - i) rfl rfl (by simp only [List.length_map]; omega) rfl (by omega) (by omega) (by decide) rfl rfl (hbnd (by omega) (by omega) (by decide))) (by rw [show i + (xs.length + 1 - i) = xs.length + 1 from by omega]) ?_
    refine ax_q (q_mov rfl) ?_
    refine ax_nil ?_
    refine cx_keep rfl rfl ?_
    refine cx_seq ?_
    refine cx_ops ?_
    refine ax_q (q_mov rfl) ?_
    refine ax_q (q_mov rfl) ?_
    refine ax_qe (r' := .osl 40 1 (i) (xs.length + 1 - i)) (q_slc_osl rfl rfl rfl (by omega) (by omega) (by omega)) (oslE0 (by omega) (by omega)) ?_
    refine ax_q (q_mov rfl) ?_
    refine ax_ee (st'' := ⟨_, (40, .rows 1 ((xs.take i ++ [x]).map strRow)) :: _⟩) (e_cpy2 (k := 1) rfl rfl (by simp only [List.length_map, List.length_append, List.length_take, List.length_drop, List.length_cons, List.length_nil]; omega) rfl rfl (by omega) (by simp only [List.length_map, List.length_append, List.length_take, List.length_drop, List.length_cons, List.length_nil]; omega)) (congrArg (fun z => (⟨_, (40, .rows 1 z) :: _⟩ : St)) (ins_g1)) ?_
    refine ax_nil ?_
    refine cx_keep rfl rfl ?_
    refine cx_seq ?_
    refine cx_drawL 0 46 (fun _ => false) (fun _ => true) [] ([]) [[9], [1], [7], [47, 48], [46, 49], [0], [1], [51, 52]] [[], [], [], [], [], [], [], []] rfl ?_
    first | refine ⟨⟨46, _, []⟩, .inl ⟨rfl, rfl, rfl, locl_of (loc_q (q_mov rfl))⟩, ?_⟩
    first | refine ⟨_, .inr ⟨rfl, _, rfl, .inr ⟨rfl, rfl, .inr rfl, rfl, rfl⟩, loc_q (q_mov rfl)⟩, ?_⟩
    first | refine ⟨_, .inr ⟨rfl, _, rfl, .inr ⟨rfl, rfl, .inr rfl, rfl, rfl⟩, loc_q (q_mov rfl)⟩, ?_⟩
    first | refine ⟨_, .inr ⟨rfl, _, rfl, .inr ⟨rfl, rfl, .inr rfl, rfl, rfl⟩, loc_q (q_add rfl rfl (by omega))⟩, ?_⟩
    first | refine ⟨_, .inr ⟨rfl, _, rfl, .inr ⟨rfl, rfl, .inl rfl, rfl, rfl⟩, loc_qe (r' := .osl 40 1 (i + 1) (xs.length - i)) (q_slc_osl rfl rfl rfl (by omega) (by omega) (by omega)) (oslE0 (by omega) (by omega))⟩, ?_⟩
    first | refine ⟨_, .inr ⟨rfl, _, rfl, .inr ⟨rfl, rfl, .inr rfl, rfl, rfl⟩, loc_q (q_mov rfl)⟩, ?_⟩
    first | refine ⟨_, .inr ⟨rfl, _, rfl, .inr ⟨rfl, rfl, .inr rfl, rfl, rfl⟩, loc_q (q_mov rfl)⟩, ?_⟩
    first | refine ⟨_, .inr ⟨rfl, _, rfl, .inr ⟨rfl, rfl, .inr rfl, rfl, rfl⟩, loc_qe (r' := .oslc 1000 1 (i) (xs.length - i) (c - i)) (q_slcC rfl rfl rfl (by omega) (by omega) (by omega)) (oslcE (by omega) (by omega) (by omega))⟩, ?_⟩
    refine ⟨rfl, ?_⟩
    refine ax_wk (wk_uncap 53 rfl) ?_
    refine ax_ee (st'' := ⟨_, (40, .rows 1 ((insA xs i x).map strRow)) :: _⟩) (e_cpy2 (k := xs.length - i) rfl rfl (by simp only [List.length_map, List.length_append, List.length_take, List.length_drop, List.length_cons, List.length_nil]; omega) rfl rfl (by omega) (by simp only [List.length_map, List.length_append, List.length_take, List.length_drop, List.length_cons, List.length_nil]; omega)) (congrArg (fun z => (⟨_, (40, .rows 1 z) :: _⟩ : St)) (ins_g2 (by omega))) ?_
    refine ax_nil ?_
    refine cx_keep rfl rfl ?_
    refine cx_seq ?_
    refine cx_ops ?_
    refine ax_q (q_mov rfl) ?_
    refine ax_q (q_mov rfl) ?_
    refine ax_nil ?_
    refine cx_keep rfl rfl ?_
    refine cx_wk (wk_swapM 40 1000 (.inl (by decide)) (.inr (by rw [hmv]; rfl))) ?_
    refine cx_ret (retN id [1000, 1001] rfl rfl rfl rfl rfl ?_)
    exact ⟨rfl, rfl⟩
   ·
    have h2 := dF h2
    refine cx_skip ?_
    refine cx_keep rfl rfl ?_
    refine cx_seq ?_
    refine cx_ops ?_
    refine ax_q (q_mov rfl) ?_
    refine ax_q (q_mov rfl) ?_
    refine ax_q (q_mov rfl) ?_
    refine ax_q (q_add rfl rfl (by omega)) ?_
    refine ax_qe (r' := .oslc 1000 1 (0) (xs.length + 1) (c)) (q_slcC rfl rfl rfl (by omega) (by omega) (by omega)) (oslcE (by omega) (by omega) (by omega)) ?_
    refine ax_q (q_mov rfl) ?_
    refine ax_nil ?_
    refine cx_keep rfl rfl ?_
    refine cx_seq ?_
    refine cx_seq ?_
    refine cx_ops ?_
    refine ax_q (q_mov rfl) ?_
    refine ax_q (q_mov rfl) ?_
    refine ax_q (q_mov rfl) ?_
    refine ax_q (q_mov rfl) ?_
    refine ax_q (q_add rfl rfl (by omega)) ?_
    refine ax_qe (r' := .oslc 1000 1 (i + 1) (xs.length - i) (c - (i + 1))) (q_slcC rfl rfl rfl (by omega) (by omega) (by omega)) (oslcE (by omega) (by omega) (by omega)) ?_
    refine ax_wk (wk_uncap 66 rfl) ?_
    refine ax_ovl (fn := Try.f39) (tS := 23) (tR := 4) (el := 9) (sz := 1) rfl rfl rfl rfl rfl (by rw [hP]; exact Try.func39) (by kernel_rfl) (by kernel_rfl) (by kernel_rfl) (by kernel_rfl) (by rw [hP]; exact Try.underlying23) (by rw [hP]; kernel_rfl) (by decide) (by decide) (fun b => ?_)
    refine ax_q (q_not rfl) ?_
    refine ax_nil ?_
    refine cx_keep rfl rfl ?_
    refine cx_cond rfl (fun h3 => ?_) (fun h3 => ?_)
    ·
     skip
     refine cx_seq ?_
     refine cx_drawL 0 69 (fun _ => false) (fun _ => true) [] ([]) [[0], [1], [7], [70, 71], [69, 72], [0], [1], [74, 75]] [[], [], [], [], [], [], [], []] rfl ?_
     first | refine ⟨⟨69, _, []⟩, .inl ⟨rfl, rfl, rfl, locl_of (loc_q (q_mov rfl))⟩, ?_⟩
     first | refine ⟨_, .inr ⟨rfl, _, rfl, .inr ⟨rfl, rfl, .inr rfl, rfl, rfl⟩, loc_q (q_mov rfl)⟩, ?_⟩
     first | refine ⟨_, .inr ⟨rfl, _, rfl, .inr ⟨rfl, rfl, .inr rfl, rfl, rfl⟩, loc_q (q_mov rfl)⟩, ?_⟩
     first | refine ⟨_, .inr ⟨rfl, _, rfl, .inr ⟨rfl, rfl, .inr rfl, rfl, rfl⟩, loc_q (q_add rfl rfl (by omega))⟩, ?_⟩
     first | refine ⟨_, .inr ⟨rfl, _, rfl, .inr ⟨rfl, rfl, .inl rfl, rfl, rfl⟩, loc_qe (r' := .oslc 1000 1 (i + 1) (xs.length - i) (c - (i + 1))) (q_slcC rfl rfl rfl (by omega) (by omega) (by omega)) (oslcE (by omega) (by omega) (by omega))⟩, ?_⟩
     first | refine ⟨_, .inr ⟨rfl, _, rfl, .inr ⟨rfl, rfl, .inr rfl, rfl, rfl⟩, loc_q (q_mov rfl)⟩, ?_⟩
     first | refine ⟨_, .inr ⟨rfl, _, rfl, .inr ⟨rfl, rfl, .inr rfl, rfl, rfl⟩, loc_q (q_mov rfl)⟩, ?_⟩
     first | refine ⟨_, .inr ⟨rfl, _, rfl, .inr ⟨rfl, rfl, .inr rfl, rfl, rfl⟩, loc_qe (r' := .oslc 1000 1 (i) (xs.length + 1 - i) (c - i)) (q_slcC rfl rfl rfl (by omega) (by omega) (by omega)) (oslcE (by omega) (by omega) (by omega))⟩, ?_⟩
     refine ⟨rfl, ?_⟩
     refine ax_wk (wk_uncap 73 rfl) ?_
     refine ax_wk (wk_uncap 76 rfl) ?_
     refine ax_ee (st'' := ⟨_, (1000, .rows 1 ((xs.take (i + 1) ++ xs.drop i).map strRow)) :: _⟩) (e_cpy2 (k := xs.length - i) rfl rfl (by simp only [List.length_map, List.length_append, List.length_take, List.length_drop, List.length_cons, List.length_nil]; omega) rfl rfl (by omega) (by simp only [List.length_map, List.length_append, List.length_take, List.length_drop, List.length_cons, List.length_nil]; omega)) (congrArg (fun z => (⟨_, (1000, .rows 1 z) :: _⟩ : St)) (ins_i1 hil)) ?_
     refine ax_nil ?_
     refine cx_keep rfl rfl ?_
     refine cx_seq ?_
     refine cx_ops ?_
     refine ax_q (q_mov rfl) ?_
     refine ax_q (q_mov rfl) ?_
     refine ax_qe (r' := .oslc 1000 1 (i) (xs.length + 1 - i) (c - i)) (q_slcC rfl rfl rfl (by omega) (by omega) (by omega)) (oslcE (by omega) (by omega) (by omega)) ?_
     refine ax_q (q_mov rfl) ?_
     refine ax_wk (wk_uncap 80 rfl) ?_
     refine ax_ee (st'' := ⟨_, (1000, .rows 1 ((insA xs i x).map strRow)) :: _⟩) (e_cpy2 (k := 1) rfl rfl (by simp only [List.length_map, List.length_append, List.length_take, List.length_drop, List.length_cons, List.length_nil]; omega) rfl rfl (by omega) (by simp only [List.length_map, List.length_append, List.length_take, List.length_drop, List.length_cons, List.length_nil]; omega)) (congrArg (fun z => (⟨_, (1000, .rows 1 z) :: _⟩ : St)) (ins_i2 hil)) ?_
     refine ax_nil ?_
     refine cx_keep rfl rfl ?_
     refine cx_seq ?_
     refine cx_ops ?_
     refine ax_q (q_mov rfl) ?_
     refine ax_q (q_mov rfl) ?_
     refine ax_nil ?_
     refine cx_keep rfl rfl ?_
     refine cx_wk (wk_uncap 6 rfl) ?_
     refine cx_ret (retN id [1000, 1001] rfl rfl rfl rfl rfl ?_)
     exact ⟨rfl, rfl⟩
    ·
     skip
     refine cx_skip ?_
     refine cx_keep rfl rfl ?_
     refine cx_seq ?_
     refine cx_ops ?_
     refine ax_q (q_mov rfl) ?_
     refine ax_q (q_mov rfl) ?_
     refine ax_qe (r' := .oslc 1000 1 (xs.length) (1) (c - xs.length)) (q_slcC rfl rfl rfl (by omega) (by omega) (by omega)) (oslcE (by omega) (by omega) (by omega)) ?_
     refine ax_q (q_mov rfl) ?_
     refine ax_wk (wk_uncap 86 rfl) ?_
     refine ax_ee (st'' := ⟨_, (1000, .rows 1 ((xs ++ [x]).map strRow)) :: _⟩) (e_cpy2 (k := 1) rfl rfl (by simp only [List.length_map]; omega) rfl rfl (by omega) (by simp only [List.length_map, List.length_cons, List.length_nil]; omega)) (congrArg (fun z => (⟨_, (1000, .rows 1 z) :: _⟩ : St)) ins_o1) ?_
     refine ax_nil ?_
     refine cx_keep rfl rfl ?_
     refine cx_seq ?_
     refine cx_ops ?_
     refine ax_q (q_mov rfl) ?_
     refine ax_q (q_mov rfl) ?_
     refine ax_qe (r' := .oslc 1000 1 (i) (xs.length + 1 - i) (c - i)) (q_slcC rfl rfl rfl (by omega) (by omega) (by omega)) (oslcE (by omega) (by omega) (by omega)) ?_
     refine ax_q (q_mov rfl) ?_
     refine ax_wk (wk_uncap 91 rfl) ?_
     have q5 : (xs ++ [x]).length = xs.length + 1 := by simp
     refine ax_call rfl (vcall_own (c_rotR (xs := xs ++ [x]) (s := i) (len := xs.length + 1 - i) (k := 1) (by omega) (by omega) (by omega)) hP hmv false (fun _ => 1000) [1000] ⟨rfl, rfl, rfl, rfl, ⟨rfl, trivial⟩, rfl, rfl, rfl⟩ (.pass rfl rfl (.pass rfl rfl .nil)) ?_)
     rintro r h ⟨rfl, rfl⟩
     refine ⟨fun _ => 1000, [], ⟨rfl, rfl, rfl, rfl, mem1 rfl, rfl, rfl, fun h => absurd h Bool.false_ne_true⟩, ?_⟩
     rw [turn_ins' hi]
     refine ax_nil ?_
     refine cx_keep rfl rfl ?_
     refine cx_seq ?_
     refine cx_ops ?_
     refine ax_q (q_mov rfl) ?_
     refine ax_q (q_mov rfl) ?_
     refine ax_nil ?_
     refine cx_keep rfl rfl ?_
     refine cx_wk (wk_uncap 6 rfl) ?_
     refine cx_ret (retN id [1000, 1001] rfl rfl rfl rfl rfl ?_)
     exact ⟨rfl, rfl⟩


/- loop.example/g00332/impl.TreeInsert -/
def k_c_TreeInsert : XCode :=
 .seq (.ops [.op (some 2) (.box (.t 0)),
   .op (some 4) (.alloc [.int .i64 0, .nils 3]),
   .op (some 5) (.mov (.k (.int .i64 0)))])
 (.keep [1, 2, 4] (.seq (.ops [.op (some 11) (.loadN 2 (.t 2)),
   .op (some 12) (.mov (.t 1)),
   .call (some 13) 18 [.t 11, .t 12],
   .op (some 10) (.mov (.t 13)),
   .op (some 14) (.ext (.t 10) 0),
   .op (some 15) (.ext (.t 10) 1),
   .op (some 6) (.mov (.t 14)),
   .op (some 7) (.mov (.t 15))])
 (.keep [1, 4, 6, 7] (.seq (.seq (.ops [.op (some 16) (.mov (.t 7)),
   .op (some 17) (.bin .neq (.t 16) (.k (.int .i64 0)))])
  (.keep [1, 4, 6, 7, 17] (.cond (.t 17)
  (.seq (.ops [.op (some 18) (.build [.int .i64 0, .nils 3] []),
    .op (some 19) (.mov (.t 7)),
    .op none (.store 2 (.t 4) (.t 18)),
    .op (some 5) (.mov (.t 19))])
   (.keep [4, 5] (.ret)))
  (.skip))))
 (.keep [1, 4, 6] (.seq (.ops [.op (some 21) (.mov (.t 6)),
   .op (some 22) (.mov (.t 1)),
   .call (some 23) 19 [.t 21, .t 22],
   .op (some 20) (.mov (.t 23)),
   .op (some 24) (.ext (.t 20) 0),
   .op (some 25) (.ext (.t 20) 1),
   .op (some 8) (.mov (.t 24)),
   .op (some 9) (.mov (.t 25))])
 (.keep [1, 4, 6, 8, 9] (.seq (.block 0 (.seq (.ops [.op (some 27) (.mov (.t 9)),
    .op (some 26) (.mov (.t 27))])
  (.keep [1, 4, 6, 8, 26] (.cond (.t 26)
   (.seq (.ops [.op (some 28) (.build [.int .i64 0, .nils 3] []),
     .op none (.store 2 (.t 4) (.t 28)),
     .op (some 5) (.mov (.k (.int .i64 9)))])
   (.keep [4, 5] (.ret)))
   (.seq (.ops [.op (some 30) (.mov (.t 6)),
     .op (some 31) (.lenS (.t 30)),
     .op (some 32) (.bin .eql (.t 31) (.k (.int .i64 60))),
     .op (some 29) (.mov (.t 32))])
   (.keep [1, 4, 6, 8, 29] (.cond (.t 29)
    (.seq (.ops [.op (some 33) (.build [.int .i64 0, .nils 3] []),
      .op none (.store 2 (.t 4) (.t 33)),
      .op (some 5) (.mov (.k (.int .i64 7)))])
    (.keep [4, 5] (.ret)))
    (.skip))))))))
 (.keep [1, 4, 6, 8] (.seq (.ops [.op (some 34) (.mov (.t 6)),
   .op (some 35) (.mov (.t 8)),
   .op (some 36) (.mov (.t 1)),
   .op (some 37) (.bslice 1 [.t 36]),
   .call (some 38) 21 [.t 34, .t 35, .t 37],
   .call (some 39) 20 [.t 38],
   .op none (.store 2 (.t 4) (.t 39)),
   .op (some 5) (.mov (.k (.int .i64 0)))])
 (.keep [4, 5] (.ret))))))))))))
theorem k_c_TreeInsert_fits : fitsF Try.prog 8 ⟨40, k_c_TreeInsert, [.cN 4 2, .t 5]⟩ = true := by kernel_rfl
theorem c_TreeInsert {ks : List Str} {key : Str} (hk : KS ks) (hz : 1 ≤ key.length ∧ key.length ≤ 30) (hl : ks.length < 60) : Con Try.prog noMv 8 [.agg [.d (.int .i64 (treeT ks).root), .d (.sl 3 ((treeT ks).nodes.map TN.row))], str key] [] (fun r h => r = .tup [.agg [.d (.int .i64 (insT ks key).1.root), .d (.sl 3 ((insT ks key).1.nodes.map TN.row))], int (insT ks key).2] ∧ h = []) := by
 refine con_of2 k_c_TreeInsert_fits rfl fun C hP hmv => ?_
 unfold k_c_TreeInsert
 have q3 := hk.ln
 refine cx_seq ?_
 refine cx_ops ?_
 refine ax_e (e_box rfl rfl (by decide) rfl rfl rfl) ?_
 refine ax_e (e_alloc (by decide) rfl rfl) ?_
 refine ax_q (q_mov rfl) ?_
 refine ax_nil ?_
 refine cx_keep rfl rfl ?_
 refine cx_seq ?_
 refine cx_ops ?_
 refine ax_q (q_ldN rfl rfl rfl) ?_
 refine ax_q (q_mov rfl) ?_
 first | refine ax_call rfl (vc_pure (c_treeAsked  ?_ ?_) hP rfl ?_) | refine ax_call rfl (vc_lend (c_treeAsked  ?_ ?_) hP (by repeat (first | exact lal_id _ rfl | exact LAL.nil | refine LAL.cons ?_ ?_ | exact la_id _ rfl | exact LA.lend (lend_whole rfl (by first | (simp; done) | (rw [List.length_map]; rfl))) | refine LA.agg ?_ | refine LA.fn ?_ | refine LA.lend ?_ | exact Lend.d _ | exact Lend.zs _ | exact lend_whole rfl (by first | (simp; done) | (rw [List.length_map]; rfl)) | refine Lend.ptr rfl ?_ | refine Lend.fn ?_ | exact LendL.nil | refine LendL.cons ?_ ?_)) ?_)
 ·
  first | assumption | omega | (simp; done) | (simp; omega)
 ·
  first | assumption | omega | (simp; done) | (simp; omega)
 rintro r h ⟨rfl, rfl⟩
 refine ⟨fun i => 13 + 200 * i, [0], ⟨rfl, rfl, rfl, rfl, rfl, (by first | exact (fun h => absurd h Bool.false_ne_true) | exact (fun _ => ⟨rfl, (noisl_of (by repeat (first | exact trivial | refine ⟨noisl_map (fun _ => rfl), ?_⟩ | refine ⟨?_, ?_⟩)))⟩))⟩, ?_⟩
 skip
 refine ax_q (q_mov rfl) ?_
 refine ax_q (q_ext rfl rfl) ?_
 refine ax_q (q_ext rfl rfl) ?_
 refine ax_q (q_mov rfl) ?_
 refine ax_q (q_mov rfl) ?_
 refine ax_nil ?_
 refine cx_keep rfl rfl ?_
 refine cx_seq ?_
 refine cx_seq ?_
 refine cx_ops ?_
 refine ax_q (q_mov rfl) ?_
 refine ax_q (q_ibin rfl rfl rfl) ?_
 refine ax_nil ?_
 refine cx_keep rfl rfl ?_
 refine cx_cond rfl (fun h0 => ?_) (fun h0 => ?_)
 ·
  have h0 := nT h0
  exact absurd rfl h0
 ·
  have h0 := nF h0
  refine cx_skip ?_
  refine cx_keep rfl rfl ?_
  refine cx_seq ?_
  refine cx_ops ?_
  refine ax_q (q_mov rfl) ?_
  refine ax_q (q_mov rfl) ?_
  refine ax_call rfl (vc_lend0 (c_BinS (xs := ks) (s := key) hk.asc (by omega)) hP (.cons (.lend (lend_whole rfl (by simp))) (.cons (.d _) .nil)) rfl rfl ?_)
  refine ax_q (q_mov rfl) ?_
  refine ax_q (q_ext rfl rfl) ?_
  refine ax_q (q_ext rfl rfl) ?_
  refine ax_q (q_mov rfl) ?_
  refine ax_q (q_mov rfl) ?_
  refine ax_nil ?_
  refine cx_keep rfl rfl ?_
  refine cx_seq ?_
  refine cx_block ?_
  refine cx_seq ?_
  refine cx_ops ?_
  refine ax_q (q_mov rfl) ?_
  refine ax_q (q_mov rfl) ?_
  refine ax_nil ?_
  refine cx_keep rfl rfl ?_
  refine cx_cond rfl (fun h1 => ?_) (fun h1 => ?_)
  ·
   have h1 : hitS ks key = true := h1
   refine cx_seq ?_
   refine cx_ops ?_
   refine ax_q (q_build rfl) ?_
   refine ax_wk (wk_virt 903 3 rfl rfl rfl) ?_
   refine ax_wk (wk_zs 28 903 [1] rfl rfl) ?_
   refine ax_wk (wk_frz 28 903 rfl rfl (.agg (.cons (.same rfl) (.cons (.whole rfl) .nil))) rfl) ?_
   refine ax_e (e_st rfl rfl rfl rfl rfl rfl rfl) ?_
   refine ax_q (q_mov rfl) ?_
   refine ax_nil ?_
   refine cx_keep rfl rfl ?_
   refine cx_ret (ret0 rfl rfl ?_)
   exact ⟨by rw [insT_1 h1]; rfl, rfl⟩
  ·
   have h1 : hitS ks key = false := h1
   refine cx_seq ?_
   refine cx_ops ?_
   refine ax_q (q_mov rfl) ?_
   first | refine ax_q (q_lenS_map rfl) ?_ | refine ax_q (q_lenS_osl rfl) ?_ | refine ax_q (q_lenS_zs rfl) ?_ | refine ax_q (q_lenS rfl) ?_
   refine ax_q (q_ibin rfl rfl rfl) ?_
   refine ax_q (q_mov rfl) ?_
   refine ax_nil ?_
   refine cx_keep rfl rfl ?_
   refine cx_cond rfl (fun h2 => ?_) (fun h2 => ?_)
   ·
    have h2 := dT h2
    exfalso; omega
   ·
    have h2 := dF h2
    refine cx_skip ?_
    refine cx_keep rfl rfl ?_
    refine cx_seq ?_
    refine cx_ops ?_
    refine ax_q (q_mov rfl) ?_
    refine ax_q (q_mov rfl) ?_
    refine ax_q (q_mov rfl) ?_
    refine ax_e (e_bslice (rows := [key].map strRow) rfl (by decide) rfl rfl) ?_
    refine ax_call rfl (vcall_own (c_Insert_Str (xs := ks) (x := key) (i := posS ks key) posS_le (by omega)) hP hmv false (fun e => bif Nat.beq e 1000 then 13 else 37) [1000, 1001] ⟨rfl, rfl, rfl, rfl, ⟨rfl, rfl, trivial⟩, rfl, rfl, rfl⟩ (.pass rfl rfl (.pass rfl rfl (.pass rfl rfl .nil))) ?_)
    rintro r h ⟨rfl, rfl⟩
    refine ⟨(fun e => bif Nat.beq e 1000 then 13 else 37), [], ⟨rfl, rfl, rfl, rfl, mem2 rfl rfl, rfl, rfl, fun h => absurd h Bool.false_ne_true⟩, ?_⟩
    refine ax_wk (wk_frz 38 13 rfl rfl (.whole (by rw [List.length_map, insA_len posS_le])) rfl) ?_
    first | refine ax_call rfl (vc_pure0 (c_treeOf (ks := (insA ks (posS ks key) key)) ?_) hP rfl rfl ?_) | refine ax_call rfl (vc_lend0 (c_treeOf (ks := (insA ks (posS ks key) key)) ?_) hP (by repeat (first | exact lal_id _ rfl | exact LAL.nil | refine LAL.cons ?_ ?_ | exact la_id _ rfl | exact LA.lend (lend_whole rfl (by first | (simp; done) | (rw [List.length_map]; rfl))) | refine LA.agg ?_ | refine LA.fn ?_ | refine LA.lend ?_ | exact Lend.d _ | exact Lend.zs _ | exact lend_whole rfl (by first | (simp; done) | (rw [List.length_map]; rfl)) | refine Lend.ptr rfl ?_ | refine Lend.fn ?_ | exact LendL.nil | refine LendL.cons ?_ ?_)) rfl rfl ?_)
    ·
     rw [insA_len posS_le]; omega
    refine ax_e (e_st rfl rfl rfl rfl rfl rfl rfl) ?_
    refine ax_q (q_mov rfl) ?_
    refine ax_nil ?_
    refine cx_keep rfl rfl ?_
    refine cx_ret (ret0 rfl rfl ?_)
    exact ⟨by rw [insT_0 h1]; rfl, rfl⟩


/- slices.DeleteFunc[[]string,string] -/
def k_c_DeleteFunc_Str : XCode :=
 .seq (.ops [.op (some 4) (.mov (.k (.nils 1)))])
 (.keep [0, 1] (.seq (.ops [.op (some 8) (.mov (.t 0)),
   .op (some 9) (.mov (.t 1)),
   .call (some 10) 45 [.t 8, .t 9],
   .op (some 5) (.mov (.t 10))])
 (.keep [0, 1, 5] (.seq (.seq (.ops [.op (some 11) (.mov (.t 5)),
   .op (some 12) (.bin .eql (.t 11) (.k (.int .i64 (-1))))])
  (.keep [0, 1, 5, 12] (.cond (.t 12)
  (.seq (.ops [.op (some 13) (.mov (.t 0)),
    .op (some 4) (.mov (.t 13))])
   (.keep [4] (.ret)))
  (.skip))))
 (.keep [0, 1, 5] (.seq (.seq (.ops [.op (some 14) (.mov (.t 5)),
   .op (some 15) (.bin .add (.t 14) (.k (.int .i64 1))),
   .op (some 6) (.mov (.t 15))])
  (.keep [0, 1, 5, 6] (.block 0 (.loop (.seq (.seq (.ops [.op (some 16) (.mov (.t 6)),
     .op (some 17) (.mov (.t 0)),
     .op (some 18) (.lenS (.t 17)),
     .op (some 19) (.bin .lss (.t 16) (.t 18))])
   (.keep [0, 1, 5, 6, 19] (.cond (.t 19)
    (.skip)
    (.exit 0))))
   (.keep [0, 1, 5, 6] (.seq (.block 1 (.seq (.ops [.op (some 22) (.mov (.t 0)),
     .op (some 23) (.mov (.t 6)),
     .op (some 24) (.iadr 1 (.t 22) (.t 23)),
     .op (some 25) (.load1 (.t 24)),
     .op (some 7) (.mov (.t 25))])
    (.keep [0, 1, 5, 6, 7] (.seq (.ops [.op (some 26) (.mov (.t 1)),
     .op (some 27) (.mov (.t 7)),
     .callv (some 28) (.t 26) [.t 27],
     .op (some 29) (.not (.t 28))])
    (.keep [0, 1, 5, 6, 7, 29] (.cond (.t 29)
    (.seq (.ops [.op (some 30) (.mov (.t 0)),
      .op (some 31) (.mov (.t 5)),
      .op (some 32) (.mov (.t 7)),
      .op (some 33) (.iadr 1 (.t 30) (.t 31)),
      .op none (.store 1 (.t 33) (.t 32))])
     (.keep [0, 1, 5, 6] (.ops [.op (some 34) (.mov (.t 5)),
      .op (some 35) (.bin .add (.t 34) (.k (.int .i64 1))),
      .op (some 5) (.mov (.t 35))])))
    (.skip)))))))
   (.keep [0, 1, 5, 6] (.ops [.op (some 20) (.mov (.t 6)),
    .op (some 21) (.bin .add (.t 20) (.k (.int .i64 1))),
    .op (some 6) (.mov (.t 21))])))))))))
 (.keep [0, 5] (.seq (.ops [.op (some 36) (.mov (.t 0)),
   .op (some 37) (.mov (.t 5)),
   .op (some 38) (.slc 1 (.t 36) (some (.t 37)) none none),
   .op none (.clr 1 [.str []] (.t 38))])
 (.keep [0, 5] (.seq (.ops [.op (some 39) (.mov (.t 0)),
   .op (some 40) (.mov (.t 5)),
   .op (some 41) (.slc 1 (.t 39) none (some (.t 40)) none),
   .op (some 4) (.mov (.t 41))])
 (.keep [4] (.ret))))))))))))
theorem k_c_DeleteFunc_Str_fits : fitsF Try.prog 24 ⟨42, k_c_DeleteFunc_Str, [.t 4]⟩ = true := by kernel_rfl
theorem c_DeleteFunc_Str {xs : List Str} {f : Nat} {ds : List D} (p : Str → Bool) (hw : xs.length ≤ 1048576) (hb : hasBody Try.prog f = true) (hf : ∀ s ∈ xs, Con Try.prog noMv f (str s :: ds.map AV.d) [] (fun r h => r = bool (p s) ∧ h = [])) : Con Try.prog noMv 24 [.osl 1000 1 0 xs.length, .d (.fn (.func f) ds)] [(1000, .rows 1 (xs.map strRow))] (fun r h => r = .osl 1000 1 0 (xs.filter (fun x => !p x)).length ∧ h = [(1000, .rows 1 ((xs.filter (fun x => !p x)).map strRow))]) := by
 refine con_of2 k_c_DeleteFunc_Str_fits rfl fun C hP hmv => ?_
 unfold k_c_DeleteFunc_Str
 refine cx_seq ?_
 refine cx_ops ?_
 refine ax_q (q_mov rfl) ?_
 refine ax_nil ?_
 refine cx_keep rfl rfl ?_
 refine cx_seq ?_
 refine cx_ops ?_
 refine ax_q (q_mov rfl) ?_
 refine ax_q (q_mov rfl) ?_
 refine ax_call rfl (vc_lend0 (c_IndexFunc_Str (xs := xs) p (by omega) hb hf) hP (.cons (.lend (lend_whole rfl (by simp))) (.cons (.d _) .nil)) rfl rfl ?_)
 refine ax_q (q_mov rfl) ?_
 refine ax_nil ?_
 refine cx_keep rfl rfl ?_
 refine cx_seq ?_
 refine cx_seq ?_
 refine cx_ops ?_
 refine ax_q (q_mov rfl) ?_
 refine ax_q (q_ibin rfl rfl rfl) ?_
 refine ax_nil ?_
 refine cx_keep rfl rfl ?_
 refine cx_cond rfl (fun h0 => ?_) (fun h0 => ?_)
 ·
  have h0 := dT h0
  refine cx_seq ?_
  refine cx_ops ?_
  refine ax_q (q_mov rfl) ?_
  refine ax_q (q_mov rfl) ?_
  refine ax_nil ?_
  refine cx_keep rfl rfl ?_
  have e := filter_all (idxOf_neg h0)
  refine cx_ret (retN id [1000] rfl rfl rfl rfl rfl ?_)
  rw [e]
  exact ⟨rfl, rfl⟩
 ·
  have h0 := dF h0
  obtain ⟨i, hi0, hi, hpi, hbi⟩ := idxOf_some h0
  obtain ⟨e1, e2⟩ := strk_first hi hpi hbi
  have e3 : ((xs.take (i + 1)).filter (fun x => !p x)).length = i := by rw [e2, List.length_take]; omega
  rw [hi0]
  refine cx_skip ?_
  refine cx_keep rfl rfl ?_
  refine cx_seq ?_
  refine cx_seq ?_
  refine cx_ops ?_
  refine ax_q (q_mov rfl) ?_
  refine ax_qe (r' := int ((i + 1 : Nat) : Int)) (q_ibin rfl rfl rfl) (by rw [wi (by omega) (by omega)]; rfl) ?_
  refine ax_q (q_mov rfl) ?_
  refine ax_nil ?_
  refine cx_keep rfl rfl ?_
  refine cx_block ?_
  refine cx_loopU (fun n (s : Nat × List Str) => s.1 ≤ xs.length ∧ n = xs.length - s.1 ∧ ((xs.take s.1).filter (fun x => !p x)).length + s.2.length = s.1 ∧ 0 < s.2.length) (fun s => [(5, int ((xs.take s.1).filter (fun x => !p x)).length), (6, int s.1)]) (fun s => [(1000, .rows 1 ((strk p xs s.1 s.2).map strRow))])
   ⟨_, (i + 1, [xs[i]]), ⟨by simp only; omega, rfl, by simp only [e3, List.length_singleton], by simp⟩, by rw [e3, e1]; exact by repeat (first | exact trivial | refine ⟨rfl, ?_⟩ | refine ⟨?_, ?_⟩)⟩ ?_
  rintro n ⟨j, mid⟩ ⟨hj, rfl, hm, hm0⟩
  simp only at hj hm hm0 ⊢
  have hsl := strk_len hm hj
  refine cx_seq ?_
  refine cx_seq ?_
  refine cx_ops ?_
  refine ax_q (q_mov rfl) ?_
  refine ax_q (q_mov rfl) ?_
  first | refine ax_q (q_lenS_map rfl) ?_ | refine ax_q (q_lenS_osl rfl) ?_ | refine ax_q (q_lenS_zs rfl) ?_ | refine ax_q (q_lenS rfl) ?_
  refine ax_q (q_ibin rfl rfl rfl) ?_
  refine ax_nil ?_
  refine cx_keep rfl rfl ?_
  refine cx_cond rfl (fun h1 => ?_) (fun h1 => ?_)
  ·
   have h1 := dT h1
   have h1x : j < xs.length := by omega
   refine cx_skip ?_
   refine cx_keep rfl rfl ?_
   refine cx_seq ?_
   refine cx_block ?_
   refine cx_seq ?_
   refine cx_ops ?_
   refine ax_q (q_mov rfl) ?_
   refine ax_q (q_mov rfl) ?_
   refine ax_q (q_ixo rfl rfl (by omega)) ?_
   refine ax_q (q_load1_rptr rfl rfl (show ((strk p xs j mid).map strRow)[j]? = some (strRow xs[j]) from by rw [List.getElem?_map, strk_at hm h1x]; rfl) rfl) ?_
   refine ax_q (q_mov rfl) ?_
   refine ax_nil ?_
   refine cx_keep rfl rfl ?_
   refine cx_seq ?_
   refine cx_ops ?_
   refine ax_q (q_mov rfl) ?_
   refine ax_q (q_mov rfl) ?_
   refine ax_callvD rfl (by rw [hP]; exact hb) rfl (vc_pure0 (hf _ (List.getElem_mem h1x)) hP (refs_cons rfl ds) rfl ?_)
   refine ax_q (q_not rfl) ?_
   refine ax_nil ?_
   refine cx_keep rfl rfl ?_
   refine cx_cond rfl (fun h2 => ?_) (fun h2 => ?_)
   ·
    have h2 := bT h2
    obtain ⟨m, mid, rfl⟩ : ∃ m r, mid = m :: r := ⟨mid.head (by intro h; rw [h] at hm0; simp at hm0), mid.tail, by simp⟩
    have e6 : ((xs.take (j + 1)).filter (fun x => !p x)).length = ((xs.take j).filter (fun x => !p x)).length + 1 := by rw [take_filter_keep h1x h2, List.length_append]; rfl
    have hml : (m :: mid).length = mid.length + 1 := rfl
    have hq : ((xs.take j).filter (fun x => !p x)).length < xs.length := by omega
    have e5 := strk_set (row := strRow) (m := m) (mid := mid) h1x h2 rfl
    refine cx_seq ?_
    refine cx_ops ?_
    refine ax_q (q_mov rfl) ?_
    refine ax_q (q_mov rfl) ?_
    refine ax_q (q_mov rfl) ?_
    refine ax_q (q_ixo rfl rfl hq) ?_
    refine ax_e (e_str (q := strRow xs[j]) (row := strRow (strk p xs j (m :: mid))[((xs.take j).filter (fun x => !p x)).length]) rfl rfl rfl rfl rfl rfl (mapAt (by rw [hsl]; exact hq)) rfl rfl e5) ?_
    refine ax_nil ?_
    refine cx_keep rfl rfl ?_
    refine cx_ops ?_
    refine ax_q (q_mov rfl) ?_
    refine ax_qe (r' := int ((((xs.take j).filter (fun x => !p x)).length + 1 : Nat) : Int)) (q_ibin rfl rfl rfl) (by rw [wi (by omega) (by omega)]; rfl) ?_
    refine ax_q (q_mov rfl) ?_
    refine ax_nil ?_
    refine cx_keep rfl rfl ?_
    refine cx_ops ?_
    refine ax_q (q_mov rfl) ?_
    refine ax_qe (r' := int ((j + 1 : Nat) : Int)) (q_ibin rfl rfl rfl) (by rw [wi (by omega) (by omega)]; rfl) ?_
    refine ax_q (q_mov rfl) ?_
    refine ax_nil ?_
    exact ⟨_, (j + 1, mid ++ [xs[j]]), by simp only; omega, ⟨by simp only; omega, rfl, by simp only [e6, List.length_append, List.length_singleton]; omega, by simp⟩, by simp only [e6]; exact by repeat (first | exact trivial | refine ⟨rfl, ?_⟩ | refine ⟨?_, ?_⟩)⟩
   ·
    have h2 := bF h2
    have e6 : ((xs.take (j + 1)).filter (fun x => !p x)).length = ((xs.take j).filter (fun x => !p x)).length := by rw [take_filter_drop h1x h2]
    have e5 := strk_drop (mid := mid) h1x h2
    rw [e5]
    refine cx_skip ?_
    refine cx_keep rfl rfl ?_
    refine cx_ops ?_
    refine ax_q (q_mov rfl) ?_
    refine ax_qe (r' := int ((j + 1 : Nat) : Int)) (q_ibin rfl rfl rfl) (by rw [wi (by omega) (by omega)]; rfl) ?_
    refine ax_q (q_mov rfl) ?_
    refine ax_nil ?_
    exact ⟨_, (j + 1, mid ++ [xs[j]]), by simp only; omega, ⟨by simp only; omega, rfl, by simp only [e6, List.length_append, List.length_singleton]; omega, by simp⟩, by simp only [e6]; exact by repeat (first | exact trivial | refine ⟨rfl, ?_⟩ | refine ⟨?_, ?_⟩)⟩
  ·
   have h1 := dF h1
   have h1x : j = xs.length := by omega
   subst h1x
   rw [List.take_length] at hm ⊢
   refine cx_exit rfl ?_
   refine cx_keep rfl rfl ?_
   refine cx_seq ?_
   refine cx_ops ?_
   refine ax_q (q_mov rfl) ?_
   refine ax_q (q_mov rfl) ?_
   refine ax_qe (r' := .osl 1000 1 (xs.filter (fun x => !p x)).length (xs.length - (xs.filter (fun x => !p x)).length)) (q_slc_osl rfl rfl rfl (by omega) (by omega) (by omega)) (oslE (by omega) (by omega)) ?_
   refine ax_ee (e_clr (row := [.str []]) rfl rfl (by rw [List.length_map, hsl]; omega) rfl) rfl ?_
   refine ax_nil ?_
   refine cx_keep rfl rfl ?_
   refine cx_seq ?_
   refine cx_ops ?_
   refine ax_q (q_mov rfl) ?_
   refine ax_q (q_mov rfl) ?_
   refine ax_qe (r' := .osl 1000 1 0 (xs.filter (fun x => !p x)).length) (q_slc_osl rfl rfl rfl (by omega) (by omega) (by omega)) (oslE (by omega) (by omega)) ?_
   refine ax_q (q_mov rfl) ?_
   refine ax_nil ?_
   refine cx_keep rfl rfl ?_
   refine cx_wk (wk_rows 1000 (rs' := (xs.filter (fun x => !p x)).map strRow) rfl strk_end) ?_
   refine cx_ret (retN id [1000] rfl rfl rfl rfl rfl ?_)
   exact ⟨rfl, rfl⟩


/- loop.example/g00332/impl.TreeRange$1 -/
def k_c_TreeRange1 : XCode :=
 .seq (.ops [.op (some 4) (.mov (.k (.bool false)))])
 (.keep [0, 1, 2] (.seq (.ops [.op (some 5) (.mov (.t 0)),
   .op (some 6) (.load1 (.t 1)),
   .op (some 7) (.bin .lss (.t 5) (.t 6)),
   .op (some 8) (.mov (.t 7)),
   .andor 12 false 3 8 [.op (some 9) (.mov (.t 0)), .op (some 10) (.load1 (.t 2)), .op (some 11) (.bin .geq (.t 9) (.t 10))] (.t 11),
   .op (some 4) (.mov (.t 12))])
 (.keep [4] (.ret))))
theorem k_c_TreeRange1_fits : fitsF Try.prog 25 ⟨13, k_c_TreeRange1, [.t 4]⟩ = true := by kernel_rfl
theorem c_TreeRange1 {s a b : Str} : Con Try.prog noMv 25 [str s, .d (.ip [.str a]), .d (.ip [.str b])] [] (fun r h => r = bool (Op.bytesLess s a || !Op.bytesLess s b) ∧ h = []) := by
 refine con_of2 k_c_TreeRange1_fits rfl fun C hP hmv => ?_
 unfold k_c_TreeRange1
 refine cx_seq ?_
 refine cx_ops ?_
 refine ax_q (q_mov rfl) ?_
 refine ax_nil ?_
 refine cx_keep rfl rfl ?_
 refine cx_seq ?_
 refine cx_ops ?_
 refine ax_q (q_mov rfl) ?_
 first | refine ax_q (q_load1_ptr rfl rfl rfl) ?_ | refine ax_q (q_load1_ip rfl) ?_ | refine ax_q (q_load1_rptr rfl rfl rfl rfl) ?_ | refine ax_q (q_load1_rptr rfl rfl (by assumption) rfl) ?_ | refine ax_q (q_load1_rptr rfl rfl (mapAt (by first | assumption | omega)) rfl) ?_
 refine ax_q (q_sbin rfl rfl rfl) ?_
 refine ax_q (q_mov rfl) ?_
 apply ax_or rfl rfl
 ·
  intro g
  refine ax_q (q_mov rfl) ?_
  first | refine ax_q (q_load1_ptr rfl rfl rfl) ?_ | refine ax_q (q_load1_ip rfl) ?_ | refine ax_q (q_load1_rptr rfl rfl rfl rfl) ?_ | refine ax_q (q_load1_rptr rfl rfl (by assumption) rfl) ?_ | refine ax_q (q_load1_rptr rfl rfl (mapAt (by first | assumption | omega)) rfl) ?_
  refine ax_q (q_sbin rfl rfl rfl) ?_
  exact ax_nil ⟨rfl, by repeat (first | exact trivial | refine ⟨rfl, ?_⟩ | refine ⟨?_, ?_⟩)⟩
 refine ax_q (q_mov rfl) ?_
 refine ax_nil ?_
 refine cx_keep rfl rfl ?_
 refine cx_ret (ret0 rfl rfl ?_)
 exact ⟨rfl, rfl⟩


/- loop.example/g00332/impl.TreeRange -/
def k_c_TreeRange : XCode :=
 .seq (.ops [.op (some 3) (.box (.t 0)),
   .op (some 4) (.box (.t 1)),
   .op (some 5) (.box (.t 2)),
   .op (some 6) (.mov (.k (.nils 1))),
   .op (some 7) (.mov (.k (.int .i64 0)))])
 (.keep [3, 4, 5] (.seq (.seq (.ops [.op (some 10) (.load1 (.t 4)),
   .op (some 11) (.load1 (.t 5)),
   .op (some 12) (.bslice 1 [.t 10, .t 11]),
   .call (some 13) 22 [.t 12]])
  (.keep [3, 4, 5, 13] (.cond (.t 13)
  (.seq (.ops [.op (some 6) (.mov (.k (.nils 1))),
    .op (some 7) (.mov (.k (.int .i64 2)))])
   (.keep [6, 7] (.ret)))
  (.skip))))
 (.keep [3, 4, 5] (.seq (.ops [.op (some 15) (.loadN 2 (.t 3)),
   .call (some 16) 23 [.t 15],
   .op (some 14) (.mov (.t 16)),
   .op (some 17) (.ext (.t 14) 0),
   .op (some 18) (.ext (.t 14) 1),
   .op (some 8) (.mov (.t 17)),
   .op (some 9) (.mov (.t 18))])
 (.keep [4, 5, 8, 9] (.seq (.seq (.ops [.op (some 19) (.mov (.t 9)),
   .op (some 20) (.not (.t 19))])
  (.keep [4, 5, 8, 20] (.cond (.t 20)
  (.seq (.ops [.op (some 6) (.mov (.k (.nils 1))),
    .op (some 7) (.mov (.k (.int .i64 1)))])
   (.keep [6, 7] (.ret)))
  (.skip))))
 (.keep [4, 5, 8] (.seq (.ops [.op (some 21) (.mov (.t 8)),
   .op (some 22) (.mkfn 25 [.t 4, .t 5]),
   .call (some 23) 24 [.t 21, .t 22],
   .op (some 6) (.mov (.t 23)),
   .op (some 7) (.mov (.k (.int .i64 0)))])
 (.keep [6, 7] (.ret))))))))))
theorem k_c_TreeRange_fits : fitsF Try.prog 9 ⟨24, k_c_TreeRange, [.t 6, .t 7]⟩ = true := by kernel_rfl
theorem c_TreeRange {ks : List Str} {a b : Str} (hk : KS ks) (ha : a.length ≤ 60) (hb : b.length ≤ 60) : Con Try.prog noMv 9 [.agg [.d (.int .i64 (treeT ks).root), .d (.sl 3 ((treeT ks).nodes.map TN.row))], str a, str b] [] (fun r h => r = .tup [.d (.sl 1 ((ks.filter (fun x => !(Op.bytesLess x a || !Op.bytesLess x b))).map strRow)), int 0] ∧ h = []) := by
 refine con_of2 k_c_TreeRange_fits rfl fun C hP hmv => ?_
 unfold k_c_TreeRange
 have q3 := hk.ln
 refine cx_seq ?_
 refine cx_ops ?_
 refine ax_e (e_box rfl rfl (by decide) rfl rfl rfl) ?_
 refine ax_e (e_box rfl rfl (by decide) rfl rfl rfl) ?_
 refine ax_e (e_box rfl rfl (by decide) rfl rfl rfl) ?_
 refine ax_q (q_mov rfl) ?_
 refine ax_q (q_mov rfl) ?_
 refine ax_nil ?_
 refine cx_keep rfl rfl ?_
 refine cx_seq ?_
 refine cx_seq ?_
 refine cx_ops ?_
 refine ax_q (q_load1_ptr rfl rfl rfl) ?_
 refine ax_q (q_load1_ptr rfl rfl rfl) ?_
 refine ax_e (e_bsliceD (rows := [a, b].map strRow) rfl) ?_
 first | refine ax_call rfl (vc_pure0 (c_isLong (xs := [a, b]) ?_) hP rfl rfl ?_) | refine ax_call rfl (vc_lend0 (c_isLong (xs := [a, b]) ?_) hP (by repeat (first | exact lal_id _ rfl | exact LAL.nil | refine LAL.cons ?_ ?_ | exact la_id _ rfl | exact LA.lend (lend_whole rfl (by first | (simp; done) | (rw [List.length_map]; rfl))) | refine LA.agg ?_ | refine LA.fn ?_ | refine LA.lend ?_ | exact Lend.d _ | exact Lend.zs _ | exact lend_whole rfl (by first | (simp; done) | (rw [List.length_map]; rfl)) | refine Lend.ptr rfl ?_ | refine Lend.fn ?_ | exact LendL.nil | refine LendL.cons ?_ ?_)) rfl rfl ?_)
 ·
  simp
 refine ax_nil ?_
 refine cx_keep rfl rfl ?_
 refine cx_cond rfl (fun h0 => ?_) (fun h0 => ?_)
 ·
  skip
  exfalso; rw [show [a, b].any long64 = false from by unfold long64; simp; omega] at h0; cases h0
 ·
  skip
  refine cx_skip ?_
  refine cx_keep rfl rfl ?_
  refine cx_seq ?_
  refine cx_ops ?_
  refine ax_q (q_ldN rfl rfl rfl) ?_
  first | refine ax_call rfl (vc_pure (c_keysT  ?_) hP rfl ?_) | refine ax_call rfl (vc_lend (c_keysT  ?_) hP (by repeat (first | exact lal_id _ rfl | exact LAL.nil | refine LAL.cons ?_ ?_ | exact la_id _ rfl | exact LA.lend (lend_whole rfl (by first | (simp; done) | (rw [List.length_map]; rfl))) | refine LA.agg ?_ | refine LA.fn ?_ | refine LA.lend ?_ | exact Lend.d _ | exact Lend.zs _ | exact lend_whole rfl (by first | (simp; done) | (rw [List.length_map]; rfl)) | refine Lend.ptr rfl ?_ | refine Lend.fn ?_ | exact LendL.nil | refine LendL.cons ?_ ?_)) ?_)
  ·
   first | assumption | omega | (simp; done) | (simp; omega)
  rintro r h ⟨rfl, rfl⟩
  refine ⟨fun i => 16 + 200 * i, [0], ⟨rfl, rfl, rfl, rfl, rfl, (by first | exact (fun h => absurd h Bool.false_ne_true) | exact (fun _ => ⟨rfl, (noisl_of (by repeat (first | exact trivial | refine ⟨noisl_map (fun _ => rfl), ?_⟩ | refine ⟨?_, ?_⟩)))⟩))⟩, ?_⟩
  skip
  refine ax_q (q_mov rfl) ?_
  refine ax_q (q_ext rfl rfl) ?_
  refine ax_q (q_ext rfl rfl) ?_
  refine ax_q (q_mov rfl) ?_
  refine ax_q (q_mov rfl) ?_
  refine ax_nil ?_
  refine cx_keep rfl rfl ?_
  refine cx_seq ?_
  refine cx_seq ?_
  refine cx_ops ?_
  refine ax_q (q_mov rfl) ?_
  refine ax_q (q_not rfl) ?_
  refine ax_nil ?_
  refine cx_keep rfl rfl ?_
  refine cx_cond rfl (fun h1 => ?_) (fun h1 => ?_)
  ·
   skip
   exact absurd h1 Bool.false_ne_true
  ·
   skip
   refine cx_skip ?_
   refine cx_keep rfl rfl ?_
   refine cx_seq ?_
   refine cx_ops ?_
   refine ax_q (q_mov rfl) ?_
   refine ax_q (q_mkfn rfl) ?_
   refine ax_call rfl (vcall_own (c_DeleteFunc_Str (xs := ks) (ds := [.ip [.str a], .ip [.str b]]) (fun x => Op.bytesLess x a || !Op.bytesLess x b) (by omega) (by kernel_rfl) (fun s _ => c_TreeRange1)) hP hmv true (fun _ => 16) [1000] ⟨rfl, rfl, rfl, rfl, ⟨rfl, trivial⟩, rfl, rfl, rfl⟩ (.pass rfl rfl (.lend (LA.lend (Lend.fn (LendL.cons (Lend.ptr rfl (LendL.cons (Lend.d _) LendL.nil)) (LendL.cons (Lend.ptr rfl (LendL.cons (Lend.d _) LendL.nil)) LendL.nil)))) .nil)) ?_)
   rintro r h ⟨rfl, rfl⟩
   refine ⟨fun _ => 16, [], ⟨rfl, rfl, rfl, rfl, mem1 rfl, rfl, rfl, fun _ => ⟨rfl, noisl_of (show noislL [_] from ⟨noisl_map (fun _ => rfl), trivial⟩)⟩⟩, ?_⟩
   refine ax_q (q_mov rfl) ?_
   refine ax_q (q_mov rfl) ?_
   refine ax_nil ?_
   refine cx_keep rfl rfl ?_
   refine cx_wk (wk_frz 6 16 rfl rfl (.whole (by simp)) rfl) ?_
   refine cx_ret (retN id [] rfl rfl rfl rfl rfl ?_)
   exact ⟨rfl, rfl⟩


/- loop.example/g00332/spec.l01In -/
def k_c_l01In : XCode :=
 .seq (.ops [.op (some 6) (.mov (.k (.bool false)))])
 (.keep [0, 1, 2] (.seq (.ops [.op (some 7) (.mov (.t 1)),
   .op (some 8) (.mov (.t 0)),
   .op (some 9) (.bin .leq (.t 7) (.t 8)),
   .op (some 10) (.mov (.t 9)),
   .andor 14 true 3 10 [.op (some 11) (.mov (.t 0)), .op (some 12) (.mov (.t 2)), .op (some 13) (.bin .leq (.t 11) (.t 12))] (.t 13),
   .op (some 6) (.mov (.t 14))])
 (.keep [6] (.ret))))
theorem k_c_l01In_fits : fitsF Try.prog 56 ⟨15, k_c_l01In, [.t 6]⟩ = true := by kernel_rfl
theorem c_l01In {n lo hi : Int} : Con Try.prog noMv 56 [int n, int lo, int hi] [] (fun r h => r = bool (inR n lo hi) ∧ h = []) := by
 refine con_of2 k_c_l01In_fits rfl fun C hP hmv => ?_
 unfold k_c_l01In
 refine cx_seq ?_
 refine cx_ops ?_
 refine ax_q (q_mov rfl) ?_
 refine ax_nil ?_
 refine cx_keep rfl rfl ?_
 refine cx_seq ?_
 refine cx_ops ?_
 refine ax_q (q_mov rfl) ?_
 refine ax_q (q_mov rfl) ?_
 refine ax_q (q_ibin rfl rfl rfl) ?_
 refine ax_q (q_mov rfl) ?_
 apply ax_and rfl rfl
 ·
  intro g
  have g := dT g
  refine ax_q (q_mov rfl) ?_
  refine ax_q (q_mov rfl) ?_
  refine ax_q (q_ibin rfl rfl rfl) ?_
  exact ax_nil ⟨rfl, by repeat (first | exact trivial | refine ⟨rfl, ?_⟩ | refine ⟨?_, ?_⟩)⟩
 refine ax_q (q_mov rfl) ?_
 refine ax_nil ?_
 refine cx_keep rfl rfl ?_
 refine cx_ret (ret0 rfl rfl ?_)
 exact ⟨rfl, rfl⟩


/- loop.example/g00332/spec.l09Key -/
def k_c_l09Key : XCode :=
 .seq (.ops [.op (some 2) (.mov (.k (.bool false)))])
 (.keep [0] (.seq (.ops [.op (some 3) (.mov (.t 0)),
   .op (some 4) (.lenT (.t 3)),
   .call (some 5) 56 [.t 4, .k (.int .i64 1), .k (.int .i64 30)],
   .op (some 2) (.mov (.t 5))])
 (.keep [2] (.ret))))
theorem k_c_l09Key_fits : fitsF Try.prog 47 ⟨6, k_c_l09Key, [.t 2]⟩ = true := by kernel_rfl
theorem c_l09Key {s : Str} : Con Try.prog noMv 47 [str s] [] (fun r h => r = bool (inR s.length 1 30) ∧ h = []) := by
 refine con_of2 k_c_l09Key_fits rfl fun C hP hmv => ?_
 unfold k_c_l09Key
 refine cx_seq ?_
 refine cx_ops ?_
 refine ax_q (q_mov rfl) ?_
 refine ax_nil ?_
 refine cx_keep rfl rfl ?_
 refine cx_seq ?_
 refine cx_ops ?_
 refine ax_q (q_mov rfl) ?_
 refine ax_q (q_lenT rfl) ?_
 first | refine ax_call rfl (vc_pure0 (c_l01In  ) hP rfl rfl ?_) | refine ax_call rfl (vc_lend0 (c_l01In  ) hP (by repeat (first | exact lal_id _ rfl | exact LAL.nil | refine LAL.cons ?_ ?_ | exact la_id _ rfl | exact LA.lend (lend_whole rfl (by first | (simp; done) | (rw [List.length_map]; rfl))) | refine LA.agg ?_ | refine LA.fn ?_ | refine LA.lend ?_ | exact Lend.d _ | exact Lend.zs _ | exact lend_whole rfl (by first | (simp; done) | (rw [List.length_map]; rfl)) | refine Lend.ptr rfl ?_ | refine Lend.fn ?_ | exact LendL.nil | refine LendL.cons ?_ ?_)) rfl rfl ?_)
 refine ax_q (q_mov rfl) ?_
 refine ax_nil ?_
 refine cx_keep rfl rfl ?_
 refine cx_ret (ret0 rfl rfl ?_)
 exact ⟨rfl, rfl⟩

end Go.Proofs.Ytiapgkpjnadebaa
