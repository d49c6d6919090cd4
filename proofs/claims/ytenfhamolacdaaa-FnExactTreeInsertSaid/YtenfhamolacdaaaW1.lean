/- The walks: what each function computes, as a contract without a world (part 1). -/
import Derived.Test.YtenfhamolacdaaaProg
import Derived.Test.YtenfhamolacdaaaW0
namespace Go.Proofs.Ytenfhamolacdaaa
open Go Go.AM
set_option maxRecDepth 10000
set_option linter.unusedVariables false
set_option linter.unusedSimpArgs false
/- slices.Reverse[[]string,string] -/
def k_c_ReverseP : XCode :=
 .seq (.ops [.op (some 4) (.mov (.t 0)),
   .op (some 5) (.lenS (.t 4)),
   .op (some 6) (.bin .sub (.t 5) (.k (.int .i64 1))),
   .op (some 2) (.mov (.k (.int .i64 0))),
   .op (some 3) (.mov (.t 6))])
 (.keep [0, 2, 3] (.block 0 (.loop (.seq (.seq (.ops [.op (some 7) (.mov (.t 2)),
    .op (some 8) (.mov (.t 3)),
    .op (some 9) (.bin .lss (.t 7) (.t 8))])
   (.keep [0, 2, 3, 9] (.cond (.t 9)
   (.skip)
   (.exit 0))))
  (.keep [0, 2, 3] (.seq (.block 1 (.drawE [[], [], [], [], [], [], [4, 5], [4, 5, 6], [], [], [8, 9], [8, 9, 10], [0, 1, 4, 5, 6, 7, 8, 9, 10, 11], [0, 1, 4, 5, 6, 7, 8, 9, 10, 11, 12], [0, 1, 2, 3, 4, 5, 6, 7, 8, 9, 10, 11, 12, 13], [0, 1, 2, 3, 4, 5, 6, 7, 8, 9, 10, 11, 12, 13, 14]] [.op (some 14) (.mov (.t 0)),
    .op (some 15) (.mov (.t 2)),
    .op (some 16) (.mov (.t 0)),
    .op (some 17) (.mov (.t 3)),
    .op (some 18) (.mov (.t 0)),
    .op (some 19) (.mov (.t 3)),
    .op (some 20) (.iadr 1 (.t 18) (.t 19)),
    .op (some 21) (.load1 (.t 20)),
    .op (some 22) (.mov (.t 0)),
    .op (some 23) (.mov (.t 2)),
    .op (some 24) (.iadr 1 (.t 22) (.t 23)),
    .op (some 25) (.load1 (.t 24)),
    .op (some 26) (.iadr 1 (.t 14) (.t 15)),
    .op none (.store 1 (.t 26) (.t 21))]
    [.op (some 27) (.iadr 1 (.t 16) (.t 17)),
    .op none (.store 1 (.t 27) (.t 25))]))
  (.keep [0, 2, 3] (.ops [.op (some 10) (.mov (.t 2)),
   .op (some 11) (.bin .add (.t 10) (.k (.int .i64 1))),
   .op (some 12) (.mov (.t 3)),
   .op (some 13) (.bin .sub (.t 12) (.k (.int .i64 1))),
   .op (some 2) (.mov (.t 11)),
   .op (some 3) (.mov (.t 13))]))))))))
theorem k_c_ReverseP_fits : fitsF Try.prog 67 ⟨28, k_c_ReverseP, []⟩ = true := by kernel_rfl
set_option maxHeartbeats 2000000 in
theorem c_ReverseP {xs : List Str} {s len : Nat} (hl : s + len ≤ xs.length) (hm : xs.length ≤ 1048576) : Con Try.prog noMv 67 [.osl 1000 1 s len] [(1000, .rows 1 (xs.map strRow))] (fun r h => r = .tup [] ∧ h = [(1000, .rows 1 ((revP xs s len).map strRow))]) := by
 refine con_of2 k_c_ReverseP_fits rfl fun C hP hmv => ?_
 unfold k_c_ReverseP
 refine cx_seq (cx_ops ?_)
 refine ax_q (q_mov rfl) ?_
 first | refine ax_q (q_lenS_map rfl) ?_ | refine ax_q (q_lenS_osl rfl) ?_
 refine ax_qe (r' := int ((len : Int) - 1 - (0 : Nat))) (q_ibin rfl rfl rfl) (by rw [wi (by omega) (by omega)]; exact congrArg AM.int (by omega)) ?_
 refine ax_q (q_mov rfl) ?_
 refine ax_q (q_mov rfl) ?_
 refine ax_nil (cx_keep rfl rfl (cx_block ?_))
 refine cx_loopU (fun n i => 2 * i ≤ len ∧ n = len - i) (fun i : Nat => [(2, int i), (3, int ((len : Int) - 1 - i))]) (fun i => [(1000, .rows 1 ((revPK xs s len i).map strRow))]) ⟨_, 0, ⟨Nat.zero_le _, rfl⟩, by rw [revPK_0 hl]; exact (by repeat constructor)⟩ ?_
 rintro n i ⟨hi, rfl⟩
 have hrl := revPK_len (i := i) hl
 refine cx_seq (cx_seq (cx_ops ?_))
 refine ax_q (q_mov rfl) ?_
 refine ax_q (q_mov rfl) ?_
 refine ax_q (q_ibin rfl rfl rfl) ?_
 refine ax_nil (cx_keep rfl rfl ?_)
 refine cx_cond rfl (fun h0 => ?_) (fun h0 => ?_)
 ·
  have h0 := dT h0
  refine cx_skip ?_
  refine cx_keep rfl rfl (cx_seq (cx_block ?_))
  refine cx_drawL 13 5000 (fun _ => false) (fun _ => true) [] ([(1000, .rows 1 (((revPK xs s len i).set (s + i) ((revPK xs s len i)[(s + (len - 1 - i))]'(by omega))).map strRow))]) [[0], [2], [0], [3], [0], [3], [18, 19], [20], [0], [2], [22, 23], [24], [14, 15], [21, 26]] [[], [], [1000], [1000], [], [], [], [], [], [], [], [], [], [1000]] rfl ?_
  first | refine ⟨_, .inr ⟨rfl, _, rfl, .inl rfl, loc_q (q_mov rfl)⟩, ?_⟩
  first | refine ⟨_, .inr ⟨rfl, _, rfl, .inl rfl, loc_q (q_mov rfl)⟩, ?_⟩
  first | refine ⟨_, .inr ⟨rfl, _, rfl, .inr ⟨rfl, rfl, .inr rfl, rfl, rfl⟩, loc_q (q_mov rfl)⟩, ?_⟩
  first | refine ⟨_, .inr ⟨rfl, _, rfl, .inr ⟨rfl, rfl, .inr rfl, rfl, rfl⟩, loc_q (q_mov rfl)⟩, ?_⟩
  first | refine ⟨_, .inr ⟨rfl, _, rfl, .inl rfl, loc_q (q_mov rfl)⟩, ?_⟩
  first | refine ⟨_, .inr ⟨rfl, _, rfl, .inl rfl, loc_q (q_mov rfl)⟩, ?_⟩
  first | refine ⟨_, .inr ⟨rfl, _, rfl, .inl rfl, loc_q (q_ixs (j := (s + (len - 1 - i))) rfl rfl (by omega) (by omega) (by omega))⟩, ?_⟩
  first | refine ⟨_, .inr ⟨rfl, _, rfl, .inl rfl, loc_q (q_load1_rptr (r := strRow ((revPK xs s len i)[(s + (len - 1 - i))]'(by omega))) rfl rfl (mapAt (by omega)) rfl)⟩, ?_⟩
  first | refine ⟨_, .inr ⟨rfl, _, rfl, .inl rfl, loc_q (q_mov rfl)⟩, ?_⟩
  first | refine ⟨_, .inr ⟨rfl, _, rfl, .inl rfl, loc_q (q_mov rfl)⟩, ?_⟩
  first | refine ⟨_, .inr ⟨rfl, _, rfl, .inl rfl, loc_q (q_ixs (j := s + i) rfl rfl (by omega) (by omega) (by omega))⟩, ?_⟩
  first | refine ⟨_, .inr ⟨rfl, _, rfl, .inl rfl, loc_q (q_load1_rptr (r := strRow ((revPK xs s len i)[s + i]'(by omega))) rfl rfl (mapAt (by omega)) rfl)⟩, ?_⟩
  first | refine ⟨_, .inr ⟨rfl, _, rfl, .inl rfl, loc_q (q_ixs (j := s + i) rfl rfl (by omega) (by omega) (by omega))⟩, ?_⟩
  refine ⟨⟨5000, .dead, []⟩, .inl ⟨rfl, rfl, rfl, locl_str (row := strRow ((revPK xs s len i)[s + i]'(by omega))) (q := strRow ((revPK xs s len i)[(s + (len - 1 - i))]'(by omega))) rfl rfl rfl rfl rfl rfl (mapAt (by omega)) rfl rfl List.map_set.symm⟩, ?_⟩
  refine ⟨rfl, ?_⟩
  refine ax_q (q_ixs (j := (s + (len - 1 - i))) rfl rfl (by omega) (by omega) (by omega)) ?_
  refine ax_e (e_str (rs' := (((revPK xs s len i).set (s + i) ((revPK xs s len i)[(s + (len - 1 - i))]'(by omega))).set (s + (len - 1 - i)) ((revPK xs s len i)[s + i]'(by omega))).map strRow) (row := strRow (((revPK xs s len i).set (s + i) ((revPK xs s len i)[(s + (len - 1 - i))]'(by omega)))[(s + (len - 1 - i))]'(by rw [List.length_set]; omega))) (q := strRow ((revPK xs s len i)[s + i]'(by omega))) rfl rfl rfl rfl rfl rfl (mapAt (by rw [List.length_set]; omega)) rfl rfl List.map_set.symm) ?_
  refine ax_nil (cx_keep rfl rfl (cx_ops ?_))
  refine ax_q (q_mov rfl) ?_
  refine ax_qe (r' := int ((i + 1 : Nat) : Int)) (q_ibin rfl rfl rfl) (by rw [wi (by omega) (by omega)]; rfl) ?_
  refine ax_q (q_mov rfl) ?_
  refine ax_qe (r' := int ((len : Int) - 1 - ((i + 1 : Nat) : Int))) (q_ibin rfl rfl rfl) (by rw [wi (by omega) (by omega)]; exact congrArg AM.int (by omega)) ?_
  refine ax_q (q_mov rfl) ?_
  refine ax_q (q_mov rfl) ?_
  refine ax_nil ?_
  exact ⟨_, i + 1, by omega, ⟨by omega, rfl⟩, by rw [← revPK_succ hl (by omega)]; exact (by repeat constructor)⟩
 ·
  have h0 := dF h0
  have he : revPK xs s len i = revP xs s len := revPK_all hl hi (by omega)
  rw [he]
  refine cx_exit rfl ?_
  refine retN id [1000] rfl rfl rfl rfl rfl ?_
  exact ⟨rfl, rfl⟩


/- slices.rotateLeft[string] -/
def k_c_rotL : XCode :=
 .seq (.ops [.op (some 4) (.mov (.t 0)),
   .op (some 5) (.mov (.t 1)),
   .op (some 6) (.slc 1 (.t 4) none (some (.t 5)) none),
   .call (some 7) 67 [.t 6]])
 (.keep [0, 1] (.seq (.ops [.op (some 8) (.mov (.t 0)),
   .op (some 9) (.mov (.t 1)),
   .op (some 10) (.slc 1 (.t 8) (some (.t 9)) none none),
   .call (some 11) 67 [.t 10]])
 (.keep [0] (.ops [.op (some 12) (.mov (.t 0)),
  .call (some 13) 67 [.t 12]]))))
theorem k_c_rotL_fits : fitsF Try.prog 60 ⟨14, k_c_rotL, []⟩ = true := by kernel_rfl
theorem c_rotL {xs : List Str} {s len k : Nat} (hl : s + len ≤ xs.length) (hk : k ≤ len) (hm : xs.length ≤ 1048576) : Con Try.prog noMv 60 [.osl 1000 1 s len, int k] [(1000, .rows 1 (xs.map strRow))] (fun r h => r = .tup [] ∧ h = [(1000, .rows 1 ((revP (revP (revP xs s (k)) (s + (k)) (len - (k))) s len).map strRow))]) := by
 refine con_of2 k_c_rotL_fits rfl fun C hP hmv => ?_
 unfold k_c_rotL
 refine cx_seq (cx_ops ?_)
 refine ax_q (q_mov rfl) ?_
 refine ax_q (q_mov rfl) ?_
 refine ax_qe (r' := .osl 1000 1 s k) (q_slc_osl rfl rfl rfl (by omega) (by omega) (by omega)) (oslE (by omega) (by omega)) ?_
 refine ax_call rfl (vcall_own (c_ReverseP (xs := xs) (s := s) (len := k) (by omega) (by omega)) hP hmv false (fun _ => 1000) [1000] ⟨rfl, rfl, rfl, rfl, ⟨rfl, trivial⟩, rfl, rfl, rfl⟩ (.pass rfl rfl .nil) ?_)
 rintro r h ⟨rfl, rfl⟩
 refine ⟨fun _ => 1000, [], ⟨rfl, rfl, rfl, rfl, mem1 rfl, rfl, rfl, fun h => absurd h Bool.false_ne_true⟩, ?_⟩
 have q1 := revP_len (xs := xs) (s := s) (len := k) (by omega)
 refine ax_nil (cx_keep rfl rfl (cx_seq (cx_ops ?_)))
 refine ax_q (q_mov rfl) ?_
 refine ax_q (q_mov rfl) ?_
 refine ax_qe (r' := .osl 1000 1 (s + k) (len - k)) (q_slc_osl rfl rfl rfl (by omega) (by omega) (by omega)) (oslE (by omega) (by omega)) ?_
 refine ax_call rfl (vcall_own (c_ReverseP (xs := revP xs s k) (s := s + k) (len := len - k) (by omega) (by omega)) hP hmv false (fun _ => 1000) [1000] ⟨rfl, rfl, rfl, rfl, ⟨rfl, trivial⟩, rfl, rfl, rfl⟩ (.pass rfl rfl .nil) ?_)
 rintro r h ⟨rfl, rfl⟩
 refine ⟨fun _ => 1000, [], ⟨rfl, rfl, rfl, rfl, mem1 rfl, rfl, rfl, fun h => absurd h Bool.false_ne_true⟩, ?_⟩
 have q2 := revP_len (xs := revP xs s k) (s := s + k) (len := len - k) (by omega)
 refine ax_nil (cx_keep rfl rfl (cx_ops ?_))
 refine ax_q (q_mov rfl) ?_
 refine ax_call rfl (vcall_own (c_ReverseP (xs := revP (revP xs s k) (s + k) (len - k)) (s := s) (len := len) (by omega) (by omega)) hP hmv false (fun _ => 1000) [1000] ⟨rfl, rfl, rfl, rfl, ⟨rfl, trivial⟩, rfl, rfl, rfl⟩ (.pass rfl rfl .nil) ?_)
 rintro r h ⟨rfl, rfl⟩
 refine ⟨fun _ => 1000, [], ⟨rfl, rfl, rfl, rfl, mem1 rfl, rfl, rfl, fun h => absurd h Bool.false_ne_true⟩, ?_⟩
 refine ax_nil ?_
 refine retN id [1000] rfl rfl rfl rfl rfl ?_
 exact ⟨rfl, rfl⟩


/- slices.rotateRight[string] -/
def k_c_rotR : XCode :=
 .ops [.op (some 4) (.mov (.t 0)),
  .op (some 5) (.mov (.t 0)),
  .op (some 6) (.lenS (.t 5)),
  .op (some 7) (.mov (.t 1)),
  .op (some 8) (.bin .sub (.t 6) (.t 7)),
  .call (some 9) 60 [.t 4, .t 8]]
theorem k_c_rotR_fits : fitsF Try.prog 42 ⟨10, k_c_rotR, []⟩ = true := by kernel_rfl
theorem c_rotR {xs : List Str} {s len k : Nat} (hl : s + len ≤ xs.length) (hk : k ≤ len) (hm : xs.length ≤ 1048576) : Con Try.prog noMv 42 [.osl 1000 1 s len, int k] [(1000, .rows 1 (xs.map strRow))] (fun r h => r = .tup [] ∧ h = [(1000, .rows 1 ((revP (revP (revP xs s (len - k)) (s + (len - k)) (len - (len - k))) s len).map strRow))]) := by
 refine con_of2 k_c_rotR_fits rfl fun C hP hmv => ?_
 unfold k_c_rotR
 refine cx_ops ?_
 refine ax_q (q_mov rfl) ?_
 refine ax_q (q_mov rfl) ?_
 first | refine ax_q (q_lenS_map rfl) ?_ | refine ax_q (q_lenS_osl rfl) ?_
 refine ax_q (q_mov rfl) ?_
 refine ax_qe (r' := int ((len - k : Nat) : Int)) (q_ibin rfl rfl rfl) (by rw [wi (by omega) (by omega)]; exact congrArg AM.int (by omega)) ?_
 refine ax_call rfl (vcall_own (c_rotL (xs := xs) (s := s) (len := len) (k := len - k) (by omega) (by omega) (by omega)) hP hmv false (fun _ => 1000) [1000] ⟨rfl, rfl, rfl, rfl, ⟨rfl, trivial⟩, rfl, rfl, rfl⟩ (.pass rfl rfl (.pass rfl rfl .nil)) ?_)
 rintro r h ⟨rfl, rfl⟩
 refine ⟨fun _ => 1000, [], ⟨rfl, rfl, rfl, rfl, mem1 rfl, rfl, rfl, fun h => absurd h Bool.false_ne_true⟩, ?_⟩
 refine ax_nil ?_
 refine retN id [1000] rfl rfl rfl rfl rfl ?_
 exact ⟨rfl, rfl⟩


/- slices.Insert[[]string,string] -/
def k_c_Insert_Str : XCode :=
 .seq (.ops [.op (some 6) (.mov (.k (.nils 1)))])
 (.keep [0, 1, 2] (.seq (.ops [.op (some 10) (.mov (.t 0)),
   .op (some 11) (.mov (.t 1)),
   .op (some 12) (.slc 1 (.t 10) (some (.t 11)) none none)])
 (.keep [0, 1, 2] (.seq (.ops [.op (some 13) (.mov (.t 2)),
   .op (some 14) (.lenS (.t 13)),
   .op (some 7) (.mov (.t 14))])
 (.keep [0, 1, 2, 7] (.seq (.seq (.ops [.op (some 15) (.mov (.t 7)),
   .op (some 16) (.bin .eql (.t 15) (.k (.int .i64 0)))])
  (.keep [0, 1, 2, 7, 16] (.cond (.t 16)
  (.seq (.ops [.op (some 17) (.mov (.t 0)),
    .op (some 6) (.mov (.t 17))])
   (.keep [6] (.ret)))
  (.skip))))
 (.keep [0, 1, 2, 7] (.seq (.ops [.op (some 18) (.mov (.t 0)),
   .op (some 19) (.lenS (.t 18)),
   .op (some 8) (.mov (.t 19))])
 (.keep [0, 1, 2, 7, 8] (.seq (.seq (.ops [.op (some 20) (.mov (.t 1)),
   .op (some 21) (.mov (.t 8)),
   .op (some 22) (.bin .eql (.t 20) (.t 21))])
  (.keep [0, 1, 2, 7, 8, 22] (.cond (.t 22)
  (.seq (.ops [.op (some 23) (.mov (.t 0)),
    .op (some 24) (.mov (.t 2)),
    .op (some 25) (.app 1 16 [.str []] (.t 23) (.t 24)),
    .op (some 6) (.mov (.t 25))])
   (.keep [6] (.ret)))
  (.skip))))
 (.keep [0, 1, 2, 7, 8] (.seq (.seq (.ops [.op (some 26) (.mov (.t 8)),
   .op (some 27) (.mov (.t 7)),
   .op (some 28) (.bin .add (.t 26) (.t 27)),
   .op (some 29) (.mov (.t 0)),
   .op (some 30) (.capS (.t 29)),
   .op (some 31) (.bin .gtr (.t 28) (.t 30))])
  (.keep [0, 1, 2, 7, 8, 31] (.cond (.t 31)
  (.seq (.ops [.op (some 32) (.mov (.t 0)),
    .op (some 33) (.mov (.t 1)),
    .op (some 34) (.slc 1 (.t 32) none (some (.t 33)) none),
    .op (some 35) (.mov (.t 8)),
    .op (some 36) (.mov (.t 7)),
    .op (some 37) (.bin .add (.t 35) (.t 36)),
    .op (some 38) (.mov (.t 1)),
    .op (some 39) (.bin .sub (.t 37) (.t 38)),
    .op (some 40) (.appz 1 16 [.str []] (.t 34) (.t 39)),
    .op (some 9) (.mov (.t 40))])
   (.keep [0, 1, 2, 7, 9] (.seq (.ops [.op (some 41) (.mov (.t 9)),
    .op (some 42) (.mov (.t 1)),
    .op (some 43) (.slc 1 (.t 41) (some (.t 42)) none none),
    .op (some 44) (.mov (.t 2)),
    .op (some 45) (.cpy 1 (.t 43) (.t 44))])
   (.keep [0, 1, 7, 9] (.seq (.drawE [[], [], [], [1, 2], [0, 1, 2, 3], [], [], [5, 6], [0, 1, 2, 3, 4, 5, 6, 7]] [.op (some 46) (.mov (.t 9)),
    .op (some 47) (.mov (.t 1)),
    .op (some 48) (.mov (.t 7)),
    .op (some 49) (.bin .add (.t 47) (.t 48)),
    .op (some 50) (.slc 1 (.t 46) (some (.t 49)) none none),
    .op (some 51) (.mov (.t 0)),
    .op (some 52) (.mov (.t 1)),
    .op (some 53) (.slc 1 (.t 51) (some (.t 52)) none none)]
    [.op (some 54) (.cpy 1 (.t 50) (.t 53))])
   (.keep [9] (.seq (.ops [.op (some 55) (.mov (.t 9)),
    .op (some 6) (.mov (.t 55))])
   (.keep [6] (.ret)))))))))
  (.skip))))
 (.keep [0, 1, 2, 7, 8] (.seq (.ops [.op (some 56) (.mov (.t 0)),
   .op (some 57) (.mov (.t 8)),
   .op (some 58) (.mov (.t 7)),
   .op (some 59) (.bin .add (.t 57) (.t 58)),
   .op (some 60) (.slc 1 (.t 56) none (some (.t 59)) none),
   .op (some 0) (.mov (.t 60))])
 (.keep [0, 1, 2, 7, 8] (.seq (.seq (.ops [.op (some 61) (.mov (.t 2)),
   .op (some 62) (.mov (.t 0)),
   .op (some 63) (.mov (.t 1)),
   .op (some 64) (.mov (.t 7)),
   .op (some 65) (.bin .add (.t 63) (.t 64)),
   .op (some 66) (.slc 1 (.t 62) (some (.t 65)) none none),
   .op (some 67) (.ext2 41 (.t 61) (.t 66)),
   .op (some 68) (.not (.t 67))])
  (.keep [0, 1, 2, 7, 8, 68] (.cond (.t 68)
  (.seq (.drawE [[], [], [], [1, 2], [0, 1, 2, 3], [], [], [5, 6], [0, 1, 2, 3, 4, 5, 6, 7]] [.op (some 69) (.mov (.t 0)),
    .op (some 70) (.mov (.t 1)),
    .op (some 71) (.mov (.t 7)),
    .op (some 72) (.bin .add (.t 70) (.t 71)),
    .op (some 73) (.slc 1 (.t 69) (some (.t 72)) none none),
    .op (some 74) (.mov (.t 0)),
    .op (some 75) (.mov (.t 1)),
    .op (some 76) (.slc 1 (.t 74) (some (.t 75)) none none)]
    [.op (some 77) (.cpy 1 (.t 73) (.t 76))])
   (.keep [0, 1, 2] (.seq (.ops [.op (some 78) (.mov (.t 0)),
    .op (some 79) (.mov (.t 1)),
    .op (some 80) (.slc 1 (.t 78) (some (.t 79)) none none),
    .op (some 81) (.mov (.t 2)),
    .op (some 82) (.cpy 1 (.t 80) (.t 81))])
   (.keep [0] (.seq (.ops [.op (some 83) (.mov (.t 0)),
    .op (some 6) (.mov (.t 83))])
   (.keep [6] (.ret)))))))
  (.skip))))
 (.keep [0, 1, 2, 7, 8] (.seq (.ops [.op (some 84) (.mov (.t 0)),
   .op (some 85) (.mov (.t 8)),
   .op (some 86) (.slc 1 (.t 84) (some (.t 85)) none none),
   .op (some 87) (.mov (.t 2)),
   .op (some 88) (.cpy 1 (.t 86) (.t 87))])
 (.keep [0, 1, 7] (.seq (.ops [.op (some 89) (.mov (.t 0)),
   .op (some 90) (.mov (.t 1)),
   .op (some 91) (.slc 1 (.t 89) (some (.t 90)) none none),
   .op (some 92) (.mov (.t 7)),
   .call (some 93) 42 [.t 91, .t 92]])
 (.keep [0] (.seq (.ops [.op (some 94) (.mov (.t 0)),
   .op (some 6) (.mov (.t 94))])
 (.keep [6] (.ret))))))))))))))))))))))))
theorem k_c_Insert_Str_fits : fitsF Try.prog 22 ⟨95, k_c_Insert_Str, [.t 6]⟩ = true := by kernel_rfl
set_option maxHeartbeats 4000000 in
theorem c_Insert_Str {xs : List Str} {x : Str} {i : Nat} (hi : i ≤ xs.length) (hl : xs.length ≤ 1000000) : Con Try.prog (fun e => Nat.beq e 1000) 22 [.osl 1000 1 0 xs.length, int (i : Nat), .osl 1001 1 0 1] [(1000, .rows 1 (xs.map strRow)), (1001, .rows 1 ([x].map strRow))] (fun r h => r = .osl 1000 1 0 (xs.length + 1) ∧ h = [(1000, .rows 1 ((insA xs i x).map strRow)), (1001, .rows 1 ([x].map strRow))]) := by
 refine con_of2 k_c_Insert_Str_fits rfl fun C hP hmv => ?_
 unfold k_c_Insert_Str
 refine cx_cap 0 rfl fun c hc => ?_
 refine cx_seq (cx_ops ?_)
 refine ax_q (q_mov rfl) ?_
 refine ax_nil (cx_keep rfl rfl (cx_seq (cx_ops ?_)))
 refine ax_q (q_mov rfl) ?_
 refine ax_q (q_mov rfl) ?_
 refine ax_q (q_slcC rfl rfl rfl (by omega) (by omega) (by omega)) ?_
 refine ax_nil (cx_keep rfl rfl (cx_seq (cx_ops ?_)))
 refine ax_q (q_mov rfl) ?_
 first | refine ax_q (q_lenS_map rfl) ?_ | refine ax_q (q_lenS_osl rfl) ?_
 refine ax_q (q_mov rfl) ?_
 refine ax_nil (cx_keep rfl rfl (cx_seq (cx_seq (cx_ops ?_))))
 refine ax_q (q_mov rfl) ?_
 refine ax_q (q_ibin rfl rfl rfl) ?_
 refine ax_nil (cx_keep rfl rfl ?_)
 refine cx_cond rfl (fun h0 => ?_) (fun h0 => ?_)
 ·
  have h0 := dT h0
  exfalso; omega
 ·
  have h0 := dF h0
  refine cx_skip ?_
  refine cx_keep rfl rfl (cx_seq (cx_ops ?_))
  refine ax_q (q_mov rfl) ?_
  refine ax_q (q_lenC rfl) ?_
  refine ax_q (q_mov rfl) ?_
  refine ax_nil (cx_keep rfl rfl (cx_seq (cx_seq (cx_ops ?_))))
  refine ax_q (q_mov rfl) ?_
  refine ax_q (q_mov rfl) ?_
  refine ax_q (q_ibin rfl rfl rfl) ?_
  refine ax_nil (cx_keep rfl rfl ?_)
  refine cx_cond rfl (fun h1 => ?_) (fun h1 => ?_)
  ·
   have h1 := dT h1
   have hie : i = xs.length := by omega
   refine cx_seq (cx_ops ?_)
   refine ax_q (q_mov rfl) ?_
   refine ax_q (q_mov rfl) ?_
   refine ax_wk (wk_uncap 23 rfl) ?_
   refine ax_e (e_appn (n' := xs.length + 1) (rs' := (insA xs i x).map strRow) rfl rfl (by simp) rfl (src_osl rfl (by simp)) (.inr (by rw [hmv]; rfl)) (hbnd (by omega) (by simp) (by decide)) (by simp) (by rw [ins_end hie]; exact app1 rfl)) ?_
   refine ax_q (q_mov rfl) ?_
   refine ax_nil (cx_keep rfl rfl ?_)
   refine cx_ret (retN id [1000, 1001] rfl rfl rfl rfl rfl ?_)
   exact ⟨rfl, rfl⟩
  ·
   have h1 := dF h1
   have hil : i < xs.length := by omega
   refine cx_skip ?_
   refine cx_keep rfl rfl (cx_seq (cx_seq (cx_ops ?_)))
   refine ax_q (q_mov rfl) ?_
   refine ax_q (q_mov rfl) ?_
   refine ax_q (q_add rfl rfl (by omega)) ?_
   refine ax_q (q_mov rfl) ?_
   refine ax_q (q_capC rfl) ?_
   refine ax_q (q_ibin rfl rfl rfl) ?_
   refine ax_nil (cx_keep rfl rfl ?_)
   refine cx_cond rfl (fun h2 => ?_) (fun h2 => ?_)
   ·
    have h2 := dT h2
    refine cx_seq (cx_ops ?_)
    refine ax_q (q_mov rfl) ?_
    refine ax_q (q_mov rfl) ?_
    refine ax_qe (r' := .oslc 1000 1 (0) (i) (c)) (q_slcC rfl rfl rfl (by omega) (by omega) (by omega)) (oslcE (by omega) (by omega) (by omega)) ?_
    refine ax_q (q_mov rfl) ?_
    refine ax_q (q_mov rfl) ?_
    refine ax_q (q_add rfl rfl (by omega)) ?_
    refine ax_q (q_mov rfl) ?_
    refine ax_qe (r' := int ((xs.length + 1 - i : Nat) : Int)) (q_ibin rfl rfl rfl) (by
     rw [wi (by omega) (by omega)]
     exact congrArg AM.int (by omega)) ?_
    refine ax_ee (st'' := ⟨(40, .osl 40 1 0 (xs.length + 1)) :: _, (40, .rows 1 (((xs.map strRow).drop 0).take i)) :: _⟩) (e_appz_grow (n := xs.length + 1 - i) rfl rfl (by simp only [List.length_map]; omega) rfl (by omega) (by omega) (by decide) rfl rfl (hbnd (by omega) (by omega) (by decide))) (by rw [show i + (xs.length + 1 - i) = xs.length + 1 from by omega]) ?_
    refine ax_q (q_mov rfl) ?_
    refine ax_nil (cx_keep rfl rfl (cx_seq (cx_ops ?_)))
    refine ax_q (q_mov rfl) ?_
    refine ax_q (q_mov rfl) ?_
    refine ax_qe (r' := .osl 40 1 (i) (xs.length + 1 - i)) (q_slc_osl rfl rfl rfl (by omega) (by omega) (by omega)) (oslE0 (by omega) (by omega)) ?_
    refine ax_q (q_mov rfl) ?_
    refine ax_ee (st'' := ⟨_, (40, .rows 1 ((xs.take i ++ [x]).map strRow)) :: _⟩) (e_cpy2 (k := 1) rfl rfl (by simp only [List.length_map, List.length_append, List.length_take, List.length_drop, List.length_cons, List.length_nil]; omega) rfl rfl (by omega) (by simp only [List.length_map, List.length_append, List.length_take, List.length_drop, List.length_cons, List.length_nil]; omega)) (congrArg (fun z => (⟨_, (40, .rows 1 z) :: _⟩ : St)) (ins_g1)) ?_
    refine ax_nil (cx_keep rfl rfl (cx_seq ?_))
    refine cx_drawL 0 46 (fun _ => false) (fun _ => true) [] ([]) [[9], [1], [7], [47, 48], [46, 49], [0], [1], [51, 52]] [[], [], [], [], [], [], [], []] rfl ?_
    first | refine ⟨⟨46, _, []⟩, .inl ⟨rfl, rfl, rfl, locl_of (loc_q (q_mov rfl))⟩, ?_⟩
    first | refine ⟨_, .inr ⟨rfl, _, rfl, .inr ⟨rfl, rfl, .inr rfl, rfl, rfl⟩, loc_q (q_mov rfl)⟩, ?_⟩
    first | refine ⟨_, .inr ⟨rfl, _, rfl, .inr ⟨rfl, rfl, .inr rfl, rfl, rfl⟩, loc_q (q_mov rfl)⟩, ?_⟩
    first | refine ⟨_, .inr ⟨rfl, _, rfl, .inr ⟨rfl, rfl, .inr rfl, rfl, rfl⟩, loc_q (q_add rfl rfl (by omega))⟩, ?_⟩
    first | refine ⟨_, .inr ⟨rfl, _, rfl, .inr ⟨rfl, rfl, .inl rfl, rfl, rfl⟩, loc_qe (r' := .osl 40 1 (i + 1) (xs.length - i)) (q_slc_osl rfl rfl rfl (by omega) (by omega) (by omega)) (oslE0 (by omega) (by omega))⟩, ?_⟩
    first | refine ⟨_, .inr ⟨rfl, _, rfl, .inr ⟨rfl, rfl, .inr rfl, rfl, rfl⟩, loc_q (q_mov rfl)⟩, ?_⟩
    first | refine ⟨_, .inr ⟨rfl, _, rfl, .inr ⟨rfl, rfl, .inr rfl, rfl, rfl⟩, loc_q (q_mov rfl)⟩, ?_⟩
    first | refine ⟨_, .inr ⟨rfl, _, rfl, .inr ⟨rfl, rfl, .inr rfl, rfl, rfl⟩, loc_qe (r' := .oslc 1000 1 (i) (xs.length - i) (c - i)) (q_slcC rfl rfl rfl (by omega) (by omega) (by omega)) (oslcE (by omega) (by omega) (by omega))⟩, ?_⟩
    refine ⟨rfl, ?_⟩
    refine ax_wk (wk_uncap 53 rfl) ?_
    refine ax_ee (st'' := ⟨_, (40, .rows 1 ((insA xs i x).map strRow)) :: _⟩) (e_cpy2 (k := xs.length - i) rfl rfl (by simp only [List.length_map, List.length_append, List.length_take, List.length_drop, List.length_cons, List.length_nil]; omega) rfl rfl (by omega) (by simp only [List.length_map, List.length_append, List.length_take, List.length_drop, List.length_cons, List.length_nil]; omega)) (congrArg (fun z => (⟨_, (40, .rows 1 z) :: _⟩ : St)) (ins_g2 (by omega))) ?_
    refine ax_nil (cx_keep rfl rfl (cx_seq (cx_ops ?_)))
    refine ax_q (q_mov rfl) ?_
    refine ax_q (q_mov rfl) ?_
    refine ax_nil (cx_keep rfl rfl ?_)
    refine cx_wk (wk_swapM 40 1000 (.inl (by decide)) (.inr (by rw [hmv]; rfl))) ?_
    refine cx_ret (retN id [1000, 1001] rfl rfl rfl rfl rfl ?_)
    exact ⟨rfl, rfl⟩
   ·
    have h2 := dF h2
    refine cx_skip ?_
    refine cx_keep rfl rfl (cx_seq (cx_ops ?_))
    refine ax_q (q_mov rfl) ?_
    refine ax_q (q_mov rfl) ?_
    refine ax_q (q_mov rfl) ?_
    refine ax_q (q_add rfl rfl (by omega)) ?_
    refine ax_qe (r' := .oslc 1000 1 (0) (xs.length + 1) (c)) (q_slcC rfl rfl rfl (by omega) (by omega) (by omega)) (oslcE (by omega) (by omega) (by omega)) ?_
    refine ax_q (q_mov rfl) ?_
    refine ax_nil (cx_keep rfl rfl (cx_seq (cx_seq (cx_ops ?_))))
    refine ax_q (q_mov rfl) ?_
    refine ax_q (q_mov rfl) ?_
    refine ax_q (q_mov rfl) ?_
    refine ax_q (q_mov rfl) ?_
    refine ax_q (q_add rfl rfl (by omega)) ?_
    refine ax_qe (r' := .oslc 1000 1 (i + 1) (xs.length - i) (c - (i + 1))) (q_slcC rfl rfl rfl (by omega) (by omega) (by omega)) (oslcE (by omega) (by omega) (by omega)) ?_
    refine ax_wk (wk_uncap 66 rfl) ?_
    refine ax_ovl (fn := Try.f41) (tS := 36) (tR := 4) (el := 9) (sz := 1) rfl rfl rfl rfl rfl (by rw [hP]; exact Try.func41) (by kernel_rfl) (by kernel_rfl) (by kernel_rfl) (by kernel_rfl) (by rw [hP]; exact Try.underlying36) (by rw [hP]; kernel_rfl) (by decide) (by decide) (fun b => ?_)
    refine ax_q (q_not rfl) ?_
    refine ax_nil (cx_keep rfl rfl ?_)
    refine cx_cond rfl (fun h3 => ?_) (fun h3 => ?_)
    ·
     skip
     refine cx_seq ?_
     refine cx_drawL 0 69 (fun _ => false) (fun _ => true) [] ([]) [[0], [1], [7], [70, 71], [69, 72], [0], [1], [74, 75]] [[], [], [], [], [], [], [], []] rfl ?_
     first | refine ⟨⟨69, _, []⟩, .inl ⟨rfl, rfl, rfl, locl_of (loc_q (q_mov rfl))⟩, ?_⟩
     first | refine ⟨_, .inr ⟨rfl, _, rfl, .inr ⟨rfl, rfl, .inr rfl, rfl, rfl⟩, loc_q (q_mov rfl)⟩, ?_⟩
     first | refine ⟨_, .inr ⟨rfl, _, rfl, .inr ⟨rfl, rfl, .inr rfl, rfl, rfl⟩, loc_q (q_mov rfl)⟩, ?_⟩
     first | refine ⟨_, .inr ⟨rfl, _, rfl, .inr ⟨rfl, rfl, .inr rfl, rfl, rfl⟩, loc_q (q_add rfl rfl (by omega))⟩, ?_⟩
     first | refine ⟨_, .inr ⟨rfl, _, rfl, .inr ⟨rfl, rfl, .inl rfl, rfl, rfl⟩, loc_qe (r' := .oslc 1000 1 (i + 1) (xs.length - i) (c - (i + 1))) (q_slcC rfl rfl rfl (by omega) (by omega) (by omega)) (oslcE (by omega) (by omega) (by omega))⟩, ?_⟩
     first | refine ⟨_, .inr ⟨rfl, _, rfl, .inr ⟨rfl, rfl, .inr rfl, rfl, rfl⟩, loc_q (q_mov rfl)⟩, ?_⟩
     first | refine ⟨_, .inr ⟨rfl, _, rfl, .inr ⟨rfl, rfl, .inr rfl, rfl, rfl⟩, loc_q (q_mov rfl)⟩, ?_⟩
     first | refine ⟨_, .inr ⟨rfl, _, rfl, .inr ⟨rfl, rfl, .inr rfl, rfl, rfl⟩, loc_qe (r' := .oslc 1000 1 (i) (xs.length + 1 - i) (c - i)) (q_slcC rfl rfl rfl (by omega) (by omega) (by omega)) (oslcE (by omega) (by omega) (by omega))⟩, ?_⟩
     refine ⟨rfl, ?_⟩
     refine ax_wk (wk_uncap 73 rfl) ?_
     refine ax_wk (wk_uncap 76 rfl) ?_
     refine ax_ee (st'' := ⟨_, (1000, .rows 1 ((xs.take (i + 1) ++ xs.drop i).map strRow)) :: _⟩) (e_cpy2 (k := xs.length - i) rfl rfl (by simp only [List.length_map, List.length_append, List.length_take, List.length_drop, List.length_cons, List.length_nil]; omega) rfl rfl (by omega) (by simp only [List.length_map, List.length_append, List.length_take, List.length_drop, List.length_cons, List.length_nil]; omega)) (congrArg (fun z => (⟨_, (1000, .rows 1 z) :: _⟩ : St)) (ins_i1 hil)) ?_
     refine ax_nil (cx_keep rfl rfl (cx_seq (cx_ops ?_)))
     refine ax_q (q_mov rfl) ?_
     refine ax_q (q_mov rfl) ?_
     refine ax_qe (r' := .oslc 1000 1 (i) (xs.length + 1 - i) (c - i)) (q_slcC rfl rfl rfl (by omega) (by omega) (by omega)) (oslcE (by omega) (by omega) (by omega)) ?_
     refine ax_q (q_mov rfl) ?_
     refine ax_wk (wk_uncap 80 rfl) ?_
     refine ax_ee (st'' := ⟨_, (1000, .rows 1 ((insA xs i x).map strRow)) :: _⟩) (e_cpy2 (k := 1) rfl rfl (by simp only [List.length_map, List.length_append, List.length_take, List.length_drop, List.length_cons, List.length_nil]; omega) rfl rfl (by omega) (by simp only [List.length_map, List.length_append, List.length_take, List.length_drop, List.length_cons, List.length_nil]; omega)) (congrArg (fun z => (⟨_, (1000, .rows 1 z) :: _⟩ : St)) (ins_i2 hil)) ?_
     refine ax_nil (cx_keep rfl rfl (cx_seq (cx_ops ?_)))
     refine ax_q (q_mov rfl) ?_
     refine ax_q (q_mov rfl) ?_
     refine ax_nil (cx_keep rfl rfl ?_)
     refine cx_wk (wk_uncap 6 rfl) ?_
     refine cx_ret (retN id [1000, 1001] rfl rfl rfl rfl rfl ?_)
     exact ⟨rfl, rfl⟩
    ·
     skip
     refine cx_skip ?_
     refine cx_keep rfl rfl (cx_seq (cx_ops ?_))
     refine ax_q (q_mov rfl) ?_
     refine ax_q (q_mov rfl) ?_
     refine ax_qe (r' := .oslc 1000 1 (xs.length) (1) (c - xs.length)) (q_slcC rfl rfl rfl (by omega) (by omega) (by omega)) (oslcE (by omega) (by omega) (by omega)) ?_
     refine ax_q (q_mov rfl) ?_
     refine ax_wk (wk_uncap 86 rfl) ?_
     refine ax_ee (st'' := ⟨_, (1000, .rows 1 ((xs ++ [x]).map strRow)) :: _⟩) (e_cpy2 (k := 1) rfl rfl (by simp only [List.length_map]; omega) rfl rfl (by omega) (by simp only [List.length_map, List.length_cons, List.length_nil]; omega)) (congrArg (fun z => (⟨_, (1000, .rows 1 z) :: _⟩ : St)) ins_o1) ?_
     refine ax_nil (cx_keep rfl rfl (cx_seq (cx_ops ?_)))
     refine ax_q (q_mov rfl) ?_
     refine ax_q (q_mov rfl) ?_
     refine ax_qe (r' := .oslc 1000 1 (i) (xs.length + 1 - i) (c - i)) (q_slcC rfl rfl rfl (by omega) (by omega) (by omega)) (oslcE (by omega) (by omega) (by omega)) ?_
     refine ax_q (q_mov rfl) ?_
     refine ax_wk (wk_uncap 91 rfl) ?_
     have q5 : (xs ++ [x]).length = xs.length + 1 := by simp
     refine ax_call rfl (vcall_own (c_rotR (xs := xs ++ [x]) (s := i) (len := xs.length + 1 - i) (k := 1) (by omega) (by omega) (by omega)) hP hmv false (fun _ => 1000) [1000] ⟨rfl, rfl, rfl, rfl, ⟨rfl, trivial⟩, rfl, rfl, rfl⟩ (.pass rfl rfl (.pass rfl rfl .nil)) ?_)
     rintro r h ⟨rfl, rfl⟩
     refine ⟨fun _ => 1000, [], ⟨rfl, rfl, rfl, rfl, mem1 rfl, rfl, rfl, fun h => absurd h Bool.false_ne_true⟩, ?_⟩
     rw [turn_ins' hi]
     refine ax_nil (cx_keep rfl rfl (cx_seq (cx_ops ?_)))
     refine ax_q (q_mov rfl) ?_
     refine ax_q (q_mov rfl) ?_
     refine ax_nil (cx_keep rfl rfl ?_)
     refine cx_wk (wk_uncap 6 rfl) ?_
     refine cx_ret (retN id [1000, 1001] rfl rfl rfl rfl rfl ?_)
     exact ⟨rfl, rfl⟩


/- loop.example/g00332/impl.TreeInsert -/
def k_c_TreeInsert : XCode :=
 .seq (.ops [.op (some 2) (.box (.t 0)),
   .op (some 4) (.alloc [.int .i64 0, .nils 3]),
   .op (some 5) (.mov (.k (.int .i64 0)))])
 (.keep [1, 2, 4] (.seq (.ops [.op (some 11) (.loadN 2 (.t 2)),
   .op (some 12) (.mov (.t 1)),
   .call (some 13) 19 [.t 11, .t 12],
   .op (some 10) (.mov (.t 13)),
   .op (some 14) (.ext (.t 10) 0),
   .op (some 15) (.ext (.t 10) 1),
   .op (some 6) (.mov (.t 14)),
   .op (some 7) (.mov (.t 15))])
 (.keep [1, 4, 6, 7] (.seq (.seq (.ops [.op (some 16) (.mov (.t 7)),
   .op (some 17) (.bin .neq (.t 16) (.k (.int .i64 0)))])
  (.keep [1, 4, 6, 7, 17] (.cond (.t 17)
  (.seq (.ops [.op (some 18) (.build [.int .i64 0, .nils 3] []),
    .op (some 19) (.mov (.t 7)),
    .op none (.store 2 (.t 4) (.t 18)),
    .op (some 5) (.mov (.t 19))])
   (.keep [4, 5] (.ret)))
  (.skip))))
 (.keep [1, 4, 6] (.seq (.ops [.op (some 21) (.mov (.t 6)),
   .op (some 22) (.mov (.t 1)),
   .call (some 23) 20 [.t 21, .t 22],
   .op (some 20) (.mov (.t 23)),
   .op (some 24) (.ext (.t 20) 0),
   .op (some 25) (.ext (.t 20) 1),
   .op (some 8) (.mov (.t 24)),
   .op (some 9) (.mov (.t 25))])
 (.keep [1, 4, 6, 8, 9] (.seq (.block 0 (.seq (.ops [.op (some 27) (.mov (.t 9)),
    .op (some 26) (.mov (.t 27))])
  (.keep [1, 4, 6, 8, 26] (.cond (.t 26)
   (.seq (.ops [.op (some 28) (.build [.int .i64 0, .nils 3] []),
     .op none (.store 2 (.t 4) (.t 28)),
     .op (some 5) (.mov (.k (.int .i64 9)))])
   (.keep [4, 5] (.ret)))
   (.seq (.ops [.op (some 30) (.mov (.t 6)),
     .op (some 31) (.lenS (.t 30)),
     .op (some 32) (.bin .eql (.t 31) (.k (.int .i64 60))),
     .op (some 29) (.mov (.t 32))])
   (.keep [1, 4, 6, 8, 29] (.cond (.t 29)
    (.seq (.ops [.op (some 33) (.build [.int .i64 0, .nils 3] []),
      .op none (.store 2 (.t 4) (.t 33)),
      .op (some 5) (.mov (.k (.int .i64 7)))])
    (.keep [4, 5] (.ret)))
    (.skip))))))))
 (.keep [1, 4, 6, 8] (.seq (.ops [.op (some 34) (.mov (.t 6)),
   .op (some 35) (.mov (.t 8)),
   .op (some 36) (.mov (.t 1)),
   .op (some 37) (.bslice 1 [.t 36]),
   .call (some 38) 22 [.t 34, .t 35, .t 37],
   .call (some 39) 21 [.t 38],
   .op none (.store 2 (.t 4) (.t 39)),
   .op (some 5) (.mov (.k (.int .i64 0)))])
 (.keep [4, 5] (.ret))))))))))))
theorem k_c_TreeInsert_fits : fitsF Try.prog 8 ⟨40, k_c_TreeInsert, [.cN 4 2, .t 5]⟩ = true := by kernel_rfl
theorem c_TreeInsert {t : ITree} {key : Str} (hT : TB t) (hz : key.length ≤ 1048576) : Con Try.prog noMv 8 [.agg [.d (.int .i64 t.Root), .d (.sl 3 (t.Nodes.map INode.row))], str key] [] (fun r h => r = .tup [.agg [.d (.int .i64 (insF t key).1.Root), .osl 0 3 0 (insF t key).1.Nodes.length], int (insF t key).2] ∧ h = [(0, .deep 3 ((insF t key).1.Nodes.map INode.row) [])]) := by
 refine con_of2 k_c_TreeInsert_fits rfl fun C hP hmv => ?_
 unfold k_c_TreeInsert
 refine cx_seq (cx_ops ?_)
 refine ax_e (e_box rfl rfl (by decide) rfl rfl rfl) ?_
 refine ax_e (e_alloc (by decide) rfl rfl) ?_
 refine ax_q (q_mov rfl) ?_
 refine ax_nil (cx_keep rfl rfl (cx_seq (cx_ops ?_)))
 refine ax_q (q_ldN rfl rfl rfl) ?_
 refine ax_q (q_mov rfl) ?_
 refine ax_call rfl (vc_pure (c_treeAsked  ?_ ?_) hP rfl ?_)
 ·
  assumption
 ·
  assumption
 rintro r h ⟨rfl, rfl⟩
 refine ⟨fun i => 13 + 200 * i, [0], ⟨rfl, rfl, rfl, rfl, rfl, (by first | exact (fun h => absurd h Bool.false_ne_true) | exact (fun _ => ⟨rfl, (noisl_of (by repeat (first | exact trivial | refine ⟨noisl_map (fun _ => rfl), ?_⟩ | refine ⟨?_, ?_⟩)))⟩))⟩, ?_⟩
 skip
 refine ax_q (q_mov rfl) ?_
 refine ax_q (q_ext rfl rfl) ?_
 refine ax_q (q_ext rfl rfl) ?_
 refine ax_q (q_mov rfl) ?_
 refine ax_q (q_mov rfl) ?_
 refine ax_nil (cx_keep rfl rfl (cx_seq (cx_seq (cx_ops ?_))))
 refine ax_q (q_mov rfl) ?_
 refine ax_q (q_ibin rfl rfl rfl) ?_
 refine ax_nil (cx_keep rfl rfl ?_)
 refine cx_cond rfl (fun h0 => ?_) (fun h0 => ?_)
 ·
  have h0 := nT h0
  refine cx_seq (cx_ops ?_)
  refine ax_q (q_build rfl) ?_
  refine ax_wk (wk_virt 903 3 rfl rfl rfl) ?_
  refine ax_wk (wk_zs 18 903 [1] rfl rfl) ?_
  refine ax_wk (wk_deepz 903 (rs' := []) rfl rfl) ?_
  refine ax_q (q_mov rfl) ?_
  refine ax_e (e_st rfl rfl rfl rfl rfl rfl rfl) ?_
  refine ax_q (q_mov rfl) ?_
  refine ax_nil (cx_keep rfl rfl ?_)
  refine cx_ret (retN (fun _ => 0) [903] rfl rfl rfl rfl rfl ?_)
  rw [insF_no h0]; exact ⟨rfl, rfl⟩
 ·
  have h0 := nF h0
  obtain ⟨hk, hz1, hz2⟩ := askF_ks h0
  obtain ⟨ks, hks⟩ : ∃ ks, (askF t key).1 = ks := ⟨_, rfl⟩
  rw [hks] at hk ⊢
  have q3 := hk.ln
  refine cx_skip ?_
  refine cx_keep rfl rfl (cx_seq (cx_ops ?_))
  refine ax_q (q_mov rfl) ?_
  refine ax_q (q_mov rfl) ?_
  refine ax_call rfl (vc_lend0 (c_BinS (xs := ks) (s := key) hk.asc (by omega)) hP (.cons (.lend (lend_whole rfl (by simp))) (.cons (.d _) .nil)) rfl rfl ?_)
  refine ax_q (q_mov rfl) ?_
  refine ax_q (q_ext rfl rfl) ?_
  refine ax_q (q_ext rfl rfl) ?_
  refine ax_q (q_mov rfl) ?_
  refine ax_q (q_mov rfl) ?_
  refine ax_nil (cx_keep rfl rfl (cx_seq (cx_block (cx_seq (cx_ops ?_)))))
  refine ax_q (q_mov rfl) ?_
  refine ax_q (q_mov rfl) ?_
  refine ax_nil (cx_keep rfl rfl ?_)
  refine cx_cond rfl (fun h1 => ?_) (fun h1 => ?_)
  ·
   have h1 : hitS ks key = true := h1
   refine cx_seq (cx_ops ?_)
   refine ax_q (q_build rfl) ?_
   refine ax_wk (wk_virt 903 3 rfl rfl rfl) ?_
   refine ax_wk (wk_zs 28 903 [1] rfl rfl) ?_
   refine ax_wk (wk_deepz 903 (rs' := []) rfl rfl) ?_
   refine ax_e (e_st rfl rfl rfl rfl rfl rfl rfl) ?_
   refine ax_q (q_mov rfl) ?_
   refine ax_nil (cx_keep rfl rfl ?_)
   refine cx_ret (retN (fun _ => 0) [903] rfl rfl rfl rfl rfl ?_)
   rw [insF_1 h0 (by rw [hks]; exact h1)]; exact ⟨rfl, rfl⟩
  ·
   have h1 : hitS ks key = false := h1
   refine cx_seq (cx_ops ?_)
   refine ax_q (q_mov rfl) ?_
   first | refine ax_q (q_lenS_map rfl) ?_ | refine ax_q (q_lenS_osl rfl) ?_
   refine ax_q (q_ibin rfl rfl rfl) ?_
   refine ax_q (q_mov rfl) ?_
   refine ax_nil (cx_keep rfl rfl ?_)
   refine cx_cond rfl (fun h2 => ?_) (fun h2 => ?_)
   ·
    have h2 := dT h2
    have h2x : ks.length = 60 := by omega
    refine cx_seq (cx_ops ?_)
    refine ax_q (q_build rfl) ?_
    refine ax_wk (wk_virt 903 3 rfl rfl rfl) ?_
    refine ax_wk (wk_zs 33 903 [1] rfl rfl) ?_
    refine ax_wk (wk_deepz 903 (rs' := []) rfl rfl) ?_
    refine ax_e (e_st rfl rfl rfl rfl rfl rfl rfl) ?_
    refine ax_q (q_mov rfl) ?_
    refine ax_nil (cx_keep rfl rfl ?_)
    refine cx_ret (retN (fun _ => 0) [903] rfl rfl rfl rfl rfl ?_)
    rw [insF_2 h0 (by rw [hks]; exact h1) (by rw [hks]; exact h2x)]; exact ⟨rfl, rfl⟩
   ·
    have h2 := dF h2
    refine cx_skip ?_
    refine cx_keep rfl rfl (cx_seq (cx_ops ?_))
    refine ax_q (q_mov rfl) ?_
    refine ax_q (q_mov rfl) ?_
    refine ax_q (q_mov rfl) ?_
    refine ax_e (e_bslice (rows := [key].map strRow) rfl (by decide) rfl rfl) ?_
    refine ax_call rfl (vcall_own (c_Insert_Str (xs := ks) (x := key) (i := posS ks key) posS_le (by omega)) hP hmv false (fun e => bif Nat.beq e 1000 then 13 else 37) [1000, 1001] ⟨rfl, rfl, rfl, rfl, ⟨rfl, rfl, trivial⟩, rfl, rfl, rfl⟩ (.pass rfl rfl (.pass rfl rfl (.pass rfl rfl .nil))) ?_)
    rintro r h ⟨rfl, rfl⟩
    refine ⟨(fun e => bif Nat.beq e 1000 then 13 else 37), [], ⟨rfl, rfl, rfl, rfl, mem2 rfl rfl, rfl, rfl, fun h => absurd h Bool.false_ne_true⟩, ?_⟩
    refine ax_wk (wk_frz 38 13 rfl rfl (.whole (by rw [List.length_map, insA_len posS_le])) rfl) ?_
    refine ax_call rfl (vc_pure (c_treeOf (ks := (insA ks (posS ks key) key)) ?_) hP rfl ?_)
    ·
     rw [insA_len posS_le]; omega
    rintro r h ⟨rfl, rfl⟩
    refine ⟨fun i => 39 + 200 * i, [0], ⟨rfl, rfl, rfl, rfl, rfl, (by first | exact (fun h => absurd h Bool.false_ne_true) | exact (fun _ => ⟨rfl, (noisl_of (by repeat (first | exact trivial | refine ⟨noisl_map (fun _ => rfl), ?_⟩ | refine ⟨?_, ?_⟩)))⟩))⟩, ?_⟩
    skip
    refine ax_e (e_st rfl rfl rfl rfl rfl rfl rfl) ?_
    refine ax_q (q_mov rfl) ?_
    refine ax_nil (cx_keep rfl rfl ?_)
    refine cx_ret (retN (fun _ => 0) [39] rfl rfl rfl rfl rfl ?_)
    rw [insF_3 h0 hks h1 (by omega)]
    refine ⟨?_, ?_⟩
    ·
     show _ = AV.tup [.agg [_, .osl 0 3 0 ((treeT (insA ks (posS ks key) key)).nodes.map embN).length], _]
     rw [List.length_map]; rfl
    ·
     show _ = [(0, OB.deep 3 (((treeT (insA ks (posS ks key) key)).nodes.map embN).map INode.row) [])]
     rw [emb_rows]; rfl


/- loop.example/g00332/laws.eqStringS -/
def k_c_eqStringS : XCode :=
 .seq (.ops [.op (some 4) (.mov (.k (.bool false)))])
 (.keep [0, 1] (.seq (.seq (.ops [.op (some 6) (.mov (.t 0)),
   .op (some 7) (.lenS (.t 6)),
   .op (some 8) (.mov (.t 1)),
   .op (some 9) (.lenS (.t 8)),
   .op (some 10) (.bin .neq (.t 7) (.t 9))])
  (.keep [0, 1, 10] (.cond (.t 10)
  (.seq (.ops [.op (some 4) (.mov (.k (.bool false)))])
   (.keep [4] (.ret)))
  (.skip))))
 (.keep [0, 1] (.seq (.seq (.ops [.op (some 5) (.mov (.k (.int .i64 0)))])
  (.keep [0, 1, 5] (.block 0 (.loop (.seq (.seq (.ops [.op (some 11) (.mov (.t 5)),
     .op (some 12) (.mov (.t 0)),
     .op (some 13) (.lenS (.t 12)),
     .op (some 14) (.bin .lss (.t 11) (.t 13))])
   (.keep [0, 1, 5, 14] (.cond (.t 14)
    (.skip)
    (.exit 0))))
   (.keep [0, 1, 5] (.seq (.block 1 (.seq (.draw [.op (some 17) (.mov (.t 0)),
     .op (some 18) (.mov (.t 5)),
     .op (some 19) (.iadr 1 (.t 17) (.t 18)),
     .op (some 20) (.load1 (.t 19)),
     .op (some 21) (.mov (.t 1)),
     .op (some 22) (.mov (.t 5)),
     .op (some 23) (.iadr 1 (.t 21) (.t 22)),
     .op (some 24) (.load1 (.t 23)),
     .op (some 25) (.bin .neq (.t 20) (.t 24))])
    (.keep [0, 1, 5, 25] (.cond (.t 25)
    (.seq (.ops [.op (some 4) (.mov (.k (.bool false)))])
     (.keep [4] (.ret)))
    (.skip)))))
   (.keep [0, 1, 5] (.ops [.op (some 15) (.mov (.t 5)),
    .op (some 16) (.bin .add (.t 15) (.k (.int .i64 1))),
    .op (some 5) (.mov (.t 16))])))))))))
 (.keep [] (.seq (.ops [.op (some 4) (.mov (.k (.bool true)))])
 (.keep [4] (.ret))))))))
theorem k_c_eqStringS_fits : fitsF Try.prog 61 ⟨26, k_c_eqStringS, [.t 4]⟩ = true := by kernel_rfl
theorem c_eqStringS {xs ys : List Str} (hw : xs.length ≤ 9223372036854775807) : Con Try.prog noMv 61 [.d (.sl 1 (xs.map strRow)), .d (.sl 1 (ys.map strRow))] [] (fun r h => r = bool (eqb xs ys) ∧ h = []) := by
 refine con_of2 k_c_eqStringS_fits rfl fun C hP hmv => ?_
 unfold k_c_eqStringS
 refine cx_seq (cx_ops ?_)
 refine ax_q (q_mov rfl) ?_
 refine ax_nil (cx_keep rfl rfl (cx_seq (cx_seq (cx_ops ?_))))
 refine ax_q (q_mov rfl) ?_
 refine ax_q (q_lenS_map rfl) ?_
 refine ax_q (q_mov rfl) ?_
 refine ax_q (q_lenS_map rfl) ?_
 refine ax_q (q_ibin rfl rfl rfl) ?_
 refine ax_nil (cx_keep rfl rfl ?_)
 refine cx_cond rfl (fun h0 => ?_) (fun h0 => ?_)
 ·
  have h0 := nT h0
  refine cx_seq (cx_ops ?_)
  refine ax_q (q_mov rfl) ?_
  refine ax_nil (cx_keep rfl rfl ?_)
  refine cx_ret (ret0 rfl rfl ?_)
  exact ⟨congrArg AM.bool (eqb_f (fun h => h0 (by rw [h]))).symm, rfl⟩
 ·
  have h0 := nF h0
  refine cx_skip ?_
  refine cx_keep rfl rfl (cx_seq (cx_seq (cx_ops ?_)))
  refine ax_q (q_mov rfl) ?_
  refine ax_nil (cx_keep rfl rfl (cx_block ?_))
  have hl : xs.length = ys.length := by omega
  refine cx_loopU (fun n k => k ≤ xs.length ∧ n = xs.length - k ∧ xs.take k = ys.take k) (fun k : Nat => [(5, int k)]) (fun _ => []) ⟨_, 0, ⟨Nat.zero_le _, rfl, rfl⟩, by repeat constructor⟩ ?_
  rintro n k ⟨hk, rfl, ht⟩
  refine cx_seq (cx_seq (cx_ops ?_))
  refine ax_q (q_mov rfl) ?_
  refine ax_q (q_mov rfl) ?_
  refine ax_q (q_lenS_map rfl) ?_
  refine ax_q (q_ibin rfl rfl rfl) ?_
  refine ax_nil (cx_keep rfl rfl ?_)
  refine cx_cond rfl (fun h1 => ?_) (fun h1 => ?_)
  ·
   have h1 := dT h1
   have h1x : k < xs.length := by omega
   have h1y : k < ys.length := by omega
   refine cx_skip ?_
   refine cx_keep rfl rfl (cx_seq (cx_block (cx_seq (cx_draw ?_))))
   refine ax_q (q_mov rfl) ?_
   refine ax_q (q_mov rfl) ?_
   refine ax_q (q_ix rfl rfl (mapAt h1x)) ?_
   first | refine ax_q (q_load1_ptr rfl rfl rfl) ?_ | refine ax_q (q_load1_ip rfl) ?_
   refine ax_q (q_mov rfl) ?_
   refine ax_q (q_mov rfl) ?_
   refine ax_q (q_ix rfl rfl (mapAt h1y)) ?_
   first | refine ax_q (q_load1_ptr rfl rfl rfl) ?_ | refine ax_q (q_load1_ip rfl) ?_
   refine ax_q (q_sbin rfl rfl rfl) ?_
   refine ax_nil (cx_keep rfl rfl ?_)
   refine cx_cond rfl (fun h2 => ?_) (fun h2 => ?_)
   ·
    have h2 := nT h2
    have h2 : xs[k] ≠ ys[k] := h2
    refine cx_seq (cx_ops ?_)
    refine ax_q (q_mov rfl) ?_
    refine ax_nil (cx_keep rfl rfl ?_)
    refine cx_ret (ret0 rfl rfl ?_)
    exact ⟨congrArg AM.bool (eqbL_no h1x h1y (eqb_f h2)).symm, rfl⟩
   ·
    have h2 := nF h2
    have h2 : xs[k] = ys[k] := h2
    refine cx_skip ?_
    refine cx_keep rfl rfl (cx_ops ?_)
    refine ax_q (q_mov rfl) ?_
    refine ax_q (q_add rfl rfl (by omega)) ?_
    refine ax_q (q_mov rfl) ?_
    refine ax_nil ?_
    exact ⟨_, k + 1, by omega, ⟨by omega, rfl, take_step h1x h1y ht h2⟩, by repeat constructor⟩
  ·
   have h1 := dF h1
   refine cx_exit rfl ?_
   refine cx_keep rfl rfl (cx_seq (cx_ops ?_))
   refine ax_q (q_mov rfl) ?_
   refine ax_nil (cx_keep rfl rfl ?_)
   refine cx_ret (ret0 rfl rfl ?_)
   exact ⟨congrArg AM.bool (eqb_t (eq_of_take hl (by rwa [show k = xs.length from by omega] at ht))).symm, rfl⟩


/- loop.example/g00332/laws.eqIntS -/
def k_c_eqIntS : XCode :=
 .seq (.ops [.op (some 4) (.mov (.k (.bool false)))])
 (.keep [0, 1] (.seq (.seq (.ops [.op (some 6) (.mov (.t 0)),
   .op (some 7) (.lenS (.t 6)),
   .op (some 8) (.mov (.t 1)),
   .op (some 9) (.lenS (.t 8)),
   .op (some 10) (.bin .neq (.t 7) (.t 9))])
  (.keep [0, 1, 10] (.cond (.t 10)
  (.seq (.ops [.op (some 4) (.mov (.k (.bool false)))])
   (.keep [4] (.ret)))
  (.skip))))
 (.keep [0, 1] (.seq (.seq (.ops [.op (some 5) (.mov (.k (.int .i64 0)))])
  (.keep [0, 1, 5] (.block 0 (.loop (.seq (.seq (.ops [.op (some 11) (.mov (.t 5)),
     .op (some 12) (.mov (.t 0)),
     .op (some 13) (.lenS (.t 12)),
     .op (some 14) (.bin .lss (.t 11) (.t 13))])
   (.keep [0, 1, 5, 14] (.cond (.t 14)
    (.skip)
    (.exit 0))))
   (.keep [0, 1, 5] (.seq (.block 1 (.seq (.draw [.op (some 17) (.mov (.t 0)),
     .op (some 18) (.mov (.t 5)),
     .op (some 19) (.iadr 1 (.t 17) (.t 18)),
     .op (some 20) (.load1 (.t 19)),
     .op (some 21) (.mov (.t 1)),
     .op (some 22) (.mov (.t 5)),
     .op (some 23) (.iadr 1 (.t 21) (.t 22)),
     .op (some 24) (.load1 (.t 23)),
     .op (some 25) (.bin .neq (.t 20) (.t 24))])
    (.keep [0, 1, 5, 25] (.cond (.t 25)
    (.seq (.ops [.op (some 4) (.mov (.k (.bool false)))])
     (.keep [4] (.ret)))
    (.skip)))))
   (.keep [0, 1, 5] (.ops [.op (some 15) (.mov (.t 5)),
    .op (some 16) (.bin .add (.t 15) (.k (.int .i64 1))),
    .op (some 5) (.mov (.t 16))])))))))))
 (.keep [] (.seq (.ops [.op (some 4) (.mov (.k (.bool true)))])
 (.keep [4] (.ret))))))))
theorem k_c_eqIntS_fits : fitsF Try.prog 62 ⟨26, k_c_eqIntS, [.t 4]⟩ = true := by kernel_rfl
theorem c_eqIntS {xs ys : List Int} (hw : xs.length ≤ 9223372036854775807) : Con Try.prog noMv 62 [.d (.sl 1 (xs.map intRow)), .d (.sl 1 (ys.map intRow))] [] (fun r h => r = bool (eqb xs ys) ∧ h = []) := by
 refine con_of2 k_c_eqIntS_fits rfl fun C hP hmv => ?_
 unfold k_c_eqIntS
 refine cx_seq (cx_ops ?_)
 refine ax_q (q_mov rfl) ?_
 refine ax_nil (cx_keep rfl rfl (cx_seq (cx_seq (cx_ops ?_))))
 refine ax_q (q_mov rfl) ?_
 refine ax_q (q_lenS_map rfl) ?_
 refine ax_q (q_mov rfl) ?_
 refine ax_q (q_lenS_map rfl) ?_
 refine ax_q (q_ibin rfl rfl rfl) ?_
 refine ax_nil (cx_keep rfl rfl ?_)
 refine cx_cond rfl (fun h0 => ?_) (fun h0 => ?_)
 ·
  have h0 := nT h0
  refine cx_seq (cx_ops ?_)
  refine ax_q (q_mov rfl) ?_
  refine ax_nil (cx_keep rfl rfl ?_)
  refine cx_ret (ret0 rfl rfl ?_)
  exact ⟨congrArg AM.bool (eqb_f (fun h => h0 (by rw [h]))).symm, rfl⟩
 ·
  have h0 := nF h0
  refine cx_skip ?_
  refine cx_keep rfl rfl (cx_seq (cx_seq (cx_ops ?_)))
  refine ax_q (q_mov rfl) ?_
  refine ax_nil (cx_keep rfl rfl (cx_block ?_))
  have hl : xs.length = ys.length := by omega
  refine cx_loopU (fun n k => k ≤ xs.length ∧ n = xs.length - k ∧ xs.take k = ys.take k) (fun k : Nat => [(5, int k)]) (fun _ => []) ⟨_, 0, ⟨Nat.zero_le _, rfl, rfl⟩, by repeat constructor⟩ ?_
  rintro n k ⟨hk, rfl, ht⟩
  refine cx_seq (cx_seq (cx_ops ?_))
  refine ax_q (q_mov rfl) ?_
  refine ax_q (q_mov rfl) ?_
  refine ax_q (q_lenS_map rfl) ?_
  refine ax_q (q_ibin rfl rfl rfl) ?_
  refine ax_nil (cx_keep rfl rfl ?_)
  refine cx_cond rfl (fun h1 => ?_) (fun h1 => ?_)
  ·
   have h1 := dT h1
   have h1x : k < xs.length := by omega
   have h1y : k < ys.length := by omega
   refine cx_skip ?_
   refine cx_keep rfl rfl (cx_seq (cx_block (cx_seq (cx_draw ?_))))
   refine ax_q (q_mov rfl) ?_
   refine ax_q (q_mov rfl) ?_
   refine ax_q (q_ix rfl rfl (mapAt h1x)) ?_
   first | refine ax_q (q_load1_ptr rfl rfl rfl) ?_ | refine ax_q (q_load1_ip rfl) ?_
   refine ax_q (q_mov rfl) ?_
   refine ax_q (q_mov rfl) ?_
   refine ax_q (q_ix rfl rfl (mapAt h1y)) ?_
   first | refine ax_q (q_load1_ptr rfl rfl rfl) ?_ | refine ax_q (q_load1_ip rfl) ?_
   refine ax_q (q_ibin rfl rfl rfl) ?_
   refine ax_nil (cx_keep rfl rfl ?_)
   refine cx_cond rfl (fun h2 => ?_) (fun h2 => ?_)
   ·
    have h2 := nT h2
    have h2 : xs[k] ≠ ys[k] := h2
    refine cx_seq (cx_ops ?_)
    refine ax_q (q_mov rfl) ?_
    refine ax_nil (cx_keep rfl rfl ?_)
    refine cx_ret (ret0 rfl rfl ?_)
    exact ⟨congrArg AM.bool (eqbL_no h1x h1y (eqb_f h2)).symm, rfl⟩
   ·
    have h2 := nF h2
    have h2 : xs[k] = ys[k] := h2
    refine cx_skip ?_
    refine cx_keep rfl rfl (cx_ops ?_)
    refine ax_q (q_mov rfl) ?_
    refine ax_q (q_add rfl rfl (by omega)) ?_
    refine ax_q (q_mov rfl) ?_
    refine ax_nil ?_
    exact ⟨_, k + 1, by omega, ⟨by omega, rfl, take_step h1x h1y ht h2⟩, by repeat constructor⟩
  ·
   have h1 := dF h1
   refine cx_exit rfl ?_
   refine cx_keep rfl rfl (cx_seq (cx_ops ?_))
   refine ax_q (q_mov rfl) ?_
   refine ax_nil (cx_keep rfl rfl ?_)
   refine cx_ret (ret0 rfl rfl ?_)
   exact ⟨congrArg AM.bool (eqb_t (eq_of_take hl (by rwa [show k = xs.length from by omega] at ht))).symm, rfl⟩


/- loop.example/g00332/laws.eqTreeNode -/
def k_c_eqTreeNode : XCode :=
 .seq (.ops [.op (some 2) (.box (.t 0)),
   .op (some 3) (.box (.t 1)),
   .op (some 4) (.mov (.k (.bool false)))])
 (.keep [2, 3] (.seq (.seq (.ops [.op (some 5) (.fadr (.t 2) 0),
   .op (some 6) (.load1 (.t 5)),
   .op (some 7) (.fadr (.t 3) 0),
   .op (some 8) (.load1 (.t 7)),
   .op (some 9) (.eqb true (.t 6) (.t 8))])
  (.keep [2, 3, 9] (.cond (.t 9)
  (.seq (.ops [.op (some 4) (.mov (.k (.bool false)))])
   (.keep [4] (.ret)))
  (.skip))))
 (.keep [2, 3] (.seq (.seq (.ops [.op (some 10) (.fadr (.t 2) 1),
   .op (some 11) (.load1 (.t 10)),
   .op (some 12) (.fadr (.t 3) 1),
   .op (some 13) (.load1 (.t 12)),
   .call (some 14) 61 [.t 11, .t 13],
   .op (some 15) (.not (.t 14))])
  (.keep [2, 3, 15] (.cond (.t 15)
  (.seq (.ops [.op (some 4) (.mov (.k (.bool false)))])
   (.keep [4] (.ret)))
  (.skip))))
 (.keep [2, 3] (.seq (.seq (.ops [.op (some 16) (.fadr (.t 2) 2),
   .op (some 17) (.load1 (.t 16)),
   .op (some 18) (.fadr (.t 3) 2),
   .op (some 19) (.load1 (.t 18)),
   .call (some 20) 62 [.t 17, .t 19],
   .op (some 21) (.not (.t 20))])
  (.keep [21] (.cond (.t 21)
  (.seq (.ops [.op (some 4) (.mov (.k (.bool false)))])
   (.keep [4] (.ret)))
  (.skip))))
 (.keep [] (.seq (.ops [.op (some 4) (.mov (.k (.bool true)))])
 (.keep [4] (.ret))))))))))
theorem k_c_eqTreeNode_fits : fitsF Try.prog 43 ⟨22, k_c_eqTreeNode, [.t 4]⟩ = true := by kernel_rfl
theorem c_eqTreeNode {a b : INode} (hw0 : a.Keys.length ≤ 9223372036854775807) (hw1 : a.Kids.length ≤ 9223372036854775807) : Con Try.prog noMv 43 [a.av, b.av] [] (fun r h => r = bool (eqb a b) ∧ h = []) := by
 refine con_of2 k_c_eqTreeNode_fits rfl fun C hP hmv => ?_
 unfold k_c_eqTreeNode
 refine cx_seq (cx_ops ?_)
 refine ax_e (e_box rfl rfl (by decide) rfl rfl rfl) ?_
 refine ax_e (e_box rfl rfl (by decide) rfl rfl rfl) ?_
 refine ax_q (q_mov rfl) ?_
 refine ax_nil (cx_keep rfl rfl (cx_seq (cx_seq (cx_ops ?_))))
 refine ax_q (q_fadr_ptr rfl) ?_
 refine ax_q (q_load1_ptr rfl rfl rfl) ?_
 refine ax_q (q_fadr_ptr rfl) ?_
 refine ax_q (q_load1_ptr rfl rfl rfl) ?_
 refine ax_q (q_eqb rfl rfl) ?_
 refine ax_nil (cx_keep rfl rfl ?_)
 refine cx_cond rfl (fun h0 => ?_) (fun h0 => ?_)
 ·
  have h0 := bneT h0
  refine cx_seq (cx_ops ?_)
  refine ax_q (q_mov rfl) ?_
  refine ax_nil (cx_keep rfl rfl ?_)
  refine cx_ret (ret0 rfl rfl ?_)
  exact ⟨congrArg AM.bool (eqb_f (fun h => h0 (by rw [h]))).symm, rfl⟩
 ·
  have h0 := bneF h0
  refine cx_skip ?_
  refine cx_keep rfl rfl (cx_seq (cx_seq (cx_ops ?_)))
  refine ax_q (q_fadr_ptr rfl) ?_
  refine ax_q (q_load1_ptr rfl rfl rfl) ?_
  refine ax_q (q_fadr_ptr rfl) ?_
  refine ax_q (q_load1_ptr rfl rfl rfl) ?_
  refine ax_call rfl (vc_pure0 (c_eqStringS  ?_) hP rfl rfl ?_)
  ·
   assumption
  refine ax_q (q_not rfl) ?_
  refine ax_nil (cx_keep rfl rfl ?_)
  refine cx_cond rfl (fun h1 => ?_) (fun h1 => ?_)
  ·
   have h1 := bT h1
   refine cx_seq (cx_ops ?_)
   refine ax_q (q_mov rfl) ?_
   refine ax_nil (cx_keep rfl rfl ?_)
   refine cx_ret (ret0 rfl rfl ?_)
   exact ⟨congrArg AM.bool (eqb_f (fun h => by rw [h, eqb_rfl] at h1; cases h1)).symm, rfl⟩
  ·
   have h1 := bF h1
   refine cx_skip ?_
   refine cx_keep rfl rfl (cx_seq (cx_seq (cx_ops ?_)))
   refine ax_q (q_fadr_ptr rfl) ?_
   refine ax_q (q_load1_ptr rfl rfl rfl) ?_
   refine ax_q (q_fadr_ptr rfl) ?_
   refine ax_q (q_load1_ptr rfl rfl rfl) ?_
   refine ax_call rfl (vc_pure0 (c_eqIntS  ?_) hP rfl rfl ?_)
   ·
    assumption
   refine ax_q (q_not rfl) ?_
   refine ax_nil (cx_keep rfl rfl ?_)
   refine cx_cond rfl (fun h2 => ?_) (fun h2 => ?_)
   ·
    have h2 := bT h2
    refine cx_seq (cx_ops ?_)
    refine ax_q (q_mov rfl) ?_
    refine ax_nil (cx_keep rfl rfl ?_)
    refine cx_ret (ret0 rfl rfl ?_)
    exact ⟨congrArg AM.bool (eqb_f (fun h => by rw [h, eqb_rfl] at h2; cases h2)).symm, rfl⟩
   ·
    have h2 := bF h2
    refine cx_skip ?_
    refine cx_keep rfl rfl (cx_seq (cx_ops ?_))
    refine ax_q (q_mov rfl) ?_
    refine ax_nil (cx_keep rfl rfl ?_)
    refine cx_ret (ret0 rfl rfl ?_)
    exact ⟨congrArg AM.bool (eqb_t (INode.ext1 h0 (eqb_iff.1 h1) (eqb_iff.1 h2))).symm, rfl⟩


/- loop.example/g00332/laws.eqTreeNodeS -/
def k_c_eqTreeNodeS : XCode :=
 .seq (.ops [.op (some 4) (.mov (.k (.bool false)))])
 (.keep [0, 1] (.seq (.seq (.ops [.op (some 6) (.mov (.t 0)),
   .op (some 7) (.lenS (.t 6)),
   .op (some 8) (.mov (.t 1)),
   .op (some 9) (.lenS (.t 8)),
   .op (some 10) (.bin .neq (.t 7) (.t 9))])
  (.keep [0, 1, 10] (.cond (.t 10)
  (.seq (.ops [.op (some 4) (.mov (.k (.bool false)))])
   (.keep [4] (.ret)))
  (.skip))))
 (.keep [0, 1] (.seq (.seq (.ops [.op (some 5) (.mov (.k (.int .i64 0)))])
  (.keep [0, 1, 5] (.block 0 (.loop (.seq (.seq (.ops [.op (some 11) (.mov (.t 5)),
     .op (some 12) (.mov (.t 0)),
     .op (some 13) (.lenS (.t 12)),
     .op (some 14) (.bin .lss (.t 11) (.t 13))])
   (.keep [0, 1, 5, 14] (.cond (.t 14)
    (.skip)
    (.exit 0))))
   (.keep [0, 1, 5] (.seq (.block 1 (.seq (.draw [.op (some 17) (.mov (.t 0)),
     .op (some 18) (.mov (.t 5)),
     .op (some 19) (.iadr 3 (.t 17) (.t 18)),
     .op (some 20) (.loadN 3 (.t 19)),
     .op (some 21) (.mov (.t 1)),
     .op (some 22) (.mov (.t 5)),
     .op (some 23) (.iadr 3 (.t 21) (.t 22)),
     .op (some 24) (.loadN 3 (.t 23)),
     .call (some 25) 43 [.t 20, .t 24],
     .op (some 26) (.not (.t 25))])
    (.keep [0, 1, 5, 26] (.cond (.t 26)
    (.seq (.ops [.op (some 4) (.mov (.k (.bool false)))])
     (.keep [4] (.ret)))
    (.skip)))))
   (.keep [0, 1, 5] (.ops [.op (some 15) (.mov (.t 5)),
    .op (some 16) (.bin .add (.t 15) (.k (.int .i64 1))),
    .op (some 5) (.mov (.t 16))])))))))))
 (.keep [] (.seq (.ops [.op (some 4) (.mov (.k (.bool true)))])
 (.keep [4] (.ret))))))))
theorem k_c_eqTreeNodeS_fits : fitsF Try.prog 23 ⟨27, k_c_eqTreeNodeS, [.t 4]⟩ = true := by kernel_rfl
theorem c_eqTreeNodeS {xs ys : List INode} (hw : xs.length ≤ 9223372036854775807) (hs : ∀ n ∈ xs, n.Keys.length ≤ 1048576 ∧ n.Kids.length ≤ 1048576) : Con Try.prog noMv 23 [.d (.sl 3 (xs.map INode.row)), .d (.sl 3 (ys.map INode.row))] [] (fun r h => r = bool (eqb xs ys) ∧ h = []) := by
 refine con_of2 k_c_eqTreeNodeS_fits rfl fun C hP hmv => ?_
 unfold k_c_eqTreeNodeS
 refine cx_seq (cx_ops ?_)
 refine ax_q (q_mov rfl) ?_
 refine ax_nil (cx_keep rfl rfl (cx_seq (cx_seq (cx_ops ?_))))
 refine ax_q (q_mov rfl) ?_
 refine ax_q (q_lenS_map rfl) ?_
 refine ax_q (q_mov rfl) ?_
 refine ax_q (q_lenS_map rfl) ?_
 refine ax_q (q_ibin rfl rfl rfl) ?_
 refine ax_nil (cx_keep rfl rfl ?_)
 refine cx_cond rfl (fun h0 => ?_) (fun h0 => ?_)
 ·
  have h0 := nT h0
  refine cx_seq (cx_ops ?_)
  refine ax_q (q_mov rfl) ?_
  refine ax_nil (cx_keep rfl rfl ?_)
  refine cx_ret (ret0 rfl rfl ?_)
  exact ⟨congrArg AM.bool (eqb_f (fun h => h0 (by rw [h]))).symm, rfl⟩
 ·
  have h0 := nF h0
  refine cx_skip ?_
  refine cx_keep rfl rfl (cx_seq (cx_seq (cx_ops ?_)))
  refine ax_q (q_mov rfl) ?_
  refine ax_nil (cx_keep rfl rfl (cx_block ?_))
  have hl : xs.length = ys.length := by omega
  refine cx_loopU (fun n k => k ≤ xs.length ∧ n = xs.length - k ∧ xs.take k = ys.take k) (fun k : Nat => [(5, int k)]) (fun _ => []) ⟨_, 0, ⟨Nat.zero_le _, rfl, rfl⟩, by repeat constructor⟩ ?_
  rintro n k ⟨hk, rfl, ht⟩
  refine cx_seq (cx_seq (cx_ops ?_))
  refine ax_q (q_mov rfl) ?_
  refine ax_q (q_mov rfl) ?_
  refine ax_q (q_lenS_map rfl) ?_
  refine ax_q (q_ibin rfl rfl rfl) ?_
  refine ax_nil (cx_keep rfl rfl ?_)
  refine cx_cond rfl (fun h1 => ?_) (fun h1 => ?_)
  ·
   have h1 := dT h1
   have h1x : k < xs.length := by omega
   have h1y : k < ys.length := by omega
   obtain ⟨hsk1, hsk2⟩ := hs _ (List.getElem_mem h1x)
   refine cx_skip ?_
   refine cx_keep rfl rfl (cx_seq (cx_block (cx_seq (cx_draw ?_))))
   refine ax_q (q_mov rfl) ?_
   refine ax_q (q_mov rfl) ?_
   refine ax_q (q_ix rfl rfl (mapAt h1x)) ?_
   first | refine ax_q (q_ldN rfl rfl rfl) ?_ | refine ax_q (q_loadN_ip rfl (Nat.le_refl _)) ?_
   refine ax_q (q_mov rfl) ?_
   refine ax_q (q_mov rfl) ?_
   refine ax_q (q_ix rfl rfl (mapAt h1y)) ?_
   first | refine ax_q (q_ldN rfl rfl rfl) ?_ | refine ax_q (q_loadN_ip rfl (Nat.le_refl _)) ?_
   refine ax_callq rfl (c_eqTreeNode (a := xs[k]) (b := ys[k]) ?_ ?_) hP (lal_id _ rfl) rfl ?_
   ·
    first | assumption | omega
   ·
    first | assumption | omega
   refine ax_q (q_not rfl) ?_
   refine ax_nil (cx_keep rfl rfl ?_)
   refine cx_cond rfl (fun h2 => ?_) (fun h2 => ?_)
   ·
    have h2 := bT h2
    refine cx_seq (cx_ops ?_)
    refine ax_q (q_mov rfl) ?_
    refine ax_nil (cx_keep rfl rfl ?_)
    refine cx_ret (ret0 rfl rfl ?_)
    exact ⟨congrArg AM.bool (eqbL_no h1x h1y h2).symm, rfl⟩
   ·
    have h2 := bF h2
    refine cx_skip ?_
    refine cx_keep rfl rfl (cx_ops ?_)
    refine ax_q (q_mov rfl) ?_
    refine ax_q (q_add rfl rfl (by omega)) ?_
    refine ax_q (q_mov rfl) ?_
    refine ax_nil ?_
    exact ⟨_, k + 1, by omega, ⟨by omega, rfl, eqbL_step h1x h1y ht h2⟩, by repeat constructor⟩
  ·
   have h1 := dF h1
   refine cx_exit rfl ?_
   refine cx_keep rfl rfl (cx_seq (cx_ops ?_))
   refine ax_q (q_mov rfl) ?_
   refine ax_nil (cx_keep rfl rfl ?_)
   refine cx_ret (ret0 rfl rfl ?_)
   exact ⟨congrArg AM.bool (eqb_t (eq_of_take hl (by rwa [show k = xs.length from by omega] at ht))).symm, rfl⟩


/- loop.example/g00332/laws.eqTree -/
def k_c_eqTree : XCode :=
 .seq (.ops [.op (some 2) (.box (.t 0)),
   .op (some 3) (.box (.t 1)),
   .op (some 4) (.mov (.k (.bool false)))])
 (.keep [2, 3] (.seq (.seq (.ops [.op (some 5) (.fadr (.t 2) 0),
   .op (some 6) (.load1 (.t 5)),
   .op (some 7) (.fadr (.t 3) 0),
   .op (some 8) (.load1 (.t 7)),
   .op (some 9) (.bin .neq (.t 6) (.t 8))])
  (.keep [2, 3, 9] (.cond (.t 9)
  (.seq (.ops [.op (some 4) (.mov (.k (.bool false)))])
   (.keep [4] (.ret)))
  (.skip))))
 (.keep [2, 3] (.seq (.seq (.ops [.op (some 10) (.fadr (.t 2) 1),
   .op (some 11) (.load1 (.t 10)),
   .op (some 12) (.fadr (.t 3) 1),
   .op (some 13) (.load1 (.t 12)),
   .call (some 14) 23 [.t 11, .t 13],
   .op (some 15) (.not (.t 14))])
  (.keep [15] (.cond (.t 15)
  (.seq (.ops [.op (some 4) (.mov (.k (.bool false)))])
   (.keep [4] (.ret)))
  (.skip))))
 (.keep [] (.seq (.ops [.op (some 4) (.mov (.k (.bool true)))])
 (.keep [4] (.ret))))))))
theorem k_c_eqTree_fits : fitsF Try.prog 9 ⟨16, k_c_eqTree, [.t 4]⟩ = true := by kernel_rfl
theorem c_eqTree {a b : ITree} (hw : a.Nodes.length ≤ 1048576) (hs : ∀ n ∈ a.Nodes, n.Keys.length ≤ 1048576 ∧ n.Kids.length ≤ 1048576) : Con Try.prog noMv 9 [a.av, b.av] [] (fun r h => r = bool (eqb a b) ∧ h = []) := by
 refine con_of2 k_c_eqTree_fits rfl fun C hP hmv => ?_
 unfold k_c_eqTree
 refine cx_seq (cx_ops ?_)
 refine ax_e (e_box rfl rfl (by decide) rfl rfl rfl) ?_
 refine ax_e (e_box rfl rfl (by decide) rfl rfl rfl) ?_
 refine ax_q (q_mov rfl) ?_
 refine ax_nil (cx_keep rfl rfl (cx_seq (cx_seq (cx_ops ?_))))
 refine ax_q (q_fadr_ptr rfl) ?_
 refine ax_q (q_load1_ptr rfl rfl rfl) ?_
 refine ax_q (q_fadr_ptr rfl) ?_
 refine ax_q (q_load1_ptr rfl rfl rfl) ?_
 refine ax_q (q_ibin rfl rfl rfl) ?_
 refine ax_nil (cx_keep rfl rfl ?_)
 refine cx_cond rfl (fun h0 => ?_) (fun h0 => ?_)
 ·
  have h0 := nT h0
  refine cx_seq (cx_ops ?_)
  refine ax_q (q_mov rfl) ?_
  refine ax_nil (cx_keep rfl rfl ?_)
  refine cx_ret (ret0 rfl rfl ?_)
  exact ⟨congrArg AM.bool (eqb_f (fun h => h0 (by rw [h]))).symm, rfl⟩
 ·
  have h0 := nF h0
  refine cx_skip ?_
  refine cx_keep rfl rfl (cx_seq (cx_seq (cx_ops ?_)))
  refine ax_q (q_fadr_ptr rfl) ?_
  refine ax_q (q_load1_ptr rfl rfl rfl) ?_
  refine ax_q (q_fadr_ptr rfl) ?_
  refine ax_q (q_load1_ptr rfl rfl rfl) ?_
  refine ax_call rfl (vc_pure0 (c_eqTreeNodeS  ?_ ?_) hP rfl rfl ?_)
  ·
   first | assumption | omega
  ·
   assumption
  refine ax_q (q_not rfl) ?_
  refine ax_nil (cx_keep rfl rfl ?_)
  refine cx_cond rfl (fun h1 => ?_) (fun h1 => ?_)
  ·
   have h1 := bT h1
   refine cx_seq (cx_ops ?_)
   refine ax_q (q_mov rfl) ?_
   refine ax_nil (cx_keep rfl rfl ?_)
   refine cx_ret (ret0 rfl rfl ?_)
   exact ⟨congrArg AM.bool (eqb_f (fun h => by rw [h, eqb_rfl] at h1; cases h1)).symm, rfl⟩
  ·
   have h1 := bF h1
   refine cx_skip ?_
   refine cx_keep rfl rfl (cx_seq (cx_ops ?_))
   refine ax_q (q_mov rfl) ?_
   refine ax_nil (cx_keep rfl rfl ?_)
   refine cx_ret (ret0 rfl rfl ?_)
   exact ⟨congrArg AM.bool (eqb_t (ITree.ext1 h0 (eqb_iff.1 h1))).symm, rfl⟩


/- loop.example/g00332/laws.markText -/
def k_c_markText : XCode :=
 .seq (.ops [.op (some 2) (.mov (.k (.str [])))])
 (.keep [0] (.seq (.seq (.ops [.op (some 4) (.mov (.t 0)),
   .op (some 5) (.bin .leq (.t 4) (.k (.int .i64 0)))])
  (.keep [0, 5] (.cond (.t 5)
  (.seq (.ops [.op (some 2) (.mov (.k (.str [109, 48])))])
   (.keep [2] (.ret)))
  (.skip))))
 (.keep [0] (.seq (.ops [.op (some 3) (.mov (.k (.str [])))])
 (.keep [0, 3] (.seq (.block 0 (.loop (.seq (.seq (.ops [.op (some 6) (.mov (.t 0)),
     .op (some 7) (.bin .gtr (.t 6) (.k (.int .i64 0)))])
   (.keep [0, 3, 7] (.cond (.t 7)
    (.skip)
    (.exit 0))))
   (.keep [0, 3] (.block 1 (.seq (.ops [.op (some 8) (.mov (.t 0)),
     .op (some 9) (.bin .rem (.t 8) (.k (.int .i64 10))),
     .op (some 10) (.bin .add (.k (.int .i64 48)) (.t 9)),
     .op (some 11) (.conv .u8 (.t 10)),
     .op (some 12) (.bslice 1 [.t 11]),
     .op (some 13) (.b2s (.t 12)),
     .op (some 14) (.mov (.t 3)),
     .op (some 15) (.bin .add (.t 13) (.t 14)),
     .op (some 3) (.mov (.t 15))])
   (.keep [0, 3] (.ops [.op (some 16) (.mov (.t 0)),
    .op (some 17) (.bin .quo (.t 16) (.k (.int .i64 10))),
    .op (some 0) (.mov (.t 17))]))))))))
 (.keep [3] (.seq (.ops [.op (some 18) (.mov (.t 3)),
   .op (some 19) (.bin .add (.k (.str [109])) (.t 18)),
   .op (some 2) (.mov (.t 19))])
 (.keep [2] (.ret))))))))))
theorem k_c_markText_fits : fitsF Try.prog 63 ⟨20, k_c_markText, [.t 2]⟩ = true := by kernel_rfl
theorem c_markText {k : Nat} (hk : k ≤ 1000000000000000000) : Con Try.prog noMv 63 [int k] [] (fun r h => r = str (mkT k) ∧ h = []) := by
 refine con_of2 k_c_markText_fits rfl fun C hP hmv => ?_
 unfold k_c_markText
 refine cx_seq (cx_ops ?_)
 refine ax_q (q_mov rfl) ?_
 refine ax_nil (cx_keep rfl rfl (cx_seq (cx_seq (cx_ops ?_))))
 refine ax_q (q_mov rfl) ?_
 refine ax_q (q_ibin rfl rfl rfl) ?_
 refine ax_nil (cx_keep rfl rfl ?_)
 refine cx_cond rfl (fun h1 => ?_) (fun h1 => ?_)
 ·
  have h1 : k = 0 := by have := of_decide_eq_true h1; omega
  refine cx_seq (cx_ops ?_)
  refine ax_q (q_mov rfl) ?_
  refine ax_nil (cx_keep rfl rfl ?_)
  refine cx_ret (ret0 rfl rfl ?_)
  exact ⟨by rw [mkT, if_pos h1]; rfl, rfl⟩
 ·
  have h1 : k ≠ 0 := by have := of_decide_eq_false h1; omega
  refine cx_skip ?_
  refine cx_keep rfl rfl (cx_seq (cx_ops ?_))
  refine ax_q (q_mov rfl) ?_
  refine ax_nil (cx_keep rfl rfl (cx_seq (cx_block ?_)))
  refine cx_loopU (fun n (p : Nat × Str) => n = p.1 ∧ ∃ f, digs f p.1 p.2 = digs 20 k [] ∧ p.1 < 10 ^ f ∧ f + p.2.length ≤ 20 ∧ p.1 ≤ k) (fun p => [(0, int p.1), (3, str p.2)]) (fun _ => []) ⟨_, (k, []), ⟨rfl, 20, rfl, by omega, by simp, Nat.le_refl _⟩, by repeat constructor⟩ ?_
  rintro m ⟨m2, o⟩ ⟨rfl, f, hd, hm, hf, hmk⟩
  simp only at hd hm hf hmk ⊢
  refine cx_seq (cx_seq (cx_ops ?_))
  refine ax_q (q_mov rfl) ?_
  refine ax_q (q_ibin rfl rfl rfl) ?_
  refine ax_nil (cx_keep rfl rfl ?_)
  refine cx_cond rfl (fun h2 => ?_) (fun h2 => ?_)
  ·
   have h2 : 0 < m := by have := of_decide_eq_true h2; omega
   obtain ⟨f, rfl⟩ : ∃ g, f = g + 1 := ⟨f - 1, by cases f with
    | zero => simp at hm; omega
    | succ f => rfl⟩
   have hd2 : ∃ f', digs f' (m / 10) (UInt8.ofNat (48 + m % 10) :: o) = digs 20 k [] ∧ m / 10 < 10 ^ f' ∧ f' + (UInt8.ofNat (48 + m % 10) :: o).length ≤ 20 ∧ m / 10 ≤ k := ⟨f, by rw [← hd, digs, if_neg (by omega)], by rw [Nat.pow_succ] at hm; omega, by simp only [List.length_cons]; omega, by omega⟩
   refine cx_skip ?_
   refine cx_keep rfl rfl (cx_block (cx_seq (cx_ops ?_)))
   refine ax_q (q_mov rfl) ?_
   refine ax_qe (r' := int ((m % 10 : Nat) : Int)) (q_idiv rfl rfl rfl (by decide)) (by rw [Int.tmod_eq_emod_of_nonneg (by omega)]; rfl) ?_
   refine ax_qe (r' := int ((48 + m % 10 : Nat) : Int)) (q_ibin rfl rfl rfl) (by rw [wi (by omega) (by omega)]; rfl) ?_
   refine ax_qe (r' := .d (.int .u8 ((UInt8.ofNat (48 + m % 10)).toNat : Int))) (q_conv rfl) (by rw [byteConv (by omega)]) ?_
   refine ax_e (e_bslice rfl (by decide) rfl rfl) ?_
   refine ax_q (q_b2s (bs := [UInt8.ofNat (48 + m % 10)]) rfl (src_osl rfl (by simp)) (by simp [byteRow]) ⟨_, _, _, _, .inl rfl⟩) ?_
   refine ax_q (q_mov rfl) ?_
   refine ax_qe (r' := str (UInt8.ofNat (48 + m % 10) :: o)) (q_sbin_add rfl rfl (by simp; omega)) (rfl) ?_
   refine ax_q (q_mov rfl) ?_
   refine ax_nil (cx_keep rfl rfl (cx_ops ?_))
   refine ax_q (q_mov rfl) ?_
   refine ax_qe (r' := int ((m / 10 : Nat) : Int)) (q_idiv rfl rfl rfl (by decide)) (by rw [Int.tdiv_eq_ediv_of_nonneg (by omega), wi (by omega) (by omega)]; rfl) ?_
   refine ax_q (q_mov rfl) ?_
   refine ax_nil ?_
   exact ⟨_, (m / 10, UInt8.ofNat (48 + m % 10) :: o), by simp only; omega, ⟨rfl, hd2⟩, by repeat constructor⟩
  ·
   have h2 : m = 0 := by have := of_decide_eq_false h2; omega
   refine cx_exit rfl ?_
   refine cx_keep rfl rfl (cx_seq (cx_ops ?_))
   refine ax_q (q_mov rfl) ?_
   refine ax_q (q_sbin_add rfl rfl (by simp; omega)) ?_
   refine ax_q (q_mov rfl) ?_
   refine ax_nil (cx_keep rfl rfl ?_)
   refine cx_ret (ret0 rfl rfl ?_)
   exact ⟨by subst h2; rw [digs0] at hd; rw [hd, mkT, if_neg h1]; rfl, rfl⟩


/- loop.example/g00332/laws.markStringS -/
def k_c_markStringS : XCode :=
 .seq (.ops [.op (some 4) (.mov (.k (.int .i64 0)))])
 (.keep [0, 1] (.seq (.seq (.ops [.op (some 5) (.mov (.k (.int .i64 0)))])
  (.keep [0, 1, 5] (.block 0 (.loop (.seq (.seq (.ops [.op (some 6) (.mov (.t 5)),
     .op (some 7) (.mov (.t 0)),
     .op (some 8) (.lenS (.t 7)),
     .op (some 9) (.bin .lss (.t 6) (.t 8))])
   (.keep [0, 1, 5, 9] (.cond (.t 9)
    (.skip)
    (.exit 0))))
   (.keep [0, 1, 5] (.seq (.block 1 (.seq (.ops [.op (some 12) (.mov (.t 0)),
     .op (some 13) (.mov (.t 5)),
     .op (some 14) (.mov (.t 1)),
     .call (some 15) 63 [.t 14],
     .op (some 16) (.iadr 1 (.t 12) (.t 13)),
     .op none (.store 1 (.t 16) (.t 15))])
    (.keep [0, 1, 5] (.ops [.op (some 17) (.mov (.t 1)),
     .op (some 18) (.bin .add (.t 17) (.k (.int .i64 1))),
     .op (some 1) (.mov (.t 18))]))))
   (.keep [0, 1, 5] (.ops [.op (some 10) (.mov (.t 5)),
    .op (some 11) (.bin .add (.t 10) (.k (.int .i64 1))),
    .op (some 5) (.mov (.t 11))])))))))))
 (.keep [1] (.seq (.ops [.op (some 19) (.mov (.t 1)),
   .op (some 4) (.mov (.t 19))])
 (.keep [4] (.ret))))))
theorem k_c_markStringS_fits : fitsF Try.prog 44 ⟨20, k_c_markStringS, [.t 4]⟩ = true := by kernel_rfl
theorem c_markStringS {xs : List Str} {k0 : Nat} (hw : k0 + 1 * xs.length ≤ 1000000000000000000) : Con Try.prog noMv 44 [.osl 1000 1 0 xs.length, int k0] [(1000, .rows 1 (xs.map strRow))] (fun r h => r = int ((k0 + 1 * xs.length : Nat) : Int) ∧ h = [(1000, .rows 1 ((markL (fun k _ => mkT k) 1 k0 xs).map strRow))]) := by
 refine con_of2 k_c_markStringS_fits rfl fun C hP hmv => ?_
 unfold k_c_markStringS
 refine cx_seq (cx_ops ?_)
 refine ax_q (q_mov rfl) ?_
 refine ax_nil (cx_keep rfl rfl (cx_seq (cx_seq (cx_ops ?_))))
 refine ax_q (q_mov rfl) ?_
 refine ax_nil (cx_keep rfl rfl (cx_block ?_))
 refine cx_loopU (fun n k => k ≤ xs.length ∧ n = xs.length - k) (fun k : Nat => [(1, int ((k0 + 1 * k : Nat) : Int)), (5, int k)]) (fun k => [(1000, .rows 1 ((markL (fun k _ => mkT k) 1 k0 (xs.take k) ++ xs.drop k).map strRow))]) ⟨_, 0, ⟨Nat.zero_le _, rfl⟩, by repeat constructor⟩ ?_
 rintro n k ⟨hk, rfl⟩
 refine cx_seq (cx_seq (cx_ops ?_))
 refine ax_q (q_mov rfl) ?_
 refine ax_q (q_mov rfl) ?_
 first | refine ax_q (q_lenS_map rfl) ?_ | refine ax_q (q_lenS_osl rfl) ?_
 refine ax_q (q_ibin rfl rfl rfl) ?_
 refine ax_nil (cx_keep rfl rfl ?_)
 refine cx_cond rfl (fun h0 => ?_) (fun h0 => ?_)
 ·
  have h0 := dT h0
  have h1x : k < xs.length := by omega
  have h1l : k < ((markL (fun k _ => mkT k) 1 k0 (xs.take k) ++ xs.drop k).map strRow).length := by rw [markL_mlen]; exact h1x
  refine cx_skip ?_
  refine cx_keep rfl rfl (cx_seq (cx_block (cx_seq (cx_ops ?_))))
  refine ax_q (q_mov rfl) ?_
  refine ax_q (q_mov rfl) ?_
  refine ax_q (q_mov rfl) ?_
  refine ax_call rfl (vc_pure0 (c_markText (by omega)) hP rfl rfl ?_)
  refine ax_q (q_ixo rfl rfl h1x) ?_
  refine ax_e (e_str (q := strRow ((fun k _ => mkT k) (k0 + 1 * k) xs[k])) rfl rfl rfl rfl rfl rfl (markL_at h1x) rfl rfl (markL_set h1x)) ?_
  refine ax_nil (cx_keep rfl rfl (cx_ops ?_))
  refine ax_q (q_mov rfl) ?_
  refine ax_qe (r' := int ((k0 + 1 * k + 1 : Nat) : Int)) (q_ibin rfl rfl rfl) (by rw [wi (by omega) (by omega)]; rfl) ?_
  refine ax_q (q_mov rfl) ?_
  refine ax_nil (cx_keep rfl rfl (cx_ops ?_))
  refine ax_q (q_mov rfl) ?_
  refine ax_qe (r' := int ((k + 1 : Nat) : Int)) (q_ibin rfl rfl rfl) (by rw [wi (by omega) (by omega)]; rfl) ?_
  refine ax_q (q_mov rfl) ?_
  refine ax_nil ?_
  exact ⟨_, k + 1, by omega, ⟨by omega, rfl⟩, by repeat constructor⟩
 ·
  have h0 := dF h0
  refine cx_exit rfl ?_
  refine cx_keep rfl rfl (cx_seq (cx_ops ?_))
  refine ax_q (q_mov rfl) ?_
  refine ax_q (q_mov rfl) ?_
  refine ax_nil (cx_keep rfl rfl ?_)
  have hk2 : k = xs.length := by omega
  subst hk2
  refine cx_ret (retN id [1000] rfl rfl rfl rfl rfl ?_)
  exact ⟨rfl, by rw [markL_full]; rfl⟩


/- loop.example/g00332/laws.markIntS -/
def k_c_markIntS : XCode :=
 .seq (.ops [.op (some 4) (.mov (.k (.int .i64 0)))])
 (.keep [0, 1] (.seq (.seq (.ops [.op (some 5) (.mov (.k (.int .i64 0)))])
  (.keep [0, 1, 5] (.block 0 (.loop (.seq (.seq (.ops [.op (some 6) (.mov (.t 5)),
     .op (some 7) (.mov (.t 0)),
     .op (some 8) (.lenS (.t 7)),
     .op (some 9) (.bin .lss (.t 6) (.t 8))])
   (.keep [0, 1, 5, 9] (.cond (.t 9)
    (.skip)
    (.exit 0))))
   (.keep [0, 1, 5] (.seq (.block 1 (.seq (.ops [.op (some 12) (.mov (.t 0)),
     .op (some 13) (.mov (.t 5)),
     .op (some 14) (.mov (.t 1)),
     .op (some 15) (.iadr 1 (.t 12) (.t 13)),
     .op none (.store 1 (.t 15) (.t 14))])
    (.keep [0, 1, 5] (.ops [.op (some 16) (.mov (.t 1)),
     .op (some 17) (.bin .add (.t 16) (.k (.int .i64 1))),
     .op (some 1) (.mov (.t 17))]))))
   (.keep [0, 1, 5] (.ops [.op (some 10) (.mov (.t 5)),
    .op (some 11) (.bin .add (.t 10) (.k (.int .i64 1))),
    .op (some 5) (.mov (.t 11))])))))))))
 (.keep [1] (.seq (.ops [.op (some 18) (.mov (.t 1)),
   .op (some 4) (.mov (.t 18))])
 (.keep [4] (.ret))))))
theorem k_c_markIntS_fits : fitsF Try.prog 45 ⟨19, k_c_markIntS, [.t 4]⟩ = true := by kernel_rfl
theorem c_markIntS {xs : List Int} {k0 : Nat} (hw : k0 + 1 * xs.length ≤ 1000000000000000000) : Con Try.prog noMv 45 [.osl 1000 1 0 xs.length, int k0] [(1000, .rows 1 (xs.map intRow))] (fun r h => r = int ((k0 + 1 * xs.length : Nat) : Int) ∧ h = [(1000, .rows 1 ((markL (fun k _ => (k : Int)) 1 k0 xs).map intRow))]) := by
 refine con_of2 k_c_markIntS_fits rfl fun C hP hmv => ?_
 unfold k_c_markIntS
 refine cx_seq (cx_ops ?_)
 refine ax_q (q_mov rfl) ?_
 refine ax_nil (cx_keep rfl rfl (cx_seq (cx_seq (cx_ops ?_))))
 refine ax_q (q_mov rfl) ?_
 refine ax_nil (cx_keep rfl rfl (cx_block ?_))
 refine cx_loopU (fun n k => k ≤ xs.length ∧ n = xs.length - k) (fun k : Nat => [(1, int ((k0 + 1 * k : Nat) : Int)), (5, int k)]) (fun k => [(1000, .rows 1 ((markL (fun k _ => (k : Int)) 1 k0 (xs.take k) ++ xs.drop k).map intRow))]) ⟨_, 0, ⟨Nat.zero_le _, rfl⟩, by repeat constructor⟩ ?_
 rintro n k ⟨hk, rfl⟩
 refine cx_seq (cx_seq (cx_ops ?_))
 refine ax_q (q_mov rfl) ?_
 refine ax_q (q_mov rfl) ?_
 first | refine ax_q (q_lenS_map rfl) ?_ | refine ax_q (q_lenS_osl rfl) ?_
 refine ax_q (q_ibin rfl rfl rfl) ?_
 refine ax_nil (cx_keep rfl rfl ?_)
 refine cx_cond rfl (fun h0 => ?_) (fun h0 => ?_)
 ·
  have h0 := dT h0
  have h1x : k < xs.length := by omega
  have h1l : k < ((markL (fun k _ => (k : Int)) 1 k0 (xs.take k) ++ xs.drop k).map intRow).length := by rw [markL_mlen]; exact h1x
  refine cx_skip ?_
  refine cx_keep rfl rfl (cx_seq (cx_block (cx_seq (cx_ops ?_))))
  refine ax_q (q_mov rfl) ?_
  refine ax_q (q_mov rfl) ?_
  refine ax_q (q_mov rfl) ?_
  refine ax_q (q_ixo rfl rfl h1x) ?_
  refine ax_e (e_str (q := intRow ((fun k _ => (k : Int)) (k0 + 1 * k) xs[k])) rfl rfl rfl rfl rfl rfl (markL_at h1x) rfl rfl (markL_set h1x)) ?_
  refine ax_nil (cx_keep rfl rfl (cx_ops ?_))
  refine ax_q (q_mov rfl) ?_
  refine ax_qe (r' := int ((k0 + 1 * k + 1 : Nat) : Int)) (q_ibin rfl rfl rfl) (by rw [wi (by omega) (by omega)]; rfl) ?_
  refine ax_q (q_mov rfl) ?_
  refine ax_nil (cx_keep rfl rfl (cx_ops ?_))
  refine ax_q (q_mov rfl) ?_
  refine ax_qe (r' := int ((k + 1 : Nat) : Int)) (q_ibin rfl rfl rfl) (by rw [wi (by omega) (by omega)]; rfl) ?_
  refine ax_q (q_mov rfl) ?_
  refine ax_nil ?_
  exact ⟨_, k + 1, by omega, ⟨by omega, rfl⟩, by repeat constructor⟩
 ·
  have h0 := dF h0
  refine cx_exit rfl ?_
  refine cx_keep rfl rfl (cx_seq (cx_ops ?_))
  refine ax_q (q_mov rfl) ?_
  refine ax_q (q_mov rfl) ?_
  refine ax_nil (cx_keep rfl rfl ?_)
  have hk2 : k = xs.length := by omega
  subst hk2
  refine cx_ret (retN id [1000] rfl rfl rfl rfl rfl ?_)
  exact ⟨rfl, by rw [markL_full]; rfl⟩


/- loop.example/g00332/laws.markTreeNodeS -/
def k_c_markTreeNodeS : XCode :=
 .seq (.ops [.op (some 4) (.mov (.k (.int .i64 0)))])
 (.keep [0, 1] (.seq (.seq (.ops [.op (some 5) (.mov (.k (.int .i64 0)))])
  (.keep [0, 1, 5] (.block 0 (.loop (.seq (.seq (.ops [.op (some 6) (.mov (.t 5)),
     .op (some 7) (.mov (.t 0)),
     .op (some 8) (.lenS (.t 7)),
     .op (some 9) (.bin .lss (.t 6) (.t 8))])
   (.keep [0, 1, 5, 9] (.cond (.t 9)
    (.skip)
    (.exit 0))))
   (.keep [0, 1, 5] (.seq (.block 1 (.seq (.ops [.op (some 12) (.mov (.t 0)),
     .op (some 13) (.mov (.t 5)),
     .op (some 14) (.mov (.t 1)),
     .op (some 15) (.bin .rem (.t 14) (.k (.int .i64 3))),
     .op (some 16) (.bin .eql (.t 15) (.k (.int .i64 0))),
     .op (some 17) (.iadr 3 (.t 12) (.t 13)),
     .op (some 18) (.fadr (.t 17) 0),
     .op none (.store 1 (.t 18) (.t 16))])
    (.keep [0, 1, 5] (.seq (.ops [.op (some 19) (.mov (.t 1)),
     .op (some 20) (.bin .add (.t 19) (.k (.int .i64 1))),
     .op (some 1) (.mov (.t 20))])
    (.keep [0, 1, 5] (.seq (.ops [.op (some 21) (.mov (.t 0)),
     .op (some 22) (.mov (.t 5)),
     .op (some 23) (.iadr 3 (.t 21) (.t 22)),
     .op (some 24) (.fadr (.t 23) 1),
     .op (some 25) (.load1 (.t 24)),
     .op (some 26) (.mov (.t 1)),
     .call (some 27) 44 [.t 25, .t 26],
     .op (some 1) (.mov (.t 27))])
    (.keep [0, 1, 5] (.ops [.op (some 28) (.mov (.t 0)),
     .op (some 29) (.mov (.t 5)),
     .op (some 30) (.iadr 3 (.t 28) (.t 29)),
     .op (some 31) (.fadr (.t 30) 2),
     .op (some 32) (.load1 (.t 31)),
     .op (some 33) (.mov (.t 1)),
     .call (some 34) 45 [.t 32, .t 33],
     .op (some 1) (.mov (.t 34))]))))))))
   (.keep [0, 1, 5] (.ops [.op (some 10) (.mov (.t 5)),
    .op (some 11) (.bin .add (.t 10) (.k (.int .i64 1))),
    .op (some 5) (.mov (.t 11))])))))))))
 (.keep [1] (.seq (.ops [.op (some 35) (.mov (.t 1)),
   .op (some 4) (.mov (.t 35))])
 (.keep [4] (.ret))))))
theorem k_c_markTreeNodeS_fits : fitsF Try.prog 24 ⟨36, k_c_markTreeNodeS, [.t 4]⟩ = true := by kernel_rfl
set_option maxHeartbeats 4000000 in
theorem c_markTreeNodeS {xs : List INode} {k0 : Nat} (hw : cntN k0 xs ≤ 1000000000000000000) : Con Try.prog noMv 24 [.osl 1000 3 0 xs.length, int k0] [(1000, .deep 3 (xs.map INode.row) [])] (fun r h => r = int ((cntN k0 xs : Nat) : Int) ∧ h = [(1000, .deep 3 ((mkNs k0 xs).map INode.row) [])]) := by
 refine con_of2 k_c_markTreeNodeS_fits rfl fun C hP hmv => ?_
 unfold k_c_markTreeNodeS
 have hge := @cntN_ge k0 xs
 refine cx_seq (cx_ops ?_)
 refine ax_q (q_mov rfl) ?_
 refine ax_nil (cx_keep rfl rfl (cx_seq (cx_seq (cx_ops ?_))))
 refine ax_q (q_mov rfl) ?_
 refine ax_nil (cx_keep rfl rfl (cx_block ?_))
 refine cx_loopU (fun n k => k ≤ xs.length ∧ n = xs.length - k) (fun k : Nat => [(5, int k), (1, int ((cntN k0 (xs.take k) : Nat) : Int))]) (fun k => [(1000, .deep 3 (((mkNs k0 (xs.take k)).map INode.row) ++ (xs.drop k).map INode.row) [])]) ⟨_, 0, ⟨Nat.zero_le _, rfl⟩, by repeat constructor⟩ ?_
 rintro n k ⟨hk, rfl⟩
 have hpl : ((mkNs k0 (xs.take k)).map INode.row).length = k := by rw [List.length_map, mkNs_len, List.length_take]; omega
 refine cx_seq (cx_seq (cx_ops ?_))
 refine ax_q (q_mov rfl) ?_
 refine ax_q (q_mov rfl) ?_
 first | refine ax_q (q_lenS_map rfl) ?_ | refine ax_q (q_lenS_osl rfl) ?_
 refine ax_q (q_ibin rfl rfl rfl) ?_
 refine ax_nil (cx_keep rfl rfl ?_)
 refine cx_cond rfl (fun h0 => ?_) (fun h0 => ?_)
 ·
  have h0 := dT h0
  have h1x : k < xs.length := by omega
  have hle := @cntN_le k0 (k + 1) xs
  have ec9 : cntN k0 (xs.take (k + 1)) = cntN k0 (xs.take k) + 1 + 1 * xs[k].Keys.length + 1 * xs[k].Kids.length := by rw [cntN_s h1x]; omega
  rw [List.drop_eq_getElem_cons h1x, List.map_cons]
  refine cx_skip ?_
  refine cx_keep rfl rfl (cx_seq (cx_block (cx_seq (cx_ops ?_))))
  refine ax_q (q_mov rfl) ?_
  refine ax_q (q_mov rfl) ?_
  refine ax_q (q_mov rfl) ?_
  refine ax_q (q_mod rfl rfl (by omega) (by omega)) ?_
  refine ax_q (q_ibin rfl rfl rfl) ?_
  refine ax_q (q_ixo rfl rfl h1x) ?_
  first | refine ax_q (q_fadr_ptr rfl) ?_ | refine ax_q (q_fadr_rptr rfl) ?_
  refine ax_e (e_strDf (row := [.bool xs[k].Leaf, .sl 1 (xs[k].Keys.map strRow), .sl 1 (xs[k].Kids.map intRow)]) (rs' := ((mkNs k0 (xs.take k)).map INode.row) ++ [.bool (decide (((cntN k0 (xs.take k) : Nat) : Int) % 3 = 0)), .sl 1 (xs[k].Keys.map strRow), .sl 1 (xs[k].Kids.map intRow)] :: ((xs.drop (k + 1)).map INode.row)) rfl rfl rfl rfl rfl (mid_get hpl) rfl (mid_set hpl)) ?_
  refine ax_nil (cx_keep rfl rfl (cx_seq (cx_ops ?_)))
  refine ax_q (q_mov rfl) ?_
  refine ax_qe (r' := int ((cntN k0 (xs.take k) + 1 : Nat) : Int)) (q_ibin rfl rfl rfl) (by rw [wi (by omega) (by omega)]; exact congrArg AM.int (by omega)) ?_
  refine ax_q (q_mov rfl) ?_
  refine ax_nil (cx_keep rfl rfl (cx_seq (cx_ops ?_)))
  refine ax_q (q_mov rfl) ?_
  refine ax_q (q_mov rfl) ?_
  refine ax_q (q_ixo rfl rfl h1x) ?_
  first | refine ax_q (q_fadr_ptr rfl) ?_ | refine ax_q (q_fadr_rptr rfl) ?_
  refine ax_wk (wk_open 1000 900 k 1 (row := [.bool (decide (((cntN k0 (xs.take k) : Nat) : Int) % 3 = 0)), .sl 1 (xs[k].Keys.map strRow), .sl 1 (xs[k].Kids.map intRow)]) (xs := xs[k].Keys.map strRow) rfl (mid_get hpl) rfl rfl rfl rfl rfl rfl) ?_
  refine ax_qe (r' := .osl 900 1 0 xs[k].Keys.length) (q_load1_hole (r := [.bool (decide (((cntN k0 (xs.take k) : Nat) : Int) % 3 = 0)), .sl 1 (xs[k].Keys.map strRow), .sl 1 (xs[k].Kids.map intRow)]) rfl rfl (mid_get hpl) rfl (by rw [hole_cons, if_pos ⟨rfl, rfl⟩])) (by rw [List.length_map]) ?_
  refine ax_q (q_mov rfl) ?_
  refine ax_call rfl (vcall_own (c_markStringS (xs := xs[k].Keys) (k0 := cntN k0 (xs.take k) + 1) (by omega)) hP hmv false (fun _ => 900) [1000] ⟨rfl, rfl, rfl, rfl, ⟨rfl, trivial⟩, rfl, rfl, rfl⟩ (.pass rfl rfl (.pass rfl rfl .nil)) ?_)
  rintro r h ⟨rfl, rfl⟩
  refine ⟨fun _ => 900, [], ⟨rfl, rfl, rfl, rfl, mem1 rfl, rfl, rfl, fun h => by cases h⟩, ?_⟩
  refine ax_wk (wk_closeE 1000 900 k 1 (row := [.bool (decide (((cntN k0 (xs.take k) : Nat) : Int) % 3 = 0)), .sl 1 (xs[k].Keys.map strRow), .sl 1 (xs[k].Kids.map intRow)]) (xs := xs[k].Keys.map strRow) (ys := (markL (fun k _ => mkT k) 1 (cntN k0 (xs.take k) + 1) xs[k].Keys).map strRow) (hs := []) (rs' := ((mkNs k0 (xs.take k)).map INode.row) ++ [.bool (decide (((cntN k0 (xs.take k) : Nat) : Int) % 3 = 0)), .sl 1 ((markL (fun k _ => mkT k) 1 (cntN k0 (xs.take k) + 1) xs[k].Keys).map strRow), .sl 1 (xs[k].Kids.map intRow)] :: ((xs.drop (k + 1)).map INode.row)) rfl rfl (mid_get hpl) rfl (by rw [List.length_map, List.length_map, markL_len]) (flat_map (fun _ => rfl)) rfl rfl rfl (mid_set hpl)) ?_
  refine ax_q (q_mov rfl) ?_
  refine ax_nil (cx_keep rfl rfl (cx_ops ?_))
  refine ax_q (q_mov rfl) ?_
  refine ax_q (q_mov rfl) ?_
  refine ax_q (q_ixo rfl rfl h1x) ?_
  first | refine ax_q (q_fadr_ptr rfl) ?_ | refine ax_q (q_fadr_rptr rfl) ?_
  refine ax_wk (wk_open 1000 901 k 2 (row := [.bool (decide (((cntN k0 (xs.take k) : Nat) : Int) % 3 = 0)), .sl 1 ((markL (fun k _ => mkT k) 1 (cntN k0 (xs.take k) + 1) xs[k].Keys).map strRow), .sl 1 (xs[k].Kids.map intRow)]) (xs := xs[k].Kids.map intRow) rfl (mid_get hpl) rfl rfl rfl rfl rfl rfl) ?_
  refine ax_qe (r' := .osl 901 1 0 xs[k].Kids.length) (q_load1_hole (r := [.bool (decide (((cntN k0 (xs.take k) : Nat) : Int) % 3 = 0)), .sl 1 ((markL (fun k _ => mkT k) 1 (cntN k0 (xs.take k) + 1) xs[k].Keys).map strRow), .sl 1 (xs[k].Kids.map intRow)]) rfl rfl (mid_get hpl) rfl (by rw [hole_cons, if_pos ⟨rfl, rfl⟩])) (by rw [List.length_map]) ?_
  refine ax_q (q_mov rfl) ?_
  refine ax_call rfl (vcall_own (c_markIntS (xs := xs[k].Kids) (k0 := cntN k0 (xs.take k) + 1 + 1 * xs[k].Keys.length) (by omega)) hP hmv false (fun _ => 901) [1000] ⟨rfl, rfl, rfl, rfl, ⟨rfl, trivial⟩, rfl, rfl, rfl⟩ (.pass rfl rfl (.pass rfl rfl .nil)) ?_)
  rintro r h ⟨rfl, rfl⟩
  refine ⟨fun _ => 901, [], ⟨rfl, rfl, rfl, rfl, mem1 rfl, rfl, rfl, fun h => by cases h⟩, ?_⟩
  refine ax_wk (wk_closeE 1000 901 k 2 (row := [.bool (decide (((cntN k0 (xs.take k) : Nat) : Int) % 3 = 0)), .sl 1 ((markL (fun k _ => mkT k) 1 (cntN k0 (xs.take k) + 1) xs[k].Keys).map strRow), .sl 1 (xs[k].Kids.map intRow)]) (xs := xs[k].Kids.map intRow) (ys := (markL (fun k _ => (k : Int)) 1 (cntN k0 (xs.take k) + 1 + 1 * xs[k].Keys.length) xs[k].Kids).map intRow) (hs := []) (rs' := (mkNs k0 (xs.take (k + 1))).map INode.row ++ ((xs.drop (k + 1)).map INode.row)) rfl rfl (mid_get hpl) rfl (by rw [List.length_map, List.length_map, markL_len]) (flat_map (fun _ => rfl)) rfl rfl rfl ((mid_set1 hpl).trans (by rw [mkNs_s h1x, List.map_append]; rfl))) ?_
  refine ax_q (q_mov rfl) ?_
  refine ax_nil (cx_keep rfl rfl (cx_ops ?_))
  refine ax_q (q_mov rfl) ?_
  refine ax_qe (r' := int ((k + 1 : Nat) : Int)) (q_ibin rfl rfl rfl) (by rw [wi (by omega) (by omega)]; rfl) ?_
  refine ax_q (q_mov rfl) ?_
  refine ax_nil ?_
  exact ⟨_, k + 1, by omega, ⟨by omega, rfl⟩, by rw [ec9]; exact by repeat constructor⟩
 ·
  have h0 := dF h0
  obtain rfl : k = xs.length := by omega
  rw [List.take_length, List.drop_length, List.map_nil, List.append_nil]
  refine cx_exit rfl ?_
  refine cx_keep rfl rfl (cx_seq (cx_ops ?_))
  refine ax_q (q_mov rfl) ?_
  refine ax_q (q_mov rfl) ?_
  refine ax_nil (cx_keep rfl rfl ?_)
  refine cx_ret (retN id [1000] rfl rfl rfl rfl rfl ?_)
  exact ⟨rfl, rfl⟩


/- loop.example/g00332/laws.markTree -/
def k_c_markTree : XCode :=
 .seq (.ops [.op (some 2) (.box (.t 0)),
   .op (some 4) (.mov (.k (.int .i64 0)))])
 (.keep [1, 2] (.seq (.ops [.op (some 5) (.fadr (.t 2) 1),
   .op (some 6) (.load1 (.t 5)),
   .op (some 7) (.mov (.t 1)),
   .call (some 8) 24 [.t 6, .t 7],
   .op (some 1) (.mov (.t 8))])
 (.keep [1] (.seq (.ops [.op (some 9) (.mov (.t 1)),
   .op (some 4) (.mov (.t 9))])
 (.keep [4] (.ret))))))
theorem k_c_markTree_fits : fitsF Try.prog 10 ⟨10, k_c_markTree, [.t 4]⟩ = true := by kernel_rfl
theorem c_markTree {a : ITree} {k0 : Nat} (hw : ITree.mkN k0 a ≤ 1000000000000000000) : Con Try.prog noMv 10 [.agg [.d (.int .i64 a.Root), .osl 1000 3 0 a.Nodes.length], int k0] [(1000, .deep 3 (a.Nodes.map INode.row) [])] (fun r h => r = int ((ITree.mkN k0 a : Nat) : Int) ∧ h = [(1000, .deep 3 ((mkNs k0 a.Nodes).map INode.row) [])]) := by
 refine con_of2 k_c_markTree_fits rfl fun C hP hmv => ?_
 unfold k_c_markTree
 refine cx_seq (cx_ops ?_)
 refine ax_e (e_box rfl rfl (by decide) rfl rfl rfl) ?_
 refine ax_q (q_mov rfl) ?_
 refine ax_nil (cx_keep rfl rfl (cx_seq (cx_ops ?_)))
 refine ax_q (q_fadr_ptr rfl) ?_
 refine ax_q (q_load1_ptr rfl rfl rfl) ?_
 refine ax_q (q_mov rfl) ?_
 refine ax_call rfl (vcall_own (c_markTreeNodeS (xs := a.Nodes) (k0 := k0) hw) hP hmv false (fun _ => 1000) [1000] ⟨rfl, rfl, rfl, rfl, ⟨rfl, trivial⟩, rfl, rfl, rfl⟩ (.pass rfl rfl (.pass rfl rfl .nil)) ?_)
 rintro r h ⟨rfl, rfl⟩
 refine ⟨fun _ => 1000, [], ⟨rfl, rfl, rfl, rfl, mem1 rfl, rfl, rfl, fun h => by cases h⟩, ?_⟩
  
 refine ax_q (q_mov rfl) ?_
 refine ax_nil (cx_keep rfl rfl (cx_seq (cx_ops ?_)))
 refine ax_q (q_mov rfl) ?_
 refine ax_q (q_mov rfl) ?_
 refine ax_nil (cx_keep rfl rfl ?_)
 refine cx_ret (retN id [1000] rfl rfl rfl rfl rfl ?_)
 exact ⟨rfl, rfl⟩


/- loop.example/g00332/laws.heldStringS -/
def k_c_heldStringS : XCode :=
 .seq (.ops [.op (some 4) (.mov (.k (.int .i64 0)))])
 (.keep [0, 1] (.seq (.seq (.ops [.op (some 5) (.mov (.k (.int .i64 0)))])
  (.keep [0, 1, 5] (.block 0 (.loop (.seq (.seq (.ops [.op (some 6) (.mov (.t 5)),
     .op (some 7) (.mov (.t 0)),
     .op (some 8) (.lenS (.t 7)),
     .op (some 9) (.bin .lss (.t 6) (.t 8))])
   (.keep [0, 1, 5, 9] (.cond (.t 9)
    (.skip)
    (.exit 0))))
   (.keep [0, 1, 5] (.seq (.block 1 (.seq (.seq (.draw [.op (some 12) (.mov (.t 0)),
      .op (some 13) (.mov (.t 5)),
      .op (some 14) (.iadr 1 (.t 12) (.t 13)),
      .op (some 15) (.load1 (.t 14)),
      .op (some 16) (.mov (.t 1)),
      .call (some 17) 63 [.t 16],
      .op (some 18) (.bin .neq (.t 15) (.t 17))])
    (.keep [0, 1, 5, 18] (.cond (.t 18)
     (.seq (.ops [.op (some 4) (.mov (.k (.int .i64 (-1))))])
     (.keep [4] (.ret)))
     (.skip))))
    (.keep [0, 1, 5] (.ops [.op (some 19) (.mov (.t 1)),
     .op (some 20) (.bin .add (.t 19) (.k (.int .i64 1))),
     .op (some 1) (.mov (.t 20))]))))
   (.keep [0, 1, 5] (.ops [.op (some 10) (.mov (.t 5)),
    .op (some 11) (.bin .add (.t 10) (.k (.int .i64 1))),
    .op (some 5) (.mov (.t 11))])))))))))
 (.keep [1] (.seq (.ops [.op (some 21) (.mov (.t 1)),
   .op (some 4) (.mov (.t 21))])
 (.keep [4] (.ret))))))
theorem k_c_heldStringS_fits : fitsF Try.prog 46 ⟨22, k_c_heldStringS, [.t 4]⟩ = true := by kernel_rfl
theorem c_heldStringS {xs : List Str} {k0 : Nat} (hw : k0 + 1 * xs.length ≤ 1000000000000000000) : Con Try.prog noMv 46 [.d (.sl 1 ((markL (fun k _ => mkT k) 1 k0 xs).map strRow)), int k0] [] (fun r h => r = int ((k0 + 1 * xs.length : Nat) : Int) ∧ h = []) := by
 refine con_of2 k_c_heldStringS_fits rfl fun C hP hmv => ?_
 unfold k_c_heldStringS
 refine cx_seq (cx_ops ?_)
 refine ax_q (q_mov rfl) ?_
 refine ax_nil (cx_keep rfl rfl (cx_seq (cx_seq (cx_ops ?_))))
 refine ax_q (q_mov rfl) ?_
 refine ax_nil (cx_keep rfl rfl (cx_block ?_))
 refine cx_loopU (fun m k => k ≤ xs.length ∧ m = xs.length - k) (fun k : Nat => [(1, int ((k0 + 1 * k : Nat) : Int)), (5, int k)]) (fun k => []) ⟨_, 0, ⟨Nat.zero_le _, rfl⟩, by repeat constructor⟩ ?_
 rintro m k ⟨hk, rfl⟩
 refine cx_seq (cx_seq (cx_ops ?_))
 refine ax_q (q_mov rfl) ?_
 refine ax_q (q_mov rfl) ?_
 refine ax_q (q_lenS_map rfl) ?_
 refine ax_q (q_ibin rfl rfl rfl) ?_
 refine ax_nil (cx_keep rfl rfl ?_)
 refine cx_cond rfl (fun h0 => ?_) (fun h0 => ?_)
 ·
  have h0 := dT h0; rw [markL_len] at h0; have h1x : k < xs.length := by omega
  refine cx_skip ?_
  refine cx_keep rfl rfl (cx_seq (cx_block (cx_seq (cx_seq (cx_draw ?_)))))
  refine ax_q (q_mov rfl) ?_
  refine ax_q (q_mov rfl) ?_
  refine ax_q (q_ix rfl rfl (heldAt h1x)) ?_
  first | refine ax_q (q_load1_ptr rfl rfl rfl) ?_ | refine ax_q (q_load1_ip rfl) ?_
  refine ax_q (q_mov rfl) ?_
  refine ax_callq rfl (c_markText (by omega)) hP (lal_id _ rfl) rfl ?_
  refine ax_q (q_sbin rfl rfl rfl) ?_
  refine ax_nil (cx_keep rfl rfl ?_)
  refine cx_cond rfl (fun h1 => ?_) (fun h1 => ?_)
  ·
   have h1 := nT h1
   exact absurd rfl h1
  ·
   have h1 := nF h1
   refine cx_skip ?_
   refine cx_keep rfl rfl (cx_ops ?_)
   refine ax_q (q_mov rfl) ?_
   refine ax_qe (r' := int ((k0 + 1 * k + 1 : Nat) : Int)) (q_ibin rfl rfl rfl) (by rw [wi (by omega) (by omega)]; rfl) ?_
   refine ax_q (q_mov rfl) ?_
   refine ax_nil (cx_keep rfl rfl (cx_ops ?_))
   refine ax_q (q_mov rfl) ?_
   refine ax_qe (r' := int ((k + 1 : Nat) : Int)) (q_ibin rfl rfl rfl) (by rw [wi (by omega) (by omega)]; rfl) ?_
   refine ax_q (q_mov rfl) ?_
   refine ax_nil ?_
   exact ⟨_, k + 1, by omega, ⟨by omega, rfl⟩, by repeat constructor⟩
 ·
  have h0 := dF h0; rw [markL_len] at h0; have h1x : k = xs.length := by omega
  refine cx_exit rfl ?_
  refine cx_keep rfl rfl (cx_seq (cx_ops ?_))
  refine ax_q (q_mov rfl) ?_
  refine ax_q (q_mov rfl) ?_
  refine ax_nil (cx_keep rfl rfl ?_)
  refine cx_ret (ret0 rfl rfl ?_)
  exact ⟨by rw [h1x]; rfl, rfl⟩


/- loop.example/g00332/laws.heldIntS -/
def k_c_heldIntS : XCode :=
 .seq (.ops [.op (some 4) (.mov (.k (.int .i64 0)))])
 (.keep [0, 1] (.seq (.seq (.ops [.op (some 5) (.mov (.k (.int .i64 0)))])
  (.keep [0, 1, 5] (.block 0 (.loop (.seq (.seq (.ops [.op (some 6) (.mov (.t 5)),
     .op (some 7) (.mov (.t 0)),
     .op (some 8) (.lenS (.t 7)),
     .op (some 9) (.bin .lss (.t 6) (.t 8))])
   (.keep [0, 1, 5, 9] (.cond (.t 9)
    (.skip)
    (.exit 0))))
   (.keep [0, 1, 5] (.seq (.block 1 (.seq (.seq (.ops [.op (some 12) (.mov (.t 0)),
      .op (some 13) (.mov (.t 5)),
      .op (some 14) (.iadr 1 (.t 12) (.t 13)),
      .op (some 15) (.load1 (.t 14)),
      .op (some 16) (.mov (.t 1)),
      .op (some 17) (.bin .neq (.t 15) (.t 16))])
    (.keep [0, 1, 5, 17] (.cond (.t 17)
     (.seq (.ops [.op (some 4) (.mov (.k (.int .i64 (-1))))])
     (.keep [4] (.ret)))
     (.skip))))
    (.keep [0, 1, 5] (.ops [.op (some 18) (.mov (.t 1)),
     .op (some 19) (.bin .add (.t 18) (.k (.int .i64 1))),
     .op (some 1) (.mov (.t 19))]))))
   (.keep [0, 1, 5] (.ops [.op (some 10) (.mov (.t 5)),
    .op (some 11) (.bin .add (.t 10) (.k (.int .i64 1))),
    .op (some 5) (.mov (.t 11))])))))))))
 (.keep [1] (.seq (.ops [.op (some 20) (.mov (.t 1)),
   .op (some 4) (.mov (.t 20))])
 (.keep [4] (.ret))))))
theorem k_c_heldIntS_fits : fitsF Try.prog 47 ⟨21, k_c_heldIntS, [.t 4]⟩ = true := by kernel_rfl
theorem c_heldIntS {xs : List Int} {k0 : Nat} (hw : k0 + 1 * xs.length ≤ 1000000000000000000) : Con Try.prog noMv 47 [.d (.sl 1 ((markL (fun k _ => (k : Int)) 1 k0 xs).map intRow)), int k0] [] (fun r h => r = int ((k0 + 1 * xs.length : Nat) : Int) ∧ h = []) := by
 refine con_of2 k_c_heldIntS_fits rfl fun C hP hmv => ?_
 unfold k_c_heldIntS
 refine cx_seq (cx_ops ?_)
 refine ax_q (q_mov rfl) ?_
 refine ax_nil (cx_keep rfl rfl (cx_seq (cx_seq (cx_ops ?_))))
 refine ax_q (q_mov rfl) ?_
 refine ax_nil (cx_keep rfl rfl (cx_block ?_))
 refine cx_loopU (fun m k => k ≤ xs.length ∧ m = xs.length - k) (fun k : Nat => [(1, int ((k0 + 1 * k : Nat) : Int)), (5, int k)]) (fun k => []) ⟨_, 0, ⟨Nat.zero_le _, rfl⟩, by repeat constructor⟩ ?_
 rintro m k ⟨hk, rfl⟩
 refine cx_seq (cx_seq (cx_ops ?_))
 refine ax_q (q_mov rfl) ?_
 refine ax_q (q_mov rfl) ?_
 refine ax_q (q_lenS_map rfl) ?_
 refine ax_q (q_ibin rfl rfl rfl) ?_
 refine ax_nil (cx_keep rfl rfl ?_)
 refine cx_cond rfl (fun h0 => ?_) (fun h0 => ?_)
 ·
  have h0 := dT h0; rw [markL_len] at h0; have h1x : k < xs.length := by omega
  refine cx_skip ?_
  refine cx_keep rfl rfl (cx_seq (cx_block (cx_seq (cx_seq (cx_ops ?_)))))
  refine ax_q (q_mov rfl) ?_
  refine ax_q (q_mov rfl) ?_
  refine ax_q (q_ix rfl rfl (heldAt h1x)) ?_
  first | refine ax_q (q_load1_ptr rfl rfl rfl) ?_ | refine ax_q (q_load1_ip rfl) ?_
  refine ax_q (q_mov rfl) ?_
  refine ax_q (q_ibin rfl rfl rfl) ?_
  refine ax_nil (cx_keep rfl rfl ?_)
  refine cx_cond rfl (fun h1 => ?_) (fun h1 => ?_)
  ·
   have h1 := nT h1
   exact absurd rfl h1
  ·
   have h1 := nF h1
   refine cx_skip ?_
   refine cx_keep rfl rfl (cx_ops ?_)
   refine ax_q (q_mov rfl) ?_
   refine ax_qe (r' := int ((k0 + 1 * k + 1 : Nat) : Int)) (q_ibin rfl rfl rfl) (by rw [wi (by omega) (by omega)]; rfl) ?_
   refine ax_q (q_mov rfl) ?_
   refine ax_nil (cx_keep rfl rfl (cx_ops ?_))
   refine ax_q (q_mov rfl) ?_
   refine ax_qe (r' := int ((k + 1 : Nat) : Int)) (q_ibin rfl rfl rfl) (by rw [wi (by omega) (by omega)]; rfl) ?_
   refine ax_q (q_mov rfl) ?_
   refine ax_nil ?_
   exact ⟨_, k + 1, by omega, ⟨by omega, rfl⟩, by repeat constructor⟩
 ·
  have h0 := dF h0; rw [markL_len] at h0; have h1x : k = xs.length := by omega
  refine cx_exit rfl ?_
  refine cx_keep rfl rfl (cx_seq (cx_ops ?_))
  refine ax_q (q_mov rfl) ?_
  refine ax_q (q_mov rfl) ?_
  refine ax_nil (cx_keep rfl rfl ?_)
  refine cx_ret (ret0 rfl rfl ?_)
  exact ⟨by rw [h1x]; rfl, rfl⟩


/- loop.example/g00332/laws.heldTreeNodeS -/
def k_c_heldTreeNodeS : XCode :=
 .seq (.ops [.op (some 4) (.mov (.k (.int .i64 0)))])
 (.keep [0, 1] (.seq (.seq (.ops [.op (some 5) (.mov (.k (.int .i64 0)))])
  (.keep [0, 1, 5] (.block 0 (.loop (.seq (.seq (.ops [.op (some 6) (.mov (.t 5)),
     .op (some 7) (.mov (.t 0)),
     .op (some 8) (.lenS (.t 7)),
     .op (some 9) (.bin .lss (.t 6) (.t 8))])
   (.keep [0, 1, 5, 9] (.cond (.t 9)
    (.skip)
    (.exit 0))))
   (.keep [0, 1, 5] (.seq (.block 1 (.seq (.seq (.ops [.op (some 12) (.mov (.t 0)),
      .op (some 13) (.mov (.t 5)),
      .op (some 14) (.iadr 3 (.t 12) (.t 13)),
      .op (some 15) (.fadr (.t 14) 0),
      .op (some 16) (.load1 (.t 15)),
      .op (some 17) (.mov (.t 1)),
      .op (some 18) (.bin .rem (.t 17) (.k (.int .i64 3))),
      .op (some 19) (.bin .eql (.t 18) (.k (.int .i64 0))),
      .op (some 20) (.eqb true (.t 16) (.t 19))])
    (.keep [0, 1, 5, 20] (.cond (.t 20)
     (.seq (.ops [.op (some 4) (.mov (.k (.int .i64 (-1))))])
     (.keep [4] (.ret)))
     (.skip))))
    (.keep [0, 1, 5] (.seq (.ops [.op (some 21) (.mov (.t 1)),
     .op (some 22) (.bin .add (.t 21) (.k (.int .i64 1))),
     .op (some 1) (.mov (.t 22))])
    (.keep [0, 1, 5] (.seq (.ops [.op (some 23) (.mov (.t 0)),
     .op (some 24) (.mov (.t 5)),
     .op (some 25) (.iadr 3 (.t 23) (.t 24)),
     .op (some 26) (.fadr (.t 25) 1),
     .op (some 27) (.load1 (.t 26)),
     .op (some 28) (.mov (.t 1)),
     .call (some 29) 46 [.t 27, .t 28],
     .op (some 1) (.mov (.t 29))])
    (.keep [0, 1, 5] (.seq (.seq (.ops [.op (some 30) (.mov (.t 1)),
      .op (some 31) (.bin .lss (.t 30) (.k (.int .i64 0)))])
    (.keep [0, 1, 5, 31] (.cond (.t 31)
     (.seq (.ops [.op (some 4) (.mov (.k (.int .i64 (-1))))])
     (.keep [4] (.ret)))
     (.skip))))
    (.keep [0, 1, 5] (.seq (.ops [.op (some 32) (.mov (.t 0)),
     .op (some 33) (.mov (.t 5)),
     .op (some 34) (.iadr 3 (.t 32) (.t 33)),
     .op (some 35) (.fadr (.t 34) 2),
     .op (some 36) (.load1 (.t 35)),
     .op (some 37) (.mov (.t 1)),
     .call (some 38) 47 [.t 36, .t 37],
     .op (some 1) (.mov (.t 38))])
    (.keep [0, 1, 5] (.seq (.ops [.op (some 39) (.mov (.t 1)),
     .op (some 40) (.bin .lss (.t 39) (.k (.int .i64 0)))])
    (.keep [0, 1, 5, 40] (.cond (.t 40)
    (.seq (.ops [.op (some 4) (.mov (.k (.int .i64 (-1))))])
     (.keep [4] (.ret)))
    (.skip)))))))))))))))
   (.keep [0, 1, 5] (.ops [.op (some 10) (.mov (.t 5)),
    .op (some 11) (.bin .add (.t 10) (.k (.int .i64 1))),
    .op (some 5) (.mov (.t 11))])))))))))
 (.keep [1] (.seq (.ops [.op (some 41) (.mov (.t 1)),
   .op (some 4) (.mov (.t 41))])
 (.keep [4] (.ret))))))
theorem k_c_heldTreeNodeS_fits : fitsF Try.prog 25 ⟨42, k_c_heldTreeNodeS, [.t 4]⟩ = true := by kernel_rfl
theorem c_heldTreeNodeS {xs : List INode} {k0 : Nat} (hw : cntN k0 xs ≤ 1000000000000000000) : Con Try.prog noMv 25 [.d (.sl 3 ((mkNs k0 xs).map INode.row)), int k0] [] (fun r h => r = int ((cntN k0 xs : Nat) : Int) ∧ h = []) := by
 refine con_of2 k_c_heldTreeNodeS_fits rfl fun C hP hmv => ?_
 unfold k_c_heldTreeNodeS
 have hge := @cntN_ge k0 xs
 have hml := @mkNs_len xs k0
 refine cx_seq (cx_ops ?_)
 refine ax_q (q_mov rfl) ?_
 refine ax_nil (cx_keep rfl rfl (cx_seq (cx_seq (cx_ops ?_))))
 refine ax_q (q_mov rfl) ?_
 refine ax_nil (cx_keep rfl rfl (cx_block ?_))
 refine cx_loopU (fun n k => k ≤ xs.length ∧ n = xs.length - k) (fun k : Nat => [(5, int k), (1, int ((cntN k0 (xs.take k) : Nat) : Int))]) (fun k => []) ⟨_, 0, ⟨Nat.zero_le _, rfl⟩, by repeat constructor⟩ ?_
 rintro n k ⟨hk, rfl⟩
 refine cx_seq (cx_seq (cx_ops ?_))
 refine ax_q (q_mov rfl) ?_
 refine ax_q (q_mov rfl) ?_
 refine ax_q (q_lenS_map rfl) ?_
 refine ax_q (q_ibin rfl rfl rfl) ?_
 refine ax_nil (cx_keep rfl rfl ?_)
 refine cx_cond rfl (fun h0 => ?_) (fun h0 => ?_)
 ·
  have h0 := dT h0
  have h1x : k < xs.length := by omega
  have hat := mapO (row := INode.row) (mkNs_at (k0 := k0) h1x)
  have hle := @cntN_le k0 (k + 1) xs
  have ec9 : cntN k0 (xs.take (k + 1)) = cntN k0 (xs.take k) + 1 + 1 * xs[k].Keys.length + 1 * xs[k].Kids.length := by rw [cntN_s h1x]; omega
  refine cx_skip ?_
  refine cx_keep rfl rfl (cx_seq (cx_block (cx_seq (cx_seq (cx_ops ?_)))))
  refine ax_q (q_mov rfl) ?_
  refine ax_q (q_mov rfl) ?_
  refine ax_q (q_ix rfl rfl hat) ?_
  first | refine ax_q (q_fadr_ptr rfl) ?_ | refine ax_q (q_fadr_rptr rfl) ?_ | refine ax_q (q_fadr_ip rfl) ?_
  first | refine ax_q (q_load1_ptr rfl rfl rfl) ?_ | refine ax_q (q_load1_ip rfl) ?_
  refine ax_q (q_mov rfl) ?_
  refine ax_q (q_mod rfl rfl (by omega) (by omega)) ?_
  refine ax_q (q_ibin rfl rfl rfl) ?_
  refine ax_q (q_eqb rfl rfl) ?_
  refine ax_nil (cx_keep rfl rfl ?_)
  refine cx_cond rfl (fun h1 => ?_) (fun h1 => ?_)
  ·
   have h1 := bneT h1
   exact absurd rfl h1
  ·
   have h1 := bneF h1
   refine cx_skip ?_
   refine cx_keep rfl rfl (cx_seq (cx_ops ?_))
   refine ax_q (q_mov rfl) ?_
   refine ax_qe (r' := int ((cntN k0 (xs.take k) + 1 : Nat) : Int)) (q_ibin rfl rfl rfl) (by rw [wi (by omega) (by omega)]; exact congrArg AM.int (by omega)) ?_
   refine ax_q (q_mov rfl) ?_
   refine ax_nil (cx_keep rfl rfl (cx_seq (cx_ops ?_)))
   refine ax_q (q_mov rfl) ?_
   refine ax_q (q_mov rfl) ?_
   refine ax_q (q_ix rfl rfl hat) ?_
   first | refine ax_q (q_fadr_ptr rfl) ?_ | refine ax_q (q_fadr_rptr rfl) ?_ | refine ax_q (q_fadr_ip rfl) ?_
   first | refine ax_q (q_load1_ptr rfl rfl rfl) ?_ | refine ax_q (q_load1_ip rfl) ?_
   refine ax_q (q_mov rfl) ?_
   refine ax_call rfl (vc_pure0 (c_heldStringS (xs := xs[k].Keys) (k0 := cntN k0 (xs.take k) + 1) ?_) hP rfl rfl ?_)
   ·
    first | assumption | omega
   refine ax_q (q_mov rfl) ?_
   refine ax_nil (cx_keep rfl rfl (cx_seq (cx_seq (cx_ops ?_))))
   refine ax_q (q_mov rfl) ?_
   refine ax_q (q_ibin rfl rfl rfl) ?_
   refine ax_nil (cx_keep rfl rfl ?_)
   refine cx_cond rfl (fun h2 => ?_) (fun h2 => ?_)
   ·
    have h2 := dT h2
    exfalso; omega
   ·
    have h2 := dF h2
    refine cx_skip ?_
    refine cx_keep rfl rfl (cx_seq (cx_ops ?_))
    refine ax_q (q_mov rfl) ?_
    refine ax_q (q_mov rfl) ?_
    refine ax_q (q_ix rfl rfl hat) ?_
    first | refine ax_q (q_fadr_ptr rfl) ?_ | refine ax_q (q_fadr_rptr rfl) ?_ | refine ax_q (q_fadr_ip rfl) ?_
    first | refine ax_q (q_load1_ptr rfl rfl rfl) ?_ | refine ax_q (q_load1_ip rfl) ?_
    refine ax_q (q_mov rfl) ?_
    refine ax_call rfl (vc_pure0 (c_heldIntS (xs := xs[k].Kids) (k0 := cntN k0 (xs.take k) + 1 + 1 * xs[k].Keys.length) ?_) hP rfl rfl ?_)
    ·
     first | assumption | omega
    refine ax_q (q_mov rfl) ?_
    refine ax_nil (cx_keep rfl rfl (cx_seq (cx_ops ?_)))
    refine ax_q (q_mov rfl) ?_
    refine ax_q (q_ibin rfl rfl rfl) ?_
    refine ax_nil (cx_keep rfl rfl ?_)
    refine cx_cond rfl (fun h3 => ?_) (fun h3 => ?_)
    ·
     have h3 := dT h3
     exfalso; omega
    ·
     have h3 := dF h3
     refine cx_skip ?_
     refine cx_keep rfl rfl (cx_ops ?_)
     refine ax_q (q_mov rfl) ?_
     refine ax_qe (r' := int ((k + 1 : Nat) : Int)) (q_ibin rfl rfl rfl) (by rw [wi (by omega) (by omega)]; rfl) ?_
     refine ax_q (q_mov rfl) ?_
     refine ax_nil ?_
     exact ⟨_, k + 1, by omega, ⟨by omega, rfl⟩, by rw [ec9]; exact by repeat constructor⟩
 ·
  have h0 := dF h0
  obtain rfl : k = xs.length := by omega
  rw [List.take_length]
  refine cx_exit rfl ?_
  refine cx_keep rfl rfl (cx_seq (cx_ops ?_))
  refine ax_q (q_mov rfl) ?_
  refine ax_q (q_mov rfl) ?_
  refine ax_nil (cx_keep rfl rfl ?_)
  refine cx_ret (ret0 rfl rfl ?_)
  exact ⟨rfl, rfl⟩


/- loop.example/g00332/laws.heldTree -/
def k_c_heldTree : XCode :=
 .seq (.ops [.op (some 2) (.box (.t 0)),
   .op (some 4) (.mov (.k (.int .i64 0)))])
 (.keep [1, 2] (.seq (.ops [.op (some 5) (.fadr (.t 2) 1),
   .op (some 6) (.load1 (.t 5)),
   .op (some 7) (.mov (.t 1)),
   .call (some 8) 25 [.t 6, .t 7],
   .op (some 1) (.mov (.t 8))])
 (.keep [1] (.seq (.seq (.ops [.op (some 9) (.mov (.t 1)),
   .op (some 10) (.bin .lss (.t 9) (.k (.int .i64 0)))])
  (.keep [1, 10] (.cond (.t 10)
  (.seq (.ops [.op (some 4) (.mov (.k (.int .i64 (-1))))])
   (.keep [4] (.ret)))
  (.skip))))
 (.keep [1] (.seq (.ops [.op (some 11) (.mov (.t 1)),
   .op (some 4) (.mov (.t 11))])
 (.keep [4] (.ret))))))))
theorem k_c_heldTree_fits : fitsF Try.prog 11 ⟨12, k_c_heldTree, [.t 4]⟩ = true := by kernel_rfl
theorem c_heldTree {a : ITree} {k0 : Nat} (hw : ITree.mkN k0 a ≤ 1000000000000000000) : Con Try.prog noMv 11 [.agg [.d (.int .i64 a.Root), .d (.sl 3 ((mkNs k0 a.Nodes).map INode.row))], int k0] [] (fun r h => r = int ((ITree.mkN k0 a : Nat) : Int) ∧ h = []) := by
 refine con_of2 k_c_heldTree_fits rfl fun C hP hmv => ?_
 unfold k_c_heldTree
 refine cx_seq (cx_ops ?_)
 refine ax_e (e_box rfl rfl (by decide) rfl rfl rfl) ?_
 refine ax_q (q_mov rfl) ?_
 refine ax_nil (cx_keep rfl rfl (cx_seq (cx_ops ?_)))
 refine ax_q (q_fadr_ptr rfl) ?_
 refine ax_q (q_load1_ptr rfl rfl rfl) ?_
 refine ax_q (q_mov rfl) ?_
 refine ax_call rfl (vc_pure0 (c_heldTreeNodeS (xs := a.Nodes) (k0 := k0) ?_) hP rfl rfl ?_)
 ·
  assumption
 refine ax_q (q_mov rfl) ?_
 refine ax_nil (cx_keep rfl rfl (cx_seq (cx_seq (cx_ops ?_))))
 refine ax_q (q_mov rfl) ?_
 refine ax_q (q_ibin rfl rfl rfl) ?_
 refine ax_nil (cx_keep rfl rfl ?_)
 refine cx_cond rfl (fun h0 => ?_) (fun h0 => ?_)
 ·
  have h0 := dT h0
  exfalso; omega
 ·
  have h0 := dF h0
  refine cx_skip ?_
  refine cx_keep rfl rfl (cx_seq (cx_ops ?_))
  refine ax_q (q_mov rfl) ?_
  refine ax_q (q_mov rfl) ?_
  refine ax_nil (cx_keep rfl rfl ?_)
  refine cx_ret (ret0 rfl rfl ?_)
  exact ⟨rfl, rfl⟩

end Go.Proofs.Ytenfhamolacdaaa
