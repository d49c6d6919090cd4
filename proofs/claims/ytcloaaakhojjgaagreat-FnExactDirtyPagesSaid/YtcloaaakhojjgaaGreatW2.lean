/- The walks: what each function computes, as a contract without a world (part 2). -/
import Derived.Test.YtcloaaakhojjgaaGreatProg
import Derived.Test.YtcloaaakhojjgaaGreatW1
namespace Go.Proofs.YtcloaaakhojjgaaGreat
open Go Go.AM
set_option maxRecDepth 10000
set_option linter.unusedVariables false
set_option linter.unusedSimpArgs false
/- loop.example/g00332/laws.markLogRecordS -/
def k_c_markLogRecordS : XCode :=
 .seq (.ops [.op (some 4) (.mov (.k (.int .i64 0)))])
 (.keep [0, 1] (.seq (.seq (.ops [.op (some 5) (.mov (.k (.int .i64 0)))])
  (.keep [0, 1, 5] (.block 0 (.loop (.seq (.seq (.ops [.op (some 6) (.mov (.t 5)),
     .op (some 7) (.mov (.t 0)),
     .op (some 8) (.lenS (.t 7)),
     .op (some 9) (.bin .lss (.t 6) (.t 8))])
   (.keep [0, 1, 5, 9] (.cond (.t 9)
    (.skip)
    (.exit 0))))
   (.keep [0, 1, 5] (.seq (.block 1 (.seq (.ops [.op (some 12) (.mov (.t 0)),
     .op (some 13) (.mov (.t 5)),
     .op (some 14) (.mov (.t 1)),
     .op (some 15) (.iadr 10 (.t 12) (.t 13)),
     .op (some 16) (.fadr (.t 15) 0),
     .op none (.store 1 (.t 16) (.t 14))])
    (.keep [0, 1, 5] (.seq (.ops [.op (some 17) (.mov (.t 1)),
     .op (some 18) (.bin .add (.t 17) (.k (.int .i64 1))),
     .op (some 1) (.mov (.t 18))])
    (.keep [0, 1, 5] (.seq (.ops [.op (some 19) (.mov (.t 0)),
     .op (some 20) (.mov (.t 5)),
     .op (some 21) (.mov (.t 1)),
     .op (some 22) (.iadr 10 (.t 19) (.t 20)),
     .op (some 23) (.fadr (.t 22) 1),
     .op none (.store 1 (.t 23) (.t 21))])
    (.keep [0, 1, 5] (.seq (.ops [.op (some 24) (.mov (.t 1)),
     .op (some 25) (.bin .add (.t 24) (.k (.int .i64 1))),
     .op (some 1) (.mov (.t 25))])
    (.keep [0, 1, 5] (.seq (.ops [.op (some 26) (.mov (.t 0)),
     .op (some 27) (.mov (.t 5)),
     .op (some 28) (.mov (.t 1)),
     .op (some 29) (.iadr 10 (.t 26) (.t 27)),
     .op (some 30) (.fadr (.t 29) 2),
     .op none (.store 1 (.t 30) (.t 28))])
    (.keep [0, 1, 5] (.seq (.ops [.op (some 31) (.mov (.t 1)),
     .op (some 32) (.bin .add (.t 31) (.k (.int .i64 1))),
     .op (some 1) (.mov (.t 32))])
    (.keep [0, 1, 5] (.seq (.ops [.op (some 33) (.mov (.t 0)),
     .op (some 34) (.mov (.t 5)),
     .op (some 35) (.mov (.t 1)),
     .op (some 36) (.iadr 10 (.t 33) (.t 34)),
     .op (some 37) (.fadr (.t 36) 3),
     .op none (.store 1 (.t 37) (.t 35))])
    (.keep [0, 1, 5] (.seq (.ops [.op (some 38) (.mov (.t 1)),
     .op (some 39) (.bin .add (.t 38) (.k (.int .i64 1))),
     .op (some 1) (.mov (.t 39))])
    (.keep [0, 1, 5] (.seq (.ops [.op (some 40) (.mov (.t 0)),
     .op (some 41) (.mov (.t 5)),
     .op (some 42) (.mov (.t 1)),
     .op (some 43) (.iadr 10 (.t 40) (.t 41)),
     .op (some 44) (.fadr (.t 43) 4),
     .op none (.store 1 (.t 44) (.t 42))])
    (.keep [0, 1, 5] (.seq (.ops [.op (some 45) (.mov (.t 1)),
     .op (some 46) (.bin .add (.t 45) (.k (.int .i64 1))),
     .op (some 1) (.mov (.t 46))])
    (.keep [0, 1, 5] (.seq (.ops [.op (some 47) (.mov (.t 0)),
     .op (some 48) (.mov (.t 5)),
     .op (some 49) (.mov (.t 1)),
     .op (some 50) (.iadr 10 (.t 47) (.t 48)),
     .op (some 51) (.fadr (.t 50) 5),
     .op none (.store 1 (.t 51) (.t 49))])
    (.keep [0, 1, 5] (.seq (.ops [.op (some 52) (.mov (.t 1)),
     .op (some 53) (.bin .add (.t 52) (.k (.int .i64 1))),
     .op (some 1) (.mov (.t 53))])
    (.keep [0, 1, 5] (.seq (.ops [.op (some 54) (.mov (.t 0)),
     .op (some 55) (.mov (.t 5)),
     .op (some 56) (.mov (.t 1)),
     .op (some 57) (.iadr 10 (.t 54) (.t 55)),
     .op (some 58) (.fadr (.t 57) 6),
     .op none (.store 1 (.t 58) (.t 56))])
    (.keep [0, 1, 5] (.seq (.ops [.op (some 59) (.mov (.t 1)),
     .op (some 60) (.bin .add (.t 59) (.k (.int .i64 1))),
     .op (some 1) (.mov (.t 60))])
    (.keep [0, 1, 5] (.seq (.ops [.op (some 61) (.mov (.t 0)),
     .op (some 62) (.mov (.t 5)),
     .op (some 63) (.mov (.t 1)),
     .op (some 64) (.iadr 10 (.t 61) (.t 62)),
     .op (some 65) (.fadr (.t 64) 7),
     .op none (.store 1 (.t 65) (.t 63))])
    (.keep [0, 1, 5] (.seq (.ops [.op (some 66) (.mov (.t 1)),
     .op (some 67) (.bin .add (.t 66) (.k (.int .i64 1))),
     .op (some 1) (.mov (.t 67))])
    (.keep [0, 1, 5] (.seq (.ops [.op (some 68) (.mov (.t 0)),
     .op (some 69) (.mov (.t 5)),
     .op (some 70) (.mov (.t 1)),
     .call (some 71) 116 [.t 70],
     .op (some 72) (.iadr 10 (.t 68) (.t 69)),
     .op (some 73) (.fadr (.t 72) 8),
     .op none (.store 1 (.t 73) (.t 71))])
    (.keep [0, 1, 5] (.seq (.ops [.op (some 74) (.mov (.t 1)),
     .op (some 75) (.bin .add (.t 74) (.k (.int .i64 1))),
     .op (some 1) (.mov (.t 75))])
    (.keep [0, 1, 5] (.seq (.ops [.op (some 76) (.mov (.t 0)),
     .op (some 77) (.mov (.t 5)),
     .op (some 78) (.mov (.t 1)),
     .call (some 79) 116 [.t 78],
     .op (some 80) (.iadr 10 (.t 76) (.t 77)),
     .op (some 81) (.fadr (.t 80) 9),
     .op none (.store 1 (.t 81) (.t 79))])
    (.keep [0, 1, 5] (.ops [.op (some 82) (.mov (.t 1)),
     .op (some 83) (.bin .add (.t 82) (.k (.int .i64 1))),
     .op (some 1) (.mov (.t 83))]))))))))))))))))))))))))))))))))))))))))
   (.keep [0, 1, 5] (.ops [.op (some 10) (.mov (.t 5)),
    .op (some 11) (.bin .add (.t 10) (.k (.int .i64 1))),
    .op (some 5) (.mov (.t 11))])))))))))
 (.keep [1] (.seq (.ops [.op (some 84) (.mov (.t 1)),
   .op (some 4) (.mov (.t 84))])
 (.keep [4] (.ret))))))
theorem k_c_markLogRecordS_fits : fitsF Tryz.prog 57 ⟨85, k_c_markLogRecordS, [.t 4]⟩ = true := by kernel_rfl
theorem c_markLogRecordS {xs : List GLogRecord} {k0 : Nat} (hw : k0 + 10 * xs.length ≤ 1000000000000000000) : Con Tryz.prog noMv 57 [.osl 1000 10 0 xs.length, int k0] [(1000, .rows 10 (xs.map GLogRecord.row))] (fun r h => r = int ((k0 + 10 * xs.length : Nat) : Int) ∧ h = [(1000, .rows 10 ((markL GLogRecord.mk1 10 k0 xs).map GLogRecord.row))]) := by
 refine con_of2 k_c_markLogRecordS_fits rfl fun C hP hmv => ?_
 unfold k_c_markLogRecordS
 refine cx_seq (cx_ops ?_)
 refine ax_q (q_mov rfl) ?_
 refine ax_nil (cx_keep rfl rfl (cx_seq (cx_seq (cx_ops ?_))))
 refine ax_q (q_mov rfl) ?_
 refine ax_nil (cx_keep rfl rfl (cx_block ?_))
 refine cx_loopU (fun n k => k ≤ xs.length ∧ n = xs.length - k) (fun k : Nat => [(1, int ((k0 + 10 * k : Nat) : Int)), (5, int k)]) (fun k => [(1000, .rows 10 ((markL GLogRecord.mk1 10 k0 (xs.take k) ++ xs.drop k).map GLogRecord.row))]) ⟨_, 0, ⟨Nat.zero_le _, rfl⟩, by repeat constructor⟩ ?_
 rintro n k ⟨hk, rfl⟩
 refine cx_seq (cx_seq (cx_ops ?_))
 refine ax_q (q_mov rfl) ?_
 refine ax_q (q_mov rfl) ?_
 first | refine ax_q (q_lenS_map rfl) ?_ | refine ax_q (q_lenS_osl rfl) ?_
 refine ax_q (q_ibin rfl rfl rfl) ?_
 refine ax_nil (cx_keep rfl rfl ?_)
 refine cx_cond rfl (fun h0 => ?_) (fun h0 => ?_)
 ·
  have h0 := dT h0
  have h1x : k < xs.length := by omega
  have h1l : k < ((markL GLogRecord.mk1 10 k0 (xs.take k) ++ xs.drop k).map GLogRecord.row).length := by rw [markL_mlen]; exact h1x
  refine cx_skip ?_
  refine cx_keep rfl rfl (cx_seq (cx_block (cx_seq (cx_ops ?_))))
  refine ax_q (q_mov rfl) ?_
  refine ax_q (q_mov rfl) ?_
  refine ax_q (q_mov rfl) ?_
  refine ax_q (q_ixo rfl rfl h1x) ?_
  first | refine ax_q (q_fadr_ptr rfl) ?_ | refine ax_q (q_fadr_rptr rfl) ?_
  refine ax_e (e_str (q := [.int .i64 ((k0 + 10 * k : Nat) : Int), .int .i64 xs[k].Lsn, .int .i64 xs[k].Tx, .int .i64 xs[k].Kind, .int .i64 xs[k].Prev, .int .i64 xs[k].Next, .int .i64 xs[k].Page, .int .i64 xs[k].Slot, .str xs[k].Before, .str xs[k].After]) rfl rfl rfl rfl rfl rfl (markL_at h1x) rfl rfl (rfl)) ?_
  refine ax_nil (cx_keep rfl rfl (cx_seq (cx_ops ?_)))
  refine ax_q (q_mov rfl) ?_
  refine ax_qe (r' := int ((k0 + 10 * k + 1 : Nat) : Int)) (q_ibin rfl rfl rfl) (by rw [wi (by omega) (by omega)]; rfl) ?_
  refine ax_q (q_mov rfl) ?_
  refine ax_nil (cx_keep rfl rfl (cx_seq (cx_ops ?_)))
  refine ax_q (q_mov rfl) ?_
  refine ax_q (q_mov rfl) ?_
  refine ax_q (q_mov rfl) ?_
  refine ax_q (q_ixo rfl rfl h1x) ?_
  first | refine ax_q (q_fadr_ptr rfl) ?_ | refine ax_q (q_fadr_rptr rfl) ?_
  refine ax_e (e_str (q := [.int .i64 ((k0 + 10 * k : Nat) : Int), .int .i64 ((k0 + 10 * k + 1 : Nat) : Int), .int .i64 xs[k].Tx, .int .i64 xs[k].Kind, .int .i64 xs[k].Prev, .int .i64 xs[k].Next, .int .i64 xs[k].Page, .int .i64 xs[k].Slot, .str xs[k].Before, .str xs[k].After]) rfl rfl rfl rfl rfl rfl (setAt h1l) rfl rfl (set_set' rfl)) ?_
  refine ax_nil (cx_keep rfl rfl (cx_seq (cx_ops ?_)))
  refine ax_q (q_mov rfl) ?_
  refine ax_qe (r' := int ((k0 + 10 * k + 2 : Nat) : Int)) (q_ibin rfl rfl rfl) (by rw [wi (by omega) (by omega)]; rfl) ?_
  refine ax_q (q_mov rfl) ?_
  refine ax_nil (cx_keep rfl rfl (cx_seq (cx_ops ?_)))
  refine ax_q (q_mov rfl) ?_
  refine ax_q (q_mov rfl) ?_
  refine ax_q (q_mov rfl) ?_
  refine ax_q (q_ixo rfl rfl h1x) ?_
  first | refine ax_q (q_fadr_ptr rfl) ?_ | refine ax_q (q_fadr_rptr rfl) ?_
  refine ax_e (e_str (q := [.int .i64 ((k0 + 10 * k : Nat) : Int), .int .i64 ((k0 + 10 * k + 1 : Nat) : Int), .int .i64 ((k0 + 10 * k + 2 : Nat) : Int), .int .i64 xs[k].Kind, .int .i64 xs[k].Prev, .int .i64 xs[k].Next, .int .i64 xs[k].Page, .int .i64 xs[k].Slot, .str xs[k].Before, .str xs[k].After]) rfl rfl rfl rfl rfl rfl (setAt h1l) rfl rfl (set_set' rfl)) ?_
  refine ax_nil (cx_keep rfl rfl (cx_seq (cx_ops ?_)))
  refine ax_q (q_mov rfl) ?_
  refine ax_qe (r' := int ((k0 + 10 * k + 3 : Nat) : Int)) (q_ibin rfl rfl rfl) (by rw [wi (by omega) (by omega)]; rfl) ?_
  refine ax_q (q_mov rfl) ?_
  refine ax_nil (cx_keep rfl rfl (cx_seq (cx_ops ?_)))
  refine ax_q (q_mov rfl) ?_
  refine ax_q (q_mov rfl) ?_
  refine ax_q (q_mov rfl) ?_
  refine ax_q (q_ixo rfl rfl h1x) ?_
  first | refine ax_q (q_fadr_ptr rfl) ?_ | refine ax_q (q_fadr_rptr rfl) ?_
  refine ax_e (e_str (q := [.int .i64 ((k0 + 10 * k : Nat) : Int), .int .i64 ((k0 + 10 * k + 1 : Nat) : Int), .int .i64 ((k0 + 10 * k + 2 : Nat) : Int), .int .i64 ((k0 + 10 * k + 3 : Nat) : Int), .int .i64 xs[k].Prev, .int .i64 xs[k].Next, .int .i64 xs[k].Page, .int .i64 xs[k].Slot, .str xs[k].Before, .str xs[k].After]) rfl rfl rfl rfl rfl rfl (setAt h1l) rfl rfl (set_set' rfl)) ?_
  refine ax_nil (cx_keep rfl rfl (cx_seq (cx_ops ?_)))
  refine ax_q (q_mov rfl) ?_
  refine ax_qe (r' := int ((k0 + 10 * k + 4 : Nat) : Int)) (q_ibin rfl rfl rfl) (by rw [wi (by omega) (by omega)]; rfl) ?_
  refine ax_q (q_mov rfl) ?_
  refine ax_nil (cx_keep rfl rfl (cx_seq (cx_ops ?_)))
  refine ax_q (q_mov rfl) ?_
  refine ax_q (q_mov rfl) ?_
  refine ax_q (q_mov rfl) ?_
  refine ax_q (q_ixo rfl rfl h1x) ?_
  first | refine ax_q (q_fadr_ptr rfl) ?_ | refine ax_q (q_fadr_rptr rfl) ?_
  refine ax_e (e_str (q := [.int .i64 ((k0 + 10 * k : Nat) : Int), .int .i64 ((k0 + 10 * k + 1 : Nat) : Int), .int .i64 ((k0 + 10 * k + 2 : Nat) : Int), .int .i64 ((k0 + 10 * k + 3 : Nat) : Int), .int .i64 ((k0 + 10 * k + 4 : Nat) : Int), .int .i64 xs[k].Next, .int .i64 xs[k].Page, .int .i64 xs[k].Slot, .str xs[k].Before, .str xs[k].After]) rfl rfl rfl rfl rfl rfl (setAt h1l) rfl rfl (set_set' rfl)) ?_
  refine ax_nil (cx_keep rfl rfl (cx_seq (cx_ops ?_)))
  refine ax_q (q_mov rfl) ?_
  refine ax_qe (r' := int ((k0 + 10 * k + 5 : Nat) : Int)) (q_ibin rfl rfl rfl) (by rw [wi (by omega) (by omega)]; rfl) ?_
  refine ax_q (q_mov rfl) ?_
  refine ax_nil (cx_keep rfl rfl (cx_seq (cx_ops ?_)))
  refine ax_q (q_mov rfl) ?_
  refine ax_q (q_mov rfl) ?_
  refine ax_q (q_mov rfl) ?_
  refine ax_q (q_ixo rfl rfl h1x) ?_
  first | refine ax_q (q_fadr_ptr rfl) ?_ | refine ax_q (q_fadr_rptr rfl) ?_
  refine ax_e (e_str (q := [.int .i64 ((k0 + 10 * k : Nat) : Int), .int .i64 ((k0 + 10 * k + 1 : Nat) : Int), .int .i64 ((k0 + 10 * k + 2 : Nat) : Int), .int .i64 ((k0 + 10 * k + 3 : Nat) : Int), .int .i64 ((k0 + 10 * k + 4 : Nat) : Int), .int .i64 ((k0 + 10 * k + 5 : Nat) : Int), .int .i64 xs[k].Page, .int .i64 xs[k].Slot, .str xs[k].Before, .str xs[k].After]) rfl rfl rfl rfl rfl rfl (setAt h1l) rfl rfl (set_set' rfl)) ?_
  refine ax_nil (cx_keep rfl rfl (cx_seq (cx_ops ?_)))
  refine ax_q (q_mov rfl) ?_
  refine ax_qe (r' := int ((k0 + 10 * k + 6 : Nat) : Int)) (q_ibin rfl rfl rfl) (by rw [wi (by omega) (by omega)]; rfl) ?_
  refine ax_q (q_mov rfl) ?_
  refine ax_nil (cx_keep rfl rfl (cx_seq (cx_ops ?_)))
  refine ax_q (q_mov rfl) ?_
  refine ax_q (q_mov rfl) ?_
  refine ax_q (q_mov rfl) ?_
  refine ax_q (q_ixo rfl rfl h1x) ?_
  first | refine ax_q (q_fadr_ptr rfl) ?_ | refine ax_q (q_fadr_rptr rfl) ?_
  refine ax_e (e_str (q := [.int .i64 ((k0 + 10 * k : Nat) : Int), .int .i64 ((k0 + 10 * k + 1 : Nat) : Int), .int .i64 ((k0 + 10 * k + 2 : Nat) : Int), .int .i64 ((k0 + 10 * k + 3 : Nat) : Int), .int .i64 ((k0 + 10 * k + 4 : Nat) : Int), .int .i64 ((k0 + 10 * k + 5 : Nat) : Int), .int .i64 ((k0 + 10 * k + 6 : Nat) : Int), .int .i64 xs[k].Slot, .str xs[k].Before, .str xs[k].After]) rfl rfl rfl rfl rfl rfl (setAt h1l) rfl rfl (set_set' rfl)) ?_
  refine ax_nil (cx_keep rfl rfl (cx_seq (cx_ops ?_)))
  refine ax_q (q_mov rfl) ?_
  refine ax_qe (r' := int ((k0 + 10 * k + 7 : Nat) : Int)) (q_ibin rfl rfl rfl) (by rw [wi (by omega) (by omega)]; rfl) ?_
  refine ax_q (q_mov rfl) ?_
  refine ax_nil (cx_keep rfl rfl (cx_seq (cx_ops ?_)))
  refine ax_q (q_mov rfl) ?_
  refine ax_q (q_mov rfl) ?_
  refine ax_q (q_mov rfl) ?_
  refine ax_q (q_ixo rfl rfl h1x) ?_
  first | refine ax_q (q_fadr_ptr rfl) ?_ | refine ax_q (q_fadr_rptr rfl) ?_
  refine ax_e (e_str (q := [.int .i64 ((k0 + 10 * k : Nat) : Int), .int .i64 ((k0 + 10 * k + 1 : Nat) : Int), .int .i64 ((k0 + 10 * k + 2 : Nat) : Int), .int .i64 ((k0 + 10 * k + 3 : Nat) : Int), .int .i64 ((k0 + 10 * k + 4 : Nat) : Int), .int .i64 ((k0 + 10 * k + 5 : Nat) : Int), .int .i64 ((k0 + 10 * k + 6 : Nat) : Int), .int .i64 ((k0 + 10 * k + 7 : Nat) : Int), .str xs[k].Before, .str xs[k].After]) rfl rfl rfl rfl rfl rfl (setAt h1l) rfl rfl (set_set' rfl)) ?_
  refine ax_nil (cx_keep rfl rfl (cx_seq (cx_ops ?_)))
  refine ax_q (q_mov rfl) ?_
  refine ax_qe (r' := int ((k0 + 10 * k + 8 : Nat) : Int)) (q_ibin rfl rfl rfl) (by rw [wi (by omega) (by omega)]; rfl) ?_
  refine ax_q (q_mov rfl) ?_
  refine ax_nil (cx_keep rfl rfl (cx_seq (cx_ops ?_)))
  refine ax_q (q_mov rfl) ?_
  refine ax_q (q_mov rfl) ?_
  refine ax_q (q_mov rfl) ?_
  refine ax_call rfl (vc_pure0 (c_markText (by omega)) hP rfl rfl ?_)
  refine ax_q (q_ixo rfl rfl h1x) ?_
  first | refine ax_q (q_fadr_ptr rfl) ?_ | refine ax_q (q_fadr_rptr rfl) ?_
  refine ax_e (e_str (q := [.int .i64 ((k0 + 10 * k : Nat) : Int), .int .i64 ((k0 + 10 * k + 1 : Nat) : Int), .int .i64 ((k0 + 10 * k + 2 : Nat) : Int), .int .i64 ((k0 + 10 * k + 3 : Nat) : Int), .int .i64 ((k0 + 10 * k + 4 : Nat) : Int), .int .i64 ((k0 + 10 * k + 5 : Nat) : Int), .int .i64 ((k0 + 10 * k + 6 : Nat) : Int), .int .i64 ((k0 + 10 * k + 7 : Nat) : Int), .str (mkT (k0 + 10 * k + 8)), .str xs[k].After]) rfl rfl rfl rfl rfl rfl (setAt h1l) rfl rfl (set_set' rfl)) ?_
  refine ax_nil (cx_keep rfl rfl (cx_seq (cx_ops ?_)))
  refine ax_q (q_mov rfl) ?_
  refine ax_qe (r' := int ((k0 + 10 * k + 9 : Nat) : Int)) (q_ibin rfl rfl rfl) (by rw [wi (by omega) (by omega)]; rfl) ?_
  refine ax_q (q_mov rfl) ?_
  refine ax_nil (cx_keep rfl rfl (cx_seq (cx_ops ?_)))
  refine ax_q (q_mov rfl) ?_
  refine ax_q (q_mov rfl) ?_
  refine ax_q (q_mov rfl) ?_
  refine ax_call rfl (vc_pure0 (c_markText (by omega)) hP rfl rfl ?_)
  refine ax_q (q_ixo rfl rfl h1x) ?_
  first | refine ax_q (q_fadr_ptr rfl) ?_ | refine ax_q (q_fadr_rptr rfl) ?_
  refine ax_e (e_str (q := GLogRecord.row (GLogRecord.mk1 (k0 + 10 * k) xs[k])) rfl rfl rfl rfl rfl rfl (setAt h1l) rfl rfl (set_set' (markL_set h1x))) ?_
  refine ax_nil (cx_keep rfl rfl (cx_ops ?_))
  refine ax_q (q_mov rfl) ?_
  refine ax_qe (r' := int ((k0 + 10 * k + 10 : Nat) : Int)) (q_ibin rfl rfl rfl) (by rw [wi (by omega) (by omega)]; rfl) ?_
  refine ax_q (q_mov rfl) ?_
  refine ax_nil (cx_keep rfl rfl (cx_ops ?_))
  refine ax_q (q_mov rfl) ?_
  refine ax_qe (r' := int ((k + 1 : Nat) : Int)) (q_ibin rfl rfl rfl) (by rw [wi (by omega) (by omega)]; rfl) ?_
  refine ax_q (q_mov rfl) ?_
  refine ax_nil ?_
  exact ⟨_, k + 1, by omega, ⟨by omega, rfl⟩, by repeat constructor⟩
 ·
  have h0 := dF h0
  refine cx_exit rfl ?_
  refine cx_keep rfl rfl (cx_seq (cx_ops ?_))
  refine ax_q (q_mov rfl) ?_
  refine ax_q (q_mov rfl) ?_
  refine ax_nil (cx_keep rfl rfl ?_)
  have hk2 : k = xs.length := by omega
  subst hk2
  refine cx_ret (retN id [1000] rfl rfl rfl rfl rfl ?_)
  exact ⟨rfl, by rw [markL_full]; rfl⟩


/- loop.example/g00332/laws.markFrameS -/
def k_c_markFrameS : XCode :=
 .seq (.ops [.op (some 4) (.mov (.k (.int .i64 0)))])
 (.keep [0, 1] (.seq (.seq (.ops [.op (some 5) (.mov (.k (.int .i64 0)))])
  (.keep [0, 1, 5] (.block 0 (.loop (.seq (.seq (.ops [.op (some 6) (.mov (.t 5)),
     .op (some 7) (.mov (.t 0)),
     .op (some 8) (.lenS (.t 7)),
     .op (some 9) (.bin .lss (.t 6) (.t 8))])
   (.keep [0, 1, 5, 9] (.cond (.t 9)
    (.skip)
    (.exit 0))))
   (.keep [0, 1, 5] (.seq (.block 1 (.seq (.ops [.op (some 12) (.mov (.t 0)),
     .op (some 13) (.mov (.t 5)),
     .op (some 14) (.mov (.t 1)),
     .op (some 15) (.iadr 5 (.t 12) (.t 13)),
     .op (some 16) (.fadr (.t 15) 0),
     .op none (.store 1 (.t 16) (.t 14))])
    (.keep [0, 1, 5] (.seq (.ops [.op (some 17) (.mov (.t 1)),
     .op (some 18) (.bin .add (.t 17) (.k (.int .i64 1))),
     .op (some 1) (.mov (.t 18))])
    (.keep [0, 1, 5] (.seq (.ops [.op (some 19) (.mov (.t 0)),
     .op (some 20) (.mov (.t 5)),
     .op (some 21) (.mov (.t 1)),
     .op (some 22) (.iadr 5 (.t 19) (.t 20)),
     .op (some 23) (.fadr (.t 22) 1),
     .op (some 24) (.fadr (.t 23) 0),
     .op none (.store 1 (.t 24) (.t 21))])
    (.keep [0, 1, 5] (.seq (.ops [.op (some 25) (.mov (.t 1)),
     .op (some 26) (.bin .add (.t 25) (.k (.int .i64 1))),
     .op (some 1) (.mov (.t 26))])
    (.keep [0, 1, 5] (.seq (.ops [.op (some 27) (.mov (.t 0)),
     .op (some 28) (.mov (.t 5)),
     .op (some 29) (.iadr 5 (.t 27) (.t 28)),
     .op (some 30) (.fadr (.t 29) 1),
     .op (some 31) (.fadr (.t 30) 1),
     .op (some 32) (.load1 (.t 31)),
     .op (some 33) (.mov (.t 1)),
     .call (some 34) 114 [.t 32, .t 33],
     .op (some 1) (.mov (.t 34))])
    (.keep [0, 1, 5] (.seq (.ops [.op (some 35) (.mov (.t 0)),
     .op (some 36) (.mov (.t 5)),
     .op (some 37) (.mov (.t 1)),
     .op (some 38) (.bin .rem (.t 37) (.k (.int .i64 3))),
     .op (some 39) (.bin .eql (.t 38) (.k (.int .i64 0))),
     .op (some 40) (.iadr 5 (.t 35) (.t 36)),
     .op (some 41) (.fadr (.t 40) 3),
     .op none (.store 1 (.t 41) (.t 39))])
    (.keep [0, 1, 5] (.seq (.ops [.op (some 42) (.mov (.t 1)),
     .op (some 43) (.bin .add (.t 42) (.k (.int .i64 1))),
     .op (some 1) (.mov (.t 43))])
    (.keep [0, 1, 5] (.seq (.ops [.op (some 44) (.mov (.t 0)),
     .op (some 45) (.mov (.t 5)),
     .op (some 46) (.mov (.t 1)),
     .op (some 47) (.iadr 5 (.t 44) (.t 45)),
     .op (some 48) (.fadr (.t 47) 4),
     .op none (.store 1 (.t 48) (.t 46))])
    (.keep [0, 1, 5] (.ops [.op (some 49) (.mov (.t 1)),
     .op (some 50) (.bin .add (.t 49) (.k (.int .i64 1))),
     .op (some 1) (.mov (.t 50))]))))))))))))))))))
   (.keep [0, 1, 5] (.ops [.op (some 10) (.mov (.t 5)),
    .op (some 11) (.bin .add (.t 10) (.k (.int .i64 1))),
    .op (some 5) (.mov (.t 11))])))))))))
 (.keep [1] (.seq (.ops [.op (some 51) (.mov (.t 1)),
   .op (some 4) (.mov (.t 51))])
 (.keep [4] (.ret))))))
theorem k_c_markFrameS_fits : fitsF Tryz.prog 58 ⟨52, k_c_markFrameS, [.t 4]⟩ = true := by kernel_rfl
set_option maxHeartbeats 4000000 in
theorem c_markFrameS {xs : List GFrame} {k0 : Nat} (hw : frK k0 xs ≤ 1000000000000000000) : Con Tryz.prog noMv 58 [.osl 1000 5 0 xs.length, int k0] [(1000, .deep 5 (xs.map GFrame.row) [])] (fun r h => ∃ rs, r = int ((frK k0 xs : Nat) : Int) ∧ h = [(1000, .deep 5 rs [])]) := by
 refine con_of2 k_c_markFrameS_fits rfl fun C hP hmv => ?_
 unfold k_c_markFrameS
 have hge := @frK_ge k0 xs
 refine cx_seq (cx_ops ?_)
 refine ax_q (q_mov rfl) ?_
 refine ax_nil (cx_keep rfl rfl (cx_seq (cx_seq (cx_ops ?_))))
 refine ax_q (q_mov rfl) ?_
 refine ax_nil (cx_keep rfl rfl (cx_block ?_))
 refine cx_loopU (fun n (p : Nat × List (List D)) => p.1 ≤ xs.length ∧ n = xs.length - p.1 ∧ p.2.length = p.1) (fun p => [(5, int p.1), (1, int ((frK k0 (xs.take p.1) : Nat) : Int))]) (fun p => [(1000, .deep 5 (p.2 ++ (xs.drop p.1).map GFrame.row) [])]) ⟨_, (0, []), ⟨Nat.zero_le _, rfl, rfl⟩, by repeat constructor⟩ ?_
 rintro n ⟨k, pre⟩ ⟨hk, rfl, hpl⟩
 simp only at hk hpl ⊢
 refine cx_seq (cx_seq (cx_ops ?_))
 refine ax_q (q_mov rfl) ?_
 refine ax_q (q_mov rfl) ?_
 first | refine ax_q (q_lenS_map rfl) ?_ | refine ax_q (q_lenS_osl rfl) ?_
 refine ax_q (q_ibin rfl rfl rfl) ?_
 refine ax_nil (cx_keep rfl rfl ?_)
 refine cx_cond rfl (fun h0 => ?_) (fun h0 => ?_)
 ·
  have h0 := dT h0
  have h1x : k < xs.length := by omega
  have hle := @frK_le k0 (k + 1) xs
  rw [frK_s h1x] at hle
  rw [List.drop_eq_getElem_cons h1x, List.map_cons]
  refine cx_skip ?_
  refine cx_keep rfl rfl (cx_seq (cx_block (cx_seq (cx_ops ?_))))
  refine ax_q (q_mov rfl) ?_
  refine ax_q (q_mov rfl) ?_
  refine ax_q (q_mov rfl) ?_
  refine ax_q (q_ixo rfl rfl h1x) ?_
  first | refine ax_q (q_fadr_ptr rfl) ?_ | refine ax_q (q_fadr_rptr rfl) ?_
  refine ax_e (e_strDf (row := [.int .i64 xs[k].No, .int .i64 xs[k].Page.lsn, .sl 1 (xs[k].Page.slots.map strRow), .bool xs[k].Dirty, .int .i64 xs[k].First]) (rs' := pre ++ [.int .i64 ((frK k0 (xs.take k) : Nat) : Int), .int .i64 xs[k].Page.lsn, .sl 1 (xs[k].Page.slots.map strRow), .bool xs[k].Dirty, .int .i64 xs[k].First] :: ((xs.drop (k + 1)).map GFrame.row)) rfl rfl rfl rfl rfl (mid_get hpl) rfl (mid_set hpl)) ?_
  refine ax_nil (cx_keep rfl rfl (cx_seq (cx_ops ?_)))
  refine ax_q (q_mov rfl) ?_
  refine ax_qe (r' := int ((frK k0 (xs.take k) + 1 : Nat) : Int)) (q_ibin rfl rfl rfl) (by rw [wi (by omega) (by omega)]; exact congrArg AM.int (by omega)) ?_
  refine ax_q (q_mov rfl) ?_
  refine ax_nil (cx_keep rfl rfl (cx_seq (cx_ops ?_)))
  refine ax_q (q_mov rfl) ?_
  refine ax_q (q_mov rfl) ?_
  refine ax_q (q_mov rfl) ?_
  refine ax_q (q_ixo rfl rfl h1x) ?_
  first | refine ax_q (q_fadr_ptr rfl) ?_ | refine ax_q (q_fadr_rptr rfl) ?_
  first | refine ax_q (q_fadr_ptr rfl) ?_ | refine ax_q (q_fadr_rptr rfl) ?_
  refine ax_e (e_strDf (row := [.int .i64 ((frK k0 (xs.take k) : Nat) : Int), .int .i64 xs[k].Page.lsn, .sl 1 (xs[k].Page.slots.map strRow), .bool xs[k].Dirty, .int .i64 xs[k].First]) (rs' := pre ++ [.int .i64 ((frK k0 (xs.take k) : Nat) : Int), .int .i64 ((frK k0 (xs.take k) + 1 : Nat) : Int), .sl 1 (xs[k].Page.slots.map strRow), .bool xs[k].Dirty, .int .i64 xs[k].First] :: ((xs.drop (k + 1)).map GFrame.row)) rfl rfl rfl rfl rfl (mid_get hpl) rfl (mid_set hpl)) ?_
  refine ax_nil (cx_keep rfl rfl (cx_seq (cx_ops ?_)))
  refine ax_q (q_mov rfl) ?_
  refine ax_qe (r' := int ((frK k0 (xs.take k) + 2 : Nat) : Int)) (q_ibin rfl rfl rfl) (by rw [wi (by omega) (by omega)]; exact congrArg AM.int (by omega)) ?_
  refine ax_q (q_mov rfl) ?_
  refine ax_nil (cx_keep rfl rfl (cx_seq (cx_ops ?_)))
  refine ax_q (q_mov rfl) ?_
  refine ax_q (q_mov rfl) ?_
  refine ax_q (q_ixo rfl rfl h1x) ?_
  first | refine ax_q (q_fadr_ptr rfl) ?_ | refine ax_q (q_fadr_rptr rfl) ?_
  first | refine ax_q (q_fadr_ptr rfl) ?_ | refine ax_q (q_fadr_rptr rfl) ?_
  refine ax_wk (wk_open 1000 900 k 2 (row := [.int .i64 ((frK k0 (xs.take k) : Nat) : Int), .int .i64 ((frK k0 (xs.take k) + 1 : Nat) : Int), .sl 1 (xs[k].Page.slots.map strRow), .bool xs[k].Dirty, .int .i64 xs[k].First]) (xs := xs[k].Page.slots.map strRow) rfl (mid_get hpl) rfl rfl rfl rfl rfl rfl) ?_
  refine ax_qe (r' := .osl 900 1 0 xs[k].Page.slots.length) (q_load1_hole (r := [.int .i64 ((frK k0 (xs.take k) : Nat) : Int), .int .i64 ((frK k0 (xs.take k) + 1 : Nat) : Int), .sl 1 (xs[k].Page.slots.map strRow), .bool xs[k].Dirty, .int .i64 xs[k].First]) rfl rfl (mid_get hpl) rfl (by rw [hole_cons, if_pos ⟨rfl, rfl⟩])) (by rw [List.length_map]) ?_
  refine ax_q (q_mov rfl) ?_
  refine ax_call rfl (vcall_own (c_markStringS (xs := xs[k].Page.slots) (k0 := frK k0 (xs.take k) + 2) (by omega)) hP hmv false (fun _ => 900) [1000] ⟨rfl, rfl, rfl, rfl, ⟨rfl, trivial⟩, rfl, rfl, rfl⟩ (.pass rfl rfl (.pass rfl rfl .nil)) ?_)
  rintro r h ⟨rfl, rfl⟩
  refine ⟨fun _ => 900, [], ⟨rfl, rfl, rfl, rfl, mem1 rfl, rfl, rfl, fun h => by cases h⟩, ?_⟩
  refine ax_wk (wk_closeE 1000 900 k 2 (row := [.int .i64 ((frK k0 (xs.take k) : Nat) : Int), .int .i64 ((frK k0 (xs.take k) + 1 : Nat) : Int), .sl 1 (xs[k].Page.slots.map strRow), .bool xs[k].Dirty, .int .i64 xs[k].First]) (xs := xs[k].Page.slots.map strRow) (ys := (markL (fun k _ => mkT k) 1 (frK k0 (xs.take k) + 2) xs[k].Page.slots).map strRow) (hs := []) (rs' := pre ++ [.int .i64 ((frK k0 (xs.take k) : Nat) : Int), .int .i64 ((frK k0 (xs.take k) + 1 : Nat) : Int), .sl 1 ((markL (fun k _ => mkT k) 1 (frK k0 (xs.take k) + 2) xs[k].Page.slots).map strRow), .bool xs[k].Dirty, .int .i64 xs[k].First] :: ((xs.drop (k + 1)).map GFrame.row)) rfl rfl (mid_get hpl) rfl (by rw [List.length_map, List.length_map, markL_len]) (flat_map (fun _ => rfl)) rfl rfl rfl (mid_set hpl)) ?_
  refine ax_q (q_mov rfl) ?_
  refine ax_nil (cx_keep rfl rfl (cx_seq (cx_ops ?_)))
  refine ax_q (q_mov rfl) ?_
  refine ax_q (q_mov rfl) ?_
  refine ax_q (q_mov rfl) ?_
  refine ax_q (q_mod rfl rfl (by omega) (by omega)) ?_
  refine ax_q (q_ibin rfl rfl rfl) ?_
  refine ax_q (q_ixo rfl rfl h1x) ?_
  first | refine ax_q (q_fadr_ptr rfl) ?_ | refine ax_q (q_fadr_rptr rfl) ?_
  refine ax_e (e_strDf (row := [.int .i64 ((frK k0 (xs.take k) : Nat) : Int), .int .i64 ((frK k0 (xs.take k) + 1 : Nat) : Int), .sl 1 ((markL (fun k _ => mkT k) 1 (frK k0 (xs.take k) + 2) xs[k].Page.slots).map strRow), .bool xs[k].Dirty, .int .i64 xs[k].First]) rfl rfl rfl rfl rfl (mid_get hpl) rfl (mid_set hpl)) ?_
  refine ax_nil (cx_keep rfl rfl (cx_seq (cx_ops ?_)))
  refine ax_q (q_mov rfl) ?_
  refine ax_qe (r' := int ((frK k0 (xs.take k) + 3 + xs[k].Page.slots.length : Nat) : Int)) (q_ibin rfl rfl rfl) (by rw [wi (by omega) (by omega)]; exact congrArg AM.int (by omega)) ?_
  refine ax_q (q_mov rfl) ?_
  refine ax_nil (cx_keep rfl rfl (cx_seq (cx_ops ?_)))
  refine ax_q (q_mov rfl) ?_
  refine ax_q (q_mov rfl) ?_
  refine ax_q (q_mov rfl) ?_
  refine ax_q (q_ixo rfl rfl h1x) ?_
  first | refine ax_q (q_fadr_ptr rfl) ?_ | refine ax_q (q_fadr_rptr rfl) ?_
  refine ax_e (e_strDf rfl rfl rfl rfl rfl (mid_get hpl) rfl (mid_set1 hpl)) ?_
  refine ax_nil (cx_keep rfl rfl (cx_ops ?_))
  refine ax_q (q_mov rfl) ?_
  refine ax_qe (r' := int ((frK k0 (xs.take k) + 4 + xs[k].Page.slots.length : Nat) : Int)) (q_ibin rfl rfl rfl) (by rw [wi (by omega) (by omega)]; exact congrArg AM.int (by omega)) ?_
  refine ax_q (q_mov rfl) ?_
  refine ax_nil (cx_keep rfl rfl (cx_ops ?_))
  refine ax_q (q_mov rfl) ?_
  refine ax_qe (r' := int ((k + 1 : Nat) : Int)) (q_ibin rfl rfl rfl) (by rw [wi (by omega) (by omega)]; rfl) ?_
  refine ax_q (q_mov rfl) ?_
  refine ax_nil ?_
  exact ⟨_, (k + 1, pre ++ [_]), by simp only; omega, ⟨by simp only; omega, rfl, by simp only [List.length_append, List.length_singleton]; omega⟩, by simp only; rw [frK_s h1x]; exact by repeat constructor⟩
 ·
  have h0 := dF h0
  obtain rfl : k = xs.length := by omega
  rw [List.take_length]
  refine cx_exit rfl ?_
  refine cx_keep rfl rfl (cx_seq (cx_ops ?_))
  refine ax_q (q_mov rfl) ?_
  refine ax_q (q_mov rfl) ?_
  refine ax_nil (cx_keep rfl rfl ?_)
  refine cx_ret (retN id [1000] rfl rfl rfl rfl rfl ?_)
  exact ⟨_, rfl, rfl⟩


/- loop.example/g00332/laws.markStore -/
def k_c_markStore : XCode :=
 .seq (.ops [.op (some 2) (.box (.t 0)),
   .op (some 4) (.mov (.k (.int .i64 0)))])
 (.keep [1, 2] (.seq (.ops [.op (some 5) (.fadr (.t 2) 0),
   .op (some 6) (.loadN 4 (.t 5)),
   .op (some 7) (.mov (.t 1)),
   .call (some 8) 56 [.t 6, .t 7],
   .op (some 1) (.mov (.t 8))])
 (.keep [1, 2] (.seq (.ops [.op (some 9) (.fadr (.t 2) 5),
   .op (some 10) (.load1 (.t 9)),
   .op (some 11) (.mov (.t 1)),
   .call (some 12) 57 [.t 10, .t 11],
   .op (some 1) (.mov (.t 12))])
 (.keep [1, 2] (.seq (.ops [.op (some 13) (.fadr (.t 2) 7),
   .op (some 14) (.load1 (.t 13)),
   .op (some 15) (.mov (.t 1)),
   .call (some 16) 58 [.t 14, .t 15],
   .op (some 1) (.mov (.t 16))])
 (.keep [1] (.seq (.ops [.op (some 17) (.mov (.t 1)),
   .op (some 4) (.mov (.t 17))])
 (.keep [4] (.ret))))))))))
theorem k_c_markStore_fits : fitsF Tryz.prog 21 ⟨18, k_c_markStore, [.t 4]⟩ = true := by kernel_rfl
theorem c_markStore {a : GStore} {k0 : Nat} (hw : GStore.mkN k0 a ≤ 1000000000000000000) : Con Tryz.prog noMv 21 [a.avO 1000 1001 1002 1003 1004, int k0] (a.hO 1000 1001 1002 1003 1004) (fun r h => ∃ rs, r = int ((GStore.mkN k0 a : Nat) : Int) ∧ h = (GDisk.mkS k0 a.Disk).hO 1000 1001 1002 ++ [(1003, .rows 10 ((markL GLogRecord.mk1 10 (GDisk.mkN k0 a.Disk) a.Log).map GLogRecord.row)), (1004, .deep 5 rs [])]) := by
 refine con_of2 k_c_markStore_fits rfl fun C hP hmv => ?_
 unfold k_c_markStore
 have hw2 := @frK_le (GDisk.mkN k0 a.Disk + 10 * a.Log.length) 0 a.Frames
 have hw3 : frK (GDisk.mkN k0 a.Disk + 10 * a.Log.length) a.Frames ≤ 1000000000000000000 := hw
 simp only [List.take_zero] at hw2
 have hw4 : frK (GDisk.mkN k0 a.Disk + 10 * a.Log.length) [] = GDisk.mkN k0 a.Disk + 10 * a.Log.length := rfl
 refine cx_seq (cx_ops ?_)
 refine ax_e (e_box rfl rfl (by decide) rfl rfl rfl) ?_
 refine ax_q (q_mov rfl) ?_
 refine ax_nil (cx_keep rfl rfl (cx_seq (cx_ops ?_)))
 refine ax_q (q_fadr_ptr rfl) ?_
 refine ax_q (q_ldN rfl rfl rfl) ?_
 refine ax_q (q_mov rfl) ?_
 refine ax_call rfl (vcall_own (c_markDisk (a := a.Disk) (k0 := k0) (by omega)) hP hmv false (fun e => bif Nat.beq e 1000 then 1000 else bif Nat.beq e 1001 then 1001 else 1002) [1000, 1001, 1002] ⟨rfl, rfl, rfl, rfl, (by repeat (first | exact trivial | refine ⟨rfl, ?_⟩)), rfl, rfl, rfl⟩ (.pass rfl rfl (.pass rfl rfl .nil)) ?_)
 rintro r h ⟨rfl, rfl⟩
 refine ⟨fun e => bif Nat.beq e 1000 then 1000 else bif Nat.beq e 1001 then 1001 else 1002, [], ⟨rfl, rfl, rfl, rfl, (mem3 rfl rfl rfl), rfl, rfl, fun h => by cases h⟩, ?_⟩
 refine ax_q (q_mov rfl) ?_
 refine ax_nil (cx_keep rfl rfl (cx_seq (cx_ops ?_)))
 refine ax_q (q_fadr_ptr rfl) ?_
 refine ax_q (q_load1_ptr rfl rfl rfl) ?_
 refine ax_q (q_mov rfl) ?_
 refine ax_call rfl (vcall_own (c_markLogRecordS (xs := a.Log) (k0 := GDisk.mkN k0 a.Disk) (by omega)) hP hmv false (fun e => 1003) [1000] ⟨rfl, rfl, rfl, rfl, (by repeat (first | exact trivial | refine ⟨rfl, ?_⟩)), rfl, rfl, rfl⟩ (.pass rfl rfl (.pass rfl rfl .nil)) ?_)
 rintro r h ⟨rfl, rfl⟩
 refine ⟨fun e => 1003, [], ⟨rfl, rfl, rfl, rfl, (mem1 rfl), rfl, rfl, fun h => by cases h⟩, ?_⟩
 refine ax_q (q_mov rfl) ?_
 refine ax_nil (cx_keep rfl rfl (cx_seq (cx_ops ?_)))
 refine ax_q (q_fadr_ptr rfl) ?_
 refine ax_q (q_load1_ptr rfl rfl rfl) ?_
 refine ax_q (q_mov rfl) ?_
 refine ax_call rfl (vcall_own (c_markFrameS (xs := a.Frames) (k0 := GDisk.mkN k0 a.Disk + 10 * a.Log.length) hw3) hP hmv false (fun e => 1004) [1000] ⟨rfl, rfl, rfl, rfl, (by repeat (first | exact trivial | refine ⟨rfl, ?_⟩)), rfl, rfl, rfl⟩ (.pass rfl rfl (.pass rfl rfl .nil)) ?_)
 rintro r h ⟨rs, rfl, rfl⟩
 refine ⟨fun e => 1004, [], ⟨rfl, rfl, rfl, rfl, (mem1 rfl), rfl, rfl, fun h => by cases h⟩, ?_⟩
 refine ax_q (q_mov rfl) ?_
 refine ax_nil (cx_keep rfl rfl (cx_seq (cx_ops ?_)))
 refine ax_q (q_mov rfl) ?_
 refine ax_q (q_mov rfl) ?_
 refine ax_nil (cx_keep rfl rfl ?_)
 refine cx_ret (retN id [1000, 1001, 1002, 1003, 1004] rfl rfl rfl rfl rfl ?_)
 exact ⟨rs, rfl, rfl⟩


/- loop.example/g00332/laws.heldIntS -/
def k_c_heldIntS : XCode :=
 .seq (.ops [.op (some 4) (.mov (.k (.int .i64 0)))])
 (.keep [0, 1] (.seq (.seq (.ops [.op (some 5) (.mov (.k (.int .i64 0)))])
  (.keep [0, 1, 5] (.block 0 (.loop (.seq (.seq (.ops [.op (some 6) (.mov (.t 5)),
     .op (some 7) (.mov (.t 0)),
     .op (some 8) (.lenS (.t 7)),
     .op (some 9) (.bin .lss (.t 6) (.t 8))])
   (.keep [0, 1, 5, 9] (.cond (.t 9)
    (.skip)
    (.exit 0))))
   (.keep [0, 1, 5] (.seq (.block 1 (.seq (.seq (.ops [.op (some 12) (.mov (.t 0)),
      .op (some 13) (.mov (.t 5)),
      .op (some 14) (.iadr 1 (.t 12) (.t 13)),
      .op (some 15) (.load1 (.t 14)),
      .op (some 16) (.mov (.t 1)),
      .op (some 17) (.bin .neq (.t 15) (.t 16))])
    (.keep [0, 1, 5, 17] (.cond (.t 17)
     (.seq (.ops [.op (some 4) (.mov (.k (.int .i64 (-1))))])
     (.keep [4] (.ret)))
     (.skip))))
    (.keep [0, 1, 5] (.ops [.op (some 18) (.mov (.t 1)),
     .op (some 19) (.bin .add (.t 18) (.k (.int .i64 1))),
     .op (some 1) (.mov (.t 19))]))))
   (.keep [0, 1, 5] (.ops [.op (some 10) (.mov (.t 5)),
    .op (some 11) (.bin .add (.t 10) (.k (.int .i64 1))),
    .op (some 5) (.mov (.t 11))])))))))))
 (.keep [1] (.seq (.ops [.op (some 20) (.mov (.t 1)),
   .op (some 4) (.mov (.t 20))])
 (.keep [4] (.ret))))))
theorem k_c_heldIntS_fits : fitsF Tryz.prog 23 ⟨21, k_c_heldIntS, [.t 4]⟩ = true := by kernel_rfl
theorem c_heldIntS {xs : List Int} {k0 : Nat} (hw : k0 + 1 * xs.length ≤ 1000000000000000000) : Con Tryz.prog noMv 23 [.d (.sl 1 ((markL (fun k _ => (k : Int)) 1 k0 xs).map intRow)), int k0] [] (fun r h => r = int ((k0 + 1 * xs.length : Nat) : Int) ∧ h = []) := by
 refine con_of2 k_c_heldIntS_fits rfl fun C hP hmv => ?_
 unfold k_c_heldIntS
 refine cx_seq (cx_ops ?_)
 refine ax_q (q_mov rfl) ?_
 refine ax_nil (cx_keep rfl rfl (cx_seq (cx_seq (cx_ops ?_))))
 refine ax_q (q_mov rfl) ?_
 refine ax_nil (cx_keep rfl rfl (cx_block ?_))
 refine cx_loopU (fun m k => k ≤ xs.length ∧ m = xs.length - k) (fun k : Nat => [(1, int ((k0 + 1 * k : Nat) : Int)), (5, int k)]) (fun k => []) ⟨_, 0, ⟨Nat.zero_le _, rfl⟩, by repeat constructor⟩ ?_
 rintro m k ⟨hk, rfl⟩
 refine cx_seq (cx_seq (cx_ops ?_))
 refine ax_q (q_mov rfl) ?_
 refine ax_q (q_mov rfl) ?_
 refine ax_q (q_lenS_map rfl) ?_
 refine ax_q (q_ibin rfl rfl rfl) ?_
 refine ax_nil (cx_keep rfl rfl ?_)
 refine cx_cond rfl (fun h0 => ?_) (fun h0 => ?_)
 ·
  have h0 := dT h0; rw [markL_len] at h0; have h1x : k < xs.length := by omega
  refine cx_skip ?_
  refine cx_keep rfl rfl (cx_seq (cx_block (cx_seq (cx_seq (cx_ops ?_)))))
  refine ax_q (q_mov rfl) ?_
  refine ax_q (q_mov rfl) ?_
  refine ax_q (q_ix rfl rfl (heldAt h1x)) ?_
  first | refine ax_q (q_load1_ptr rfl rfl rfl) ?_ | refine ax_q (q_load1_ip rfl) ?_
  refine ax_q (q_mov rfl) ?_
  refine ax_q (q_ibin rfl rfl rfl) ?_
  refine ax_nil (cx_keep rfl rfl ?_)
  refine cx_cond rfl (fun h1 => ?_) (fun h1 => ?_)
  ·
   have h1 := nT h1
   exact absurd rfl h1
  ·
   have h1 := nF h1
   refine cx_skip ?_
   refine cx_keep rfl rfl (cx_ops ?_)
   refine ax_q (q_mov rfl) ?_
   refine ax_qe (r' := int ((k0 + 1 * k + 1 : Nat) : Int)) (q_ibin rfl rfl rfl) (by rw [wi (by omega) (by omega)]; rfl) ?_
   refine ax_q (q_mov rfl) ?_
   refine ax_nil (cx_keep rfl rfl (cx_ops ?_))
   refine ax_q (q_mov rfl) ?_
   refine ax_qe (r' := int ((k + 1 : Nat) : Int)) (q_ibin rfl rfl rfl) (by rw [wi (by omega) (by omega)]; rfl) ?_
   refine ax_q (q_mov rfl) ?_
   refine ax_nil ?_
   exact ⟨_, k + 1, by omega, ⟨by omega, rfl⟩, by repeat constructor⟩
 ·
  have h0 := dF h0; rw [markL_len] at h0; have h1x : k = xs.length := by omega
  refine cx_exit rfl ?_
  refine cx_keep rfl rfl (cx_seq (cx_ops ?_))
  refine ax_q (q_mov rfl) ?_
  refine ax_q (q_mov rfl) ?_
  refine ax_nil (cx_keep rfl rfl ?_)
  refine cx_ret (ret0 rfl rfl ?_)
  exact ⟨by rw [h1x]; rfl, rfl⟩

end Go.Proofs.YtcloaaakhojjgaaGreat
