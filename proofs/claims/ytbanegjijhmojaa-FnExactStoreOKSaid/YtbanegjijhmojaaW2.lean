/- The walks: what each function computes, as a contract without a world (part 2). -/
import Derived.Test.YtbanegjijhmojaaProg
import Derived.Test.YtbanegjijhmojaaW1
namespace Go.Proofs.Ytbanegjijhmojaa
open Go Go.AM
set_option maxRecDepth 10000
set_option linter.unusedVariables false
set_option linter.unusedSimpArgs false
/- loop.example/g00332/laws.eqLogRecord -/
def k_c_eqLogRecord : XCode :=
 .seq (.ops [.op (some 2) (.box (.t 0)),
   .op (some 3) (.box (.t 1)),
   .op (some 4) (.mov (.k (.bool false)))])
 (.keep [2, 3] (.seq (.seq (.ops [.op (some 5) (.fadr (.t 2) 0),
   .op (some 6) (.load1 (.t 5)),
   .op (some 7) (.fadr (.t 3) 0),
   .op (some 8) (.load1 (.t 7)),
   .op (some 9) (.bin .neq (.t 6) (.t 8))])
  (.keep [2, 3, 9] (.cond (.t 9)
  (.seq (.ops [.op (some 4) (.mov (.k (.bool false)))])
   (.keep [4] (.ret)))
  (.skip))))
 (.keep [2, 3] (.seq (.seq (.ops [.op (some 10) (.fadr (.t 2) 1),
   .op (some 11) (.load1 (.t 10)),
   .op (some 12) (.fadr (.t 3) 1),
   .op (some 13) (.load1 (.t 12)),
   .op (some 14) (.bin .neq (.t 11) (.t 13))])
  (.keep [2, 3, 14] (.cond (.t 14)
  (.seq (.ops [.op (some 4) (.mov (.k (.bool false)))])
   (.keep [4] (.ret)))
  (.skip))))
 (.keep [2, 3] (.seq (.seq (.ops [.op (some 15) (.fadr (.t 2) 2),
   .op (some 16) (.load1 (.t 15)),
   .op (some 17) (.fadr (.t 3) 2),
   .op (some 18) (.load1 (.t 17)),
   .op (some 19) (.bin .neq (.t 16) (.t 18))])
  (.keep [2, 3, 19] (.cond (.t 19)
  (.seq (.ops [.op (some 4) (.mov (.k (.bool false)))])
   (.keep [4] (.ret)))
  (.skip))))
 (.keep [2, 3] (.seq (.seq (.ops [.op (some 20) (.fadr (.t 2) 3),
   .op (some 21) (.load1 (.t 20)),
   .op (some 22) (.fadr (.t 3) 3),
   .op (some 23) (.load1 (.t 22)),
   .op (some 24) (.bin .neq (.t 21) (.t 23))])
  (.keep [2, 3, 24] (.cond (.t 24)
  (.seq (.ops [.op (some 4) (.mov (.k (.bool false)))])
   (.keep [4] (.ret)))
  (.skip))))
 (.keep [2, 3] (.seq (.seq (.ops [.op (some 25) (.fadr (.t 2) 4),
   .op (some 26) (.load1 (.t 25)),
   .op (some 27) (.fadr (.t 3) 4),
   .op (some 28) (.load1 (.t 27)),
   .op (some 29) (.bin .neq (.t 26) (.t 28))])
  (.keep [2, 3, 29] (.cond (.t 29)
  (.seq (.ops [.op (some 4) (.mov (.k (.bool false)))])
   (.keep [4] (.ret)))
  (.skip))))
 (.keep [2, 3] (.seq (.seq (.ops [.op (some 30) (.fadr (.t 2) 5),
   .op (some 31) (.load1 (.t 30)),
   .op (some 32) (.fadr (.t 3) 5),
   .op (some 33) (.load1 (.t 32)),
   .op (some 34) (.bin .neq (.t 31) (.t 33))])
  (.keep [2, 3, 34] (.cond (.t 34)
  (.seq (.ops [.op (some 4) (.mov (.k (.bool false)))])
   (.keep [4] (.ret)))
  (.skip))))
 (.keep [2, 3] (.seq (.seq (.ops [.op (some 35) (.fadr (.t 2) 6),
   .op (some 36) (.load1 (.t 35)),
   .op (some 37) (.fadr (.t 3) 6),
   .op (some 38) (.load1 (.t 37)),
   .op (some 39) (.bin .neq (.t 36) (.t 38))])
  (.keep [2, 3, 39] (.cond (.t 39)
  (.seq (.ops [.op (some 4) (.mov (.k (.bool false)))])
   (.keep [4] (.ret)))
  (.skip))))
 (.keep [2, 3] (.seq (.seq (.ops [.op (some 40) (.fadr (.t 2) 7),
   .op (some 41) (.load1 (.t 40)),
   .op (some 42) (.fadr (.t 3) 7),
   .op (some 43) (.load1 (.t 42)),
   .op (some 44) (.bin .neq (.t 41) (.t 43))])
  (.keep [2, 3, 44] (.cond (.t 44)
  (.seq (.ops [.op (some 4) (.mov (.k (.bool false)))])
   (.keep [4] (.ret)))
  (.skip))))
 (.keep [2, 3] (.seq (.seq (.ops [.op (some 45) (.fadr (.t 2) 8),
   .op (some 46) (.load1 (.t 45)),
   .op (some 47) (.fadr (.t 3) 8),
   .op (some 48) (.load1 (.t 47)),
   .op (some 49) (.bin .neq (.t 46) (.t 48))])
  (.keep [2, 3, 49] (.cond (.t 49)
  (.seq (.ops [.op (some 4) (.mov (.k (.bool false)))])
   (.keep [4] (.ret)))
  (.skip))))
 (.keep [2, 3] (.seq (.seq (.ops [.op (some 50) (.fadr (.t 2) 9),
   .op (some 51) (.load1 (.t 50)),
   .op (some 52) (.fadr (.t 3) 9),
   .op (some 53) (.load1 (.t 52)),
   .op (some 54) (.bin .neq (.t 51) (.t 53))])
  (.keep [54] (.cond (.t 54)
  (.seq (.ops [.op (some 4) (.mov (.k (.bool false)))])
   (.keep [4] (.ret)))
  (.skip))))
 (.keep [] (.seq (.ops [.op (some 4) (.mov (.k (.bool true)))])
 (.keep [4] (.ret))))))))))))))))))))))))
theorem k_c_eqLogRecord_fits : fitsF Try.prog 75 ⟨55, k_c_eqLogRecord, [.t 4]⟩ = true := by kernel_rfl
theorem c_eqLogRecord {a b : GLogRecord}  : Con Try.prog noMv 75 [a.av, b.av] [] (fun r h => r = bool (eqb a b) ∧ h = []) := by
 refine con_of2 k_c_eqLogRecord_fits rfl fun C hP hmv => ?_
 unfold k_c_eqLogRecord
 refine cx_seq ?_
 refine cx_ops ?_
 refine ax_e (e_box rfl rfl (by decide) rfl rfl rfl) ?_
 refine ax_e (e_box rfl rfl (by decide) rfl rfl rfl) ?_
 refine ax_q (q_mov rfl) ?_
 refine ax_nil ?_
 refine cx_keep rfl rfl ?_
 refine cx_seq ?_
 refine cx_seq ?_
 refine cx_ops ?_
 refine ax_q (q_fadr_ptr rfl) ?_
 refine ax_q (q_load1_ptr rfl rfl rfl) ?_
 refine ax_q (q_fadr_ptr rfl) ?_
 refine ax_q (q_load1_ptr rfl rfl rfl) ?_
 refine ax_q (q_ibin rfl rfl rfl) ?_
 refine ax_nil ?_
 refine cx_keep rfl rfl ?_
 refine cx_cond rfl (fun h0 => ?_) (fun h0 => ?_)
 ·
  have h0 := nT h0
  refine cx_seq ?_
  refine cx_ops ?_
  refine ax_q (q_mov rfl) ?_
  refine ax_nil ?_
  refine cx_keep rfl rfl ?_
  refine cx_ret (ret0 rfl rfl ?_)
  exact ⟨congrArg AM.bool (eqb_f (fun h => h0 (by rw [h]))).symm, rfl⟩
 ·
  have h0 := nF h0
  refine cx_skip ?_
  refine cx_keep rfl rfl ?_
  refine cx_seq ?_
  refine cx_seq ?_
  refine cx_ops ?_
  refine ax_q (q_fadr_ptr rfl) ?_
  refine ax_q (q_load1_ptr rfl rfl rfl) ?_
  refine ax_q (q_fadr_ptr rfl) ?_
  refine ax_q (q_load1_ptr rfl rfl rfl) ?_
  refine ax_q (q_ibin rfl rfl rfl) ?_
  refine ax_nil ?_
  refine cx_keep rfl rfl ?_
  refine cx_cond rfl (fun h1 => ?_) (fun h1 => ?_)
  ·
   have h1 := nT h1
   refine cx_seq ?_
   refine cx_ops ?_
   refine ax_q (q_mov rfl) ?_
   refine ax_nil ?_
   refine cx_keep rfl rfl ?_
   refine cx_ret (ret0 rfl rfl ?_)
   exact ⟨congrArg AM.bool (eqb_f (fun h => h1 (by rw [h]))).symm, rfl⟩
  ·
   have h1 := nF h1
   refine cx_skip ?_
   refine cx_keep rfl rfl ?_
   refine cx_seq ?_
   refine cx_seq ?_
   refine cx_ops ?_
   refine ax_q (q_fadr_ptr rfl) ?_
   refine ax_q (q_load1_ptr rfl rfl rfl) ?_
   refine ax_q (q_fadr_ptr rfl) ?_
   refine ax_q (q_load1_ptr rfl rfl rfl) ?_
   refine ax_q (q_ibin rfl rfl rfl) ?_
   refine ax_nil ?_
   refine cx_keep rfl rfl ?_
   refine cx_cond rfl (fun h2 => ?_) (fun h2 => ?_)
   ·
    have h2 := nT h2
    refine cx_seq ?_
    refine cx_ops ?_
    refine ax_q (q_mov rfl) ?_
    refine ax_nil ?_
    refine cx_keep rfl rfl ?_
    refine cx_ret (ret0 rfl rfl ?_)
    exact ⟨congrArg AM.bool (eqb_f (fun h => h2 (by rw [h]))).symm, rfl⟩
   ·
    have h2 := nF h2
    refine cx_skip ?_
    refine cx_keep rfl rfl ?_
    refine cx_seq ?_
    refine cx_seq ?_
    refine cx_ops ?_
    refine ax_q (q_fadr_ptr rfl) ?_
    refine ax_q (q_load1_ptr rfl rfl rfl) ?_
    refine ax_q (q_fadr_ptr rfl) ?_
    refine ax_q (q_load1_ptr rfl rfl rfl) ?_
    refine ax_q (q_ibin rfl rfl rfl) ?_
    refine ax_nil ?_
    refine cx_keep rfl rfl ?_
    refine cx_cond rfl (fun h3 => ?_) (fun h3 => ?_)
    ·
     have h3 := nT h3
     refine cx_seq ?_
     refine cx_ops ?_
     refine ax_q (q_mov rfl) ?_
     refine ax_nil ?_
     refine cx_keep rfl rfl ?_
     refine cx_ret (ret0 rfl rfl ?_)
     exact ⟨congrArg AM.bool (eqb_f (fun h => h3 (by rw [h]))).symm, rfl⟩
    ·
     have h3 := nF h3
     refine cx_skip ?_
     refine cx_keep rfl rfl ?_
     refine cx_seq ?_
     refine cx_seq ?_
     refine cx_ops ?_
     refine ax_q (q_fadr_ptr rfl) ?_
     refine ax_q (q_load1_ptr rfl rfl rfl) ?_
     refine ax_q (q_fadr_ptr rfl) ?_
     refine ax_q (q_load1_ptr rfl rfl rfl) ?_
     refine ax_q (q_ibin rfl rfl rfl) ?_
     refine ax_nil ?_
     refine cx_keep rfl rfl ?_
     refine cx_cond rfl (fun h4 => ?_) (fun h4 => ?_)
     ·
      have h4 := nT h4
      refine cx_seq ?_
      refine cx_ops ?_
      refine ax_q (q_mov rfl) ?_
      refine ax_nil ?_
      refine cx_keep rfl rfl ?_
      refine cx_ret (ret0 rfl rfl ?_)
      exact ⟨congrArg AM.bool (eqb_f (fun h => h4 (by rw [h]))).symm, rfl⟩
     ·
      have h4 := nF h4
      refine cx_skip ?_
      refine cx_keep rfl rfl ?_
      refine cx_seq ?_
      refine cx_seq ?_
      refine cx_ops ?_
      refine ax_q (q_fadr_ptr rfl) ?_
      refine ax_q (q_load1_ptr rfl rfl rfl) ?_
      refine ax_q (q_fadr_ptr rfl) ?_
      refine ax_q (q_load1_ptr rfl rfl rfl) ?_
      refine ax_q (q_ibin rfl rfl rfl) ?_
      refine ax_nil ?_
      refine cx_keep rfl rfl ?_
      refine cx_cond rfl (fun h5 => ?_) (fun h5 => ?_)
      ·
       have h5 := nT h5
       refine cx_seq ?_
       refine cx_ops ?_
       refine ax_q (q_mov rfl) ?_
       refine ax_nil ?_
       refine cx_keep rfl rfl ?_
       refine cx_ret (ret0 rfl rfl ?_)
       exact ⟨congrArg AM.bool (eqb_f (fun h => h5 (by rw [h]))).symm, rfl⟩
      ·
       have h5 := nF h5
       refine cx_skip ?_
       refine cx_keep rfl rfl ?_
       refine cx_seq ?_
       refine cx_seq ?_
       refine cx_ops ?_
       refine ax_q (q_fadr_ptr rfl) ?_
       refine ax_q (q_load1_ptr rfl rfl rfl) ?_
       refine ax_q (q_fadr_ptr rfl) ?_
       refine ax_q (q_load1_ptr rfl rfl rfl) ?_
       refine ax_q (q_ibin rfl rfl rfl) ?_
       refine ax_nil ?_
       refine cx_keep rfl rfl ?_
       refine cx_cond rfl (fun h6 => ?_) (fun h6 => ?_)
       ·
        have h6 := nT h6
        refine cx_seq ?_
        refine cx_ops ?_
        refine ax_q (q_mov rfl) ?_
        refine ax_nil ?_
        refine cx_keep rfl rfl ?_
        refine cx_ret (ret0 rfl rfl ?_)
        exact ⟨congrArg AM.bool (eqb_f (fun h => h6 (by rw [h]))).symm, rfl⟩
       ·
        have h6 := nF h6
        refine cx_skip ?_
        refine cx_keep rfl rfl ?_
        refine cx_seq ?_
        refine cx_seq ?_
        refine cx_ops ?_
        refine ax_q (q_fadr_ptr rfl) ?_
        refine ax_q (q_load1_ptr rfl rfl rfl) ?_
        refine ax_q (q_fadr_ptr rfl) ?_
        refine ax_q (q_load1_ptr rfl rfl rfl) ?_
        refine ax_q (q_ibin rfl rfl rfl) ?_
        refine ax_nil ?_
        refine cx_keep rfl rfl ?_
        refine cx_cond rfl (fun h7 => ?_) (fun h7 => ?_)
        ·
         have h7 := nT h7
         refine cx_seq ?_
         refine cx_ops ?_
         refine ax_q (q_mov rfl) ?_
         refine ax_nil ?_
         refine cx_keep rfl rfl ?_
         refine cx_ret (ret0 rfl rfl ?_)
         exact ⟨congrArg AM.bool (eqb_f (fun h => h7 (by rw [h]))).symm, rfl⟩
        ·
         have h7 := nF h7
         refine cx_skip ?_
         refine cx_keep rfl rfl ?_
         refine cx_seq ?_
         refine cx_seq ?_
         refine cx_ops ?_
         refine ax_q (q_fadr_ptr rfl) ?_
         refine ax_q (q_load1_ptr rfl rfl rfl) ?_
         refine ax_q (q_fadr_ptr rfl) ?_
         refine ax_q (q_load1_ptr rfl rfl rfl) ?_
         refine ax_q (q_sbin rfl rfl rfl) ?_
         refine ax_nil ?_
         refine cx_keep rfl rfl ?_
         refine cx_cond rfl (fun h8 => ?_) (fun h8 => ?_)
         ·
          have h8 := nT h8
          refine cx_seq ?_
          refine cx_ops ?_
          refine ax_q (q_mov rfl) ?_
          refine ax_nil ?_
          refine cx_keep rfl rfl ?_
          refine cx_ret (ret0 rfl rfl ?_)
          exact ⟨congrArg AM.bool (eqb_f (fun h => h8 (by rw [h]))).symm, rfl⟩
         ·
          have h8 := nF h8
          refine cx_skip ?_
          refine cx_keep rfl rfl ?_
          refine cx_seq ?_
          refine cx_seq ?_
          refine cx_ops ?_
          refine ax_q (q_fadr_ptr rfl) ?_
          refine ax_q (q_load1_ptr rfl rfl rfl) ?_
          refine ax_q (q_fadr_ptr rfl) ?_
          refine ax_q (q_load1_ptr rfl rfl rfl) ?_
          refine ax_q (q_sbin rfl rfl rfl) ?_
          refine ax_nil ?_
          refine cx_keep rfl rfl ?_
          refine cx_cond rfl (fun h9 => ?_) (fun h9 => ?_)
          ·
           have h9 := nT h9
           refine cx_seq ?_
           refine cx_ops ?_
           refine ax_q (q_mov rfl) ?_
           refine ax_nil ?_
           refine cx_keep rfl rfl ?_
           refine cx_ret (ret0 rfl rfl ?_)
           exact ⟨congrArg AM.bool (eqb_f (fun h => h9 (by rw [h]))).symm, rfl⟩
          ·
           have h9 := nF h9
           refine cx_skip ?_
           refine cx_keep rfl rfl ?_
           refine cx_seq ?_
           refine cx_ops ?_
           refine ax_q (q_mov rfl) ?_
           refine ax_nil ?_
           refine cx_keep rfl rfl ?_
           refine cx_ret (ret0 rfl rfl ?_)
           exact ⟨congrArg AM.bool (eqb_t (GLogRecord.ext1 h0 h1 h2 h3 h4 h5 h6 h7 h8 h9)).symm, rfl⟩


/- loop.example/g00332/laws.eqLogRecordS -/
def k_c_eqLogRecordS : XCode :=
 .seq (.ops [.op (some 4) (.mov (.k (.bool false)))])
 (.keep [0, 1] (.seq (.seq (.ops [.op (some 6) (.mov (.t 0)),
   .op (some 7) (.lenS (.t 6)),
   .op (some 8) (.mov (.t 1)),
   .op (some 9) (.lenS (.t 8)),
   .op (some 10) (.bin .neq (.t 7) (.t 9))])
  (.keep [0, 1, 10] (.cond (.t 10)
  (.seq (.ops [.op (some 4) (.mov (.k (.bool false)))])
   (.keep [4] (.ret)))
  (.skip))))
 (.keep [0, 1] (.seq (.seq (.ops [.op (some 5) (.mov (.k (.int .i64 0)))])
  (.keep [0, 1, 5] (.block 0 (.loop (.seq (.seq (.ops [.op (some 11) (.mov (.t 5)),
     .op (some 12) (.mov (.t 0)),
     .op (some 13) (.lenS (.t 12)),
     .op (some 14) (.bin .lss (.t 11) (.t 13))])
   (.keep [0, 1, 5, 14] (.cond (.t 14)
    (.skip)
    (.exit 0))))
   (.keep [0, 1, 5] (.seq (.block 1 (.seq (.draw [.op (some 17) (.mov (.t 0)),
     .op (some 18) (.mov (.t 5)),
     .op (some 19) (.iadr 10 (.t 17) (.t 18)),
     .op (some 20) (.loadN 10 (.t 19)),
     .op (some 21) (.mov (.t 1)),
     .op (some 22) (.mov (.t 5)),
     .op (some 23) (.iadr 10 (.t 21) (.t 22)),
     .op (some 24) (.loadN 10 (.t 23)),
     .call (some 25) 75 [.t 20, .t 24],
     .op (some 26) (.not (.t 25))])
    (.keep [0, 1, 5, 26] (.cond (.t 26)
    (.seq (.ops [.op (some 4) (.mov (.k (.bool false)))])
     (.keep [4] (.ret)))
    (.skip)))))
   (.keep [0, 1, 5] (.ops [.op (some 15) (.mov (.t 5)),
    .op (some 16) (.bin .add (.t 15) (.k (.int .i64 1))),
    .op (some 5) (.mov (.t 16))])))))))))
 (.keep [] (.seq (.ops [.op (some 4) (.mov (.k (.bool true)))])
 (.keep [4] (.ret))))))))
theorem k_c_eqLogRecordS_fits : fitsF Try.prog 34 ⟨27, k_c_eqLogRecordS, [.t 4]⟩ = true := by kernel_rfl
theorem c_eqLogRecordS {xs ys : List GLogRecord} (hw : xs.length ≤ 9223372036854775807) : Con Try.prog noMv 34 [.d (.sl 10 (xs.map GLogRecord.row)), .d (.sl 10 (ys.map GLogRecord.row))] [] (fun r h => r = bool (eqb xs ys) ∧ h = []) := by
 refine con_of2 k_c_eqLogRecordS_fits rfl fun C hP hmv => ?_
 unfold k_c_eqLogRecordS
 refine cx_seq ?_
 refine cx_ops ?_
 refine ax_q (q_mov rfl) ?_
 refine ax_nil ?_
 refine cx_keep rfl rfl ?_
 refine cx_seq ?_
 refine cx_seq ?_
 refine cx_ops ?_
 refine ax_q (q_mov rfl) ?_
 first | refine ax_q (q_lenS_map rfl) ?_ | refine ax_q (q_lenS_osl rfl) ?_ | refine ax_q (q_lenS_zs rfl) ?_ | refine ax_q (q_lenS rfl) ?_
 refine ax_q (q_mov rfl) ?_
 first | refine ax_q (q_lenS_map rfl) ?_ | refine ax_q (q_lenS_osl rfl) ?_ | refine ax_q (q_lenS_zs rfl) ?_ | refine ax_q (q_lenS rfl) ?_
 refine ax_q (q_ibin rfl rfl rfl) ?_
 refine ax_nil ?_
 refine cx_keep rfl rfl ?_
 refine cx_cond rfl (fun h0 => ?_) (fun h0 => ?_)
 ·
  have h0 := nT h0
  refine cx_seq ?_
  refine cx_ops ?_
  refine ax_q (q_mov rfl) ?_
  refine ax_nil ?_
  refine cx_keep rfl rfl ?_
  refine cx_ret (ret0 rfl rfl ?_)
  exact ⟨congrArg AM.bool (eqb_f (fun h => h0 (by rw [h]))).symm, rfl⟩
 ·
  have h0 := nF h0
  refine cx_skip ?_
  refine cx_keep rfl rfl ?_
  refine cx_seq ?_
  refine cx_seq ?_
  refine cx_ops ?_
  refine ax_q (q_mov rfl) ?_
  refine ax_nil ?_
  refine cx_keep rfl rfl ?_
  refine cx_block ?_
  have hl : xs.length = ys.length := by omega
  refine cx_loopU (fun n k => k ≤ xs.length ∧ n = xs.length - k ∧ xs.take k = ys.take k) (fun k : Nat => [(5, int k)]) (fun _ => []) ⟨_, 0, ⟨Nat.zero_le _, rfl, rfl⟩, by repeat (first | exact trivial | refine ⟨rfl, ?_⟩ | refine ⟨?_, ?_⟩)⟩ ?_
  rintro n k ⟨hk, rfl, ht⟩
  refine cx_seq ?_
  refine cx_seq ?_
  refine cx_ops ?_
  refine ax_q (q_mov rfl) ?_
  refine ax_q (q_mov rfl) ?_
  first | refine ax_q (q_lenS_map rfl) ?_ | refine ax_q (q_lenS_osl rfl) ?_ | refine ax_q (q_lenS_zs rfl) ?_ | refine ax_q (q_lenS rfl) ?_
  refine ax_q (q_ibin rfl rfl rfl) ?_
  refine ax_nil ?_
  refine cx_keep rfl rfl ?_
  refine cx_cond rfl (fun h1 => ?_) (fun h1 => ?_)
  ·
   have h1 := dT h1
   have h1x : k < xs.length := by omega
   have h1y : k < ys.length := by omega
   refine cx_skip ?_
   refine cx_keep rfl rfl ?_
   refine cx_seq ?_
   refine cx_block ?_
   refine cx_seq ?_
   refine cx_draw ?_
   refine ax_q (q_mov rfl) ?_
   refine ax_q (q_mov rfl) ?_
   refine ax_q (q_ix rfl rfl (mapAt h1x)) ?_
   first | refine ax_q (q_ldN rfl rfl rfl) ?_ | refine ax_q (q_loadN_ip rfl (Nat.le_refl _)) ?_ | refine ax_q (q_loadN_ip rfl (by decide)) ?_ | refine ax_q (q_loadN_rptr rfl rfl (by assumption) (by decide)) ?_ | refine ax_q (q_loadN_rptr rfl rfl (mapAt (by first | assumption | omega)) (by decide)) ?_
   refine ax_q (q_mov rfl) ?_
   refine ax_q (q_mov rfl) ?_
   refine ax_q (q_ix rfl rfl (mapAt h1y)) ?_
   first | refine ax_q (q_ldN rfl rfl rfl) ?_ | refine ax_q (q_loadN_ip rfl (Nat.le_refl _)) ?_ | refine ax_q (q_loadN_ip rfl (by decide)) ?_ | refine ax_q (q_loadN_rptr rfl rfl (by assumption) (by decide)) ?_ | refine ax_q (q_loadN_rptr rfl rfl (mapAt (by first | assumption | omega)) (by decide)) ?_
   first | refine ax_callq rfl (c_eqLogRecord) hP (lal_id _ rfl) rfl ?_ | refine ax_call rfl (vc_pure0 (c_eqLogRecord) hP rfl rfl ?_)
   refine ax_q (q_not rfl) ?_
   refine ax_nil ?_
   refine cx_keep rfl rfl ?_
   refine cx_cond rfl (fun h2 => ?_) (fun h2 => ?_)
   ·
    have h2 := bT h2
    refine cx_seq ?_
    refine cx_ops ?_
    refine ax_q (q_mov rfl) ?_
    refine ax_nil ?_
    refine cx_keep rfl rfl ?_
    refine cx_ret (ret0 rfl rfl ?_)
    exact ⟨congrArg AM.bool (eqbL_no h1x h1y h2).symm, rfl⟩
   ·
    have h2 := bF h2
    refine cx_skip ?_
    refine cx_keep rfl rfl ?_
    refine cx_ops ?_
    refine ax_q (q_mov rfl) ?_
    refine ax_q (q_add rfl rfl (by omega)) ?_
    refine ax_q (q_mov rfl) ?_
    refine ax_nil ?_
    exact ⟨_, k + 1, by omega, ⟨by omega, rfl, eqbL_step h1x h1y ht h2⟩, by repeat (first | exact trivial | refine ⟨rfl, ?_⟩ | refine ⟨?_, ?_⟩)⟩
  ·
   have h1 := dF h1
   refine cx_exit rfl ?_
   refine cx_keep rfl rfl ?_
   refine cx_seq ?_
   refine cx_ops ?_
   refine ax_q (q_mov rfl) ?_
   refine ax_nil ?_
   refine cx_keep rfl rfl ?_
   refine cx_ret (ret0 rfl rfl ?_)
   exact ⟨congrArg AM.bool (eqb_t (eq_of_take hl (by rwa [show k = xs.length from by omega] at ht))).symm, rfl⟩


/- loop.example/g00332/laws.eqPage -/
def k_c_eqPage : XCode :=
 .seq (.ops [.op (some 2) (.box (.t 0)),
   .op (some 3) (.box (.t 1)),
   .op (some 4) (.mov (.k (.bool false)))])
 (.keep [2, 3] (.seq (.seq (.ops [.op (some 5) (.fadr (.t 2) 0),
   .op (some 6) (.load1 (.t 5)),
   .op (some 7) (.fadr (.t 3) 0),
   .op (some 8) (.load1 (.t 7)),
   .op (some 9) (.bin .neq (.t 6) (.t 8))])
  (.keep [2, 3, 9] (.cond (.t 9)
  (.seq (.ops [.op (some 4) (.mov (.k (.bool false)))])
   (.keep [4] (.ret)))
  (.skip))))
 (.keep [2, 3] (.seq (.seq (.ops [.op (some 10) (.fadr (.t 2) 1),
   .op (some 11) (.load1 (.t 10)),
   .op (some 12) (.fadr (.t 3) 1),
   .op (some 13) (.load1 (.t 12)),
   .call (some 14) 73 [.t 11, .t 13],
   .op (some 15) (.not (.t 14))])
  (.keep [15] (.cond (.t 15)
  (.seq (.ops [.op (some 4) (.mov (.k (.bool false)))])
   (.keep [4] (.ret)))
  (.skip))))
 (.keep [] (.seq (.ops [.op (some 4) (.mov (.k (.bool true)))])
 (.keep [4] (.ret))))))))
theorem k_c_eqPage_fits : fitsF Try.prog 111 ⟨16, k_c_eqPage, [.t 4]⟩ = true := by kernel_rfl
theorem c_eqPage {a b : Page} (hw0 : a.slots.length ≤ 9223372036854775807) : Con Try.prog noMv 111 [a.av, b.av] [] (fun r h => r = bool (eqb a b) ∧ h = []) := by
 refine con_of2 k_c_eqPage_fits rfl fun C hP hmv => ?_
 unfold k_c_eqPage
 refine cx_seq ?_
 refine cx_ops ?_
 refine ax_e (e_box rfl rfl (by decide) rfl rfl rfl) ?_
 refine ax_e (e_box rfl rfl (by decide) rfl rfl rfl) ?_
 refine ax_q (q_mov rfl) ?_
 refine ax_nil ?_
 refine cx_keep rfl rfl ?_
 refine cx_seq ?_
 refine cx_seq ?_
 refine cx_ops ?_
 refine ax_q (q_fadr_ptr rfl) ?_
 refine ax_q (q_load1_ptr rfl rfl rfl) ?_
 refine ax_q (q_fadr_ptr rfl) ?_
 refine ax_q (q_load1_ptr rfl rfl rfl) ?_
 refine ax_q (q_ibin rfl rfl rfl) ?_
 refine ax_nil ?_
 refine cx_keep rfl rfl ?_
 refine cx_cond rfl (fun h0 => ?_) (fun h0 => ?_)
 ·
  have h0 := nT h0
  refine cx_seq ?_
  refine cx_ops ?_
  refine ax_q (q_mov rfl) ?_
  refine ax_nil ?_
  refine cx_keep rfl rfl ?_
  refine cx_ret (ret0 rfl rfl ?_)
  exact ⟨congrArg AM.bool (eqb_f (fun h => h0 (by rw [h]))).symm, rfl⟩
 ·
  have h0 := nF h0
  refine cx_skip ?_
  refine cx_keep rfl rfl ?_
  refine cx_seq ?_
  refine cx_seq ?_
  refine cx_ops ?_
  refine ax_q (q_fadr_ptr rfl) ?_
  refine ax_q (q_load1_ptr rfl rfl rfl) ?_
  refine ax_q (q_fadr_ptr rfl) ?_
  refine ax_q (q_load1_ptr rfl rfl rfl) ?_
  first | refine ax_call rfl (vc_pure0 (c_eqStringS  ?_) hP rfl rfl ?_) | refine ax_call rfl (vc_lend0 (c_eqStringS  ?_) hP (by repeat (first | exact lal_id _ rfl | exact LAL.nil | refine LAL.cons ?_ ?_ | exact la_id _ rfl | exact LA.lend (lend_whole rfl (by first | (simp; done) | (rw [List.length_map]; rfl))) | refine LA.agg ?_ | refine LA.fn ?_ | refine LA.lend ?_ | exact Lend.d _ | exact Lend.zs _ | exact lend_whole rfl (by first | (simp; done) | (rw [List.length_map]; rfl)) | refine Lend.ptr rfl ?_ | refine Lend.fn ?_ | exact LendL.nil | refine LendL.cons ?_ ?_)) rfl rfl ?_)
  ·
   first | assumption | omega | (simp; done) | (simp; omega)
  refine ax_q (q_not rfl) ?_
  refine ax_nil ?_
  refine cx_keep rfl rfl ?_
  refine cx_cond rfl (fun h1 => ?_) (fun h1 => ?_)
  ·
   have h1 := bT h1
   refine cx_seq ?_
   refine cx_ops ?_
   refine ax_q (q_mov rfl) ?_
   refine ax_nil ?_
   refine cx_keep rfl rfl ?_
   refine cx_ret (ret0 rfl rfl ?_)
   exact ⟨congrArg AM.bool (eqb_f (fun h => by rw [h, eqb_rfl] at h1; cases h1)).symm, rfl⟩
  ·
   have h1 := bF h1
   refine cx_skip ?_
   refine cx_keep rfl rfl ?_
   refine cx_seq ?_
   refine cx_ops ?_
   refine ax_q (q_mov rfl) ?_
   refine ax_nil ?_
   refine cx_keep rfl rfl ?_
   refine cx_ret (ret0 rfl rfl ?_)
   exact ⟨congrArg AM.bool (eqb_t (page_ext h0 (eqb_iff.1 h1))).symm, rfl⟩


/- loop.example/g00332/laws.eqFrame -/
def k_c_eqFrame : XCode :=
 .seq (.ops [.op (some 2) (.box (.t 0)),
   .op (some 3) (.box (.t 1)),
   .op (some 4) (.mov (.k (.bool false)))])
 (.keep [2, 3] (.seq (.seq (.ops [.op (some 5) (.fadr (.t 2) 0),
   .op (some 6) (.load1 (.t 5)),
   .op (some 7) (.fadr (.t 3) 0),
   .op (some 8) (.load1 (.t 7)),
   .op (some 9) (.bin .neq (.t 6) (.t 8))])
  (.keep [2, 3, 9] (.cond (.t 9)
  (.seq (.ops [.op (some 4) (.mov (.k (.bool false)))])
   (.keep [4] (.ret)))
  (.skip))))
 (.keep [2, 3] (.seq (.seq (.ops [.op (some 10) (.fadr (.t 2) 1),
   .op (some 11) (.loadN 2 (.t 10)),
   .op (some 12) (.fadr (.t 3) 1),
   .op (some 13) (.loadN 2 (.t 12)),
   .call (some 14) 111 [.t 11, .t 13],
   .op (some 15) (.not (.t 14))])
  (.keep [2, 3, 15] (.cond (.t 15)
  (.seq (.ops [.op (some 4) (.mov (.k (.bool false)))])
   (.keep [4] (.ret)))
  (.skip))))
 (.keep [2, 3] (.seq (.seq (.ops [.op (some 16) (.fadr (.t 2) 3),
   .op (some 17) (.load1 (.t 16)),
   .op (some 18) (.fadr (.t 3) 3),
   .op (some 19) (.load1 (.t 18)),
   .op (some 20) (.eqb true (.t 17) (.t 19))])
  (.keep [2, 3, 20] (.cond (.t 20)
  (.seq (.ops [.op (some 4) (.mov (.k (.bool false)))])
   (.keep [4] (.ret)))
  (.skip))))
 (.keep [2, 3] (.seq (.seq (.ops [.op (some 21) (.fadr (.t 2) 4),
   .op (some 22) (.load1 (.t 21)),
   .op (some 23) (.fadr (.t 3) 4),
   .op (some 24) (.load1 (.t 23)),
   .op (some 25) (.bin .neq (.t 22) (.t 24))])
  (.keep [25] (.cond (.t 25)
  (.seq (.ops [.op (some 4) (.mov (.k (.bool false)))])
   (.keep [4] (.ret)))
  (.skip))))
 (.keep [] (.seq (.ops [.op (some 4) (.mov (.k (.bool true)))])
 (.keep [4] (.ret))))))))))))
theorem k_c_eqFrame_fits : fitsF Try.prog 76 ⟨26, k_c_eqFrame, [.t 4]⟩ = true := by kernel_rfl
theorem c_eqFrame {a b : GFrame} (hw0 : a.Page.slots.length ≤ 9223372036854775807) : Con Try.prog noMv 76 [a.av, b.av] [] (fun r h => r = bool (eqb a b) ∧ h = []) := by
 refine con_of2 k_c_eqFrame_fits rfl fun C hP hmv => ?_
 unfold k_c_eqFrame
 refine cx_seq ?_
 refine cx_ops ?_
 refine ax_e (e_box rfl rfl (by decide) rfl rfl rfl) ?_
 refine ax_e (e_box rfl rfl (by decide) rfl rfl rfl) ?_
 refine ax_q (q_mov rfl) ?_
 refine ax_nil ?_
 refine cx_keep rfl rfl ?_
 refine cx_seq ?_
 refine cx_seq ?_
 refine cx_ops ?_
 refine ax_q (q_fadr_ptr rfl) ?_
 refine ax_q (q_load1_ptr rfl rfl rfl) ?_
 refine ax_q (q_fadr_ptr rfl) ?_
 refine ax_q (q_load1_ptr rfl rfl rfl) ?_
 refine ax_q (q_ibin rfl rfl rfl) ?_
 refine ax_nil ?_
 refine cx_keep rfl rfl ?_
 refine cx_cond rfl (fun h0 => ?_) (fun h0 => ?_)
 ·
  have h0 := nT h0
  refine cx_seq ?_
  refine cx_ops ?_
  refine ax_q (q_mov rfl) ?_
  refine ax_nil ?_
  refine cx_keep rfl rfl ?_
  refine cx_ret (ret0 rfl rfl ?_)
  exact ⟨congrArg AM.bool (eqb_f (fun h => h0 (by rw [h]))).symm, rfl⟩
 ·
  have h0 := nF h0
  refine cx_skip ?_
  refine cx_keep rfl rfl ?_
  refine cx_seq ?_
  refine cx_seq ?_
  refine cx_ops ?_
  refine ax_q (q_fadr_ptr rfl) ?_
  refine ax_q (q_ldN rfl rfl rfl) ?_
  refine ax_q (q_fadr_ptr rfl) ?_
  refine ax_q (q_ldN rfl rfl rfl) ?_
  first | refine ax_call rfl (vc_pure0 (c_eqPage  ?_) hP rfl rfl ?_) | refine ax_call rfl (vc_lend0 (c_eqPage  ?_) hP (by repeat (first | exact lal_id _ rfl | exact LAL.nil | refine LAL.cons ?_ ?_ | exact la_id _ rfl | exact LA.lend (lend_whole rfl (by first | (simp; done) | (rw [List.length_map]; rfl))) | refine LA.agg ?_ | refine LA.fn ?_ | refine LA.lend ?_ | exact Lend.d _ | exact Lend.zs _ | exact lend_whole rfl (by first | (simp; done) | (rw [List.length_map]; rfl)) | refine Lend.ptr rfl ?_ | refine Lend.fn ?_ | exact LendL.nil | refine LendL.cons ?_ ?_)) rfl rfl ?_)
  ·
   first | assumption | omega | (simp; done) | (simp; omega)
  refine ax_q (q_not rfl) ?_
  refine ax_nil ?_
  refine cx_keep rfl rfl ?_
  refine cx_cond rfl (fun h1 => ?_) (fun h1 => ?_)
  ·
   have h1 := bT h1
   refine cx_seq ?_
   refine cx_ops ?_
   refine ax_q (q_mov rfl) ?_
   refine ax_nil ?_
   refine cx_keep rfl rfl ?_
   refine cx_ret (ret0 rfl rfl ?_)
   exact ⟨congrArg AM.bool (eqb_f (fun h => by rw [h, eqb_rfl] at h1; cases h1)).symm, rfl⟩
  ·
   have h1 := bF h1
   refine cx_skip ?_
   refine cx_keep rfl rfl ?_
   refine cx_seq ?_
   refine cx_seq ?_
   refine cx_ops ?_
   refine ax_q (q_fadr_ptr rfl) ?_
   refine ax_q (q_load1_ptr rfl rfl rfl) ?_
   refine ax_q (q_fadr_ptr rfl) ?_
   refine ax_q (q_load1_ptr rfl rfl rfl) ?_
   refine ax_q (q_eqb rfl rfl) ?_
   refine ax_nil ?_
   refine cx_keep rfl rfl ?_
   refine cx_cond rfl (fun h2 => ?_) (fun h2 => ?_)
   ·
    have h2 := bneT h2
    refine cx_seq ?_
    refine cx_ops ?_
    refine ax_q (q_mov rfl) ?_
    refine ax_nil ?_
    refine cx_keep rfl rfl ?_
    refine cx_ret (ret0 rfl rfl ?_)
    exact ⟨congrArg AM.bool (eqb_f (fun h => h2 (by rw [h]))).symm, rfl⟩
   ·
    have h2 := bneF h2
    refine cx_skip ?_
    refine cx_keep rfl rfl ?_
    refine cx_seq ?_
    refine cx_seq ?_
    refine cx_ops ?_
    refine ax_q (q_fadr_ptr rfl) ?_
    refine ax_q (q_load1_ptr rfl rfl rfl) ?_
    refine ax_q (q_fadr_ptr rfl) ?_
    refine ax_q (q_load1_ptr rfl rfl rfl) ?_
    refine ax_q (q_ibin rfl rfl rfl) ?_
    refine ax_nil ?_
    refine cx_keep rfl rfl ?_
    refine cx_cond rfl (fun h3 => ?_) (fun h3 => ?_)
    ·
     have h3 := nT h3
     refine cx_seq ?_
     refine cx_ops ?_
     refine ax_q (q_mov rfl) ?_
     refine ax_nil ?_
     refine cx_keep rfl rfl ?_
     refine cx_ret (ret0 rfl rfl ?_)
     exact ⟨congrArg AM.bool (eqb_f (fun h => h3 (by rw [h]))).symm, rfl⟩
    ·
     have h3 := nF h3
     refine cx_skip ?_
     refine cx_keep rfl rfl ?_
     refine cx_seq ?_
     refine cx_ops ?_
     refine ax_q (q_mov rfl) ?_
     refine ax_nil ?_
     refine cx_keep rfl rfl ?_
     refine cx_ret (ret0 rfl rfl ?_)
     exact ⟨congrArg AM.bool (eqb_t (GFrame.ext1 h0 (eqb_iff.1 h1) h2 h3)).symm, rfl⟩


/- loop.example/g00332/laws.eqFrameS -/
def k_c_eqFrameS : XCode :=
 .seq (.ops [.op (some 4) (.mov (.k (.bool false)))])
 (.keep [0, 1] (.seq (.seq (.ops [.op (some 6) (.mov (.t 0)),
   .op (some 7) (.lenS (.t 6)),
   .op (some 8) (.mov (.t 1)),
   .op (some 9) (.lenS (.t 8)),
   .op (some 10) (.bin .neq (.t 7) (.t 9))])
  (.keep [0, 1, 10] (.cond (.t 10)
  (.seq (.ops [.op (some 4) (.mov (.k (.bool false)))])
   (.keep [4] (.ret)))
  (.skip))))
 (.keep [0, 1] (.seq (.seq (.ops [.op (some 5) (.mov (.k (.int .i64 0)))])
  (.keep [0, 1, 5] (.block 0 (.loop (.seq (.seq (.ops [.op (some 11) (.mov (.t 5)),
     .op (some 12) (.mov (.t 0)),
     .op (some 13) (.lenS (.t 12)),
     .op (some 14) (.bin .lss (.t 11) (.t 13))])
   (.keep [0, 1, 5, 14] (.cond (.t 14)
    (.skip)
    (.exit 0))))
   (.keep [0, 1, 5] (.seq (.block 1 (.seq (.draw [.op (some 17) (.mov (.t 0)),
     .op (some 18) (.mov (.t 5)),
     .op (some 19) (.iadr 5 (.t 17) (.t 18)),
     .op (some 20) (.loadN 5 (.t 19)),
     .op (some 21) (.mov (.t 1)),
     .op (some 22) (.mov (.t 5)),
     .op (some 23) (.iadr 5 (.t 21) (.t 22)),
     .op (some 24) (.loadN 5 (.t 23)),
     .call (some 25) 76 [.t 20, .t 24],
     .op (some 26) (.not (.t 25))])
    (.keep [0, 1, 5, 26] (.cond (.t 26)
    (.seq (.ops [.op (some 4) (.mov (.k (.bool false)))])
     (.keep [4] (.ret)))
    (.skip)))))
   (.keep [0, 1, 5] (.ops [.op (some 15) (.mov (.t 5)),
    .op (some 16) (.bin .add (.t 15) (.k (.int .i64 1))),
    .op (some 5) (.mov (.t 16))])))))))))
 (.keep [] (.seq (.ops [.op (some 4) (.mov (.k (.bool true)))])
 (.keep [4] (.ret))))))))
theorem k_c_eqFrameS_fits : fitsF Try.prog 35 ⟨27, k_c_eqFrameS, [.t 4]⟩ = true := by kernel_rfl
theorem c_eqFrameS {xs ys : List GFrame} (hw : xs.length ≤ 9223372036854775807) (hs : ∀ f ∈ xs, f.Page.slots.length ≤ 1048576) : Con Try.prog noMv 35 [.d (.sl 5 (xs.map GFrame.row)), .d (.sl 5 (ys.map GFrame.row))] [] (fun r h => r = bool (eqb xs ys) ∧ h = []) := by
 refine con_of2 k_c_eqFrameS_fits rfl fun C hP hmv => ?_
 unfold k_c_eqFrameS
 refine cx_seq ?_
 refine cx_ops ?_
 refine ax_q (q_mov rfl) ?_
 refine ax_nil ?_
 refine cx_keep rfl rfl ?_
 refine cx_seq ?_
 refine cx_seq ?_
 refine cx_ops ?_
 refine ax_q (q_mov rfl) ?_
 first | refine ax_q (q_lenS_map rfl) ?_ | refine ax_q (q_lenS_osl rfl) ?_ | refine ax_q (q_lenS_zs rfl) ?_ | refine ax_q (q_lenS rfl) ?_
 refine ax_q (q_mov rfl) ?_
 first | refine ax_q (q_lenS_map rfl) ?_ | refine ax_q (q_lenS_osl rfl) ?_ | refine ax_q (q_lenS_zs rfl) ?_ | refine ax_q (q_lenS rfl) ?_
 refine ax_q (q_ibin rfl rfl rfl) ?_
 refine ax_nil ?_
 refine cx_keep rfl rfl ?_
 refine cx_cond rfl (fun h0 => ?_) (fun h0 => ?_)
 ·
  have h0 := nT h0
  refine cx_seq ?_
  refine cx_ops ?_
  refine ax_q (q_mov rfl) ?_
  refine ax_nil ?_
  refine cx_keep rfl rfl ?_
  refine cx_ret (ret0 rfl rfl ?_)
  exact ⟨congrArg AM.bool (eqb_f (fun h => h0 (by rw [h]))).symm, rfl⟩
 ·
  have h0 := nF h0
  refine cx_skip ?_
  refine cx_keep rfl rfl ?_
  refine cx_seq ?_
  refine cx_seq ?_
  refine cx_ops ?_
  refine ax_q (q_mov rfl) ?_
  refine ax_nil ?_
  refine cx_keep rfl rfl ?_
  refine cx_block ?_
  have hl : xs.length = ys.length := by omega
  refine cx_loopU (fun n k => k ≤ xs.length ∧ n = xs.length - k ∧ xs.take k = ys.take k) (fun k : Nat => [(5, int k)]) (fun _ => []) ⟨_, 0, ⟨Nat.zero_le _, rfl, rfl⟩, by repeat (first | exact trivial | refine ⟨rfl, ?_⟩ | refine ⟨?_, ?_⟩)⟩ ?_
  rintro n k ⟨hk, rfl, ht⟩
  refine cx_seq ?_
  refine cx_seq ?_
  refine cx_ops ?_
  refine ax_q (q_mov rfl) ?_
  refine ax_q (q_mov rfl) ?_
  first | refine ax_q (q_lenS_map rfl) ?_ | refine ax_q (q_lenS_osl rfl) ?_ | refine ax_q (q_lenS_zs rfl) ?_ | refine ax_q (q_lenS rfl) ?_
  refine ax_q (q_ibin rfl rfl rfl) ?_
  refine ax_nil ?_
  refine cx_keep rfl rfl ?_
  refine cx_cond rfl (fun h1 => ?_) (fun h1 => ?_)
  ·
   have h1 := dT h1
   have h1x : k < xs.length := by omega
   have h1y : k < ys.length := by omega
   have hsk := hs _ (List.getElem_mem h1x)
   refine cx_skip ?_
   refine cx_keep rfl rfl ?_
   refine cx_seq ?_
   refine cx_block ?_
   refine cx_seq ?_
   refine cx_draw ?_
   refine ax_q (q_mov rfl) ?_
   refine ax_q (q_mov rfl) ?_
   refine ax_q (q_ix rfl rfl (mapAt h1x)) ?_
   first | refine ax_q (q_ldN rfl rfl rfl) ?_ | refine ax_q (q_loadN_ip rfl (Nat.le_refl _)) ?_ | refine ax_q (q_loadN_ip rfl (by decide)) ?_ | refine ax_q (q_loadN_rptr rfl rfl (by assumption) (by decide)) ?_ | refine ax_q (q_loadN_rptr rfl rfl (mapAt (by first | assumption | omega)) (by decide)) ?_
   refine ax_q (q_mov rfl) ?_
   refine ax_q (q_mov rfl) ?_
   refine ax_q (q_ix rfl rfl (mapAt h1y)) ?_
   first | refine ax_q (q_ldN rfl rfl rfl) ?_ | refine ax_q (q_loadN_ip rfl (Nat.le_refl _)) ?_ | refine ax_q (q_loadN_ip rfl (by decide)) ?_ | refine ax_q (q_loadN_rptr rfl rfl (by assumption) (by decide)) ?_ | refine ax_q (q_loadN_rptr rfl rfl (mapAt (by first | assumption | omega)) (by decide)) ?_
   first | refine ax_callq rfl (c_eqFrame (a := xs[k]) (b := ys[k]) ?_) hP (lal_id _ rfl) rfl ?_ | refine ax_callq rfl (c_eqFrame (a := xs[k]) (b := ys[k]) ?_) hP (by repeat (first | exact lal_id _ rfl | exact LAL.nil | refine LAL.cons ?_ ?_ | exact la_id _ rfl | exact LA.lend (lend_whole rfl (by first | (simp; done) | (rw [List.length_map]; rfl))) | refine LA.agg ?_ | refine LA.fn ?_ | refine LA.lend ?_ | exact Lend.d _ | exact Lend.zs _ | exact lend_whole rfl (by first | (simp; done) | (rw [List.length_map]; rfl)) | refine Lend.ptr rfl ?_ | refine Lend.fn ?_ | exact LendL.nil | refine LendL.cons ?_ ?_)) rfl ?_
   ·
    first | assumption | omega | (simp; done) | (simp; omega)
   refine ax_q (q_not rfl) ?_
   refine ax_nil ?_
   refine cx_keep rfl rfl ?_
   refine cx_cond rfl (fun h2 => ?_) (fun h2 => ?_)
   ·
    have h2 := bT h2
    refine cx_seq ?_
    refine cx_ops ?_
    refine ax_q (q_mov rfl) ?_
    refine ax_nil ?_
    refine cx_keep rfl rfl ?_
    refine cx_ret (ret0 rfl rfl ?_)
    exact ⟨congrArg AM.bool (eqbL_no h1x h1y h2).symm, rfl⟩
   ·
    have h2 := bF h2
    refine cx_skip ?_
    refine cx_keep rfl rfl ?_
    refine cx_ops ?_
    refine ax_q (q_mov rfl) ?_
    refine ax_q (q_add rfl rfl (by omega)) ?_
    refine ax_q (q_mov rfl) ?_
    refine ax_nil ?_
    exact ⟨_, k + 1, by omega, ⟨by omega, rfl, eqbL_step h1x h1y ht h2⟩, by repeat (first | exact trivial | refine ⟨rfl, ?_⟩ | refine ⟨?_, ?_⟩)⟩
  ·
   have h1 := dF h1
   refine cx_exit rfl ?_
   refine cx_keep rfl rfl ?_
   refine cx_seq ?_
   refine cx_ops ?_
   refine ax_q (q_mov rfl) ?_
   refine ax_nil ?_
   refine cx_keep rfl rfl ?_
   refine cx_ret (ret0 rfl rfl ?_)
   exact ⟨congrArg AM.bool (eqb_t (eq_of_take hl (by rwa [show k = xs.length from by omega] at ht))).symm, rfl⟩


/- loop.example/g00332/laws.eqStore -/
def k_c_eqStore : XCode :=
 .seq (.ops [.op (some 2) (.box (.t 0)),
   .op (some 3) (.box (.t 1)),
   .op (some 4) (.mov (.k (.bool false)))])
 (.keep [2, 3] (.seq (.seq (.ops [.op (some 5) (.fadr (.t 2) 0),
   .op (some 6) (.loadN 4 (.t 5)),
   .op (some 7) (.fadr (.t 3) 0),
   .op (some 8) (.loadN 4 (.t 7)),
   .call (some 9) 33 [.t 6, .t 8],
   .op (some 10) (.not (.t 9))])
  (.keep [2, 3, 10] (.cond (.t 10)
  (.seq (.ops [.op (some 4) (.mov (.k (.bool false)))])
   (.keep [4] (.ret)))
  (.skip))))
 (.keep [2, 3] (.seq (.seq (.ops [.op (some 11) (.fadr (.t 2) 4),
   .op (some 12) (.load1 (.t 11)),
   .op (some 13) (.fadr (.t 3) 4),
   .op (some 14) (.load1 (.t 13)),
   .op (some 15) (.bin .neq (.t 12) (.t 14))])
  (.keep [2, 3, 15] (.cond (.t 15)
  (.seq (.ops [.op (some 4) (.mov (.k (.bool false)))])
   (.keep [4] (.ret)))
  (.skip))))
 (.keep [2, 3] (.seq (.seq (.ops [.op (some 16) (.fadr (.t 2) 5),
   .op (some 17) (.load1 (.t 16)),
   .op (some 18) (.fadr (.t 3) 5),
   .op (some 19) (.load1 (.t 18)),
   .call (some 20) 34 [.t 17, .t 19],
   .op (some 21) (.not (.t 20))])
  (.keep [2, 3, 21] (.cond (.t 21)
  (.seq (.ops [.op (some 4) (.mov (.k (.bool false)))])
   (.keep [4] (.ret)))
  (.skip))))
 (.keep [2, 3] (.seq (.seq (.ops [.op (some 22) (.fadr (.t 2) 6),
   .op (some 23) (.load1 (.t 22)),
   .op (some 24) (.fadr (.t 3) 6),
   .op (some 25) (.load1 (.t 24)),
   .op (some 26) (.bin .neq (.t 23) (.t 25))])
  (.keep [2, 3, 26] (.cond (.t 26)
  (.seq (.ops [.op (some 4) (.mov (.k (.bool false)))])
   (.keep [4] (.ret)))
  (.skip))))
 (.keep [2, 3] (.seq (.seq (.ops [.op (some 27) (.fadr (.t 2) 7),
   .op (some 28) (.load1 (.t 27)),
   .op (some 29) (.fadr (.t 3) 7),
   .op (some 30) (.load1 (.t 29)),
   .call (some 31) 35 [.t 28, .t 30],
   .op (some 32) (.not (.t 31))])
  (.keep [2, 3, 32] (.cond (.t 32)
  (.seq (.ops [.op (some 4) (.mov (.k (.bool false)))])
   (.keep [4] (.ret)))
  (.skip))))
 (.keep [2, 3] (.seq (.seq (.ops [.op (some 33) (.fadr (.t 2) 8),
   .op (some 34) (.load1 (.t 33)),
   .op (some 35) (.fadr (.t 3) 8),
   .op (some 36) (.load1 (.t 35)),
   .op (some 37) (.bin .neq (.t 34) (.t 36))])
  (.keep [37] (.cond (.t 37)
  (.seq (.ops [.op (some 4) (.mov (.k (.bool false)))])
   (.keep [4] (.ret)))
  (.skip))))
 (.keep [] (.seq (.ops [.op (some 4) (.mov (.k (.bool true)))])
 (.keep [4] (.ret))))))))))))))))
theorem k_c_eqStore_fits : fitsF Try.prog 9 ⟨38, k_c_eqStore, [.t 4]⟩ = true := by kernel_rfl
theorem c_eqStore {a b : GStore} (hb : StB a) : Con Try.prog noMv 9 [a.av, b.av] [] (fun r h => r = bool (eqb a b) ∧ h = []) := by
 refine con_of2 k_c_eqStore_fits rfl fun C hP hmv => ?_
 unfold k_c_eqStore
 obtain ⟨hw0, hw1, hw2, hw3, hwa, hw4, hw5, hw6⟩ := hb
 refine cx_seq ?_
 refine cx_ops ?_
 refine ax_e (e_box rfl rfl (by decide) rfl rfl rfl) ?_
 refine ax_e (e_box rfl rfl (by decide) rfl rfl rfl) ?_
 refine ax_q (q_mov rfl) ?_
 refine ax_nil ?_
 refine cx_keep rfl rfl ?_
 refine cx_seq ?_
 refine cx_seq ?_
 refine cx_ops ?_
 refine ax_q (q_fadr_ptr rfl) ?_
 refine ax_q (q_ldN rfl rfl rfl) ?_
 refine ax_q (q_fadr_ptr rfl) ?_
 refine ax_q (q_ldN rfl rfl rfl) ?_
 first | refine ax_call rfl (vc_pure0 (c_eqDisk  ?_ ?_ ?_) hP rfl rfl ?_) | refine ax_call rfl (vc_lend0 (c_eqDisk  ?_ ?_ ?_) hP (by repeat (first | exact lal_id _ rfl | exact LAL.nil | refine LAL.cons ?_ ?_ | exact la_id _ rfl | exact LA.lend (lend_whole rfl (by first | (simp; done) | (rw [List.length_map]; rfl))) | refine LA.agg ?_ | refine LA.fn ?_ | refine LA.lend ?_ | exact Lend.d _ | exact Lend.zs _ | exact lend_whole rfl (by first | (simp; done) | (rw [List.length_map]; rfl)) | refine Lend.ptr rfl ?_ | refine Lend.fn ?_ | exact LendL.nil | refine LendL.cons ?_ ?_)) rfl rfl ?_)
 ·
  first | assumption | omega | (simp; done) | (simp; omega)
 ·
  first | assumption | omega | (simp; done) | (simp; omega)
 ·
  first | assumption | omega | (simp; done) | (simp; omega)
 refine ax_q (q_not rfl) ?_
 refine ax_nil ?_
 refine cx_keep rfl rfl ?_
 refine cx_cond rfl (fun h0 => ?_) (fun h0 => ?_)
 ·
  have h0 := bT h0
  refine cx_seq ?_
  refine cx_ops ?_
  refine ax_q (q_mov rfl) ?_
  refine ax_nil ?_
  refine cx_keep rfl rfl ?_
  refine cx_ret (ret0 rfl rfl ?_)
  exact ⟨congrArg AM.bool (eqb_f (fun h => by rw [h, eqb_rfl] at h0; cases h0)).symm, rfl⟩
 ·
  have h0 := bF h0
  refine cx_skip ?_
  refine cx_keep rfl rfl ?_
  refine cx_seq ?_
  refine cx_seq ?_
  refine cx_ops ?_
  refine ax_q (q_fadr_ptr rfl) ?_
  refine ax_q (q_load1_ptr rfl rfl rfl) ?_
  refine ax_q (q_fadr_ptr rfl) ?_
  refine ax_q (q_load1_ptr rfl rfl rfl) ?_
  refine ax_q (q_ibin rfl rfl rfl) ?_
  refine ax_nil ?_
  refine cx_keep rfl rfl ?_
  refine cx_cond rfl (fun h1 => ?_) (fun h1 => ?_)
  ·
   have h1 := nT h1
   refine cx_seq ?_
   refine cx_ops ?_
   refine ax_q (q_mov rfl) ?_
   refine ax_nil ?_
   refine cx_keep rfl rfl ?_
   refine cx_ret (ret0 rfl rfl ?_)
   exact ⟨congrArg AM.bool (eqb_f (fun h => h1 (by rw [h]))).symm, rfl⟩
  ·
   have h1 := nF h1
   refine cx_skip ?_
   refine cx_keep rfl rfl ?_
   refine cx_seq ?_
   refine cx_seq ?_
   refine cx_ops ?_
   refine ax_q (q_fadr_ptr rfl) ?_
   refine ax_q (q_load1_ptr rfl rfl rfl) ?_
   refine ax_q (q_fadr_ptr rfl) ?_
   refine ax_q (q_load1_ptr rfl rfl rfl) ?_
   first | refine ax_call rfl (vc_pure0 (c_eqLogRecordS  ?_) hP rfl rfl ?_) | refine ax_call rfl (vc_lend0 (c_eqLogRecordS  ?_) hP (by repeat (first | exact lal_id _ rfl | exact LAL.nil | refine LAL.cons ?_ ?_ | exact la_id _ rfl | exact LA.lend (lend_whole rfl (by first | (simp; done) | (rw [List.length_map]; rfl))) | refine LA.agg ?_ | refine LA.fn ?_ | refine LA.lend ?_ | exact Lend.d _ | exact Lend.zs _ | exact lend_whole rfl (by first | (simp; done) | (rw [List.length_map]; rfl)) | refine Lend.ptr rfl ?_ | refine Lend.fn ?_ | exact LendL.nil | refine LendL.cons ?_ ?_)) rfl rfl ?_)
   ·
    first | assumption | omega | (simp; done) | (simp; omega)
   refine ax_q (q_not rfl) ?_
   refine ax_nil ?_
   refine cx_keep rfl rfl ?_
   refine cx_cond rfl (fun h2 => ?_) (fun h2 => ?_)
   ·
    have h2 := bT h2
    refine cx_seq ?_
    refine cx_ops ?_
    refine ax_q (q_mov rfl) ?_
    refine ax_nil ?_
    refine cx_keep rfl rfl ?_
    refine cx_ret (ret0 rfl rfl ?_)
    exact ⟨congrArg AM.bool (eqb_f (fun h => by rw [h, eqb_rfl] at h2; cases h2)).symm, rfl⟩
   ·
    have h2 := bF h2
    refine cx_skip ?_
    refine cx_keep rfl rfl ?_
    refine cx_seq ?_
    refine cx_seq ?_
    refine cx_ops ?_
    refine ax_q (q_fadr_ptr rfl) ?_
    refine ax_q (q_load1_ptr rfl rfl rfl) ?_
    refine ax_q (q_fadr_ptr rfl) ?_
    refine ax_q (q_load1_ptr rfl rfl rfl) ?_
    refine ax_q (q_ibin rfl rfl rfl) ?_
    refine ax_nil ?_
    refine cx_keep rfl rfl ?_
    refine cx_cond rfl (fun h3 => ?_) (fun h3 => ?_)
    ·
     have h3 := nT h3
     refine cx_seq ?_
     refine cx_ops ?_
     refine ax_q (q_mov rfl) ?_
     refine ax_nil ?_
     refine cx_keep rfl rfl ?_
     refine cx_ret (ret0 rfl rfl ?_)
     exact ⟨congrArg AM.bool (eqb_f (fun h => h3 (by rw [h]))).symm, rfl⟩
    ·
     have h3 := nF h3
     refine cx_skip ?_
     refine cx_keep rfl rfl ?_
     refine cx_seq ?_
     refine cx_seq ?_
     refine cx_ops ?_
     refine ax_q (q_fadr_ptr rfl) ?_
     refine ax_q (q_load1_ptr rfl rfl rfl) ?_
     refine ax_q (q_fadr_ptr rfl) ?_
     refine ax_q (q_load1_ptr rfl rfl rfl) ?_
     first | refine ax_call rfl (vc_pure0 (c_eqFrameS  ?_ ?_) hP rfl rfl ?_) | refine ax_call rfl (vc_lend0 (c_eqFrameS  ?_ ?_) hP (by repeat (first | exact lal_id _ rfl | exact LAL.nil | refine LAL.cons ?_ ?_ | exact la_id _ rfl | exact LA.lend (lend_whole rfl (by first | (simp; done) | (rw [List.length_map]; rfl))) | refine LA.agg ?_ | refine LA.fn ?_ | refine LA.lend ?_ | exact Lend.d _ | exact Lend.zs _ | exact lend_whole rfl (by first | (simp; done) | (rw [List.length_map]; rfl)) | refine Lend.ptr rfl ?_ | refine Lend.fn ?_ | exact LendL.nil | refine LendL.cons ?_ ?_)) rfl rfl ?_)
     ·
      first | assumption | omega | (simp; done) | (simp; omega)
     ·
      first | assumption | omega | (simp; done) | (simp; omega)
     refine ax_q (q_not rfl) ?_
     refine ax_nil ?_
     refine cx_keep rfl rfl ?_
     refine cx_cond rfl (fun h4 => ?_) (fun h4 => ?_)
     ·
      have h4 := bT h4
      refine cx_seq ?_
      refine cx_ops ?_
      refine ax_q (q_mov rfl) ?_
      refine ax_nil ?_
      refine cx_keep rfl rfl ?_
      refine cx_ret (ret0 rfl rfl ?_)
      exact ⟨congrArg AM.bool (eqb_f (fun h => by rw [h, eqb_rfl] at h4; cases h4)).symm, rfl⟩
     ·
      have h4 := bF h4
      refine cx_skip ?_
      refine cx_keep rfl rfl ?_
      refine cx_seq ?_
      refine cx_seq ?_
      refine cx_ops ?_
      refine ax_q (q_fadr_ptr rfl) ?_
      refine ax_q (q_load1_ptr rfl rfl rfl) ?_
      refine ax_q (q_fadr_ptr rfl) ?_
      refine ax_q (q_load1_ptr rfl rfl rfl) ?_
      refine ax_q (q_ibin rfl rfl rfl) ?_
      refine ax_nil ?_
      refine cx_keep rfl rfl ?_
      refine cx_cond rfl (fun h5 => ?_) (fun h5 => ?_)
      ·
       have h5 := nT h5
       refine cx_seq ?_
       refine cx_ops ?_
       refine ax_q (q_mov rfl) ?_
       refine ax_nil ?_
       refine cx_keep rfl rfl ?_
       refine cx_ret (ret0 rfl rfl ?_)
       exact ⟨congrArg AM.bool (eqb_f (fun h => h5 (by rw [h]))).symm, rfl⟩
      ·
       have h5 := nF h5
       refine cx_skip ?_
       refine cx_keep rfl rfl ?_
       refine cx_seq ?_
       refine cx_ops ?_
       refine ax_q (q_mov rfl) ?_
       refine ax_nil ?_
       refine cx_keep rfl rfl ?_
       refine cx_ret (ret0 rfl rfl ?_)
       exact ⟨congrArg AM.bool (eqb_t (GStore.ext1 (eqb_iff.1 h0) h1 (eqb_iff.1 h2) h3 (eqb_iff.1 h4) h5)).symm, rfl⟩

end Go.Proofs.Ytbanegjijhmojaa
