/- The walks: what each function computes, as a contract without a world (part 2). -/
import Derived.Test.YtbanegjijhmojaaGreatProg
import Derived.Test.YtbanegjijhmojaaGreatW1
namespace Go.Proofs.YtbanegjijhmojaaGreat
open Go Go.AM
set_option maxRecDepth 10000
set_option linter.unusedVariables false
set_option linter.unusedSimpArgs false
/- loop.example/g00332/impl.isMode -/
def k_c_isMode : XCode :=
 .seq (.ops [.op (some 2) (.mov (.k (.bool false)))])
 (.keep [0] (.seq (.ops [.op (some 3) (.mov (.t 0)),
   .call (some 4) 63 [.t 3, .k (.int .i64 1), .k (.int .i64 4)],
   .op (some 2) (.mov (.t 4))])
 (.keep [2] (.ret))))
theorem k_c_isMode_fits : fitsF Tryz.prog 224 ⟨5, k_c_isMode, [.t 2]⟩ = true := by kernel_rfl
theorem c_isMode {n : Int} : Con Tryz.prog noMv 224 [int n] [] (fun r h => r = bool (isMode n) ∧ h = []) := by
 refine con_of2 k_c_isMode_fits rfl fun C hP hmv => ?_
 unfold k_c_isMode
 refine cx_seq (cx_ops ?_)
 refine ax_q (q_mov rfl) ?_
 refine ax_nil (cx_keep rfl rfl (cx_seq (cx_ops ?_)))
 refine ax_q (q_mov rfl) ?_
 refine ax_call rfl (vc_pure0 (c_inRange  ) hP rfl rfl ?_)
 refine ax_q (q_mov rfl) ?_
 refine ax_nil (cx_keep rfl rfl ?_)
 refine cx_ret (ret0 rfl rfl ?_)
 exact ⟨rfl, rfl⟩


/- loop.example/g00332/impl.lockOK -/
def k_c_lockOK : XCode :=
 .seq (.ops [.op (some 1) (.box (.t 0)),
   .op (some 2) (.mov (.k (.bool false)))])
 (.keep [1] (.seq (.ops [.op (some 3) (.fadr (.t 1) 0),
   .op (some 4) (.load1 (.t 3)),
   .call (some 5) 169 [.t 4],
   .op (some 6) (.mov (.t 5)),
   .andor 10 true 3 6 [.op (some 7) (.fadr (.t 1) 1), .op (some 8) (.load1 (.t 7)), .call (some 9) 63 [.t 8, .k (.int .i64 1), .k (.int .i64 3)]] (.t 9),
   .op (some 11) (.mov (.t 10)),
   .andor 15 true 8 11 [.op (some 12) (.fadr (.t 1) 2), .op (some 13) (.load1 (.t 12)), .call (some 14) 63 [.t 13, .k (.int .i64 (-1)), .k (.int .i64 1000)]] (.t 14),
   .op (some 16) (.mov (.t 15)),
   .andor 20 true 13 16 [.op (some 17) (.fadr (.t 1) 3), .op (some 18) (.load1 (.t 17)), .call (some 19) 224 [.t 18]] (.t 19),
   .op (some 21) (.mov (.t 20)),
   .andor 30 true 18 21 [.op (some 22) (.fadr (.t 1) 2), .op (some 23) (.load1 (.t 22)), .op (some 24) (.bin .lss (.t 23) (.k (.int .i64 0))), .op (some 25) (.mov (.t 24)), .andor 29 false 22 25 [.op (some 26) (.fadr (.t 1) 3), .op (some 27) (.load1 (.t 26)), .op (some 28) (.bin .geq (.t 27) (.k (.int .i64 3)))] (.t 28)] (.t 29),
   .op (some 2) (.mov (.t 30))])
 (.keep [2] (.ret))))
theorem k_c_lockOK_fits : fitsF Tryz.prog 165 ⟨31, k_c_lockOK, [.t 2]⟩ = true := by kernel_rfl
theorem c_lockOK {a : GLock} : Con Tryz.prog noMv 165 [a.av] [] (fun r h => r = bool (lockOK a) ∧ h = []) := by
 refine con_of2 k_c_lockOK_fits rfl fun C hP hmv => ?_
 unfold k_c_lockOK
 refine cx_seq (cx_ops ?_)
 refine ax_e (e_box rfl rfl (by decide) rfl rfl rfl) ?_
 refine ax_q (q_mov rfl) ?_
 refine ax_nil (cx_keep rfl rfl (cx_seq (cx_ops ?_)))
 refine ax_q (q_fadr_ptr rfl) ?_
 refine ax_q (q_load1_ptr rfl rfl rfl) ?_
 refine ax_call rfl (vc_pure0 (c_isTx  ) hP rfl rfl ?_)
 refine ax_q (q_mov rfl) ?_
 apply ax_and rfl rfl
 ·
  intro g
  refine ax_q (q_fadr_ptr rfl) ?_
  refine ax_q (q_load1_ptr rfl rfl rfl) ?_
  refine ax_call rfl (vc_pure0 (c_inRange  ) hP rfl rfl ?_)
  exact ax_nil ⟨rfl, by repeat constructor⟩
 refine ax_q (q_mov rfl) ?_
 apply ax_and rfl rfl
 ·
  intro g
  have g := (fun h => And.intro (id (and_T h).1) (id (and_T h).2)) g
  refine ax_q (q_fadr_ptr rfl) ?_
  refine ax_q (q_load1_ptr rfl rfl rfl) ?_
  refine ax_call rfl (vc_pure0 (c_inRange  ) hP rfl rfl ?_)
  exact ax_nil ⟨rfl, by repeat constructor⟩
 refine ax_q (q_mov rfl) ?_
 apply ax_and rfl rfl
 ·
  intro g
  have g := (fun h => And.intro ((fun h => And.intro (id (and_T h).1) (id (and_T h).2)) (and_T h).1) (id (and_T h).2)) g
  refine ax_q (q_fadr_ptr rfl) ?_
  refine ax_q (q_load1_ptr rfl rfl rfl) ?_
  refine ax_call rfl (vc_pure0 (c_isMode  ) hP rfl rfl ?_)
  exact ax_nil ⟨rfl, by repeat constructor⟩
 refine ax_q (q_mov rfl) ?_
 apply ax_and rfl rfl
 ·
  intro g
  have g := (fun h => And.intro ((fun h => And.intro ((fun h => And.intro (id (and_T h).1) (id (and_T h).2)) (and_T h).1) (id (and_T h).2)) (and_T h).1) (id (and_T h).2)) g
  refine ax_q (q_fadr_ptr rfl) ?_
  refine ax_q (q_load1_ptr rfl rfl rfl) ?_
  refine ax_q (q_ibin rfl rfl rfl) ?_
  refine ax_q (q_mov rfl) ?_
  apply ax_or rfl rfl
  ·
   intro g
   have g := dF g
   refine ax_q (q_fadr_ptr rfl) ?_
   refine ax_q (q_load1_ptr rfl rfl rfl) ?_
   refine ax_q (q_ibin rfl rfl rfl) ?_
   exact ax_nil ⟨rfl, by repeat constructor⟩
  exact ax_nil ⟨rfl, by repeat constructor⟩
 refine ax_q (q_mov rfl) ?_
 refine ax_nil (cx_keep rfl rfl ?_)
 refine cx_ret (ret0 rfl rfl ?_)
 exact ⟨rfl, rfl⟩


/- loop.example/g00332/impl.isOneThing -/
def k_c_isOne : XCode :=
 .seq (.ops [.op (some 2) (.box (.t 0)),
   .op (some 3) (.box (.t 1)),
   .op (some 4) (.mov (.k (.bool false)))])
 (.keep [2, 3] (.seq (.ops [.op (some 5) (.fadr (.t 2) 1),
   .op (some 6) (.load1 (.t 5)),
   .op (some 7) (.fadr (.t 3) 1),
   .op (some 8) (.load1 (.t 7)),
   .op (some 9) (.bin .eql (.t 6) (.t 8)),
   .op (some 10) (.mov (.t 9)),
   .andor 16 true 5 10 [.op (some 11) (.fadr (.t 2) 2), .op (some 12) (.load1 (.t 11)), .op (some 13) (.fadr (.t 3) 2), .op (some 14) (.load1 (.t 13)), .op (some 15) (.bin .eql (.t 12) (.t 14))] (.t 15),
   .op (some 4) (.mov (.t 16))])
 (.keep [4] (.ret))))
theorem k_c_isOne_fits : fitsF Tryz.prog 225 ⟨17, k_c_isOne, [.t 4]⟩ = true := by kernel_rfl
theorem c_isOne {a b : GLock} : Con Tryz.prog noMv 225 [a.av, b.av] [] (fun r h => r = bool (isThing a b) ∧ h = []) := by
 refine con_of2 k_c_isOne_fits rfl fun C hP hmv => ?_
 unfold k_c_isOne
 refine cx_seq (cx_ops ?_)
 refine ax_e (e_box rfl rfl (by decide) rfl rfl rfl) ?_
 refine ax_e (e_box rfl rfl (by decide) rfl rfl rfl) ?_
 refine ax_q (q_mov rfl) ?_
 refine ax_nil (cx_keep rfl rfl (cx_seq (cx_ops ?_)))
 refine ax_q (q_fadr_ptr rfl) ?_
 refine ax_q (q_load1_ptr rfl rfl rfl) ?_
 refine ax_q (q_fadr_ptr rfl) ?_
 refine ax_q (q_load1_ptr rfl rfl rfl) ?_
 refine ax_q (q_ibin rfl rfl rfl) ?_
 refine ax_q (q_mov rfl) ?_
 apply ax_and rfl rfl
 ·
  intro g
  have g := dT g
  refine ax_q (q_fadr_ptr rfl) ?_
  refine ax_q (q_load1_ptr rfl rfl rfl) ?_
  refine ax_q (q_fadr_ptr rfl) ?_
  refine ax_q (q_load1_ptr rfl rfl rfl) ?_
  refine ax_q (q_ibin rfl rfl rfl) ?_
  exact ax_nil ⟨rfl, by repeat constructor⟩
 refine ax_q (q_mov rfl) ?_
 refine ax_nil (cx_keep rfl rfl ?_)
 refine cx_ret (ret0 rfl rfl ?_)
 exact ⟨rfl, rfl⟩


/- loop.example/g00332/impl.modesFit -/
def k_c_modesFit : XCode :=
 .seq (.ops [.op (some 4) (.mov (.k (.bool false)))])
 (.keep [0, 1] (.seq (.ops [.op (some 5) (.mov (.t 0)),
   .op (some 6) (.bin .neq (.t 5) (.k (.int .i64 4))),
   .op (some 7) (.mov (.t 6)),
   .andor 10 true 2 7 [.op (some 8) (.mov (.t 1)), .op (some 9) (.bin .neq (.t 8) (.k (.int .i64 4)))] (.t 9),
   .op (some 11) (.mov (.t 10)),
   .andor 23 true 6 11 [.op (some 12) (.mov (.t 0)), .op (some 13) (.bin .eql (.t 12) (.k (.int .i64 1))), .op (some 14) (.mov (.t 13)), .andor 17 false 9 14 [.op (some 15) (.mov (.t 1)), .op (some 16) (.bin .eql (.t 15) (.k (.int .i64 1)))] (.t 16), .op (some 18) (.mov (.t 17)), .andor 22 false 13 18 [.op (some 19) (.mov (.t 0)), .op (some 20) (.mov (.t 1)), .op (some 21) (.bin .eql (.t 19) (.t 20))] (.t 21)] (.t 22),
   .op (some 4) (.mov (.t 23))])
 (.keep [4] (.ret))))
theorem k_c_modesFit_fits : fitsF Tryz.prog 226 ⟨24, k_c_modesFit, [.t 4]⟩ = true := by kernel_rfl
theorem c_modesFit {a b : Int} : Con Tryz.prog noMv 226 [int a, int b] [] (fun r h => r = bool (modesFit a b) ∧ h = []) := by
 refine con_of2 k_c_modesFit_fits rfl fun C hP hmv => ?_
 unfold k_c_modesFit
 refine cx_seq (cx_ops ?_)
 refine ax_q (q_mov rfl) ?_
 refine ax_nil (cx_keep rfl rfl (cx_seq (cx_ops ?_)))
 refine ax_q (q_mov rfl) ?_
 refine ax_q (q_ibin rfl rfl rfl) ?_
 refine ax_q (q_mov rfl) ?_
 apply ax_and rfl rfl
 ·
  intro g
  have g := nT g
  refine ax_q (q_mov rfl) ?_
  refine ax_q (q_ibin rfl rfl rfl) ?_
  exact ax_nil ⟨rfl, by repeat constructor⟩
 refine ax_q (q_mov rfl) ?_
 apply ax_and rfl rfl
 ·
  intro g
  have g := (fun h => And.intro (nT (and_T h).1) (nT (and_T h).2)) g
  refine ax_q (q_mov rfl) ?_
  refine ax_q (q_ibin rfl rfl rfl) ?_
  refine ax_q (q_mov rfl) ?_
  apply ax_or rfl rfl
  ·
   intro g
   have g := dF g
   refine ax_q (q_mov rfl) ?_
   refine ax_q (q_ibin rfl rfl rfl) ?_
   exact ax_nil ⟨rfl, by repeat constructor⟩
  refine ax_q (q_mov rfl) ?_
  apply ax_or rfl rfl
  ·
   intro g
   have g := (fun h => And.intro (dF (or_F h).1) (dF (or_F h).2)) g
   refine ax_q (q_mov rfl) ?_
   refine ax_q (q_mov rfl) ?_
   refine ax_q (q_ibin rfl rfl rfl) ?_
   exact ax_nil ⟨rfl, by repeat constructor⟩
  exact ax_nil ⟨rfl, by repeat constructor⟩
 refine ax_q (q_mov rfl) ?_
 refine ax_nil (cx_keep rfl rfl ?_)
 refine cx_ret (ret0 rfl rfl ?_)
 exact ⟨rfl, rfl⟩


/- loop.example/g00332/impl.clashes -/
def k_c_clashes : XCode :=
 .seq (.ops [.op (some 2) (.box (.t 0)),
   .op (some 3) (.box (.t 1)),
   .op (some 4) (.mov (.k (.bool false)))])
 (.keep [2, 3] (.seq (.ops [.op (some 5) (.fadr (.t 2) 0),
   .op (some 6) (.load1 (.t 5)),
   .op (some 7) (.fadr (.t 3) 0),
   .op (some 8) (.load1 (.t 7)),
   .op (some 9) (.bin .neq (.t 6) (.t 8)),
   .op (some 10) (.mov (.t 9)),
   .andor 14 true 5 10 [.op (some 11) (.loadN 4 (.t 2)), .op (some 12) (.loadN 4 (.t 3)), .call (some 13) 225 [.t 11, .t 12]] (.t 13),
   .op (some 15) (.mov (.t 14)),
   .andor 22 true 10 15 [.op (some 16) (.fadr (.t 2) 3), .op (some 17) (.load1 (.t 16)), .op (some 18) (.fadr (.t 3) 3), .op (some 19) (.load1 (.t 18)), .call (some 20) 226 [.t 17, .t 19], .op (some 21) (.not (.t 20))] (.t 21),
   .op (some 4) (.mov (.t 22))])
 (.keep [4] (.ret))))
theorem k_c_clashes_fits : fitsF Tryz.prog 167 ⟨23, k_c_clashes, [.t 4]⟩ = true := by kernel_rfl
theorem c_clashes {a b : GLock} : Con Tryz.prog noMv 167 [a.av, b.av] [] (fun r h => r = bool (clashes a b) ∧ h = []) := by
 refine con_of2 k_c_clashes_fits rfl fun C hP hmv => ?_
 unfold k_c_clashes
 refine cx_seq (cx_ops ?_)
 refine ax_e (e_box rfl rfl (by decide) rfl rfl rfl) ?_
 refine ax_e (e_box rfl rfl (by decide) rfl rfl rfl) ?_
 refine ax_q (q_mov rfl) ?_
 refine ax_nil (cx_keep rfl rfl (cx_seq (cx_ops ?_)))
 refine ax_q (q_fadr_ptr rfl) ?_
 refine ax_q (q_load1_ptr rfl rfl rfl) ?_
 refine ax_q (q_fadr_ptr rfl) ?_
 refine ax_q (q_load1_ptr rfl rfl rfl) ?_
 refine ax_q (q_ibin rfl rfl rfl) ?_
 refine ax_q (q_mov rfl) ?_
 apply ax_and rfl rfl
 ·
  intro g
  have g := nT g
  refine ax_q (q_ldN rfl rfl rfl) ?_
  refine ax_q (q_ldN rfl rfl rfl) ?_
  refine ax_call rfl (vc_pure0 (c_isOne  ) hP rfl rfl ?_)
  exact ax_nil ⟨rfl, by repeat constructor⟩
 refine ax_q (q_mov rfl) ?_
 apply ax_and rfl rfl
 ·
  intro g
  have g := (fun h => And.intro (nT (and_T h).1) (id (and_T h).2)) g
  refine ax_q (q_fadr_ptr rfl) ?_
  refine ax_q (q_load1_ptr rfl rfl rfl) ?_
  refine ax_q (q_fadr_ptr rfl) ?_
  refine ax_q (q_load1_ptr rfl rfl rfl) ?_
  refine ax_call rfl (vc_pure0 (c_modesFit  ) hP rfl rfl ?_)
  refine ax_q (q_not rfl) ?_
  exact ax_nil ⟨rfl, by repeat constructor⟩
 refine ax_q (q_mov rfl) ?_
 refine ax_nil (cx_keep rfl rfl ?_)
 refine cx_ret (ret0 rfl rfl ?_)
 exact ⟨rfl, rfl⟩


/- loop.example/g00332/impl.LocksOK$1 -/
def k_c_LocksOK1 : XCode :=
 .seq (.ops [.op (some 2) (.box (.t 0)),
   .op (some 3) (.mov (.k (.bool false)))])
 (.keep [1, 2] (.seq (.ops [.op (some 4) (.loadN 4 (.t 1)),
   .op (some 5) (.loadN 4 (.t 2)),
   .op (some 6) (.eqs false [0, 0, 0, 0] (.t 4) (.t 5)),
   .op (some 7) (.mov (.t 6)),
   .andor 11 false 3 7 [.op (some 8) (.loadN 4 (.t 1)), .op (some 9) (.loadN 4 (.t 2)), .call (some 10) 167 [.t 8, .t 9]] (.t 10),
   .op (some 3) (.mov (.t 11))])
 (.keep [3] (.ret))))
theorem k_c_LocksOK1_fits : fitsF Tryz.prog 166 ⟨12, k_c_LocksOK1, [.t 3]⟩ = true := by kernel_rfl
theorem c_LocksOK1 {a b : GLock} : Con Tryz.prog noMv 166 [b.av, .d (.ip a.row)] [] (fun r h => r = bool (twice a b) ∧ h = []) := by
 refine con_of2 k_c_LocksOK1_fits rfl fun C hP hmv => ?_
 unfold k_c_LocksOK1
 refine cx_seq (cx_ops ?_)
 refine ax_e (e_box rfl rfl (by decide) rfl rfl rfl) ?_
 refine ax_q (q_mov rfl) ?_
 refine ax_nil (cx_keep rfl rfl (cx_seq (cx_ops ?_)))
 first | refine ax_q (q_ldN rfl rfl rfl) ?_ | refine ax_q (q_loadN_ip rfl (Nat.le_refl _)) ?_
 refine ax_q (q_ldN rfl rfl rfl) ?_
 refine ax_q (GLock.q_eqs rfl rfl) ?_
 refine ax_q (q_mov rfl) ?_
 apply ax_or rfl rfl
 ·
  intro g
  first | refine ax_q (q_ldN rfl rfl rfl) ?_ | refine ax_q (q_loadN_ip rfl (Nat.le_refl _)) ?_
  refine ax_q (q_ldN rfl rfl rfl) ?_
  refine ax_call rfl (vc_pure0 (c_clashes  ) hP rfl rfl ?_)
  exact ax_nil ⟨rfl, by repeat constructor⟩
 refine ax_q (q_mov rfl) ?_
 refine ax_nil (cx_keep rfl rfl ?_)
 refine cx_ret (ret0 rfl rfl ?_)
 exact ⟨rfl, rfl⟩


/- loop.example/g00332/impl.LocksOK$2 -/
def k_c_LocksOK2 : XCode :=
 .seq (.ops [.op (some 1) (.box (.t 0)),
   .op (some 2) (.mov (.k (.bool false)))])
 (.keep [1] (.seq (.ops [.op (some 3) (.fadr (.t 1) 0),
   .op (some 4) (.load1 (.t 3)),
   .call (some 5) 169 [.t 4],
   .op (some 6) (.not (.t 5)),
   .op (some 7) (.mov (.t 6)),
   .andor 12 false 4 7 [.op (some 8) (.fadr (.t 1) 1), .op (some 9) (.load1 (.t 8)), .call (some 10) 169 [.t 9], .op (some 11) (.not (.t 10))] (.t 11),
   .op (some 13) (.mov (.t 12)),
   .andor 19 false 10 13 [.op (some 14) (.fadr (.t 1) 0), .op (some 15) (.load1 (.t 14)), .op (some 16) (.fadr (.t 1) 1), .op (some 17) (.load1 (.t 16)), .op (some 18) (.bin .eql (.t 15) (.t 17))] (.t 18),
   .op (some 2) (.mov (.t 19))])
 (.keep [2] (.ret))))
theorem k_c_LocksOK2_fits : fitsF Tryz.prog 168 ⟨20, k_c_LocksOK2, [.t 2]⟩ = true := by kernel_rfl
theorem c_LocksOK2 {a : GWait} : Con Tryz.prog noMv 168 [a.av] [] (fun r h => r = bool (badWait a) ∧ h = []) := by
 refine con_of2 k_c_LocksOK2_fits rfl fun C hP hmv => ?_
 unfold k_c_LocksOK2
 refine cx_seq (cx_ops ?_)
 refine ax_e (e_box rfl rfl (by decide) rfl rfl rfl) ?_
 refine ax_q (q_mov rfl) ?_
 refine ax_nil (cx_keep rfl rfl (cx_seq (cx_ops ?_)))
 refine ax_q (q_fadr_ptr rfl) ?_
 refine ax_q (q_load1_ptr rfl rfl rfl) ?_
 refine ax_call rfl (vc_pure0 (c_isTx  ) hP rfl rfl ?_)
 refine ax_q (q_not rfl) ?_
 refine ax_q (q_mov rfl) ?_
 apply ax_or rfl rfl
 ·
  intro g
  have g := bF g
  refine ax_q (q_fadr_ptr rfl) ?_
  refine ax_q (q_load1_ptr rfl rfl rfl) ?_
  refine ax_call rfl (vc_pure0 (c_isTx  ) hP rfl rfl ?_)
  refine ax_q (q_not rfl) ?_
  exact ax_nil ⟨rfl, by repeat constructor⟩
 refine ax_q (q_mov rfl) ?_
 apply ax_or rfl rfl
 ·
  intro g
  have g := (fun h => And.intro (bF (or_F h).1) (bF (or_F h).2)) g
  refine ax_q (q_fadr_ptr rfl) ?_
  refine ax_q (q_load1_ptr rfl rfl rfl) ?_
  refine ax_q (q_fadr_ptr rfl) ?_
  refine ax_q (q_load1_ptr rfl rfl rfl) ?_
  refine ax_q (q_ibin rfl rfl rfl) ?_
  exact ax_nil ⟨rfl, by repeat constructor⟩
 refine ax_q (q_mov rfl) ?_
 refine ax_nil (cx_keep rfl rfl ?_)
 refine cx_ret (ret0 rfl rfl ?_)
 exact ⟨rfl, rfl⟩


/- loop.example/g00332/impl.LocksOK -/
def k_c_LocksOK : XCode :=
 .seq (.ops [.op (some 1) (.box (.t 0)),
   .op (some 2) (.mov (.k (.bool false)))])
 (.keep [1] (.seq (.seq (.ops [.op (some 5) (.fadr (.t 1) 0),
   .op (some 6) (.load1 (.t 5)),
   .op (some 7) (.lenS (.t 6)),
   .op (some 8) (.mov (.k (.int .i64 0)))])
  (.keep [1, 6, 7, 8] (.block 0 (.loop (.seq (.ops [.op (some 9) (.bin .lss (.t 8) (.t 7))])
   (.keep [1, 6, 7, 8, 9] (.seq (.cond (.t 9)
    (.skip)
    (.exit 0))
   (.keep [1, 6, 7, 8] (.seq (.block 1 (.seq (.ops [.op (some 10) (.mov (.t 8)),
     .op (some 11) (.iadr 4 (.t 6) (.t 8)),
     .op (some 12) (.loadN 4 (.t 11)),
     .op (some 4) (.alloc [.int .i64 0, .int .i64 0, .int .i64 0, .int .i64 0]),
     .op (some 3) (.mov (.t 10)),
     .op none (.store 4 (.t 4) (.t 12))])
    (.keep [1, 3, 4, 6, 7, 8] (.seq (.ops [.op (some 13) (.loadN 4 (.t 4)),
     .call (some 14) 165 [.t 13],
     .op (some 15) (.not (.t 14)),
     .op (some 16) (.mov (.t 15)),
     .andor 23 false 3 16 [.op (some 17) (.fadr (.t 1) 0), .op (some 18) (.load1 (.t 17)), .op (some 19) (.mov (.t 3)), .op (some 20) (.slc 4 (.t 18) none (some (.t 19)) none), .op (some 21) (.mkfn 166 [.t 4]), .call (some 22) 94 [.t 20, .t 21]] (.t 22)])
    (.keep [1, 6, 7, 8, 23] (.cond (.t 23)
    (.seq (.ops [.op (some 2) (.mov (.k (.bool false)))])
     (.keep [2] (.ret)))
    (.skip)))))))
   (.keep [1, 6, 7, 8] (.ops [.op (some 24) (.bin .add (.t 8) (.k (.int .i64 1))),
    .op (some 8) (.mov (.t 24))])))))))))))
 (.keep [1] (.seq (.ops [.op (some 25) (.fadr (.t 1) 0),
   .op (some 26) (.load1 (.t 25)),
   .op (some 27) (.lenS (.t 26)),
   .op (some 28) (.bin .leq (.t 27) (.k (.int .i64 60))),
   .op (some 29) (.mov (.t 28)),
   .andor 34 true 4 29 [.op (some 30) (.fadr (.t 1) 1), .op (some 31) (.load1 (.t 30)), .op (some 32) (.lenS (.t 31)), .op (some 33) (.bin .leq (.t 32) (.k (.int .i64 100)))] (.t 33),
   .op (some 35) (.mov (.t 34)),
   .andor 40 true 10 35 [.op (some 36) (.fadr (.t 1) 1), .op (some 37) (.load1 (.t 36)), .call (some 38) 97 [.t 37, .f 168], .op (some 39) (.not (.t 38))] (.t 39),
   .op (some 2) (.mov (.t 40))])
 (.keep [2] (.ret))))))
theorem k_c_LocksOK_fits : fitsF Tryz.prog 92 ⟨41, k_c_LocksOK, [.t 2]⟩ = true := by kernel_rfl
theorem c_LocksOK {l : GLocks} (hw0 : l.Held.length ≤ 1048576) (hw1 : l.Waits.length ≤ 1048576) : Con Tryz.prog noMv 92 [l.av] [] (fun r h => r = bool (locksOK l) ∧ h = []) := by
 refine con_of2 k_c_LocksOK_fits rfl fun C hP hmv => ?_
 unfold k_c_LocksOK
 refine cx_seq (cx_ops ?_)
 refine ax_e (e_box rfl rfl (by decide) rfl rfl rfl) ?_
 refine ax_q (q_mov rfl) ?_
 refine ax_nil (cx_keep rfl rfl (cx_seq (cx_seq (cx_ops ?_))))
 refine ax_q (q_fadr_ptr rfl) ?_
 refine ax_q (q_load1_ptr rfl rfl rfl) ?_
 refine ax_q (q_lenS_map rfl) ?_
 refine ax_q (q_mov rfl) ?_
 refine ax_nil (cx_keep rfl rfl (cx_block ?_))
 refine cx_loopU (fun n k => k ≤ l.Held.length ∧ n = l.Held.length - k ∧ allIx (okAt l.Held) k = true) (fun k : Nat => [(8, int k)]) (fun _ => [(1, .box [.d (.sl 4 (l.Held.map GLock.row)), .d (.sl 2 (l.Waits.map GWait.row))])]) ⟨_, 0, ⟨Nat.zero_le _, rfl, rfl⟩, by repeat constructor⟩ ?_
 rintro n k ⟨hk, rfl, ht⟩
 refine cx_seq (cx_ops ?_)
 refine ax_q (q_ibin rfl rfl rfl) ?_
 refine ax_nil (cx_keep rfl rfl (cx_seq ?_))
 refine cx_cond rfl (fun h0 => ?_) (fun h0 => ?_)
 ·
  have h0 := dT h0
  have h0x : k < l.Held.length := by omega
  refine cx_skip ?_
  refine cx_keep rfl rfl (cx_seq (cx_block (cx_seq (cx_ops ?_))))
  refine ax_q (q_mov rfl) ?_
  refine ax_q (q_ix rfl rfl (mapAt h0x)) ?_
  first | refine ax_q (q_ldN rfl rfl rfl) ?_ | refine ax_q (q_loadN_ip rfl (Nat.le_refl _)) ?_
  refine ax_e (e_alloc (by decide) rfl rfl) ?_
  refine ax_q (q_mov rfl) ?_
  refine ax_e (e_st rfl rfl rfl rfl rfl rfl rfl) ?_
  refine ax_nil (cx_keep rfl rfl (cx_seq (cx_ops ?_)))
  refine ax_q (q_ldN rfl rfl rfl) ?_
  refine ax_call rfl (vc_pure0 (c_lockOK  ) hP rfl rfl ?_)
  refine ax_q (q_not rfl) ?_
  refine ax_q (q_mov rfl) ?_
  apply ax_or rfl rfl
  ·
   intro g
   have g := bF g
   refine ax_q (q_fadr_ptr rfl) ?_
   refine ax_q (q_load1_ptr rfl rfl rfl) ?_
   refine ax_q (q_mov rfl) ?_
   refine ax_qe (r' := .d (.sl 4 ((l.Held.take k).map GLock.row))) (q_slc rfl rfl rfl (by omega) (by omega) (by simp; omega)) (by simp [List.map_take]) ?_
   refine ax_q (q_mkfn rfl) ?_
   refine ax_call rfl (vc_lend0 (c_ContainsFunc_Lock (xs := l.Held.take k) (ds := [.ip (l.Held[k]).row]) (twice l.Held[k]) (by simp; omega) (by kernel_rfl) (fun s _ => c_LocksOK1)) hP (by repeat (first | exact lal_id _ rfl | exact LAL.nil | refine LAL.cons ?_ ?_ | exact la_id _ rfl | exact LA.lend (lend_whole rfl (by first | (simp; done) | (rw [List.length_map]; rfl))) | refine LA.agg ?_ | refine LA.fn ?_ | refine LA.lend ?_ | exact Lend.d _ | exact Lend.zs _ | exact lend_whole rfl (by first | (simp; done) | (rw [List.length_map]; rfl)) | refine Lend.ptr rfl ?_ | refine Lend.fn ?_ | exact LendL.nil | refine LendL.cons ?_ ?_)) rfl rfl ?_)
   exact ax_nil ⟨rfl, by repeat constructor⟩
  refine ax_nil (cx_keep rfl rfl ?_)
  refine cx_cond rfl (fun h1 => ?_) (fun h1 => ?_)
  ·
   have h1 := (fun h => (or_T h).imp bT id) h1
   refine cx_seq (cx_ops ?_)
   refine ax_q (q_mov rfl) ?_
   refine ax_nil (cx_keep rfl rfl ?_)
   refine cx_ret (ret0 rfl rfl ?_)
   exact ⟨by rw [show locksOK l = false from by unfold locksOK; rw [allIx_no h0x (by rw [okAt_get h0x]; rcases h1 with h1 | h1 <;> rw [h1] <;> simp)]; rfl]; rfl, rfl⟩
  ·
   have h1 := (fun h => And.intro (bF (or_F h).1) (id (or_F h).2)) h1
   refine cx_skip ?_
   refine cx_keep rfl rfl (cx_ops ?_)
   refine ax_qe (r' := int ((k + 1 : Nat) : Int)) (q_ibin rfl rfl rfl) (by rw [wi (by omega) (by omega)]; rfl) ?_
   refine ax_q (q_mov rfl) ?_
   refine ax_nil ?_
   have h2 : okAt l.Held k = true := by rw [okAt_get h0x, h1.1, h1.2]; rfl
   exact ⟨_, k + 1, by omega, ⟨by omega, rfl, allIx_step ht h2⟩, by repeat constructor⟩
 ·
  have h0 := dF h0
  have h0x : k = l.Held.length := by omega
  subst h0x
  refine cx_exit rfl ?_
  refine cx_keep rfl rfl (cx_seq (cx_ops ?_))
  refine ax_q (q_fadr_ptr rfl) ?_
  refine ax_q (q_load1_ptr rfl rfl rfl) ?_
  refine ax_q (q_lenS_map rfl) ?_
  refine ax_q (q_ibin rfl rfl rfl) ?_
  refine ax_q (q_mov rfl) ?_
  apply ax_and rfl rfl
  ·
   intro g
   have g := dT g
   refine ax_q (q_fadr_ptr rfl) ?_
   refine ax_q (q_load1_ptr rfl rfl rfl) ?_
   refine ax_q (q_lenS_map rfl) ?_
   refine ax_q (q_ibin rfl rfl rfl) ?_
   exact ax_nil ⟨rfl, by repeat constructor⟩
  refine ax_q (q_mov rfl) ?_
  apply ax_and rfl rfl
  ·
   intro g
   have g := (fun h => And.intro (dT (and_T h).1) (dT (and_T h).2)) g
   refine ax_q (q_fadr_ptr rfl) ?_
   refine ax_q (q_load1_ptr rfl rfl rfl) ?_
   refine ax_call rfl (vc_lend0 (c_ContainsFunc_Wait (xs := l.Waits) (ds := []) badWait (by omega) (by kernel_rfl) (fun s _ => c_LocksOK2)) hP (by repeat (first | exact lal_id _ rfl | exact LAL.nil | refine LAL.cons ?_ ?_ | exact la_id _ rfl | exact LA.lend (lend_whole rfl (by first | (simp; done) | (rw [List.length_map]; rfl))) | refine LA.agg ?_ | refine LA.fn ?_ | refine LA.lend ?_ | exact Lend.d _ | exact Lend.zs _ | exact lend_whole rfl (by first | (simp; done) | (rw [List.length_map]; rfl)) | refine Lend.ptr rfl ?_ | refine Lend.fn ?_ | exact LendL.nil | refine LendL.cons ?_ ?_)) rfl rfl ?_)
   refine ax_q (q_not rfl) ?_
   exact ax_nil ⟨rfl, by repeat constructor⟩
  refine ax_q (q_mov rfl) ?_
  refine ax_nil (cx_keep rfl rfl ?_)
  refine cx_ret (ret0 rfl rfl ?_)
  exact ⟨by unfold locksOK; rw [ht]; rfl, rfl⟩


/- (ptr loop.example/g00332/impl.Store).isOwn -/
def k_c_isOwn : XCode :=
 .seq (.ops [.op (some 6) (.mov (.k (.bool false)))])
 (.keep [0, 1, 2] (.seq (.ops [.op (some 7) (.mov (.t 1)),
   .op (some 8) (.mov (.t 0)),
   .op (some 9) (.nilck (.t 8)),
   .op (some 10) (.fadr (.t 9) 5),
   .op (some 11) (.load1 (.t 10)),
   .op (some 12) (.lenS (.t 11)),
   .call (some 13) 63 [.t 7, .k (.int .i64 1), .t 12],
   .op (some 14) (.mov (.t 13)),
   .andor 26 true 7 14 [.op (some 15) (.mov (.t 0)), .op (some 16) (.nilck (.t 15)), .op (some 17) (.fadr (.t 16) 5), .op (some 18) (.load1 (.t 17)), .op (some 19) (.mov (.t 1)), .op (some 20) (.bin .sub (.t 19) (.k (.int .i64 1))), .op (some 21) (.iadr 10 (.t 18) (.t 20)), .op (some 22) (.fadr (.t 21) 2), .op (some 23) (.load1 (.t 22)), .op (some 24) (.mov (.t 2)), .op (some 25) (.bin .eql (.t 23) (.t 24))] (.t 25),
   .op (some 27) (.mov (.t 26)),
   .andor 38 true 20 27 [.op (some 28) (.mov (.t 0)), .op (some 29) (.nilck (.t 28)), .op (some 30) (.fadr (.t 29) 5), .op (some 31) (.load1 (.t 30)), .op (some 32) (.mov (.t 1)), .op (some 33) (.bin .sub (.t 32) (.k (.int .i64 1))), .op (some 34) (.iadr 10 (.t 31) (.t 33)), .op (some 35) (.fadr (.t 34) 3), .op (some 36) (.load1 (.t 35)), .call (some 37) 63 [.t 36, .k (.int .i64 1), .k (.int .i64 3)]] (.t 37),
   .op (some 6) (.mov (.t 38))])
 (.keep [6] (.ret))))
theorem k_c_isOwn_fits : fitsF Tryz.prog 170 ⟨39, k_c_isOwn, [.t 6]⟩ = true := by kernel_rfl
theorem c_isOwn {s : GStore} {xs : List D} {n tx : Int} (hl : s.Log.length ≤ 60) : Con Tryz.prog noMv 170 [.d (.ip (s.row ++ xs)), int n, int tx] [] (fun r h => r = bool (ownF s.Log n tx) ∧ h = []) := by
 refine con_of2 k_c_isOwn_fits rfl fun C hP hmv => ?_
 unfold k_c_isOwn
 refine cx_seq (cx_ops ?_)
 refine ax_q (q_mov rfl) ?_
 refine ax_nil (cx_keep rfl rfl (cx_seq (cx_ops ?_)))
 refine ax_q (q_mov rfl) ?_
 refine ax_q (q_mov rfl) ?_
 first | refine ax_q (q_nilck_ptr rfl) ?_ | refine ax_q (q_nilck_rptr rfl) ?_ | refine ax_q (q_nilck_ip rfl) ?_
 first | refine ax_q (q_fadr_ptr rfl) ?_ | refine ax_q (q_fadr_rptr rfl) ?_ | refine ax_q (q_fadr_ip rfl) ?_
 first | refine ax_q (q_load1_ptr rfl rfl rfl) ?_ | refine ax_q (q_load1_ip rfl) ?_
 refine ax_q (q_lenS_map rfl) ?_
 refine ax_call rfl (vc_pure0 (c_inRange  ) hP rfl rfl ?_)
 refine ax_q (q_mov rfl) ?_
 apply ax_and rfl rfl
 ·
  intro g
  have hn := inR_iff.1 g
  refine ax_q (q_mov rfl) ?_
  first | refine ax_q (q_nilck_ptr rfl) ?_ | refine ax_q (q_nilck_rptr rfl) ?_ | refine ax_q (q_nilck_ip rfl) ?_
  first | refine ax_q (q_fadr_ptr rfl) ?_ | refine ax_q (q_fadr_rptr rfl) ?_ | refine ax_q (q_fadr_ip rfl) ?_
  first | refine ax_q (q_load1_ptr rfl rfl rfl) ?_ | refine ax_q (q_load1_ip rfl) ?_
  refine ax_q (q_mov rfl) ?_
  refine ax_qe (r' := int (n - 1)) (q_ibin rfl rfl rfl) (by rw [wi (by omega) (by omega)]) ?_
  refine ax_q (q_ixI rfl rfl (by omega) (recAt_get hn)) ?_
  first | refine ax_q (q_fadr_ptr rfl) ?_ | refine ax_q (q_fadr_rptr rfl) ?_ | refine ax_q (q_fadr_ip rfl) ?_
  first | refine ax_q (q_load1_ptr rfl rfl rfl) ?_ | refine ax_q (q_load1_ip rfl) ?_
  refine ax_q (q_mov rfl) ?_
  refine ax_q (q_ibin rfl rfl rfl) ?_
  exact ax_nil ⟨rfl, by repeat constructor⟩
 refine ax_q (q_mov rfl) ?_
 apply ax_and rfl rfl
 ·
  intro g
  have g := (fun h => And.intro (id (and_T h).1) (dT (and_T h).2)) g
  have hn := inR_iff.1 g.1
  refine ax_q (q_mov rfl) ?_
  first | refine ax_q (q_nilck_ptr rfl) ?_ | refine ax_q (q_nilck_rptr rfl) ?_ | refine ax_q (q_nilck_ip rfl) ?_
  first | refine ax_q (q_fadr_ptr rfl) ?_ | refine ax_q (q_fadr_rptr rfl) ?_ | refine ax_q (q_fadr_ip rfl) ?_
  first | refine ax_q (q_load1_ptr rfl rfl rfl) ?_ | refine ax_q (q_load1_ip rfl) ?_
  refine ax_q (q_mov rfl) ?_
  refine ax_qe (r' := int (n - 1)) (q_ibin rfl rfl rfl) (by rw [wi (by omega) (by omega)]) ?_
  refine ax_q (q_ixI rfl rfl (by omega) (recAt_get hn)) ?_
  first | refine ax_q (q_fadr_ptr rfl) ?_ | refine ax_q (q_fadr_rptr rfl) ?_ | refine ax_q (q_fadr_ip rfl) ?_
  first | refine ax_q (q_load1_ptr rfl rfl rfl) ?_ | refine ax_q (q_load1_ip rfl) ?_
  refine ax_call rfl (vc_pure0 (c_inRange  ) hP rfl rfl ?_)
  exact ax_nil ⟨rfl, by repeat constructor⟩
 refine ax_q (q_mov rfl) ?_
 refine ax_nil (cx_keep rfl rfl ?_)
 refine cx_ret (ret0 rfl rfl ?_)
 exact ⟨rfl, rfl⟩


/- (ptr loop.example/g00332/impl.Store).chainOK -/
def k_c_chainOK : XCode :=
 .seq (.ops [.op (some 3) (.box (.t 1)),
   .op (some 4) (.mov (.k (.bool false)))])
 (.keep [0, 3] (.seq (.ops [.op (some 7) (.fadr (.t 3) 1),
   .op (some 8) (.load1 (.t 7)),
   .op (some 5) (.mov (.t 8))])
 (.keep [0, 3, 5] (.block 0 (.loop (.block 1 (.seq (.seq (.ops [.op (some 9) (.mov (.t 0)),
     .op (some 10) (.mov (.t 5)),
     .op (some 11) (.fadr (.t 3) 0),
     .op (some 12) (.load1 (.t 11)),
     .call (some 13) 170 [.t 9, .t 10, .t 12],
     .op (some 14) (.not (.t 13))])
   (.keep [0, 3, 5, 14] (.cond (.t 14)
    (.seq (.ops [.op (some 4) (.mov (.k (.bool false)))])
    (.keep [4] (.ret)))
    (.skip))))
   (.keep [0, 3, 5] (.seq (.ops [.op (some 15) (.mov (.t 0)),
    .op (some 16) (.nilck (.t 15)),
    .op (some 17) (.fadr (.t 16) 5),
    .op (some 18) (.load1 (.t 17)),
    .op (some 19) (.mov (.t 5)),
    .op (some 20) (.bin .sub (.t 19) (.k (.int .i64 1))),
    .op (some 21) (.iadr 10 (.t 18) (.t 20)),
    .op (some 22) (.loadN 10 (.t 21)),
    .op (some 6) (.alloc [.int .i64 0, .int .i64 0, .int .i64 0, .int .i64 0, .int .i64 0, .int .i64 0, .int .i64 0, .int .i64 0, .str [], .str []]),
    .op none (.store 10 (.t 6) (.t 22))])
   (.keep [0, 3, 6] (.seq (.seq (.ops [.op (some 23) (.fadr (.t 6) 3),
     .op (some 24) (.load1 (.t 23)),
     .op (some 25) (.bin .eql (.t 24) (.k (.int .i64 3))),
     .op (some 26) (.mov (.t 25)),
     .andor 34 true 3 26 [.op (some 27) (.mov (.t 0)), .op (some 28) (.fadr (.t 6) 5), .op (some 29) (.load1 (.t 28)), .op (some 30) (.fadr (.t 3) 0), .op (some 31) (.load1 (.t 30)), .call (some 32) 170 [.t 27, .t 29, .t 31], .op (some 33) (.not (.t 32))] (.t 33)])
   (.keep [0, 3, 6, 34] (.cond (.t 34)
    (.seq (.ops [.op (some 4) (.mov (.k (.bool false)))])
    (.keep [4] (.ret)))
    (.skip))))
   (.keep [0, 3, 6] (.seq (.seq (.ops [.op (some 35) (.fadr (.t 6) 4),
     .op (some 36) (.load1 (.t 35)),
     .op (some 37) (.bin .eql (.t 36) (.k (.int .i64 0)))])
   (.keep [0, 3, 6, 37] (.cond (.t 37)
    (.seq (.ops [.op (some 4) (.mov (.k (.bool true)))])
    (.keep [4] (.ret)))
    (.skip))))
   (.keep [0, 3, 6] (.ops [.op (some 38) (.fadr (.t 6) 4),
    .op (some 39) (.load1 (.t 38)),
    .op (some 5) (.mov (.t 39))])))))))))))))))
theorem k_c_chainOK_fits : fitsF Tryz.prog 93 ⟨40, k_c_chainOK, [.t 4]⟩ = true := by kernel_rfl
theorem c_chainOK {s : GStore} {xs : List D} {t : GTx} (hl : s.Log.length ≤ 60) (hg : goodA s.Log = true) : Con Tryz.prog noMv 93 [.d (.ip (s.row ++ xs)), t.av] [] (fun r h => r = bool (chainF s.Log t.Id 61 t.Last) ∧ h = []) := by
 refine con_of2 k_c_chainOK_fits rfl fun C hP hmv => ?_
 unfold k_c_chainOK
 refine cx_seq (cx_ops ?_)
 refine ax_e (e_box rfl rfl (by decide) rfl rfl rfl) ?_
 refine ax_q (q_mov rfl) ?_
 refine ax_nil (cx_keep rfl rfl (cx_seq (cx_ops ?_)))
 refine ax_q (q_fadr_ptr rfl) ?_
 refine ax_q (q_load1_ptr rfl rfl rfl) ?_
 refine ax_q (q_mov rfl) ?_
 refine ax_nil (cx_keep rfl rfl (cx_block ?_))
 refine cx_loopU (fun m (p : Int × Nat) => m = p.2 ∧ chainF s.Log t.Id 61 t.Last = chainF s.Log t.Id p.2 p.1 ∧ (p.2 = 61 ∨ p.1 < (p.2 : Int)) ∧ 1 ≤ p.2) (fun p => [(5, int p.1)]) (fun _ => [(3, .box (t.row.map .d))]) ⟨_, (t.Last, 61), ⟨rfl, rfl, .inl rfl, Nat.le_add_left 1 60⟩, by repeat constructor⟩ ?_
 rintro m ⟨n, f⟩ ⟨rfl, hc, hf, hf1⟩
 simp only at hc hf hf1 ⊢
 obtain ⟨f, rfl⟩ : ∃ f2, m = f2 + 1 := ⟨m - 1, by omega⟩
 refine cx_block (cx_seq (cx_seq (cx_ops ?_)))
 refine ax_q (q_mov rfl) ?_
 refine ax_q (q_mov rfl) ?_
 refine ax_q (q_fadr_ptr rfl) ?_
 refine ax_q (q_load1_ptr rfl rfl rfl) ?_
 refine ax_call rfl (vc_pure0 (c_isOwn (s := s) (xs := xs) (n := n) (tx := t.Id) ?_) hP rfl rfl ?_)
 ·
  assumption
 refine ax_q (q_not rfl) ?_
 refine ax_nil (cx_keep rfl rfl ?_)
 refine cx_cond rfl (fun h0 => ?_) (fun h0 => ?_)
 ·
  have h0 : ownF s.Log n t.Id = false := by simpa using h0
  refine cx_seq (cx_ops ?_)
  refine ax_q (q_mov rfl) ?_
  refine ax_nil (cx_keep rfl rfl ?_)
  refine cx_ret (ret0 rfl rfl ?_)
  exact ⟨by rw [hc, chain_no h0]; rfl, rfl⟩
 ·
  have h0 : ownF s.Log n t.Id = true := by simpa using h0
  obtain ⟨hn, _⟩ := own_t h0
  obtain ⟨_, hln, hin⟩ := goodA_at hg hn
  have hpr := hin.p
  refine cx_skip ?_
  refine cx_keep rfl rfl (cx_seq (cx_ops ?_))
  refine ax_q (q_mov rfl) ?_
  first | refine ax_q (q_nilck_ptr rfl) ?_ | refine ax_q (q_nilck_rptr rfl) ?_ | refine ax_q (q_nilck_ip rfl) ?_
  first | refine ax_q (q_fadr_ptr rfl) ?_ | refine ax_q (q_fadr_rptr rfl) ?_ | refine ax_q (q_fadr_ip rfl) ?_
  first | refine ax_q (q_load1_ptr rfl rfl rfl) ?_ | refine ax_q (q_load1_ip rfl) ?_
  refine ax_q (q_mov rfl) ?_
  refine ax_qe (r' := int (n - 1)) (q_ibin rfl rfl rfl) (by rw [wi (by omega) (by omega)]) ?_
  refine ax_q (q_ixI rfl rfl (by omega) (recAt_get hn)) ?_
  first | refine ax_q (q_ldN rfl rfl rfl) ?_ | refine ax_q (q_loadN_ip rfl (Nat.le_refl _)) ?_
  refine ax_e (e_alloc (by decide) rfl rfl) ?_
  refine ax_e (e_st rfl rfl rfl rfl rfl rfl rfl) ?_
  refine ax_nil (cx_keep rfl rfl (cx_seq (cx_seq (cx_ops ?_))))
  refine ax_q (q_fadr_ptr rfl) ?_
  refine ax_q (q_load1_ptr rfl rfl rfl) ?_
  refine ax_q (q_ibin rfl rfl rfl) ?_
  refine ax_q (q_mov rfl) ?_
  apply ax_and rfl rfl
  ·
   intro g
   have g := dT g
   refine ax_q (q_mov rfl) ?_
   refine ax_q (q_fadr_ptr rfl) ?_
   refine ax_q (q_load1_ptr rfl rfl rfl) ?_
   refine ax_q (q_fadr_ptr rfl) ?_
   refine ax_q (q_load1_ptr rfl rfl rfl) ?_
   refine ax_call rfl (vc_pure0 (c_isOwn (s := s) (xs := xs) (n := (recAt s.Log n).Next) (tx := t.Id) ?_) hP rfl rfl ?_)
   ·
    assumption
   refine ax_q (q_not rfl) ?_
   exact ax_nil ⟨rfl, by repeat constructor⟩
  refine ax_nil (cx_keep rfl rfl ?_)
  refine cx_cond rfl (fun h1 => ?_) (fun h1 => ?_)
  ·
   have h1 : (recAt s.Log n).Kind = 3 ∧ ownF s.Log (recAt s.Log n).Next t.Id = false := by simpa using h1
   refine cx_seq (cx_ops ?_)
   refine ax_q (q_mov rfl) ?_
   refine ax_nil (cx_keep rfl rfl ?_)
   refine cx_ret (ret0 rfl rfl ?_)
   exact ⟨by rw [hc, chain_3 h1.1 h1.2]; rfl, rfl⟩
  ·
   have h13 : (recAt s.Log n).Kind = 3 → ownF s.Log (recAt s.Log n).Next t.Id = true := by simpa using h1
   refine cx_skip ?_
   refine cx_keep rfl rfl (cx_seq (cx_seq (cx_ops ?_)))
   refine ax_q (q_fadr_ptr rfl) ?_
   refine ax_q (q_load1_ptr rfl rfl rfl) ?_
   refine ax_q (q_ibin rfl rfl rfl) ?_
   refine ax_nil (cx_keep rfl rfl ?_)
   refine cx_cond rfl (fun h2 => ?_) (fun h2 => ?_)
   ·
    have h2 := dT h2
    refine cx_seq (cx_ops ?_)
    refine ax_q (q_mov rfl) ?_
    refine ax_nil (cx_keep rfl rfl ?_)
    refine cx_ret (ret0 rfl rfl ?_)
    exact ⟨by rw [hc, chain_0 h0 h13 h2]; rfl, rfl⟩
   ·
    have h2 := dF h2
    refine cx_skip ?_
    refine cx_keep rfl rfl (cx_ops ?_)
    refine ax_q (q_fadr_ptr rfl) ?_
    refine ax_q (q_load1_ptr rfl rfl rfl) ?_
    refine ax_q (q_mov rfl) ?_
    refine ax_nil ?_
    exact ⟨_, ((recAt s.Log n).Prev, f), by simp only; omega, ⟨rfl, by rw [hc, chain_s h0 h13 h2], .inr (by simp only; omega), by simp only; omega⟩, by repeat constructor⟩


/- slices.IndexFunc[[]loop.example/g00332/impl.Tx,loop.example/g00332/impl.Tx] -/
def k_c_IndexFunc_Tx : XCode :=
 .seq (.ops [.op (some 4) (.mov (.k (.int .i64 0)))])
 (.keep [0, 1] (.seq (.seq (.ops [.op (some 6) (.mov (.t 0)),
   .op (some 7) (.lenS (.t 6)),
   .op (some 8) (.mov (.k (.int .i64 0)))])
  (.keep [0, 1, 7, 8] (.block 0 (.loop (.seq (.ops [.op (some 9) (.bin .lss (.t 8) (.t 7))])
   (.keep [0, 1, 7, 8, 9] (.seq (.cond (.t 9)
    (.skip)
    (.exit 0))
   (.keep [0, 1, 7, 8] (.seq (.block 1 (.seq (.ops [.op (some 10) (.mov (.t 8)),
     .op (some 5) (.mov (.t 10))])
    (.keep [0, 1, 5, 7, 8] (.seq (.ops [.op (some 11) (.mov (.t 1)),
     .op (some 12) (.mov (.t 0)),
     .op (some 13) (.mov (.t 5)),
     .op (some 14) (.iadr 2 (.t 12) (.t 13)),
     .op (some 15) (.loadN 2 (.t 14)),
     .callv (some 16) (.t 11) [.t 15]])
    (.keep [0, 1, 5, 7, 8, 16] (.cond (.t 16)
    (.seq (.ops [.op (some 17) (.mov (.t 5)),
      .op (some 4) (.mov (.t 17))])
     (.keep [4] (.ret)))
    (.skip)))))))
   (.keep [0, 1, 7, 8] (.ops [.op (some 18) (.bin .add (.t 8) (.k (.int .i64 1))),
    .op (some 8) (.mov (.t 18))])))))))))))
 (.keep [] (.seq (.ops [.op (some 4) (.mov (.k (.int .i64 (-1))))])
 (.keep [4] (.ret))))))
theorem k_c_IndexFunc_Tx_fits : fitsF Tryz.prog 172 ⟨19, k_c_IndexFunc_Tx, [.t 4]⟩ = true := by kernel_rfl
theorem c_IndexFunc_Tx {xs : List GTx} {f : Nat} {ds : List D} (p : GTx → Bool) (hw : xs.length ≤ 9223372036854775807) (hb : hasBody Tryz.prog f = true) (hf : ∀ s ∈ xs, Con Tryz.prog noMv f (s.av :: ds.map AV.d) [] (fun r h => r = bool (p s) ∧ h = [])) : Con Tryz.prog noMv 172 [.d (.sl 2 (xs.map GTx.row)), .d (.fn (.func f) ds)] [] (fun r h => r = int (idxOf p xs 0) ∧ h = []) := by
 refine con_of2 k_c_IndexFunc_Tx_fits rfl fun C hP hmv => ?_
 unfold k_c_IndexFunc_Tx
 refine cx_seq (cx_ops ?_)
 refine ax_q (q_mov rfl) ?_
 refine ax_nil (cx_keep rfl rfl (cx_seq (cx_seq (cx_ops ?_))))
 refine ax_q (q_mov rfl) ?_
 refine ax_q (q_lenS_map rfl) ?_
 refine ax_q (q_mov rfl) ?_
 refine ax_nil (cx_keep rfl rfl (cx_block ?_))
 refine cx_loopU (fun n k => k ≤ xs.length ∧ n = xs.length - k ∧ ∀ i, i < k → ∀ x, xs[i]? = some x → p x = false) (fun k : Nat => [(8, int k)]) (fun _ => []) ⟨_, 0, ⟨by omega, rfl, fun i hi => by omega⟩, by repeat constructor⟩ ?_
 rintro n k ⟨hk, rfl, ht⟩
 refine cx_seq (cx_ops ?_)
 refine ax_q (q_ibin rfl rfl rfl) ?_
 refine ax_nil (cx_keep rfl rfl (cx_seq ?_))
 refine cx_cond rfl (fun h0 => ?_) (fun h0 => ?_)
 ·
  have h0 := dT h0
  have h0x : k < xs.length := by omega
  refine cx_skip ?_
  refine cx_keep rfl rfl (cx_seq (cx_block (cx_seq (cx_ops ?_))))
  refine ax_q (q_mov rfl) ?_
  refine ax_q (q_mov rfl) ?_
  refine ax_nil (cx_keep rfl rfl (cx_seq (cx_ops ?_)))
  refine ax_q (q_mov rfl) ?_
  refine ax_q (q_mov rfl) ?_
  refine ax_q (q_mov rfl) ?_
  refine ax_q (q_ix rfl rfl (mapAt h0x)) ?_
  first | refine ax_q (q_ldN rfl rfl rfl) ?_ | refine ax_q (q_loadN_ip rfl (Nat.le_refl _)) ?_
  refine ax_callvD rfl (by rw [hP]; exact hb) rfl (vc_pure0 (hf _ (List.getElem_mem h0x)) hP (refs_cons rfl ds) rfl ?_)
  refine ax_nil (cx_keep rfl rfl ?_)
  refine cx_cond rfl (fun h1 => ?_) (fun h1 => ?_)
  ·
   skip
   refine cx_seq (cx_ops ?_)
   refine ax_q (q_mov rfl) ?_
   refine ax_q (q_mov rfl) ?_
   refine ax_nil (cx_keep rfl rfl ?_)
   refine cx_ret (ret0 rfl rfl ?_)
   exact ⟨by rw [idxOf_hit h0x ht h1]; rfl, rfl⟩
  ·
   skip
   refine cx_skip ?_
   refine cx_keep rfl rfl (cx_ops ?_)
   refine ax_qe (r' := int ((k + 1 : Nat) : Int)) (q_ibin rfl rfl rfl) (by rw [wi (by omega) (by omega)]; rfl) ?_
   refine ax_q (q_mov rfl) ?_
   refine ax_nil ?_
   exact ⟨_, k + 1, by omega, ⟨by omega, rfl, before_step h0x ht h1⟩, by repeat constructor⟩
 ·
  have h0 := dF h0
  have h0x : k = xs.length := by omega
  refine cx_exit rfl ?_
  refine cx_keep rfl rfl (cx_seq (cx_ops ?_))
  refine ax_q (q_mov rfl) ?_
  refine ax_nil (cx_keep rfl rfl ?_)
  refine cx_ret (ret0 rfl rfl ?_)
  exact ⟨by rw [idxOf_none (fun i hi => ht i (by omega))]; rfl, rfl⟩


/- (ptr loop.example/g00332/impl.Engine).txAt$1 -/
def k_c_txAt1 : XCode :=
 .seq (.ops [.op (some 2) (.box (.t 0)),
   .op (some 3) (.mov (.k (.bool false)))])
 (.keep [1, 2] (.seq (.ops [.op (some 4) (.fadr (.t 2) 0),
   .op (some 5) (.load1 (.t 4)),
   .op (some 6) (.load1 (.t 1)),
   .op (some 7) (.bin .eql (.t 5) (.t 6)),
   .op (some 3) (.mov (.t 7))])
 (.keep [3] (.ret))))
theorem k_c_txAt1_fits : fitsF Tryz.prog 173 ⟨8, k_c_txAt1, [.t 3]⟩ = true := by kernel_rfl
theorem c_txAt1 {a : GTx} {id : Int} : Con Tryz.prog noMv 173 [a.av, .d (.ip [.int .i64 id])] [] (fun r h => r = bool (decide (a.Id = id)) ∧ h = []) := by
 refine con_of2 k_c_txAt1_fits rfl fun C hP hmv => ?_
 unfold k_c_txAt1
 refine cx_seq (cx_ops ?_)
 refine ax_e (e_box rfl rfl (by decide) rfl rfl rfl) ?_
 refine ax_q (q_mov rfl) ?_
 refine ax_nil (cx_keep rfl rfl (cx_seq (cx_ops ?_)))
 refine ax_q (q_fadr_ptr rfl) ?_
 refine ax_q (q_load1_ptr rfl rfl rfl) ?_
 first | refine ax_q (q_load1_ptr rfl rfl rfl) ?_ | refine ax_q (q_load1_ip rfl) ?_
 refine ax_q (q_ibin rfl rfl rfl) ?_
 refine ax_q (q_mov rfl) ?_
 refine ax_nil (cx_keep rfl rfl ?_)
 refine cx_ret (ret0 rfl rfl ?_)
 exact ⟨rfl, rfl⟩


/- (ptr loop.example/g00332/impl.Engine).txAt -/
def k_c_txAt : XCode :=
 .seq (.ops [.op (some 3) (.box (.t 1)),
   .op (some 4) (.mov (.k (.int .i64 0)))])
 (.keep [0, 3] (.seq (.ops [.op (some 5) (.mov (.t 0)),
   .op (some 6) (.nilck (.t 5)),
   .op (some 7) (.fadr (.t 6) 10),
   .op (some 8) (.load1 (.t 7)),
   .op (some 9) (.mkfn 173 [.t 3]),
   .call (some 10) 172 [.t 8, .t 9],
   .op (some 4) (.mov (.t 10))])
 (.keep [4] (.ret))))
theorem k_c_txAt_fits : fitsF Tryz.prog 96 ⟨11, k_c_txAt, [.t 4]⟩ = true := by kernel_rfl
theorem c_txAt {e : GEngine} {id : Int} (ht : e.Txs.length ≤ 1048576) : Con Tryz.prog noMv 96 [.d (.ip e.row), int id] [] (fun r h => r = int (txAt e id) ∧ h = []) := by
 refine con_of2 k_c_txAt_fits rfl fun C hP hmv => ?_
 unfold k_c_txAt
 refine cx_seq (cx_ops ?_)
 refine ax_e (e_box rfl rfl (by decide) rfl rfl rfl) ?_
 refine ax_q (q_mov rfl) ?_
 refine ax_nil (cx_keep rfl rfl (cx_seq (cx_ops ?_)))
 refine ax_q (q_mov rfl) ?_
 first | refine ax_q (q_nilck_ptr rfl) ?_ | refine ax_q (q_nilck_rptr rfl) ?_ | refine ax_q (q_nilck_ip rfl) ?_
 first | refine ax_q (q_fadr_ptr rfl) ?_ | refine ax_q (q_fadr_rptr rfl) ?_ | refine ax_q (q_fadr_ip rfl) ?_
 first | refine ax_q (q_load1_ptr rfl rfl rfl) ?_ | refine ax_q (q_load1_ip rfl) ?_
 refine ax_q (q_mkfn rfl) ?_
 refine ax_call rfl (vc_lend0 (c_IndexFunc_Tx (xs := e.Txs) (ds := [.ip [.int .i64 id]]) (fun t => decide (t.Id = id)) (by omega) (by kernel_rfl) (fun t _ => c_txAt1)) hP (by repeat (first | exact lal_id _ rfl | exact LAL.nil | refine LAL.cons ?_ ?_ | exact la_id _ rfl | exact LA.lend (lend_whole rfl (by first | (simp; done) | (rw [List.length_map]; rfl))) | refine LA.agg ?_ | refine LA.fn ?_ | refine LA.lend ?_ | exact Lend.d _ | exact Lend.zs _ | exact lend_whole rfl (by first | (simp; done) | (rw [List.length_map]; rfl)) | refine Lend.ptr rfl ?_ | refine Lend.fn ?_ | exact LendL.nil | refine LendL.cons ?_ ?_)) rfl rfl ?_)
 refine ax_q (q_mov rfl) ?_
 refine ax_nil (cx_keep rfl rfl ?_)
 refine cx_ret (ret0 rfl rfl ?_)
 exact ⟨rfl, rfl⟩


/- (ptr loop.example/g00332/impl.Engine).engineOK$1 -/
def k_c_engineOK1 : XCode :=
 .seq (.ops [.op (some 2) (.box (.t 0)),
   .op (some 3) (.mov (.k (.bool false)))])
 (.keep [1, 2] (.seq (.ops [.op (some 4) (.load1 (.t 1)),
   .op (some 5) (.fadr (.t 2) 0),
   .op (some 6) (.load1 (.t 5)),
   .call (some 7) 96 [.t 4, .t 6],
   .op (some 8) (.bin .lss (.t 7) (.k (.int .i64 0))),
   .op (some 3) (.mov (.t 8))])
 (.keep [3] (.ret))))
theorem k_c_engineOK1_fits : fitsF Tryz.prog 95 ⟨9, k_c_engineOK1, [.t 3]⟩ = true := by kernel_rfl
theorem c_engineOK1 {a : GLock} {e : GEngine} (ht : e.Txs.length ≤ 1048576) : Con Tryz.prog noMv 95 [a.av, .d (.ip [.ip e.row])] [] (fun r h => r = bool (decide (txAt e a.Tx < 0)) ∧ h = []) := by
 refine con_of2 k_c_engineOK1_fits rfl fun C hP hmv => ?_
 unfold k_c_engineOK1
 refine cx_seq (cx_ops ?_)
 refine ax_e (e_box rfl rfl (by decide) rfl rfl rfl) ?_
 refine ax_q (q_mov rfl) ?_
 refine ax_nil (cx_keep rfl rfl (cx_seq (cx_ops ?_)))
 first | refine ax_q (q_load1_ptr rfl rfl rfl) ?_ | refine ax_q (q_load1_ip rfl) ?_
 refine ax_q (q_fadr_ptr rfl) ?_
 refine ax_q (q_load1_ptr rfl rfl rfl) ?_
 refine ax_call rfl (vc_pure0 (c_txAt (e := e) ?_) hP rfl rfl ?_)
 ·
  assumption
 refine ax_q (q_ibin rfl rfl rfl) ?_
 refine ax_q (q_mov rfl) ?_
 refine ax_nil (cx_keep rfl rfl ?_)
 refine cx_ret (ret0 rfl rfl ?_)
 exact ⟨rfl, rfl⟩


/- (ptr loop.example/g00332/impl.Engine).engineOK$2 -/
def k_c_engineOK2 : XCode :=
 .seq (.ops [.op (some 2) (.box (.t 0)),
   .op (some 3) (.mov (.k (.bool false)))])
 (.keep [1, 2] (.seq (.ops [.op (some 4) (.load1 (.t 1)),
   .op (some 5) (.fadr (.t 2) 0),
   .op (some 6) (.load1 (.t 5)),
   .call (some 7) 96 [.t 4, .t 6],
   .op (some 8) (.bin .lss (.t 7) (.k (.int .i64 0))),
   .op (some 9) (.mov (.t 8)),
   .andor 15 false 5 9 [.op (some 10) (.load1 (.t 1)), .op (some 11) (.fadr (.t 2) 1), .op (some 12) (.load1 (.t 11)), .call (some 13) 96 [.t 10, .t 12], .op (some 14) (.bin .lss (.t 13) (.k (.int .i64 0)))] (.t 14),
   .op (some 3) (.mov (.t 15))])
 (.keep [3] (.ret))))
theorem k_c_engineOK2_fits : fitsF Tryz.prog 98 ⟨16, k_c_engineOK2, [.t 3]⟩ = true := by kernel_rfl
theorem c_engineOK2 {a : GWait} {e : GEngine} (ht : e.Txs.length ≤ 1048576) : Con Tryz.prog noMv 98 [a.av, .d (.ip [.ip e.row])] [] (fun r h => r = bool (decide (txAt e a.Tx < 0) || decide (txAt e a.For < 0)) ∧ h = []) := by
 refine con_of2 k_c_engineOK2_fits rfl fun C hP hmv => ?_
 unfold k_c_engineOK2
 refine cx_seq (cx_ops ?_)
 refine ax_e (e_box rfl rfl (by decide) rfl rfl rfl) ?_
 refine ax_q (q_mov rfl) ?_
 refine ax_nil (cx_keep rfl rfl (cx_seq (cx_ops ?_)))
 first | refine ax_q (q_load1_ptr rfl rfl rfl) ?_ | refine ax_q (q_load1_ip rfl) ?_
 refine ax_q (q_fadr_ptr rfl) ?_
 refine ax_q (q_load1_ptr rfl rfl rfl) ?_
 refine ax_call rfl (vc_pure0 (c_txAt (e := e) ?_) hP rfl rfl ?_)
 ·
  assumption
 refine ax_q (q_ibin rfl rfl rfl) ?_
 refine ax_q (q_mov rfl) ?_
 apply ax_or rfl rfl
 ·
  intro g
  have g := dF g
  first | refine ax_q (q_load1_ptr rfl rfl rfl) ?_ | refine ax_q (q_load1_ip rfl) ?_
  refine ax_q (q_fadr_ptr rfl) ?_
  refine ax_q (q_load1_ptr rfl rfl rfl) ?_
  refine ax_call rfl (vc_pure0 (c_txAt (e := e) ?_) hP rfl rfl ?_)
  ·
   assumption
  refine ax_q (q_ibin rfl rfl rfl) ?_
  exact ax_nil ⟨rfl, by repeat constructor⟩
 refine ax_q (q_mov rfl) ?_
 refine ax_nil (cx_keep rfl rfl ?_)
 refine cx_ret (ret0 rfl rfl ?_)
 exact ⟨rfl, rfl⟩


/- (ptr loop.example/g00332/impl.Store).needs$1 -/
def k_c_needs1 : XCode :=
 .seq (.ops [.op (some 2) (.box (.t 0)),
   .op (some 3) (.mov (.k (.bool false)))])
 (.keep [1] (.seq (.ops [.op (some 4) (.load1 (.t 1)),
   .op (some 5) (.bin .add (.t 4) (.k (.int .i64 1))),
   .op none (.store 1 (.t 1) (.t 5))])
 (.keep [] (.seq (.ops [.op (some 3) (.mov (.k (.bool true)))])
 (.keep [3] (.ret))))))
theorem k_c_needs1_fits : fitsF Tryz.prog 178 ⟨6, k_c_needs1, [.t 3]⟩ = true := by kernel_rfl
theorem c_needs1 {r : GLogRecord} {m : Nat} (hm : m ≤ 1000) : Con Tryz.prog noMv 178 [r.av, .ptr 1000 0] [(1000, .box [int (m : Nat)])] (fun x h => x = bool true ∧ h = [(1000, .box [int ((m + 1 : Nat) : Int)])]) := by
 refine con_of2 k_c_needs1_fits rfl fun C hP hmv => ?_
 unfold k_c_needs1
 refine cx_seq (cx_ops ?_)
 refine ax_e (e_box rfl rfl (by decide) rfl rfl rfl) ?_
 refine ax_q (q_mov rfl) ?_
 refine ax_nil (cx_keep rfl rfl (cx_seq (cx_ops ?_)))
 refine ax_q (q_load1_ptr rfl rfl rfl) ?_
 refine ax_qe (r' := int ((m + 1 : Nat) : Int)) (q_ibin rfl rfl rfl) (by rw [wi (by omega) (by omega)]; rfl) ?_
 refine ax_e (e_st rfl rfl rfl rfl rfl rfl rfl) ?_
 refine ax_nil (cx_keep rfl rfl (cx_seq (cx_ops ?_)))
 refine ax_q (q_mov rfl) ?_
 refine ax_nil (cx_keep rfl rfl ?_)
 refine cx_ret (retN id [1000] rfl rfl rfl rfl rfl ?_)
 exact ⟨rfl, rfl⟩


/- (ptr loop.example/g00332/impl.Store).updates -/
def k_c_updates : XCode :=
 .block 0 (.loop (.seq (.seq (.ops [.op (some 7) (.mov (.t 1)),
    .op (some 8) (.bin .gtr (.t 7) (.k (.int .i64 0)))])
   (.keep [0, 1, 2, 8] (.cond (.t 8)
   (.skip)
   (.exit 0))))
  (.keep [0, 1, 2] (.block 1 (.seq (.ops [.op (some 9) (.mov (.t 0)),
    .op (some 10) (.nilck (.t 9)),
    .op (some 11) (.fadr (.t 10) 5),
    .op (some 12) (.load1 (.t 11)),
    .op (some 13) (.mov (.t 1)),
    .op (some 14) (.bin .sub (.t 13) (.k (.int .i64 1))),
    .op (some 15) (.iadr 10 (.t 12) (.t 14)),
    .op (some 16) (.loadN 10 (.t 15)),
    .op (some 6) (.alloc [.int .i64 0, .int .i64 0, .int .i64 0, .int .i64 0, .int .i64 0, .int .i64 0, .int .i64 0, .int .i64 0, .str [], .str []]),
    .op none (.store 10 (.t 6) (.t 16))])
   (.keep [0, 2, 6] (.block 2 (.seq (.ops [.op (some 20) (.fadr (.t 6) 3),
     .op (some 21) (.load1 (.t 20)),
     .op (some 22) (.bin .eql (.t 21) (.k (.int .i64 3))),
     .op (some 19) (.mov (.t 22))])
   (.keep [0, 2, 6, 19] (.cond (.t 19)
    (.ops [.op (some 23) (.fadr (.t 6) 5),
     .op (some 24) (.load1 (.t 23)),
     .op (some 1) (.mov (.t 24))])
    (.seq (.ops [.op (some 26) (.fadr (.t 6) 3),
      .op (some 27) (.load1 (.t 26)),
      .op (some 28) (.bin .eql (.t 27) (.k (.int .i64 2))),
      .op (some 29) (.mov (.t 28)),
      .andor 34 true 3 29 [.op (some 30) (.mov (.t 2)), .op (some 31) (.loadN 10 (.t 6)), .callv (some 32) (.t 30) [.t 31], .op (some 33) (.not (.t 32))] (.t 33),
      .op (some 25) (.mov (.t 34))])
    (.keep [0, 2, 6, 25] (.cond (.t 25)
     (.ret)
     (.ops [.op (some 17) (.fadr (.t 6) 4),
      .op (some 18) (.load1 (.t 17)),
      .op (some 1) (.mov (.t 18))]))))))))))))))
theorem k_c_updates_fits : fitsF Tryz.prog 177 ⟨35, k_c_updates, []⟩ = true := by kernel_rfl
set_option maxHeartbeats 4000000 in
theorem c_updates {s : GStore} {xs : List D} {n0 : Int} {m0 : Nat} (hl : s.Log.length ≤ 60) (hg : goodA s.Log = true) (hn0 : 0 ≤ n0 ∧ n0 ≤ s.Log.length) (hm : m0 ≤ 1) : Con Tryz.prog noMv 177 [.d (.ip (s.row ++ xs)), int n0, .fn (.func 178) [.ptr 1000 0]] [(1000, .box [int (m0 : Nat)])] (fun x h => x = .tup [] ∧ h = [(1000, .box [int ((m0 + undoF s.Log 60 n0 : Nat) : Int)])]) := by
 refine con_of2 k_c_updates_fits rfl fun C hP hmv => ?_
 unfold k_c_updates
 refine cx_block ?_
 refine cx_loopU (fun u (p : Int × Nat × Nat) => u = p.2.1 ∧ p.2.2 + undoF s.Log p.2.1 p.1 = m0 + undoF s.Log 60 n0 ∧ 0 ≤ p.1 ∧ p.1 ≤ s.Log.length ∧ p.1 ≤ p.2.1 ∧ p.2.1 ≤ 60 ∧ p.2.2 + p.2.1 ≤ 61) (fun p => [(1, int p.1)]) (fun p => [(1000, .box [int (p.2.2 : Nat)])]) ⟨_, (n0, 60, m0), ⟨rfl, rfl, hn0.1, hn0.2, by simp only; omega, Nat.le_refl _, by simp only; omega⟩, by repeat constructor⟩ ?_
 rintro u ⟨n, f, m⟩ ⟨rfl, hc, hn1, hn2, hf, hf6, hmf⟩
 simp only at hc hn1 hn2 hf hf6 hmf ⊢
 refine cx_seq (cx_seq (cx_ops ?_))
 refine ax_q (q_mov rfl) ?_
 refine ax_q (q_ibin rfl rfl rfl) ?_
 refine ax_nil (cx_keep rfl rfl ?_)
 refine cx_cond rfl (fun h0 => ?_) (fun h0 => ?_)
 ·
  have h0 := dT h0
  obtain ⟨f, rfl⟩ : ∃ f2, u = f2 + 1 := ⟨u - 1, by omega⟩
  have hn : 1 ≤ n ∧ n ≤ s.Log.length := by omega
  obtain ⟨_, hln, hin⟩ := goodA_at hg hn
  have hpr := hin.p
  have hnx := hin.n
  have hkd := hin.k
  have hul := @undo_le s.Log (f + 1) n
  refine cx_skip ?_
  refine cx_keep rfl rfl (cx_block (cx_seq (cx_ops ?_)))
  refine ax_q (q_mov rfl) ?_
  first | refine ax_q (q_nilck_ptr rfl) ?_ | refine ax_q (q_nilck_rptr rfl) ?_ | refine ax_q (q_nilck_ip rfl) ?_
  first | refine ax_q (q_fadr_ptr rfl) ?_ | refine ax_q (q_fadr_rptr rfl) ?_ | refine ax_q (q_fadr_ip rfl) ?_
  first | refine ax_q (q_load1_ptr rfl rfl rfl) ?_ | refine ax_q (q_load1_ip rfl) ?_
  refine ax_q (q_mov rfl) ?_
  refine ax_qe (r' := int (n - 1)) (q_ibin rfl rfl rfl) (by rw [wi (by omega) (by omega)]) ?_
  refine ax_q (q_ixI rfl rfl (by omega) (recAt_get hn)) ?_
  first | refine ax_q (q_ldN rfl rfl rfl) ?_ | refine ax_q (q_loadN_ip rfl (Nat.le_refl _)) ?_
  refine ax_e (e_alloc (by decide) rfl rfl) ?_
  refine ax_e (e_st rfl rfl rfl rfl rfl rfl rfl) ?_
  refine ax_nil (cx_keep rfl rfl (cx_block (cx_seq (cx_ops ?_))))
  refine ax_q (q_fadr_ptr rfl) ?_
  refine ax_q (q_load1_ptr rfl rfl rfl) ?_
  refine ax_q (q_ibin rfl rfl rfl) ?_
  refine ax_q (q_mov rfl) ?_
  refine ax_nil (cx_keep rfl rfl ?_)
  refine cx_cond rfl (fun h1 => ?_) (fun h1 => ?_)
  ·
   have h1 := dT h1
   refine cx_ops ?_
   refine ax_q (q_fadr_ptr rfl) ?_
   refine ax_q (q_load1_ptr rfl rfl rfl) ?_
   refine ax_q (q_mov rfl) ?_
   refine ax_nil ?_
   exact ⟨_, ((recAt s.Log n).Next, f, m), by simp only; omega, ⟨rfl, by rw [← hc, undo_3 (by omega) h1], hnx.1, by simp only; omega, by simp only; omega, by simp only; omega, by simp only; omega⟩, by repeat constructor⟩
  ·
   have h1 := dF h1
   refine cx_seq (cx_ops ?_)
   refine ax_q (q_fadr_ptr rfl) ?_
   refine ax_q (q_load1_ptr rfl rfl rfl) ?_
   refine ax_q (q_ibin rfl rfl rfl) ?_
   refine ax_q (q_mov rfl) ?_
   refine ax_andE rfl rfl (fun g => ?_) (fun g => ?_)
   ·
    have g := dF g
    refine ax_q (q_mov rfl) ?_
    refine ax_nil (cx_keep rfl rfl ?_)
    refine cx_cond rfl (fun h2 => ?_) (fun h2 => ?_)
    ·
     skip
     exact absurd h2 (by simp)
    ·
     skip
     refine cx_ops ?_
     refine ax_q (q_fadr_ptr rfl) ?_
     refine ax_q (q_load1_ptr rfl rfl rfl) ?_
     refine ax_q (q_mov rfl) ?_
     refine ax_nil ?_
     exact ⟨_, ((recAt s.Log n).Prev, f, m), by simp only; omega, ⟨rfl, by rw [← hc, undo_o (by omega) h1 g], hpr.1, by simp only; omega, by simp only; omega, by simp only; omega, by simp only; omega⟩, by repeat constructor⟩
   ·
    have g := dT g
    refine ax_q (q_mov rfl) ?_
    refine ax_q (q_ldN rfl rfl rfl) ?_
    refine ax_callv rfl (by rw [hP]; kernel_rfl) rfl (vcall_own (c_needs1 (r := recAt s.Log n) (m := m) (by omega)) hP hmv false (fun _ => 1000) [1000] ⟨rfl, rfl, rfl, rfl, ⟨rfl, trivial⟩, rfl, rfl, rfl⟩ (.pass rfl rfl (.pass rfl rfl .nil)) ?_)
    rintro r h ⟨rfl, rfl⟩
    refine ⟨fun _ => 1000, [], ⟨rfl, rfl, rfl, rfl, (mem1 rfl), rfl, rfl, fun h => absurd h Bool.false_ne_true⟩, ?_⟩
    refine ax_q (q_not rfl) ?_
    refine ax_nil ⟨_, [(1000, .box [int ((m + 1 : Nat) : Int)]), (6, .box ((recAt s.Log n).row.map .d))], rfl, by repeat constructor, ?_⟩
    refine ax_q (q_mov rfl) ?_
    refine ax_nil (cx_keep rfl rfl ?_)
    refine cx_cond rfl (fun h2 => ?_) (fun h2 => ?_)
    ·
     have h2 := bT h2
     exact absurd h2 (by simp)
    ·
     have h2 := bF h2
     refine cx_ops ?_
     refine ax_q (q_fadr_ptr rfl) ?_
     refine ax_q (q_load1_ptr rfl rfl rfl) ?_
     refine ax_q (q_mov rfl) ?_
     refine ax_nil ?_
     exact ⟨_, ((recAt s.Log n).Prev, f, m + 1), by simp only; omega, ⟨rfl, by rw [← hc, undo_2 (by omega) g]; exact Nat.add_assoc m 1 _, hpr.1, by simp only; omega, by simp only; omega, by simp only; omega, by simp only; omega⟩, by repeat constructor⟩
 ·
  have h0 := dF h0
  have hz : n = 0 := by omega
  rw [undo_0 (by omega)] at hc
  refine cx_exit rfl ?_
  refine retN id [1000] rfl rfl rfl rfl rfl ?_
  exact ⟨rfl, by rw [← hc, Nat.add_zero]; rfl⟩


/- (ptr loop.example/g00332/impl.Store).needs -/
def k_c_needsS : XCode :=
 .seq (.ops [.op (some 4) (.mov (.k (.int .i64 0)))])
 (.keep [0, 1] (.seq (.ops [.op (some 5) (.alloc [.int .i64 0]),
   .op none (.store 1 (.t 5) (.k (.int .i64 1)))])
 (.keep [0, 1, 5] (.seq (.ops [.op (some 6) (.mov (.t 0)),
   .op (some 7) (.mov (.t 1)),
   .op (some 8) (.mkfn 178 [.t 5]),
   .call (some 9) 177 [.t 6, .t 7, .t 8]])
 (.keep [5] (.seq (.ops [.op (some 10) (.load1 (.t 5)),
   .op (some 4) (.mov (.t 10))])
 (.keep [4] (.ret))))))))
theorem k_c_needsS_fits : fitsF Tryz.prog 103 ⟨11, k_c_needsS, [.t 4]⟩ = true := by kernel_rfl
theorem c_needsS {s : GStore} {xs : List D} {n : Int} (hl : s.Log.length ≤ 60) (hg : goodA s.Log = true) (hn : 0 ≤ n ∧ n ≤ s.Log.length) : Con Tryz.prog noMv 103 [.d (.ip (s.row ++ xs)), int n] [] (fun r h => r = int ((needF s n : Nat) : Int) ∧ h = []) := by
 refine con_of2 k_c_needsS_fits rfl fun C hP hmv => ?_
 unfold k_c_needsS
 refine cx_seq (cx_ops ?_)
 refine ax_q (q_mov rfl) ?_
 refine ax_nil (cx_keep rfl rfl (cx_seq (cx_ops ?_)))
 refine ax_e (e_alloc (by decide) rfl rfl) ?_
 refine ax_e (e_st rfl rfl rfl rfl rfl rfl rfl) ?_
 refine ax_nil (cx_keep rfl rfl (cx_seq (cx_ops ?_)))
 refine ax_q (q_mov rfl) ?_
 refine ax_q (q_mov rfl) ?_
 refine ax_q (q_mkfn rfl) ?_
 refine ax_call rfl (vcall_own (c_updates (s := s) (xs := xs) (n0 := n) (m0 := 1) hl hg hn (by omega)) hP hmv false (fun _ => 5) [1000] ⟨rfl, rfl, rfl, rfl, ⟨rfl, trivial⟩, rfl, rfl, rfl⟩ (.pass rfl rfl (.pass rfl rfl (.pass rfl rfl .nil))) ?_)
 rintro r h ⟨rfl, rfl⟩
 refine ⟨fun _ => 5, [], ⟨rfl, rfl, rfl, rfl, (mem1 rfl), rfl, rfl, fun h => absurd h Bool.false_ne_true⟩, ?_⟩
 refine ax_nil (cx_keep rfl rfl (cx_seq (cx_ops ?_)))
 refine ax_q (q_load1_ptr rfl rfl rfl) ?_
 refine ax_q (q_mov rfl) ?_
 refine ax_nil (cx_keep rfl rfl ?_)
 refine cx_ret (ret0 rfl rfl ?_)
 exact ⟨rfl, rfl⟩


/- (ptr loop.example/g00332/impl.Engine).needs -/
def k_c_needsE : XCode :=
 .seq (.ops [.op (some 2) (.mov (.k (.int .i64 0)))])
 (.keep [0] (.seq (.ops [.op (some 3) (.mov (.k (.int .i64 0)))])
 (.keep [0, 3] (.seq (.seq (.ops [.op (some 6) (.mov (.t 0)),
   .op (some 7) (.nilck (.t 6)),
   .op (some 8) (.fadr (.t 7) 10),
   .op (some 9) (.load1 (.t 8)),
   .op (some 10) (.lenS (.t 9)),
   .op (some 11) (.mov (.k (.int .i64 0)))])
  (.keep [0, 3, 9, 10, 11] (.block 0 (.loop (.seq (.ops [.op (some 12) (.bin .lss (.t 11) (.t 10))])
   (.keep [0, 3, 9, 10, 11, 12] (.seq (.cond (.t 12)
    (.skip)
    (.exit 0))
   (.keep [0, 3, 9, 10, 11] (.seq (.block 1 (.seq (.ops [.op (some 13) (.iadr 2 (.t 9) (.t 11)),
     .op (some 14) (.loadN 2 (.t 13)),
     .op (some 5) (.alloc [.int .i64 0, .int .i64 0]),
     .op none (.store 2 (.t 5) (.t 14))])
    (.keep [0, 3, 5, 9, 10, 11] (.draw [.op (some 15) (.mov (.t 3)),
     .op (some 16) (.mov (.t 0)),
     .op (some 17) (.nilck (.t 16)),
     .op (some 18) (.fadr (.t 17) 0),
     .op (some 19) (.fadr (.t 5) 1),
     .op (some 20) (.load1 (.t 19)),
     .call (some 21) 103 [.t 18, .t 20],
     .op (some 22) (.bin .add (.t 15) (.t 21)),
     .op (some 3) (.mov (.t 22))]))))
   (.keep [0, 3, 9, 10, 11] (.ops [.op (some 23) (.bin .add (.t 11) (.k (.int .i64 1))),
    .op (some 11) (.mov (.t 23))])))))))))))
 (.keep [3] (.seq (.ops [.op (some 24) (.mov (.t 3)),
   .op (some 2) (.mov (.t 24))])
 (.keep [2] (.ret))))))))
theorem k_c_needsE_fits : fitsF Tryz.prog 46 ⟨25, k_c_needsE, [.t 2]⟩ = true := by kernel_rfl
theorem c_needsE {e : GEngine} (hl : e.Store.Log.length ≤ 60) (hg : goodA e.Store.Log = true) (ht : e.Txs.length ≤ 10) (hx : ∀ t ∈ e.Txs, 1 ≤ t.Last ∧ t.Last ≤ e.Store.Log.length) : Con Tryz.prog noMv 46 [.d (.ip e.row)] [] (fun r h => r = int ((needsF e : Nat) : Int) ∧ h = []) := by
 refine con_of2 k_c_needsE_fits rfl fun C hP hmv => ?_
 unfold k_c_needsE
 refine cx_seq (cx_ops ?_)
 refine ax_q (q_mov rfl) ?_
 refine ax_nil (cx_keep rfl rfl (cx_seq (cx_ops ?_)))
 refine ax_q (q_mov rfl) ?_
 refine ax_nil (cx_keep rfl rfl (cx_seq (cx_seq (cx_ops ?_))))
 refine ax_q (q_mov rfl) ?_
 first | refine ax_q (q_nilck_ptr rfl) ?_ | refine ax_q (q_nilck_rptr rfl) ?_ | refine ax_q (q_nilck_ip rfl) ?_
 first | refine ax_q (q_fadr_ptr rfl) ?_ | refine ax_q (q_fadr_rptr rfl) ?_ | refine ax_q (q_fadr_ip rfl) ?_
 first | refine ax_q (q_load1_ptr rfl rfl rfl) ?_ | refine ax_q (q_load1_ip rfl) ?_
 refine ax_q (q_lenS_map rfl) ?_
 refine ax_q (q_mov rfl) ?_
 refine ax_nil (cx_keep rfl rfl (cx_block ?_))
 refine cx_loopU (fun m k => k ≤ e.Txs.length ∧ m = e.Txs.length - k) (fun k : Nat => [(11, int k), (3, int ((needsK e k : Nat) : Int))]) (fun _ => []) ⟨_, 0, ⟨Nat.zero_le _, rfl⟩, by repeat constructor⟩ ?_
 rintro m k ⟨hk, rfl⟩
 refine cx_seq (cx_ops ?_)
 refine ax_q (q_ibin rfl rfl rfl) ?_
 refine ax_nil (cx_keep rfl rfl (cx_seq ?_))
 refine cx_cond rfl (fun h0 => ?_) (fun h0 => ?_)
 ·
  have h0 := dT h0
  have h0x : k < e.Txs.length := by omega
  have hxk := hx _ (List.getElem_mem h0x)
  have hst := needsK_s h0x
  have hnl := @needsK_le e (k + 1)
  refine cx_skip ?_
  refine cx_keep rfl rfl (cx_seq (cx_block (cx_seq (cx_ops ?_))))
  refine ax_q (q_ix rfl rfl (mapAt h0x)) ?_
  first | refine ax_q (q_ldN rfl rfl rfl) ?_ | refine ax_q (q_loadN_ip rfl (Nat.le_refl _)) ?_
  refine ax_e (e_alloc (by decide) rfl rfl) ?_
  refine ax_e (e_st rfl rfl rfl rfl rfl rfl rfl) ?_
  refine ax_nil (cx_keep rfl rfl (cx_draw ?_))
  refine ax_q (q_mov rfl) ?_
  refine ax_q (q_mov rfl) ?_
  first | refine ax_q (q_nilck_ptr rfl) ?_ | refine ax_q (q_nilck_rptr rfl) ?_ | refine ax_q (q_nilck_ip rfl) ?_
  first | refine ax_q (q_fadr_ptr rfl) ?_ | refine ax_q (q_fadr_rptr rfl) ?_ | refine ax_q (q_fadr_ip rfl) ?_
  refine ax_q (q_fadr_ptr rfl) ?_
  refine ax_q (q_load1_ptr rfl rfl rfl) ?_
  refine ax_callq rfl (c_needsS (s := e.Store) (n := e.Txs[k].Last) (xs := [.bool e.Up, .sl 2 (e.Txs.map GTx.row), .sl 4 (e.Locks.Held.map GLock.row), .sl 2 (e.Locks.Waits.map GWait.row), .int .i64 e.Next]) ?_ ?_ ?_) hP (lal_id _ rfl) rfl ?_
  ·
   assumption
  ·
   assumption
  ·
   first | assumption | omega
  refine ax_qe (r' := int ((needsK e (k + 1) : Nat) : Int)) (q_ibin rfl rfl rfl) (by rw [wi (by omega) (by omega)]; exact congrArg AM.int (by omega)) ?_
  refine ax_q (q_mov rfl) ?_
  refine ax_nil (cx_keep rfl rfl (cx_ops ?_))
  refine ax_qe (r' := int ((k + 1 : Nat) : Int)) (q_ibin rfl rfl rfl) (by rw [wi (by omega) (by omega)]; rfl) ?_
  refine ax_q (q_mov rfl) ?_
  refine ax_nil ?_
  exact ⟨_, k + 1, by omega, ⟨by omega, rfl⟩, by repeat constructor⟩
 ·
  have h0 := dF h0
  obtain rfl : k = e.Txs.length := by omega
  rw [needsK_end]
  refine cx_exit rfl ?_
  refine cx_keep rfl rfl (cx_seq (cx_ops ?_))
  refine ax_q (q_mov rfl) ?_
  refine ax_q (q_mov rfl) ?_
  refine ax_nil (cx_keep rfl rfl ?_)
  refine cx_ret (ret0 rfl rfl ?_)
  exact ⟨rfl, rfl⟩


/- (ptr loop.example/g00332/impl.Engine).hasRoom -/
def k_c_hasRoom : XCode :=
 .seq (.ops [.op (some 4) (.mov (.k (.bool false)))])
 (.keep [0, 1] (.seq (.draw [.op (some 5) (.mov (.t 0)),
   .op (some 6) (.nilck (.t 5)),
   .op (some 7) (.fadr (.t 6) 0),
   .op (some 8) (.fadr (.t 7) 5),
   .op (some 9) (.load1 (.t 8)),
   .op (some 10) (.lenS (.t 9)),
   .op (some 11) (.mov (.t 0)),
   .call (some 12) 46 [.t 11],
   .op (some 13) (.bin .add (.t 10) (.t 12)),
   .op (some 14) (.mov (.t 1)),
   .op (some 15) (.bin .add (.t 13) (.t 14)),
   .op (some 16) (.bin .leq (.t 15) (.k (.int .i64 60))),
   .op (some 4) (.mov (.t 16))])
 (.keep [4] (.ret))))
theorem k_c_hasRoom_fits : fitsF Tryz.prog 99 ⟨17, k_c_hasRoom, [.t 4]⟩ = true := by kernel_rfl
theorem c_hasRoom {e : GEngine} (hl : e.Store.Log.length ≤ 60) (hg : goodA e.Store.Log = true) (ht : e.Txs.length ≤ 10) (hx : ∀ t ∈ e.Txs, 1 ≤ t.Last ∧ t.Last ≤ e.Store.Log.length) : Con Tryz.prog noMv 99 [.d (.ip e.row), int 0] [] (fun r h => r = bool (roomOK e) ∧ h = []) := by
 refine con_of2 k_c_hasRoom_fits rfl fun C hP hmv => ?_
 unfold k_c_hasRoom
 have hnl := @needsK_le e e.Txs.length
 rw [needsK_end] at hnl
 refine cx_seq (cx_ops ?_)
 refine ax_q (q_mov rfl) ?_
 refine ax_nil (cx_keep rfl rfl (cx_seq (cx_draw ?_)))
 refine ax_q (q_mov rfl) ?_
 first | refine ax_q (q_nilck_ptr rfl) ?_ | refine ax_q (q_nilck_rptr rfl) ?_ | refine ax_q (q_nilck_ip rfl) ?_
 first | refine ax_q (q_fadr_ptr rfl) ?_ | refine ax_q (q_fadr_rptr rfl) ?_ | refine ax_q (q_fadr_ip rfl) ?_
 first | refine ax_q (q_fadr_ptr rfl) ?_ | refine ax_q (q_fadr_rptr rfl) ?_ | refine ax_q (q_fadr_ip rfl) ?_
 first | refine ax_q (q_load1_ptr rfl rfl rfl) ?_ | refine ax_q (q_load1_ip rfl) ?_
 refine ax_q (q_lenS_map rfl) ?_
 refine ax_q (q_mov rfl) ?_
 refine ax_callq rfl (c_needsE (e := e) ?_ ?_ ?_ ?_) hP (lal_id _ rfl) rfl ?_
 ·
  assumption
 ·
  assumption
 ·
  assumption
 ·
  assumption
 refine ax_qe (r' := int ((e.Store.Log.length + needsF e : Nat) : Int)) (q_ibin rfl rfl rfl) (by rw [wi (by omega) (by omega)]; exact congrArg AM.int (by omega)) ?_
 refine ax_q (q_mov rfl) ?_
 refine ax_qe (r' := int ((e.Store.Log.length + needsF e : Nat) : Int)) (q_ibin rfl rfl rfl) (by rw [wi (by omega) (by omega)]; exact congrArg AM.int (by omega)) ?_
 refine ax_q (q_ibin rfl rfl rfl) ?_
 refine ax_q (q_mov rfl) ?_
 refine ax_nil (cx_keep rfl rfl ?_)
 refine cx_ret (ret0 rfl rfl ?_)
 exact ⟨rfl, rfl⟩


/- (ptr loop.example/g00332/impl.Engine).engineOK -/
def k_c_engineOK : XCode :=
 .seq (.ops [.op (some 1) (.box (.t 0)),
   .op (some 2) (.mov (.k (.bool false)))])
 (.keep [1] (.seq (.seq (.ops [.op (some 5) (.load1 (.t 1)),
   .op (some 6) (.nilck (.t 5)),
   .op (some 7) (.fadr (.t 6) 10),
   .op (some 8) (.load1 (.t 7)),
   .op (some 9) (.lenS (.t 8)),
   .op (some 10) (.bin .gtr (.t 9) (.k (.int .i64 10))),
   .op (some 11) (.mov (.t 10)),
   .andor 18 false 6 11 [.op (some 12) (.load1 (.t 1)), .op (some 13) (.nilck (.t 12)), .op (some 14) (.fadr (.t 13) 13), .op (some 15) (.load1 (.t 14)), .call (some 16) 63 [.t 15, .k (.int .i64 1), .k (.int .i64 61)], .op (some 17) (.not (.t 16))] (.t 17),
   .op (some 19) (.mov (.t 18)),
   .andor 26 false 14 19 [.op (some 20) (.load1 (.t 1)), .op (some 21) (.nilck (.t 20)), .op (some 22) (.fadr (.t 21) 11), .op (some 23) (.loadN 2 (.t 22)), .call (some 24) 92 [.t 23], .op (some 25) (.not (.t 24))] (.t 25)])
  (.keep [1, 26] (.cond (.t 26)
  (.seq (.ops [.op (some 2) (.mov (.k (.bool false)))])
   (.keep [2] (.ret)))
  (.skip))))
 (.keep [1] (.seq (.seq (.ops [.op (some 27) (.load1 (.t 1)),
   .op (some 28) (.nilck (.t 27)),
   .op (some 29) (.fadr (.t 28) 9),
   .op (some 30) (.load1 (.t 29)),
   .op (some 31) (.not (.t 30))])
  (.keep [1, 31] (.cond (.t 31)
  (.seq (.draw [.op (some 32) (.load1 (.t 1)),
    .op (some 33) (.nilck (.t 32)),
    .op (some 34) (.fadr (.t 33) 10),
    .op (some 35) (.load1 (.t 34)),
    .op (some 36) (.lenS (.t 35)),
    .op (some 37) (.load1 (.t 1)),
    .op (some 38) (.nilck (.t 37)),
    .op (some 39) (.fadr (.t 38) 11),
    .op (some 40) (.fadr (.t 39) 0),
    .op (some 41) (.load1 (.t 40)),
    .op (some 42) (.lenS (.t 41)),
    .op (some 43) (.bin .add (.t 36) (.t 42)),
    .op (some 44) (.load1 (.t 1)),
    .op (some 45) (.nilck (.t 44)),
    .op (some 46) (.fadr (.t 45) 11),
    .op (some 47) (.fadr (.t 46) 1),
    .op (some 48) (.load1 (.t 47)),
    .op (some 49) (.lenS (.t 48)),
    .op (some 50) (.bin .add (.t 43) (.t 49)),
    .op (some 51) (.load1 (.t 1)),
    .op (some 52) (.nilck (.t 51)),
    .op (some 53) (.fadr (.t 52) 0),
    .op (some 54) (.fadr (.t 53) 7),
    .op (some 55) (.load1 (.t 54)),
    .op (some 56) (.lenS (.t 55)),
    .op (some 57) (.bin .add (.t 50) (.t 56)),
    .op (some 58) (.bin .eql (.t 57) (.k (.int .i64 0))),
    .op (some 2) (.mov (.t 58))])
   (.keep [2] (.ret)))
  (.skip))))
 (.keep [1] (.seq (.seq (.ops [.op (some 59) (.load1 (.t 1)),
   .op (some 60) (.nilck (.t 59)),
   .op (some 61) (.fadr (.t 60) 10),
   .op (some 62) (.load1 (.t 61)),
   .op (some 63) (.lenS (.t 62)),
   .op (some 64) (.mov (.k (.int .i64 0)))])
  (.keep [1, 62, 63, 64] (.block 0 (.loop (.seq (.ops [.op (some 65) (.bin .lss (.t 64) (.t 63))])
   (.keep [1, 62, 63, 64, 65] (.seq (.cond (.t 65)
    (.skip)
    (.exit 0))
   (.keep [1, 62, 63, 64] (.seq (.block 1 (.seq (.ops [.op (some 66) (.mov (.t 64)),
     .op (some 67) (.iadr 2 (.t 62) (.t 64)),
     .op (some 68) (.loadN 2 (.t 67)),
     .op (some 4) (.alloc [.int .i64 0, .int .i64 0]),
     .op (some 3) (.mov (.t 66)),
     .op none (.store 2 (.t 4) (.t 68))])
    (.keep [1, 3, 4, 62, 63, 64] (.seq (.draw [.op (some 69) (.fadr (.t 4) 0),
     .op (some 70) (.load1 (.t 69)),
     .op (some 71) (.load1 (.t 1)),
     .op (some 72) (.nilck (.t 71)),
     .op (some 73) (.fadr (.t 72) 13),
     .op (some 74) (.load1 (.t 73)),
     .op (some 75) (.bin .sub (.t 74) (.k (.int .i64 1))),
     .call (some 76) 63 [.t 70, .k (.int .i64 1), .t 75],
     .op (some 77) (.not (.t 76)),
     .op (some 78) (.mov (.t 77)),
     .andor 95 false 9 78 [.op (some 79) (.mov (.t 3)), .op (some 80) (.bin .gtr (.t 79) (.k (.int .i64 0))), .op (some 81) (.mov (.t 80)), .andor 94 true 12 81 [.op (some 82) (.load1 (.t 1)), .op (some 83) (.nilck (.t 82)), .op (some 84) (.fadr (.t 83) 10), .op (some 85) (.load1 (.t 84)), .op (some 86) (.mov (.t 3)), .op (some 87) (.bin .sub (.t 86) (.k (.int .i64 1))), .op (some 88) (.iadr 2 (.t 85) (.t 87)), .op (some 89) (.fadr (.t 88) 0), .op (some 90) (.load1 (.t 89)), .op (some 91) (.fadr (.t 4) 0), .op (some 92) (.load1 (.t 91)), .op (some 93) (.bin .geq (.t 90) (.t 92))] (.t 93)] (.t 94),
     .op (some 96) (.mov (.t 95)),
     .andor 103 false 27 96 [.op (some 97) (.load1 (.t 1)), .op (some 98) (.nilck (.t 97)), .op (some 99) (.fadr (.t 98) 0), .op (some 100) (.loadN 2 (.t 4)), .call (some 101) 93 [.t 99, .t 100], .op (some 102) (.not (.t 101))] (.t 102)])
    (.keep [1, 62, 63, 64, 103] (.cond (.t 103)
    (.seq (.ops [.op (some 2) (.mov (.k (.bool false)))])
     (.keep [2] (.ret)))
    (.skip)))))))
   (.keep [1, 62, 63, 64] (.ops [.op (some 104) (.bin .add (.t 64) (.k (.int .i64 1))),
    .op (some 64) (.mov (.t 104))])))))))))))
 (.keep [1] (.seq (.seq (.ops [.op (some 105) (.load1 (.t 1)),
   .op (some 106) (.nilck (.t 105)),
   .op (some 107) (.fadr (.t 106) 11),
   .op (some 108) (.fadr (.t 107) 0),
   .op (some 109) (.load1 (.t 108)),
   .op (some 110) (.mkfn 95 [.t 1]),
   .call (some 111) 94 [.t 109, .t 110],
   .op (some 112) (.mov (.t 111)),
   .andor 120 false 7 112 [.op (some 113) (.load1 (.t 1)), .op (some 114) (.nilck (.t 113)), .op (some 115) (.fadr (.t 114) 11), .op (some 116) (.fadr (.t 115) 1), .op (some 117) (.load1 (.t 116)), .op (some 118) (.mkfn 98 [.t 1]), .call (some 119) 97 [.t 117, .t 118]] (.t 119)])
  (.keep [1, 120] (.cond (.t 120)
  (.seq (.ops [.op (some 2) (.mov (.k (.bool false)))])
   (.keep [2] (.ret)))
  (.skip))))
 (.keep [1] (.seq (.ops [.op (some 121) (.load1 (.t 1)),
   .call (some 122) 99 [.t 121, .k (.int .i64 0)],
   .op (some 2) (.mov (.t 122))])
 (.keep [2] (.ret))))))))))))
theorem k_c_engineOK_fits : fitsF Tryz.prog 43 ⟨123, k_c_engineOK, [.t 2]⟩ = true := by kernel_rfl
set_option maxHeartbeats 8000000 in
theorem c_engineOK {e : GEngine} (hb : EnB e) (hso : storeOK e.Store = true) : Con Tryz.prog noMv 43 [.d (.ip e.row)] [] (fun r h => r = bool (engOK e) ∧ h = []) := by
 refine con_of2 k_c_engineOK_fits rfl fun C hP hmv => ?_
 unfold k_c_engineOK
 obtain ⟨hs, hw0, hw1, hw2, hw3⟩ := hb
 obtain ⟨HD, hg⟩ := storeOK_good hso
 have hll := HD.lo
 have hfr := hs.fr
 refine cx_seq (cx_ops ?_)
 refine ax_e (e_box rfl rfl (by decide) rfl rfl rfl) ?_
 refine ax_q (q_mov rfl) ?_
 refine ax_nil (cx_keep rfl rfl (cx_seq (cx_seq (cx_ops ?_))))
 refine ax_q (q_load1_ptr rfl rfl rfl) ?_
 first | refine ax_q (q_nilck_ptr rfl) ?_ | refine ax_q (q_nilck_rptr rfl) ?_ | refine ax_q (q_nilck_ip rfl) ?_
 first | refine ax_q (q_fadr_ptr rfl) ?_ | refine ax_q (q_fadr_rptr rfl) ?_ | refine ax_q (q_fadr_ip rfl) ?_
 first | refine ax_q (q_load1_ptr rfl rfl rfl) ?_ | refine ax_q (q_load1_ip rfl) ?_
 refine ax_q (q_lenS_map rfl) ?_
 refine ax_q (q_ibin rfl rfl rfl) ?_
 refine ax_q (q_mov rfl) ?_
 apply ax_or rfl rfl
 ·
  intro g
  have g := dF g
  refine ax_q (q_load1_ptr rfl rfl rfl) ?_
  first | refine ax_q (q_nilck_ptr rfl) ?_ | refine ax_q (q_nilck_rptr rfl) ?_ | refine ax_q (q_nilck_ip rfl) ?_
  first | refine ax_q (q_fadr_ptr rfl) ?_ | refine ax_q (q_fadr_rptr rfl) ?_ | refine ax_q (q_fadr_ip rfl) ?_
  first | refine ax_q (q_load1_ptr rfl rfl rfl) ?_ | refine ax_q (q_load1_ip rfl) ?_
  refine ax_call rfl (vc_pure0 (c_inRange  ) hP rfl rfl ?_)
  refine ax_q (q_not rfl) ?_
  exact ax_nil ⟨rfl, by repeat constructor⟩
 refine ax_q (q_mov rfl) ?_
 apply ax_or rfl rfl
 ·
  intro g
  have g := (fun h => And.intro (dF (or_F h).1) (bF (or_F h).2)) g
  refine ax_q (q_load1_ptr rfl rfl rfl) ?_
  first | refine ax_q (q_nilck_ptr rfl) ?_ | refine ax_q (q_nilck_rptr rfl) ?_ | refine ax_q (q_nilck_ip rfl) ?_
  first | refine ax_q (q_fadr_ptr rfl) ?_ | refine ax_q (q_fadr_rptr rfl) ?_ | refine ax_q (q_fadr_ip rfl) ?_
  refine ax_q (q_loadN_ip (cs := [.sl 4 (e.Locks.Held.map GLock.row), .sl 2 (e.Locks.Waits.map GWait.row), .int .i64 e.Next]) rfl (by simp)) ?_
  refine ax_call rfl (vc_pure0 (c_LocksOK (l := e.Locks) ?_ ?_) hP rfl rfl ?_)
  ·
   assumption
  ·
   assumption
  refine ax_q (q_not rfl) ?_
  exact ax_nil ⟨rfl, by repeat constructor⟩
 refine ax_nil (cx_keep rfl rfl ?_)
 refine cx_cond rfl (fun h0 => ?_) (fun h0 => ?_)
 ·
  have h0 : badE e = true := h0
  refine cx_seq (cx_ops ?_)
  refine ax_q (q_mov rfl) ?_
  refine ax_nil (cx_keep rfl rfl ?_)
  refine cx_ret (ret0 rfl rfl ?_)
  exact ⟨by rw [eng_0 h0]; rfl, rfl⟩
 ·
  have h0 : badE e = false := h0
  obtain ⟨ht10, hnx, _⟩ := badE_f h0
  refine cx_skip ?_
  refine cx_keep rfl rfl (cx_seq (cx_seq (cx_ops ?_)))
  refine ax_q (q_load1_ptr rfl rfl rfl) ?_
  first | refine ax_q (q_nilck_ptr rfl) ?_ | refine ax_q (q_nilck_rptr rfl) ?_ | refine ax_q (q_nilck_ip rfl) ?_
  first | refine ax_q (q_fadr_ptr rfl) ?_ | refine ax_q (q_fadr_rptr rfl) ?_ | refine ax_q (q_fadr_ip rfl) ?_
  first | refine ax_q (q_load1_ptr rfl rfl rfl) ?_ | refine ax_q (q_load1_ip rfl) ?_
  refine ax_q (q_not rfl) ?_
  refine ax_nil (cx_keep rfl rfl ?_)
  refine cx_cond rfl (fun h1 => ?_) (fun h1 => ?_)
  ·
   have h1 : e.Up = false := by simpa using h1
   refine cx_seq (cx_draw ?_)
   refine ax_q (q_load1_ptr rfl rfl rfl) ?_
   first | refine ax_q (q_nilck_ptr rfl) ?_ | refine ax_q (q_nilck_rptr rfl) ?_ | refine ax_q (q_nilck_ip rfl) ?_
   first | refine ax_q (q_fadr_ptr rfl) ?_ | refine ax_q (q_fadr_rptr rfl) ?_ | refine ax_q (q_fadr_ip rfl) ?_
   first | refine ax_q (q_load1_ptr rfl rfl rfl) ?_ | refine ax_q (q_load1_ip rfl) ?_
   refine ax_q (q_lenS_map rfl) ?_
   refine ax_q (q_load1_ptr rfl rfl rfl) ?_
   first | refine ax_q (q_nilck_ptr rfl) ?_ | refine ax_q (q_nilck_rptr rfl) ?_ | refine ax_q (q_nilck_ip rfl) ?_
   first | refine ax_q (q_fadr_ptr rfl) ?_ | refine ax_q (q_fadr_rptr rfl) ?_ | refine ax_q (q_fadr_ip rfl) ?_
   first | refine ax_q (q_fadr_ptr rfl) ?_ | refine ax_q (q_fadr_rptr rfl) ?_ | refine ax_q (q_fadr_ip rfl) ?_
   first | refine ax_q (q_load1_ptr rfl rfl rfl) ?_ | refine ax_q (q_load1_ip rfl) ?_
   refine ax_q (q_lenS_map rfl) ?_
   refine ax_qe (r' := int ((e.Txs.length + e.Locks.Held.length : Nat) : Int)) (q_ibin rfl rfl rfl) (by rw [wi (by omega) (by omega)]; exact congrArg AM.int (by omega)) ?_
   refine ax_q (q_load1_ptr rfl rfl rfl) ?_
   first | refine ax_q (q_nilck_ptr rfl) ?_ | refine ax_q (q_nilck_rptr rfl) ?_ | refine ax_q (q_nilck_ip rfl) ?_
   first | refine ax_q (q_fadr_ptr rfl) ?_ | refine ax_q (q_fadr_rptr rfl) ?_ | refine ax_q (q_fadr_ip rfl) ?_
   first | refine ax_q (q_fadr_ptr rfl) ?_ | refine ax_q (q_fadr_rptr rfl) ?_ | refine ax_q (q_fadr_ip rfl) ?_
   first | refine ax_q (q_load1_ptr rfl rfl rfl) ?_ | refine ax_q (q_load1_ip rfl) ?_
   refine ax_q (q_lenS_map rfl) ?_
   refine ax_qe (r' := int ((e.Txs.length + e.Locks.Held.length + e.Locks.Waits.length : Nat) : Int)) (q_ibin rfl rfl rfl) (by rw [wi (by omega) (by omega)]; exact congrArg AM.int (by omega)) ?_
   refine ax_q (q_load1_ptr rfl rfl rfl) ?_
   first | refine ax_q (q_nilck_ptr rfl) ?_ | refine ax_q (q_nilck_rptr rfl) ?_ | refine ax_q (q_nilck_ip rfl) ?_
   first | refine ax_q (q_fadr_ptr rfl) ?_ | refine ax_q (q_fadr_rptr rfl) ?_ | refine ax_q (q_fadr_ip rfl) ?_
   first | refine ax_q (q_fadr_ptr rfl) ?_ | refine ax_q (q_fadr_rptr rfl) ?_ | refine ax_q (q_fadr_ip rfl) ?_
   first | refine ax_q (q_load1_ptr rfl rfl rfl) ?_ | refine ax_q (q_load1_ip rfl) ?_
   refine ax_q (q_lenS_map rfl) ?_
   refine ax_qe (r' := int ((e.Txs.length + e.Locks.Held.length + e.Locks.Waits.length + e.Store.Frames.length : Nat) : Int)) (q_ibin rfl rfl rfl) (by rw [wi (by omega) (by omega)]; exact congrArg AM.int (by omega)) ?_
   refine ax_q (q_ibin rfl rfl rfl) ?_
   refine ax_q (q_mov rfl) ?_
   refine ax_nil (cx_keep rfl rfl ?_)
   refine cx_ret (ret0 rfl rfl ?_)
   exact ⟨by rw [eng_d h0 h1, ← emptyE_int rfl]; rfl, rfl⟩
  ·
   have h1 : e.Up = true := by simpa using h1
   refine cx_skip ?_
   refine cx_keep rfl rfl (cx_seq (cx_seq (cx_ops ?_)))
   refine ax_q (q_load1_ptr rfl rfl rfl) ?_
   first | refine ax_q (q_nilck_ptr rfl) ?_ | refine ax_q (q_nilck_rptr rfl) ?_ | refine ax_q (q_nilck_ip rfl) ?_
   first | refine ax_q (q_fadr_ptr rfl) ?_ | refine ax_q (q_fadr_rptr rfl) ?_ | refine ax_q (q_fadr_ip rfl) ?_
   first | refine ax_q (q_load1_ptr rfl rfl rfl) ?_ | refine ax_q (q_load1_ip rfl) ?_
   refine ax_q (q_lenS_map rfl) ?_
   refine ax_q (q_mov rfl) ?_
   refine ax_nil (cx_keep rfl rfl (cx_block ?_))
   refine cx_loopU (fun m k => k ≤ e.Txs.length ∧ m = e.Txs.length - k ∧ ∀ j (hj : j < e.Txs.length), j < k → txBad e j e.Txs[j] (e.Txs.getD (j - 1) .zero).Id = false) (fun k : Nat => [(64, int k)]) (fun _ => [(1, .box [.d (.ip e.row)])]) ⟨_, 0, ⟨Nat.zero_le _, rfl, fun j _ hj => by omega⟩, by repeat constructor⟩ ?_
   rintro m k ⟨hk, rfl, htx⟩
   refine cx_seq (cx_ops ?_)
   refine ax_q (q_ibin rfl rfl rfl) ?_
   refine ax_nil (cx_keep rfl rfl (cx_seq ?_))
   refine cx_cond rfl (fun h2 => ?_) (fun h2 => ?_)
   ·
    have h2 := dT h2
    have h0x : k < e.Txs.length := by omega
    refine cx_skip ?_
    refine cx_keep rfl rfl (cx_seq (cx_block (cx_seq (cx_ops ?_))))
    refine ax_q (q_mov rfl) ?_
    refine ax_q (q_ix rfl rfl (mapAt h0x)) ?_
    first | refine ax_q (q_ldN rfl rfl rfl) ?_ | refine ax_q (q_loadN_ip rfl (Nat.le_refl _)) ?_
    refine ax_e (e_alloc (by decide) rfl rfl) ?_
    refine ax_q (q_mov rfl) ?_
    refine ax_e (e_st rfl rfl rfl rfl rfl rfl rfl) ?_
    refine ax_nil (cx_keep rfl rfl (cx_seq (cx_draw ?_)))
    refine ax_q (q_fadr_ptr rfl) ?_
    refine ax_q (q_load1_ptr rfl rfl rfl) ?_
    refine ax_q (q_load1_ptr rfl rfl rfl) ?_
    first | refine ax_q (q_nilck_ptr rfl) ?_ | refine ax_q (q_nilck_rptr rfl) ?_ | refine ax_q (q_nilck_ip rfl) ?_
    first | refine ax_q (q_fadr_ptr rfl) ?_ | refine ax_q (q_fadr_rptr rfl) ?_ | refine ax_q (q_fadr_ip rfl) ?_
    first | refine ax_q (q_load1_ptr rfl rfl rfl) ?_ | refine ax_q (q_load1_ip rfl) ?_
    refine ax_qe (r' := int (e.Next - 1)) (q_ibin rfl rfl rfl) (by rw [wi (by omega) (by omega)]) ?_
    refine ax_callq rfl (c_inRange  ) hP (lal_id _ rfl) rfl ?_
    refine ax_q (q_not rfl) ?_
    refine ax_q (q_mov rfl) ?_
    apply ax_or rfl rfl
    ·
     intro g
     have g := bF g
     refine ax_q (q_mov rfl) ?_
     refine ax_q (q_ibin rfl rfl rfl) ?_
     refine ax_q (q_mov rfl) ?_
     apply ax_and rfl rfl
     ·
      intro g
      have g := dT g
      refine ax_q (q_load1_ptr rfl rfl rfl) ?_
      first | refine ax_q (q_nilck_ptr rfl) ?_ | refine ax_q (q_nilck_rptr rfl) ?_ | refine ax_q (q_nilck_ip rfl) ?_
      first | refine ax_q (q_fadr_ptr rfl) ?_ | refine ax_q (q_fadr_rptr rfl) ?_ | refine ax_q (q_fadr_ip rfl) ?_
      first | refine ax_q (q_load1_ptr rfl rfl rfl) ?_ | refine ax_q (q_load1_ip rfl) ?_
      refine ax_q (q_mov rfl) ?_
      refine ax_qe (r' := int ((k - 1 : Nat) : Int)) (q_ibin rfl rfl rfl) (by rw [wi (by omega) (by omega)]; exact congrArg AM.int (by omega)) ?_
      refine ax_q (q_ix rfl rfl (mapAtZ (z := .zero) (by omega))) ?_
      first | refine ax_q (q_fadr_ptr rfl) ?_ | refine ax_q (q_fadr_rptr rfl) ?_ | refine ax_q (q_fadr_ip rfl) ?_
      first | refine ax_q (q_load1_ptr rfl rfl rfl) ?_ | refine ax_q (q_load1_ip rfl) ?_
      refine ax_q (q_fadr_ptr rfl) ?_
      refine ax_q (q_load1_ptr rfl rfl rfl) ?_
      refine ax_q (q_ibin rfl rfl rfl) ?_
      exact ax_nil ⟨rfl, by repeat constructor⟩
     exact ax_nil ⟨rfl, by repeat constructor⟩
    refine ax_q (q_mov rfl) ?_
    apply ax_or rfl rfl
    ·
     intro g
     have g := (fun h => And.intro (bF (or_F h).1) ((fun h => (and_F h).imp dF dF) (or_F h).2)) g
     refine ax_q (q_load1_ptr rfl rfl rfl) ?_
     first | refine ax_q (q_nilck_ptr rfl) ?_ | refine ax_q (q_nilck_rptr rfl) ?_ | refine ax_q (q_nilck_ip rfl) ?_
     first | refine ax_q (q_fadr_ptr rfl) ?_ | refine ax_q (q_fadr_rptr rfl) ?_ | refine ax_q (q_fadr_ip rfl) ?_
     refine ax_q (q_ldN rfl rfl rfl) ?_
     refine ax_callq rfl (c_chainOK (s := e.Store) (t := e.Txs[k]) (xs := [.bool e.Up, .sl 2 (e.Txs.map GTx.row), .sl 4 (e.Locks.Held.map GLock.row), .sl 2 (e.Locks.Waits.map GWait.row), .int .i64 e.Next]) ?_ ?_) hP (lal_id _ rfl) rfl ?_
     ·
      assumption
     ·
      assumption
     refine ax_q (q_not rfl) ?_
     exact ax_nil ⟨rfl, by repeat constructor⟩
    refine ax_nil (cx_keep rfl rfl ?_)
    refine cx_cond rfl (fun h3 => ?_) (fun h3 => ?_)
    ·
     have h3 : txBad e k e.Txs[k] (e.Txs.getD (k - 1) .zero).Id = true := h3
     refine cx_seq (cx_ops ?_)
     refine ax_q (q_mov rfl) ?_
     refine ax_nil (cx_keep rfl rfl ?_)
     refine cx_ret (ret0 rfl rfl ?_)
     exact ⟨by rw [eng_u h0 h1, txs_no h0x h3]; rfl, rfl⟩
    ·
     have htk : txBad e k e.Txs[k] (e.Txs.getD (k - 1) .zero).Id = false := h3
     refine cx_skip ?_
     refine cx_keep rfl rfl (cx_ops ?_)
     refine ax_qe (r' := int ((k + 1 : Nat) : Int)) (q_ibin rfl rfl rfl) (by rw [wi (by omega) (by omega)]; rfl) ?_
     refine ax_q (q_mov rfl) ?_
     refine ax_nil ?_
     exact ⟨_, k + 1, by omega, ⟨by omega, rfl, fun j hj hjk => by
      rcases Nat.lt_succ_iff_lt_or_eq.1 hjk with q | rfl
      ·
       exact htx j hj q
      ·
       exact htk⟩, by repeat constructor⟩
   ·
    have h2 := dF h2
    have hto := txs_all (e := e) (fun j hj => htx j hj (by omega))
    have hlast : ∀ t ∈ e.Txs, 1 ≤ t.Last ∧ t.Last ≤ e.Store.Log.length := fun t ht => by
     obtain ⟨j, hj, rfl⟩ := List.getElem_of_mem ht
     exact txBad_last (htx j hj (by omega))
    refine cx_exit rfl ?_
    refine cx_keep rfl rfl (cx_seq (cx_seq (cx_ops ?_)))
    refine ax_q (q_load1_ptr rfl rfl rfl) ?_
    first | refine ax_q (q_nilck_ptr rfl) ?_ | refine ax_q (q_nilck_rptr rfl) ?_ | refine ax_q (q_nilck_ip rfl) ?_
    first | refine ax_q (q_fadr_ptr rfl) ?_ | refine ax_q (q_fadr_rptr rfl) ?_ | refine ax_q (q_fadr_ip rfl) ?_
    first | refine ax_q (q_fadr_ptr rfl) ?_ | refine ax_q (q_fadr_rptr rfl) ?_ | refine ax_q (q_fadr_ip rfl) ?_
    first | refine ax_q (q_load1_ptr rfl rfl rfl) ?_ | refine ax_q (q_load1_ip rfl) ?_
    refine ax_q (q_mkfn rfl) ?_
    refine ax_call rfl (vc_lend0 (c_ContainsFunc_Lock (xs := e.Locks.Held) (ds := [.ip [.ip e.row]]) (fun l => decide (txAt e l.Tx < 0)) (by omega) (by kernel_rfl) (fun s _ => c_engineOK1 hw0)) hP (by repeat (first | exact lal_id _ rfl | exact LAL.nil | refine LAL.cons ?_ ?_ | exact la_id _ rfl | exact LA.lend (lend_whole rfl (by first | (simp; done) | (rw [List.length_map]; rfl))) | refine LA.agg ?_ | refine LA.fn ?_ | refine LA.lend ?_ | exact Lend.d _ | exact Lend.zs _ | exact lend_whole rfl (by first | (simp; done) | (rw [List.length_map]; rfl)) | refine Lend.ptr rfl ?_ | refine Lend.fn ?_ | exact LendL.nil | refine LendL.cons ?_ ?_)) rfl rfl ?_)
    refine ax_q (q_mov rfl) ?_
    apply ax_or rfl rfl
    ·
     intro g
     refine ax_q (q_load1_ptr rfl rfl rfl) ?_
     first | refine ax_q (q_nilck_ptr rfl) ?_ | refine ax_q (q_nilck_rptr rfl) ?_ | refine ax_q (q_nilck_ip rfl) ?_
     first | refine ax_q (q_fadr_ptr rfl) ?_ | refine ax_q (q_fadr_rptr rfl) ?_ | refine ax_q (q_fadr_ip rfl) ?_
     first | refine ax_q (q_fadr_ptr rfl) ?_ | refine ax_q (q_fadr_rptr rfl) ?_ | refine ax_q (q_fadr_ip rfl) ?_
     first | refine ax_q (q_load1_ptr rfl rfl rfl) ?_ | refine ax_q (q_load1_ip rfl) ?_
     refine ax_q (q_mkfn rfl) ?_
     refine ax_call rfl (vc_lend0 (c_ContainsFunc_Wait (xs := e.Locks.Waits) (ds := [.ip [.ip e.row]]) (fun w => decide (txAt e w.Tx < 0) || decide (txAt e w.For < 0)) (by omega) (by kernel_rfl) (fun s _ => c_engineOK2 hw0)) hP (by repeat (first | exact lal_id _ rfl | exact LAL.nil | refine LAL.cons ?_ ?_ | exact la_id _ rfl | exact LA.lend (lend_whole rfl (by first | (simp; done) | (rw [List.length_map]; rfl))) | refine LA.agg ?_ | refine LA.fn ?_ | refine LA.lend ?_ | exact Lend.d _ | exact Lend.zs _ | exact lend_whole rfl (by first | (simp; done) | (rw [List.length_map]; rfl)) | refine Lend.ptr rfl ?_ | refine Lend.fn ?_ | exact LendL.nil | refine LendL.cons ?_ ?_)) rfl rfl ?_)
     exact ax_nil ⟨rfl, by repeat constructor⟩
    refine ax_nil (cx_keep rfl rfl ?_)
    refine cx_cond rfl (fun h4 => ?_) (fun h4 => ?_)
    ·
     have h4 : (badHeld e || badWaits e) = true := h4
     refine cx_seq (cx_ops ?_)
     refine ax_q (q_mov rfl) ?_
     refine ax_nil (cx_keep rfl rfl ?_)
     refine cx_ret (ret0 rfl rfl ?_)
     exact ⟨by rw [eng_u h0 h1, ← Bool.not_or, h4, Bool.not_true, Bool.false_and, Bool.and_false]; rfl, rfl⟩
    ·
     have h4 : (badHeld e || badWaits e) = false := h4
     refine cx_skip ?_
     refine cx_keep rfl rfl (cx_seq (cx_ops ?_))
     refine ax_q (q_load1_ptr rfl rfl rfl) ?_
     refine ax_call rfl (vc_pure0 (c_hasRoom (e := e) ?_ ?_ ?_ ?_) hP rfl rfl ?_)
     ·
      assumption
     ·
      assumption
     ·
      assumption
     ·
      assumption
     refine ax_q (q_mov rfl) ?_
     refine ax_nil (cx_keep rfl rfl ?_)
     refine cx_ret (ret0 rfl rfl ?_)
     exact ⟨by rw [eng_u h0 h1, ← Bool.not_or, h4, hto]; rfl, rfl⟩


/- loop.example/g00332/impl.EngineOK -/
def k_c_EngineOK : XCode :=
 .seq (.ops [.op (some 1) (.box (.t 0)),
   .op (some 2) (.mov (.k (.bool false)))])
 (.keep [1] (.seq (.ops [.op (some 3) (.fadr (.t 1) 0),
   .op (some 4) (.loadN 9 (.t 3)),
   .call (some 5) 28 [.t 4],
   .op (some 6) (.mov (.t 5)),
   .andor 8 true 3 6 [.call (some 7) 43 [.t 1]] (.t 7),
   .op (some 2) (.mov (.t 8))])
 (.keep [2] (.ret))))
theorem k_c_EngineOK_fits : fitsF Tryz.prog 10 ⟨9, k_c_EngineOK, [.t 2]⟩ = true := by kernel_rfl
theorem c_EngineOK {e : GEngine} (hb : EnB e) : Con Tryz.prog noMv 10 [e.av] [] (fun r h => r = bool (engineOK e) ∧ h = []) := by
 refine con_of2 k_c_EngineOK_fits rfl fun C hP hmv => ?_
 unfold k_c_EngineOK
 refine cx_seq (cx_ops ?_)
 refine ax_e (e_box rfl rfl (by decide) rfl rfl rfl) ?_
 refine ax_q (q_mov rfl) ?_
 refine ax_nil (cx_keep rfl rfl (cx_seq (cx_ops ?_)))
 refine ax_q (q_fadr_ptr rfl) ?_
 refine ax_q (q_ldN rfl rfl rfl) ?_
 refine ax_call rfl (vc_pure0 (c_StoreOK (s := e.Store) ?_) hP rfl rfl ?_)
 ·
  exact hb.st
 refine ax_q (q_mov rfl) ?_
 apply ax_and rfl rfl
 ·
  intro g
  first | refine ax_call rfl (vc_pure0 (c_engineOK (e := e) ?_ ?_) hP rfl rfl ?_) | refine ax_call rfl (vc_lend0 (c_engineOK (e := e) ?_ ?_) hP (by repeat (first | exact lal_id _ rfl | exact LAL.nil | refine LAL.cons ?_ ?_ | exact la_id _ rfl | exact LA.lend (lend_whole rfl (by first | (simp; done) | (rw [List.length_map]; rfl))) | refine LA.agg ?_ | refine LA.fn ?_ | refine LA.lend ?_ | exact Lend.d _ | exact Lend.zs _ | exact lend_whole rfl (by first | (simp; done) | (rw [List.length_map]; rfl)) | refine Lend.ptr rfl ?_ | refine Lend.fn ?_ | exact LendL.nil | refine LendL.cons ?_ ?_)) rfl rfl ?_)
  ·
   assumption
  ·
   exact g
  exact ax_nil ⟨rfl, by repeat constructor⟩
 refine ax_q (q_mov rfl) ?_
 refine ax_nil (cx_keep rfl rfl ?_)
 refine cx_ret (ret0 rfl rfl ?_)
 exact ⟨rfl, rfl⟩


/- loop.example/g00332/laws.eqIntS -/
def k_c_eqIntS : XCode :=
 .seq (.ops [.op (some 4) (.mov (.k (.bool false)))])
 (.keep [0, 1] (.seq (.seq (.ops [.op (some 6) (.mov (.t 0)),
   .op (some 7) (.lenS (.t 6)),
   .op (some 8) (.mov (.t 1)),
   .op (some 9) (.lenS (.t 8)),
   .op (some 10) (.bin .neq (.t 7) (.t 9))])
  (.keep [0, 1, 10] (.cond (.t 10)
  (.seq (.ops [.op (some 4) (.mov (.k (.bool false)))])
   (.keep [4] (.ret)))
  (.skip))))
 (.keep [0, 1] (.seq (.seq (.ops [.op (some 5) (.mov (.k (.int .i64 0)))])
  (.keep [0, 1, 5] (.block 0 (.loop (.seq (.seq (.ops [.op (some 11) (.mov (.t 5)),
     .op (some 12) (.mov (.t 0)),
     .op (some 13) (.lenS (.t 12)),
     .op (some 14) (.bin .lss (.t 11) (.t 13))])
   (.keep [0, 1, 5, 14] (.cond (.t 14)
    (.skip)
    (.exit 0))))
   (.keep [0, 1, 5] (.seq (.block 1 (.seq (.draw [.op (some 17) (.mov (.t 0)),
     .op (some 18) (.mov (.t 5)),
     .op (some 19) (.iadr 1 (.t 17) (.t 18)),
     .op (some 20) (.load1 (.t 19)),
     .op (some 21) (.mov (.t 1)),
     .op (some 22) (.mov (.t 5)),
     .op (some 23) (.iadr 1 (.t 21) (.t 22)),
     .op (some 24) (.load1 (.t 23)),
     .op (some 25) (.bin .neq (.t 20) (.t 24))])
    (.keep [0, 1, 5, 25] (.cond (.t 25)
    (.seq (.ops [.op (some 4) (.mov (.k (.bool false)))])
     (.keep [4] (.ret)))
    (.skip)))))
   (.keep [0, 1, 5] (.ops [.op (some 15) (.mov (.t 5)),
    .op (some 16) (.bin .add (.t 15) (.k (.int .i64 1))),
    .op (some 5) (.mov (.t 16))])))))))))
 (.keep [] (.seq (.ops [.op (some 4) (.mov (.k (.bool true)))])
 (.keep [4] (.ret))))))))
theorem k_c_eqIntS_fits : fitsF Tryz.prog 18 ⟨26, k_c_eqIntS, [.t 4]⟩ = true := by kernel_rfl
theorem c_eqIntS {xs ys : List Int} (hw : xs.length ≤ 9223372036854775807) : Con Tryz.prog noMv 18 [.d (.sl 1 (xs.map intRow)), .d (.sl 1 (ys.map intRow))] [] (fun r h => r = bool (eqb xs ys) ∧ h = []) := by
 refine con_of2 k_c_eqIntS_fits rfl fun C hP hmv => ?_
 unfold k_c_eqIntS
 refine cx_seq (cx_ops ?_)
 refine ax_q (q_mov rfl) ?_
 refine ax_nil (cx_keep rfl rfl (cx_seq (cx_seq (cx_ops ?_))))
 refine ax_q (q_mov rfl) ?_
 refine ax_q (q_lenS_map rfl) ?_
 refine ax_q (q_mov rfl) ?_
 refine ax_q (q_lenS_map rfl) ?_
 refine ax_q (q_ibin rfl rfl rfl) ?_
 refine ax_nil (cx_keep rfl rfl ?_)
 refine cx_cond rfl (fun h0 => ?_) (fun h0 => ?_)
 ·
  have h0 := nT h0
  refine cx_seq (cx_ops ?_)
  refine ax_q (q_mov rfl) ?_
  refine ax_nil (cx_keep rfl rfl ?_)
  refine cx_ret (ret0 rfl rfl ?_)
  exact ⟨congrArg AM.bool (eqb_f (fun h => h0 (by rw [h]))).symm, rfl⟩
 ·
  have h0 := nF h0
  refine cx_skip ?_
  refine cx_keep rfl rfl (cx_seq (cx_seq (cx_ops ?_)))
  refine ax_q (q_mov rfl) ?_
  refine ax_nil (cx_keep rfl rfl (cx_block ?_))
  have hl : xs.length = ys.length := by omega
  refine cx_loopU (fun n k => k ≤ xs.length ∧ n = xs.length - k ∧ xs.take k = ys.take k) (fun k : Nat => [(5, int k)]) (fun _ => []) ⟨_, 0, ⟨Nat.zero_le _, rfl, rfl⟩, by repeat constructor⟩ ?_
  rintro n k ⟨hk, rfl, ht⟩
  refine cx_seq (cx_seq (cx_ops ?_))
  refine ax_q (q_mov rfl) ?_
  refine ax_q (q_mov rfl) ?_
  refine ax_q (q_lenS_map rfl) ?_
  refine ax_q (q_ibin rfl rfl rfl) ?_
  refine ax_nil (cx_keep rfl rfl ?_)
  refine cx_cond rfl (fun h1 => ?_) (fun h1 => ?_)
  ·
   have h1 := dT h1
   have h1x : k < xs.length := by omega
   have h1y : k < ys.length := by omega
   refine cx_skip ?_
   refine cx_keep rfl rfl (cx_seq (cx_block (cx_seq (cx_draw ?_))))
   refine ax_q (q_mov rfl) ?_
   refine ax_q (q_mov rfl) ?_
   refine ax_q (q_ix rfl rfl (mapAt h1x)) ?_
   first | refine ax_q (q_load1_ptr rfl rfl rfl) ?_ | refine ax_q (q_load1_ip rfl) ?_
   refine ax_q (q_mov rfl) ?_
   refine ax_q (q_mov rfl) ?_
   refine ax_q (q_ix rfl rfl (mapAt h1y)) ?_
   first | refine ax_q (q_load1_ptr rfl rfl rfl) ?_ | refine ax_q (q_load1_ip rfl) ?_
   refine ax_q (q_ibin rfl rfl rfl) ?_
   refine ax_nil (cx_keep rfl rfl ?_)
   refine cx_cond rfl (fun h2 => ?_) (fun h2 => ?_)
   ·
    have h2 := nT h2
    have h2 : xs[k] ≠ ys[k] := h2
    refine cx_seq (cx_ops ?_)
    refine ax_q (q_mov rfl) ?_
    refine ax_nil (cx_keep rfl rfl ?_)
    refine cx_ret (ret0 rfl rfl ?_)
    exact ⟨congrArg AM.bool (eqbL_no h1x h1y (eqb_f h2)).symm, rfl⟩
   ·
    have h2 := nF h2
    have h2 : xs[k] = ys[k] := h2
    refine cx_skip ?_
    refine cx_keep rfl rfl (cx_ops ?_)
    refine ax_q (q_mov rfl) ?_
    refine ax_q (q_add rfl rfl (by omega)) ?_
    refine ax_q (q_mov rfl) ?_
    refine ax_nil ?_
    exact ⟨_, k + 1, by omega, ⟨by omega, rfl, take_step h1x h1y ht h2⟩, by repeat constructor⟩
  ·
   have h1 := dF h1
   refine cx_exit rfl ?_
   refine cx_keep rfl rfl (cx_seq (cx_ops ?_))
   refine ax_q (q_mov rfl) ?_
   refine ax_nil (cx_keep rfl rfl ?_)
   refine cx_ret (ret0 rfl rfl ?_)
   exact ⟨congrArg AM.bool (eqb_t (eq_of_take hl (by rwa [show k = xs.length from by omega] at ht))).symm, rfl⟩


/- loop.example/g00332/laws.eqStringS -/
def k_c_eqStringS : XCode :=
 .seq (.ops [.op (some 4) (.mov (.k (.bool false)))])
 (.keep [0, 1] (.seq (.seq (.ops [.op (some 6) (.mov (.t 0)),
   .op (some 7) (.lenS (.t 6)),
   .op (some 8) (.mov (.t 1)),
   .op (some 9) (.lenS (.t 8)),
   .op (some 10) (.bin .neq (.t 7) (.t 9))])
  (.keep [0, 1, 10] (.cond (.t 10)
  (.seq (.ops [.op (some 4) (.mov (.k (.bool false)))])
   (.keep [4] (.ret)))
  (.skip))))
 (.keep [0, 1] (.seq (.seq (.ops [.op (some 5) (.mov (.k (.int .i64 0)))])
  (.keep [0, 1, 5] (.block 0 (.loop (.seq (.seq (.ops [.op (some 11) (.mov (.t 5)),
     .op (some 12) (.mov (.t 0)),
     .op (some 13) (.lenS (.t 12)),
     .op (some 14) (.bin .lss (.t 11) (.t 13))])
   (.keep [0, 1, 5, 14] (.cond (.t 14)
    (.skip)
    (.exit 0))))
   (.keep [0, 1, 5] (.seq (.block 1 (.seq (.draw [.op (some 17) (.mov (.t 0)),
     .op (some 18) (.mov (.t 5)),
     .op (some 19) (.iadr 1 (.t 17) (.t 18)),
     .op (some 20) (.load1 (.t 19)),
     .op (some 21) (.mov (.t 1)),
     .op (some 22) (.mov (.t 5)),
     .op (some 23) (.iadr 1 (.t 21) (.t 22)),
     .op (some 24) (.load1 (.t 23)),
     .op (some 25) (.bin .neq (.t 20) (.t 24))])
    (.keep [0, 1, 5, 25] (.cond (.t 25)
    (.seq (.ops [.op (some 4) (.mov (.k (.bool false)))])
     (.keep [4] (.ret)))
    (.skip)))))
   (.keep [0, 1, 5] (.ops [.op (some 15) (.mov (.t 5)),
    .op (some 16) (.bin .add (.t 15) (.k (.int .i64 1))),
    .op (some 5) (.mov (.t 16))])))))))))
 (.keep [] (.seq (.ops [.op (some 4) (.mov (.k (.bool true)))])
 (.keep [4] (.ret))))))))
theorem k_c_eqStringS_fits : fitsF Tryz.prog 116 ⟨26, k_c_eqStringS, [.t 4]⟩ = true := by kernel_rfl
theorem c_eqStringS {xs ys : List Str} (hw : xs.length ≤ 9223372036854775807) : Con Tryz.prog noMv 116 [.d (.sl 1 (xs.map strRow)), .d (.sl 1 (ys.map strRow))] [] (fun r h => r = bool (eqb xs ys) ∧ h = []) := by
 refine con_of2 k_c_eqStringS_fits rfl fun C hP hmv => ?_
 unfold k_c_eqStringS
 refine cx_seq (cx_ops ?_)
 refine ax_q (q_mov rfl) ?_
 refine ax_nil (cx_keep rfl rfl (cx_seq (cx_seq (cx_ops ?_))))
 refine ax_q (q_mov rfl) ?_
 refine ax_q (q_lenS_map rfl) ?_
 refine ax_q (q_mov rfl) ?_
 refine ax_q (q_lenS_map rfl) ?_
 refine ax_q (q_ibin rfl rfl rfl) ?_
 refine ax_nil (cx_keep rfl rfl ?_)
 refine cx_cond rfl (fun h0 => ?_) (fun h0 => ?_)
 ·
  have h0 := nT h0
  refine cx_seq (cx_ops ?_)
  refine ax_q (q_mov rfl) ?_
  refine ax_nil (cx_keep rfl rfl ?_)
  refine cx_ret (ret0 rfl rfl ?_)
  exact ⟨congrArg AM.bool (eqb_f (fun h => h0 (by rw [h]))).symm, rfl⟩
 ·
  have h0 := nF h0
  refine cx_skip ?_
  refine cx_keep rfl rfl (cx_seq (cx_seq (cx_ops ?_)))
  refine ax_q (q_mov rfl) ?_
  refine ax_nil (cx_keep rfl rfl (cx_block ?_))
  have hl : xs.length = ys.length := by omega
  refine cx_loopU (fun n k => k ≤ xs.length ∧ n = xs.length - k ∧ xs.take k = ys.take k) (fun k : Nat => [(5, int k)]) (fun _ => []) ⟨_, 0, ⟨Nat.zero_le _, rfl, rfl⟩, by repeat constructor⟩ ?_
  rintro n k ⟨hk, rfl, ht⟩
  refine cx_seq (cx_seq (cx_ops ?_))
  refine ax_q (q_mov rfl) ?_
  refine ax_q (q_mov rfl) ?_
  refine ax_q (q_lenS_map rfl) ?_
  refine ax_q (q_ibin rfl rfl rfl) ?_
  refine ax_nil (cx_keep rfl rfl ?_)
  refine cx_cond rfl (fun h1 => ?_) (fun h1 => ?_)
  ·
   have h1 := dT h1
   have h1x : k < xs.length := by omega
   have h1y : k < ys.length := by omega
   refine cx_skip ?_
   refine cx_keep rfl rfl (cx_seq (cx_block (cx_seq (cx_draw ?_))))
   refine ax_q (q_mov rfl) ?_
   refine ax_q (q_mov rfl) ?_
   refine ax_q (q_ix rfl rfl (mapAt h1x)) ?_
   first | refine ax_q (q_load1_ptr rfl rfl rfl) ?_ | refine ax_q (q_load1_ip rfl) ?_
   refine ax_q (q_mov rfl) ?_
   refine ax_q (q_mov rfl) ?_
   refine ax_q (q_ix rfl rfl (mapAt h1y)) ?_
   first | refine ax_q (q_load1_ptr rfl rfl rfl) ?_ | refine ax_q (q_load1_ip rfl) ?_
   refine ax_q (q_sbin rfl rfl rfl) ?_
   refine ax_nil (cx_keep rfl rfl ?_)
   refine cx_cond rfl (fun h2 => ?_) (fun h2 => ?_)
   ·
    have h2 := nT h2
    have h2 : xs[k] ≠ ys[k] := h2
    refine cx_seq (cx_ops ?_)
    refine ax_q (q_mov rfl) ?_
    refine ax_nil (cx_keep rfl rfl ?_)
    refine cx_ret (ret0 rfl rfl ?_)
    exact ⟨congrArg AM.bool (eqbL_no h1x h1y (eqb_f h2)).symm, rfl⟩
   ·
    have h2 := nF h2
    have h2 : xs[k] = ys[k] := h2
    refine cx_skip ?_
    refine cx_keep rfl rfl (cx_ops ?_)
    refine ax_q (q_mov rfl) ?_
    refine ax_q (q_add rfl rfl (by omega)) ?_
    refine ax_q (q_mov rfl) ?_
    refine ax_nil ?_
    exact ⟨_, k + 1, by omega, ⟨by omega, rfl, take_step h1x h1y ht h2⟩, by repeat constructor⟩
  ·
   have h1 := dF h1
   refine cx_exit rfl ?_
   refine cx_keep rfl rfl (cx_seq (cx_ops ?_))
   refine ax_q (q_mov rfl) ?_
   refine ax_nil (cx_keep rfl rfl ?_)
   refine cx_ret (ret0 rfl rfl ?_)
   exact ⟨congrArg AM.bool (eqb_t (eq_of_take hl (by rwa [show k = xs.length from by omega] at ht))).symm, rfl⟩


/- loop.example/g00332/laws.eqPending -/
def k_c_eqPending : XCode :=
 .seq (.ops [.op (some 2) (.box (.t 0)),
   .op (some 3) (.box (.t 1)),
   .op (some 4) (.mov (.k (.bool false)))])
 (.keep [2, 3] (.seq (.seq (.ops [.op (some 5) (.fadr (.t 2) 0),
   .op (some 6) (.load1 (.t 5)),
   .op (some 7) (.fadr (.t 3) 0),
   .op (some 8) (.load1 (.t 7)),
   .op (some 9) (.bin .neq (.t 6) (.t 8))])
  (.keep [2, 3, 9] (.cond (.t 9)
  (.seq (.ops [.op (some 4) (.mov (.k (.bool false)))])
   (.keep [4] (.ret)))
  (.skip))))
 (.keep [2, 3] (.seq (.seq (.ops [.op (some 10) (.fadr (.t 2) 1),
   .op (some 11) (.load1 (.t 10)),
   .op (some 12) (.fadr (.t 3) 1),
   .op (some 13) (.load1 (.t 12)),
   .op (some 14) (.bin .neq (.t 11) (.t 13))])
  (.keep [14] (.cond (.t 14)
  (.seq (.ops [.op (some 4) (.mov (.k (.bool false)))])
   (.keep [4] (.ret)))
  (.skip))))
 (.keep [] (.seq (.ops [.op (some 4) (.mov (.k (.bool true)))])
 (.keep [4] (.ret))))))))
theorem k_c_eqPending_fits : fitsF Tryz.prog 194 ⟨15, k_c_eqPending, [.t 4]⟩ = true := by kernel_rfl
theorem c_eqPending {a b : GPending}  : Con Tryz.prog noMv 194 [a.av, b.av] [] (fun r h => r = bool (eqb a b) ∧ h = []) := by
 refine con_of2 k_c_eqPending_fits rfl fun C hP hmv => ?_
 unfold k_c_eqPending
 refine cx_seq (cx_ops ?_)
 refine ax_e (e_box rfl rfl (by decide) rfl rfl rfl) ?_
 refine ax_e (e_box rfl rfl (by decide) rfl rfl rfl) ?_
 refine ax_q (q_mov rfl) ?_
 refine ax_nil (cx_keep rfl rfl (cx_seq (cx_seq (cx_ops ?_))))
 refine ax_q (q_fadr_ptr rfl) ?_
 refine ax_q (q_load1_ptr rfl rfl rfl) ?_
 refine ax_q (q_fadr_ptr rfl) ?_
 refine ax_q (q_load1_ptr rfl rfl rfl) ?_
 refine ax_q (q_ibin rfl rfl rfl) ?_
 refine ax_nil (cx_keep rfl rfl ?_)
 refine cx_cond rfl (fun h0 => ?_) (fun h0 => ?_)
 ·
  have h0 := nT h0
  refine cx_seq (cx_ops ?_)
  refine ax_q (q_mov rfl) ?_
  refine ax_nil (cx_keep rfl rfl ?_)
  refine cx_ret (ret0 rfl rfl ?_)
  exact ⟨congrArg AM.bool (eqb_f (fun h => h0 (by rw [h]))).symm, rfl⟩
 ·
  have h0 := nF h0
  refine cx_skip ?_
  refine cx_keep rfl rfl (cx_seq (cx_seq (cx_ops ?_)))
  refine ax_q (q_fadr_ptr rfl) ?_
  refine ax_q (q_load1_ptr rfl rfl rfl) ?_
  refine ax_q (q_fadr_ptr rfl) ?_
  refine ax_q (q_load1_ptr rfl rfl rfl) ?_
  refine ax_q (q_sbin rfl rfl rfl) ?_
  refine ax_nil (cx_keep rfl rfl ?_)
  refine cx_cond rfl (fun h1 => ?_) (fun h1 => ?_)
  ·
   have h1 := nT h1
   refine cx_seq (cx_ops ?_)
   refine ax_q (q_mov rfl) ?_
   refine ax_nil (cx_keep rfl rfl ?_)
   refine cx_ret (ret0 rfl rfl ?_)
   exact ⟨congrArg AM.bool (eqb_f (fun h => h1 (by rw [h]))).symm, rfl⟩
  ·
   have h1 := nF h1
   refine cx_skip ?_
   refine cx_keep rfl rfl (cx_seq (cx_ops ?_))
   refine ax_q (q_mov rfl) ?_
   refine ax_nil (cx_keep rfl rfl ?_)
   refine cx_ret (ret0 rfl rfl ?_)
   exact ⟨congrArg AM.bool (eqb_t (GPending.ext1 h0 h1)).symm, rfl⟩


/- loop.example/g00332/laws.eqPendingS -/
def k_c_eqPendingS : XCode :=
 .seq (.ops [.op (some 4) (.mov (.k (.bool false)))])
 (.keep [0, 1] (.seq (.seq (.ops [.op (some 6) (.mov (.t 0)),
   .op (some 7) (.lenS (.t 6)),
   .op (some 8) (.mov (.t 1)),
   .op (some 9) (.lenS (.t 8)),
   .op (some 10) (.bin .neq (.t 7) (.t 9))])
  (.keep [0, 1, 10] (.cond (.t 10)
  (.seq (.ops [.op (some 4) (.mov (.k (.bool false)))])
   (.keep [4] (.ret)))
  (.skip))))
 (.keep [0, 1] (.seq (.seq (.ops [.op (some 5) (.mov (.k (.int .i64 0)))])
  (.keep [0, 1, 5] (.block 0 (.loop (.seq (.seq (.ops [.op (some 11) (.mov (.t 5)),
     .op (some 12) (.mov (.t 0)),
     .op (some 13) (.lenS (.t 12)),
     .op (some 14) (.bin .lss (.t 11) (.t 13))])
   (.keep [0, 1, 5, 14] (.cond (.t 14)
    (.skip)
    (.exit 0))))
   (.keep [0, 1, 5] (.seq (.block 1 (.seq (.draw [.op (some 17) (.mov (.t 0)),
     .op (some 18) (.mov (.t 5)),
     .op (some 19) (.iadr 2 (.t 17) (.t 18)),
     .op (some 20) (.loadN 2 (.t 19)),
     .op (some 21) (.mov (.t 1)),
     .op (some 22) (.mov (.t 5)),
     .op (some 23) (.iadr 2 (.t 21) (.t 22)),
     .op (some 24) (.loadN 2 (.t 23)),
     .call (some 25) 194 [.t 20, .t 24],
     .op (some 26) (.not (.t 25))])
    (.keep [0, 1, 5, 26] (.cond (.t 26)
    (.seq (.ops [.op (some 4) (.mov (.k (.bool false)))])
     (.keep [4] (.ret)))
    (.skip)))))
   (.keep [0, 1, 5] (.ops [.op (some 15) (.mov (.t 5)),
    .op (some 16) (.bin .add (.t 15) (.k (.int .i64 1))),
    .op (some 5) (.mov (.t 16))])))))))))
 (.keep [] (.seq (.ops [.op (some 4) (.mov (.k (.bool true)))])
 (.keep [4] (.ret))))))))
theorem k_c_eqPendingS_fits : fitsF Tryz.prog 117 ⟨27, k_c_eqPendingS, [.t 4]⟩ = true := by kernel_rfl
theorem c_eqPendingS {xs ys : List GPending} (hw : xs.length ≤ 9223372036854775807) : Con Tryz.prog noMv 117 [.d (.sl 2 (xs.map GPending.row)), .d (.sl 2 (ys.map GPending.row))] [] (fun r h => r = bool (eqb xs ys) ∧ h = []) := by
 refine con_of2 k_c_eqPendingS_fits rfl fun C hP hmv => ?_
 unfold k_c_eqPendingS
 refine cx_seq (cx_ops ?_)
 refine ax_q (q_mov rfl) ?_
 refine ax_nil (cx_keep rfl rfl (cx_seq (cx_seq (cx_ops ?_))))
 refine ax_q (q_mov rfl) ?_
 refine ax_q (q_lenS_map rfl) ?_
 refine ax_q (q_mov rfl) ?_
 refine ax_q (q_lenS_map rfl) ?_
 refine ax_q (q_ibin rfl rfl rfl) ?_
 refine ax_nil (cx_keep rfl rfl ?_)
 refine cx_cond rfl (fun h0 => ?_) (fun h0 => ?_)
 ·
  have h0 := nT h0
  refine cx_seq (cx_ops ?_)
  refine ax_q (q_mov rfl) ?_
  refine ax_nil (cx_keep rfl rfl ?_)
  refine cx_ret (ret0 rfl rfl ?_)
  exact ⟨congrArg AM.bool (eqb_f (fun h => h0 (by rw [h]))).symm, rfl⟩
 ·
  have h0 := nF h0
  refine cx_skip ?_
  refine cx_keep rfl rfl (cx_seq (cx_seq (cx_ops ?_)))
  refine ax_q (q_mov rfl) ?_
  refine ax_nil (cx_keep rfl rfl (cx_block ?_))
  have hl : xs.length = ys.length := by omega
  refine cx_loopU (fun n k => k ≤ xs.length ∧ n = xs.length - k ∧ xs.take k = ys.take k) (fun k : Nat => [(5, int k)]) (fun _ => []) ⟨_, 0, ⟨Nat.zero_le _, rfl, rfl⟩, by repeat constructor⟩ ?_
  rintro n k ⟨hk, rfl, ht⟩
  refine cx_seq (cx_seq (cx_ops ?_))
  refine ax_q (q_mov rfl) ?_
  refine ax_q (q_mov rfl) ?_
  refine ax_q (q_lenS_map rfl) ?_
  refine ax_q (q_ibin rfl rfl rfl) ?_
  refine ax_nil (cx_keep rfl rfl ?_)
  refine cx_cond rfl (fun h1 => ?_) (fun h1 => ?_)
  ·
   have h1 := dT h1
   have h1x : k < xs.length := by omega
   have h1y : k < ys.length := by omega
   refine cx_skip ?_
   refine cx_keep rfl rfl (cx_seq (cx_block (cx_seq (cx_draw ?_))))
   refine ax_q (q_mov rfl) ?_
   refine ax_q (q_mov rfl) ?_
   refine ax_q (q_ix rfl rfl (mapAt h1x)) ?_
   first | refine ax_q (q_ldN rfl rfl rfl) ?_ | refine ax_q (q_loadN_ip rfl (Nat.le_refl _)) ?_
   refine ax_q (q_mov rfl) ?_
   refine ax_q (q_mov rfl) ?_
   refine ax_q (q_ix rfl rfl (mapAt h1y)) ?_
   first | refine ax_q (q_ldN rfl rfl rfl) ?_ | refine ax_q (q_loadN_ip rfl (Nat.le_refl _)) ?_
   refine ax_callq rfl (c_eqPending) hP (lal_id _ rfl) rfl ?_
   refine ax_q (q_not rfl) ?_
   refine ax_nil (cx_keep rfl rfl ?_)
   refine cx_cond rfl (fun h2 => ?_) (fun h2 => ?_)
   ·
    have h2 := bT h2
    refine cx_seq (cx_ops ?_)
    refine ax_q (q_mov rfl) ?_
    refine ax_nil (cx_keep rfl rfl ?_)
    refine cx_ret (ret0 rfl rfl ?_)
    exact ⟨congrArg AM.bool (eqbL_no h1x h1y h2).symm, rfl⟩
   ·
    have h2 := bF h2
    refine cx_skip ?_
    refine cx_keep rfl rfl (cx_ops ?_)
    refine ax_q (q_mov rfl) ?_
    refine ax_q (q_add rfl rfl (by omega)) ?_
    refine ax_q (q_mov rfl) ?_
    refine ax_nil ?_
    exact ⟨_, k + 1, by omega, ⟨by omega, rfl, eqbL_step h1x h1y ht h2⟩, by repeat constructor⟩
  ·
   have h1 := dF h1
   refine cx_exit rfl ?_
   refine cx_keep rfl rfl (cx_seq (cx_ops ?_))
   refine ax_q (q_mov rfl) ?_
   refine ax_nil (cx_keep rfl rfl ?_)
   refine cx_ret (ret0 rfl rfl ?_)
   exact ⟨congrArg AM.bool (eqb_t (eq_of_take hl (by rwa [show k = xs.length from by omega] at ht))).symm, rfl⟩


/- loop.example/g00332/laws.eqDisk -/
def k_c_eqDisk : XCode :=
 .seq (.ops [.op (some 2) (.box (.t 0)),
   .op (some 3) (.box (.t 1)),
   .op (some 4) (.mov (.k (.bool false)))])
 (.keep [2, 3] (.seq (.seq (.ops [.op (some 5) (.fadr (.t 2) 0),
   .op (some 6) (.load1 (.t 5)),
   .op (some 7) (.fadr (.t 3) 0),
   .op (some 8) (.load1 (.t 7)),
   .call (some 9) 116 [.t 6, .t 8],
   .op (some 10) (.not (.t 9))])
  (.keep [2, 3, 10] (.cond (.t 10)
  (.seq (.ops [.op (some 4) (.mov (.k (.bool false)))])
   (.keep [4] (.ret)))
  (.skip))))
 (.keep [2, 3] (.seq (.seq (.ops [.op (some 11) (.fadr (.t 2) 1),
   .op (some 12) (.load1 (.t 11)),
   .op (some 13) (.fadr (.t 3) 1),
   .op (some 14) (.load1 (.t 13)),
   .call (some 15) 117 [.t 12, .t 14],
   .op (some 16) (.not (.t 15))])
  (.keep [2, 3, 16] (.cond (.t 16)
  (.seq (.ops [.op (some 4) (.mov (.k (.bool false)))])
   (.keep [4] (.ret)))
  (.skip))))
 (.keep [2, 3] (.seq (.seq (.ops [.op (some 17) (.fadr (.t 2) 2),
   .op (some 18) (.load1 (.t 17)),
   .op (some 19) (.fadr (.t 3) 2),
   .op (some 20) (.load1 (.t 19)),
   .op (some 21) (.eqb true (.t 18) (.t 20))])
  (.keep [2, 3, 21] (.cond (.t 21)
  (.seq (.ops [.op (some 4) (.mov (.k (.bool false)))])
   (.keep [4] (.ret)))
  (.skip))))
 (.keep [2, 3] (.seq (.seq (.ops [.op (some 22) (.fadr (.t 2) 3),
   .op (some 23) (.load1 (.t 22)),
   .op (some 24) (.fadr (.t 3) 3),
   .op (some 25) (.load1 (.t 24)),
   .call (some 26) 18 [.t 23, .t 25],
   .op (some 27) (.not (.t 26))])
  (.keep [27] (.cond (.t 27)
  (.seq (.ops [.op (some 4) (.mov (.k (.bool false)))])
   (.keep [4] (.ret)))
  (.skip))))
 (.keep [] (.seq (.ops [.op (some 4) (.mov (.k (.bool true)))])
 (.keep [4] (.ret))))))))))))
theorem k_c_eqDisk_fits : fitsF Tryz.prog 55 ⟨28, k_c_eqDisk, [.t 4]⟩ = true := by kernel_rfl
theorem c_eqDisk {a b : GDisk} (hw0 : a.Sectors.length ≤ 9223372036854775807) (hw1 : a.Cache.length ≤ 9223372036854775807) (hw2 : a.Keep.length ≤ 9223372036854775807) : Con Tryz.prog noMv 55 [a.av, b.av] [] (fun r h => r = bool (eqb a b) ∧ h = []) := by
 refine con_of2 k_c_eqDisk_fits rfl fun C hP hmv => ?_
 unfold k_c_eqDisk
 refine cx_seq (cx_ops ?_)
 refine ax_e (e_box rfl rfl (by decide) rfl rfl rfl) ?_
 refine ax_e (e_box rfl rfl (by decide) rfl rfl rfl) ?_
 refine ax_q (q_mov rfl) ?_
 refine ax_nil (cx_keep rfl rfl (cx_seq (cx_seq (cx_ops ?_))))
 refine ax_q (q_fadr_ptr rfl) ?_
 refine ax_q (q_load1_ptr rfl rfl rfl) ?_
 refine ax_q (q_fadr_ptr rfl) ?_
 refine ax_q (q_load1_ptr rfl rfl rfl) ?_
 refine ax_call rfl (vc_pure0 (c_eqStringS  ?_) hP rfl rfl ?_)
 ·
  assumption
 refine ax_q (q_not rfl) ?_
 refine ax_nil (cx_keep rfl rfl ?_)
 refine cx_cond rfl (fun h0 => ?_) (fun h0 => ?_)
 ·
  have h0 := bT h0
  refine cx_seq (cx_ops ?_)
  refine ax_q (q_mov rfl) ?_
  refine ax_nil (cx_keep rfl rfl ?_)
  refine cx_ret (ret0 rfl rfl ?_)
  exact ⟨congrArg AM.bool (eqb_f (fun h => by rw [h, eqb_rfl] at h0; cases h0)).symm, rfl⟩
 ·
  have h0 := bF h0
  refine cx_skip ?_
  refine cx_keep rfl rfl (cx_seq (cx_seq (cx_ops ?_)))
  refine ax_q (q_fadr_ptr rfl) ?_
  refine ax_q (q_load1_ptr rfl rfl rfl) ?_
  refine ax_q (q_fadr_ptr rfl) ?_
  refine ax_q (q_load1_ptr rfl rfl rfl) ?_
  refine ax_call rfl (vc_pure0 (c_eqPendingS  ?_) hP rfl rfl ?_)
  ·
   assumption
  refine ax_q (q_not rfl) ?_
  refine ax_nil (cx_keep rfl rfl ?_)
  refine cx_cond rfl (fun h1 => ?_) (fun h1 => ?_)
  ·
   have h1 := bT h1
   refine cx_seq (cx_ops ?_)
   refine ax_q (q_mov rfl) ?_
   refine ax_nil (cx_keep rfl rfl ?_)
   refine cx_ret (ret0 rfl rfl ?_)
   exact ⟨congrArg AM.bool (eqb_f (fun h => by rw [h, eqb_rfl] at h1; cases h1)).symm, rfl⟩
  ·
   have h1 := bF h1
   refine cx_skip ?_
   refine cx_keep rfl rfl (cx_seq (cx_seq (cx_ops ?_)))
   refine ax_q (q_fadr_ptr rfl) ?_
   refine ax_q (q_load1_ptr rfl rfl rfl) ?_
   refine ax_q (q_fadr_ptr rfl) ?_
   refine ax_q (q_load1_ptr rfl rfl rfl) ?_
   refine ax_q (q_eqb rfl rfl) ?_
   refine ax_nil (cx_keep rfl rfl ?_)
   refine cx_cond rfl (fun h2 => ?_) (fun h2 => ?_)
   ·
    have h2 := bneT h2
    refine cx_seq (cx_ops ?_)
    refine ax_q (q_mov rfl) ?_
    refine ax_nil (cx_keep rfl rfl ?_)
    refine cx_ret (ret0 rfl rfl ?_)
    exact ⟨congrArg AM.bool (eqb_f (fun h => h2 (by rw [h]))).symm, rfl⟩
   ·
    have h2 := bneF h2
    refine cx_skip ?_
    refine cx_keep rfl rfl (cx_seq (cx_seq (cx_ops ?_)))
    refine ax_q (q_fadr_ptr rfl) ?_
    refine ax_q (q_load1_ptr rfl rfl rfl) ?_
    refine ax_q (q_fadr_ptr rfl) ?_
    refine ax_q (q_load1_ptr rfl rfl rfl) ?_
    refine ax_call rfl (vc_pure0 (c_eqIntS  ?_) hP rfl rfl ?_)
    ·
     assumption
    refine ax_q (q_not rfl) ?_
    refine ax_nil (cx_keep rfl rfl ?_)
    refine cx_cond rfl (fun h3 => ?_) (fun h3 => ?_)
    ·
     have h3 := bT h3
     refine cx_seq (cx_ops ?_)
     refine ax_q (q_mov rfl) ?_
     refine ax_nil (cx_keep rfl rfl ?_)
     refine cx_ret (ret0 rfl rfl ?_)
     exact ⟨congrArg AM.bool (eqb_f (fun h => by rw [h, eqb_rfl] at h3; cases h3)).symm, rfl⟩
    ·
     have h3 := bF h3
     refine cx_skip ?_
     refine cx_keep rfl rfl (cx_seq (cx_ops ?_))
     refine ax_q (q_mov rfl) ?_
     refine ax_nil (cx_keep rfl rfl ?_)
     refine cx_ret (ret0 rfl rfl ?_)
     exact ⟨congrArg AM.bool (eqb_t (GDisk.ext1 (eqb_iff.1 h0) (eqb_iff.1 h1) h2 (eqb_iff.1 h3))).symm, rfl⟩


/- loop.example/g00332/laws.eqLogRecord -/
def k_c_eqLogRecord : XCode :=
 .seq (.ops [.op (some 2) (.box (.t 0)),
   .op (some 3) (.box (.t 1)),
   .op (some 4) (.mov (.k (.bool false)))])
 (.keep [2, 3] (.seq (.seq (.ops [.op (some 5) (.fadr (.t 2) 0),
   .op (some 6) (.load1 (.t 5)),
   .op (some 7) (.fadr (.t 3) 0),
   .op (some 8) (.load1 (.t 7)),
   .op (some 9) (.bin .neq (.t 6) (.t 8))])
  (.keep [2, 3, 9] (.cond (.t 9)
  (.seq (.ops [.op (some 4) (.mov (.k (.bool false)))])
   (.keep [4] (.ret)))
  (.skip))))
 (.keep [2, 3] (.seq (.seq (.ops [.op (some 10) (.fadr (.t 2) 1),
   .op (some 11) (.load1 (.t 10)),
   .op (some 12) (.fadr (.t 3) 1),
   .op (some 13) (.load1 (.t 12)),
   .op (some 14) (.bin .neq (.t 11) (.t 13))])
  (.keep [2, 3, 14] (.cond (.t 14)
  (.seq (.ops [.op (some 4) (.mov (.k (.bool false)))])
   (.keep [4] (.ret)))
  (.skip))))
 (.keep [2, 3] (.seq (.seq (.ops [.op (some 15) (.fadr (.t 2) 2),
   .op (some 16) (.load1 (.t 15)),
   .op (some 17) (.fadr (.t 3) 2),
   .op (some 18) (.load1 (.t 17)),
   .op (some 19) (.bin .neq (.t 16) (.t 18))])
  (.keep [2, 3, 19] (.cond (.t 19)
  (.seq (.ops [.op (some 4) (.mov (.k (.bool false)))])
   (.keep [4] (.ret)))
  (.skip))))
 (.keep [2, 3] (.seq (.seq (.ops [.op (some 20) (.fadr (.t 2) 3),
   .op (some 21) (.load1 (.t 20)),
   .op (some 22) (.fadr (.t 3) 3),
   .op (some 23) (.load1 (.t 22)),
   .op (some 24) (.bin .neq (.t 21) (.t 23))])
  (.keep [2, 3, 24] (.cond (.t 24)
  (.seq (.ops [.op (some 4) (.mov (.k (.bool false)))])
   (.keep [4] (.ret)))
  (.skip))))
 (.keep [2, 3] (.seq (.seq (.ops [.op (some 25) (.fadr (.t 2) 4),
   .op (some 26) (.load1 (.t 25)),
   .op (some 27) (.fadr (.t 3) 4),
   .op (some 28) (.load1 (.t 27)),
   .op (some 29) (.bin .neq (.t 26) (.t 28))])
  (.keep [2, 3, 29] (.cond (.t 29)
  (.seq (.ops [.op (some 4) (.mov (.k (.bool false)))])
   (.keep [4] (.ret)))
  (.skip))))
 (.keep [2, 3] (.seq (.seq (.ops [.op (some 30) (.fadr (.t 2) 5),
   .op (some 31) (.load1 (.t 30)),
   .op (some 32) (.fadr (.t 3) 5),
   .op (some 33) (.load1 (.t 32)),
   .op (some 34) (.bin .neq (.t 31) (.t 33))])
  (.keep [2, 3, 34] (.cond (.t 34)
  (.seq (.ops [.op (some 4) (.mov (.k (.bool false)))])
   (.keep [4] (.ret)))
  (.skip))))
 (.keep [2, 3] (.seq (.seq (.ops [.op (some 35) (.fadr (.t 2) 6),
   .op (some 36) (.load1 (.t 35)),
   .op (some 37) (.fadr (.t 3) 6),
   .op (some 38) (.load1 (.t 37)),
   .op (some 39) (.bin .neq (.t 36) (.t 38))])
  (.keep [2, 3, 39] (.cond (.t 39)
  (.seq (.ops [.op (some 4) (.mov (.k (.bool false)))])
   (.keep [4] (.ret)))
  (.skip))))
 (.keep [2, 3] (.seq (.seq (.ops [.op (some 40) (.fadr (.t 2) 7),
   .op (some 41) (.load1 (.t 40)),
   .op (some 42) (.fadr (.t 3) 7),
   .op (some 43) (.load1 (.t 42)),
   .op (some 44) (.bin .neq (.t 41) (.t 43))])
  (.keep [2, 3, 44] (.cond (.t 44)
  (.seq (.ops [.op (some 4) (.mov (.k (.bool false)))])
   (.keep [4] (.ret)))
  (.skip))))
 (.keep [2, 3] (.seq (.seq (.ops [.op (some 45) (.fadr (.t 2) 8),
   .op (some 46) (.load1 (.t 45)),
   .op (some 47) (.fadr (.t 3) 8),
   .op (some 48) (.load1 (.t 47)),
   .op (some 49) (.bin .neq (.t 46) (.t 48))])
  (.keep [2, 3, 49] (.cond (.t 49)
  (.seq (.ops [.op (some 4) (.mov (.k (.bool false)))])
   (.keep [4] (.ret)))
  (.skip))))
 (.keep [2, 3] (.seq (.seq (.ops [.op (some 50) (.fadr (.t 2) 9),
   .op (some 51) (.load1 (.t 50)),
   .op (some 52) (.fadr (.t 3) 9),
   .op (some 53) (.load1 (.t 52)),
   .op (some 54) (.bin .neq (.t 51) (.t 53))])
  (.keep [54] (.cond (.t 54)
  (.seq (.ops [.op (some 4) (.mov (.k (.bool false)))])
   (.keep [4] (.ret)))
  (.skip))))
 (.keep [] (.seq (.ops [.op (some 4) (.mov (.k (.bool true)))])
 (.keep [4] (.ret))))))))))))))))))))))))
theorem k_c_eqLogRecord_fits : fitsF Tryz.prog 118 ⟨55, k_c_eqLogRecord, [.t 4]⟩ = true := by kernel_rfl
theorem c_eqLogRecord {a b : GLogRecord}  : Con Tryz.prog noMv 118 [a.av, b.av] [] (fun r h => r = bool (eqb a b) ∧ h = []) := by
 refine con_of2 k_c_eqLogRecord_fits rfl fun C hP hmv => ?_
 unfold k_c_eqLogRecord
 refine cx_seq (cx_ops ?_)
 refine ax_e (e_box rfl rfl (by decide) rfl rfl rfl) ?_
 refine ax_e (e_box rfl rfl (by decide) rfl rfl rfl) ?_
 refine ax_q (q_mov rfl) ?_
 refine ax_nil (cx_keep rfl rfl (cx_seq (cx_seq (cx_ops ?_))))
 refine ax_q (q_fadr_ptr rfl) ?_
 refine ax_q (q_load1_ptr rfl rfl rfl) ?_
 refine ax_q (q_fadr_ptr rfl) ?_
 refine ax_q (q_load1_ptr rfl rfl rfl) ?_
 refine ax_q (q_ibin rfl rfl rfl) ?_
 refine ax_nil (cx_keep rfl rfl ?_)
 refine cx_cond rfl (fun h0 => ?_) (fun h0 => ?_)
 ·
  have h0 := nT h0
  refine cx_seq (cx_ops ?_)
  refine ax_q (q_mov rfl) ?_
  refine ax_nil (cx_keep rfl rfl ?_)
  refine cx_ret (ret0 rfl rfl ?_)
  exact ⟨congrArg AM.bool (eqb_f (fun h => h0 (by rw [h]))).symm, rfl⟩
 ·
  have h0 := nF h0
  refine cx_skip ?_
  refine cx_keep rfl rfl (cx_seq (cx_seq (cx_ops ?_)))
  refine ax_q (q_fadr_ptr rfl) ?_
  refine ax_q (q_load1_ptr rfl rfl rfl) ?_
  refine ax_q (q_fadr_ptr rfl) ?_
  refine ax_q (q_load1_ptr rfl rfl rfl) ?_
  refine ax_q (q_ibin rfl rfl rfl) ?_
  refine ax_nil (cx_keep rfl rfl ?_)
  refine cx_cond rfl (fun h1 => ?_) (fun h1 => ?_)
  ·
   have h1 := nT h1
   refine cx_seq (cx_ops ?_)
   refine ax_q (q_mov rfl) ?_
   refine ax_nil (cx_keep rfl rfl ?_)
   refine cx_ret (ret0 rfl rfl ?_)
   exact ⟨congrArg AM.bool (eqb_f (fun h => h1 (by rw [h]))).symm, rfl⟩
  ·
   have h1 := nF h1
   refine cx_skip ?_
   refine cx_keep rfl rfl (cx_seq (cx_seq (cx_ops ?_)))
   refine ax_q (q_fadr_ptr rfl) ?_
   refine ax_q (q_load1_ptr rfl rfl rfl) ?_
   refine ax_q (q_fadr_ptr rfl) ?_
   refine ax_q (q_load1_ptr rfl rfl rfl) ?_
   refine ax_q (q_ibin rfl rfl rfl) ?_
   refine ax_nil (cx_keep rfl rfl ?_)
   refine cx_cond rfl (fun h2 => ?_) (fun h2 => ?_)
   ·
    have h2 := nT h2
    refine cx_seq (cx_ops ?_)
    refine ax_q (q_mov rfl) ?_
    refine ax_nil (cx_keep rfl rfl ?_)
    refine cx_ret (ret0 rfl rfl ?_)
    exact ⟨congrArg AM.bool (eqb_f (fun h => h2 (by rw [h]))).symm, rfl⟩
   ·
    have h2 := nF h2
    refine cx_skip ?_
    refine cx_keep rfl rfl (cx_seq (cx_seq (cx_ops ?_)))
    refine ax_q (q_fadr_ptr rfl) ?_
    refine ax_q (q_load1_ptr rfl rfl rfl) ?_
    refine ax_q (q_fadr_ptr rfl) ?_
    refine ax_q (q_load1_ptr rfl rfl rfl) ?_
    refine ax_q (q_ibin rfl rfl rfl) ?_
    refine ax_nil (cx_keep rfl rfl ?_)
    refine cx_cond rfl (fun h3 => ?_) (fun h3 => ?_)
    ·
     have h3 := nT h3
     refine cx_seq (cx_ops ?_)
     refine ax_q (q_mov rfl) ?_
     refine ax_nil (cx_keep rfl rfl ?_)
     refine cx_ret (ret0 rfl rfl ?_)
     exact ⟨congrArg AM.bool (eqb_f (fun h => h3 (by rw [h]))).symm, rfl⟩
    ·
     have h3 := nF h3
     refine cx_skip ?_
     refine cx_keep rfl rfl (cx_seq (cx_seq (cx_ops ?_)))
     refine ax_q (q_fadr_ptr rfl) ?_
     refine ax_q (q_load1_ptr rfl rfl rfl) ?_
     refine ax_q (q_fadr_ptr rfl) ?_
     refine ax_q (q_load1_ptr rfl rfl rfl) ?_
     refine ax_q (q_ibin rfl rfl rfl) ?_
     refine ax_nil (cx_keep rfl rfl ?_)
     refine cx_cond rfl (fun h4 => ?_) (fun h4 => ?_)
     ·
      have h4 := nT h4
      refine cx_seq (cx_ops ?_)
      refine ax_q (q_mov rfl) ?_
      refine ax_nil (cx_keep rfl rfl ?_)
      refine cx_ret (ret0 rfl rfl ?_)
      exact ⟨congrArg AM.bool (eqb_f (fun h => h4 (by rw [h]))).symm, rfl⟩
     ·
      have h4 := nF h4
      refine cx_skip ?_
      refine cx_keep rfl rfl (cx_seq (cx_seq (cx_ops ?_)))
      refine ax_q (q_fadr_ptr rfl) ?_
      refine ax_q (q_load1_ptr rfl rfl rfl) ?_
      refine ax_q (q_fadr_ptr rfl) ?_
      refine ax_q (q_load1_ptr rfl rfl rfl) ?_
      refine ax_q (q_ibin rfl rfl rfl) ?_
      refine ax_nil (cx_keep rfl rfl ?_)
      refine cx_cond rfl (fun h5 => ?_) (fun h5 => ?_)
      ·
       have h5 := nT h5
       refine cx_seq (cx_ops ?_)
       refine ax_q (q_mov rfl) ?_
       refine ax_nil (cx_keep rfl rfl ?_)
       refine cx_ret (ret0 rfl rfl ?_)
       exact ⟨congrArg AM.bool (eqb_f (fun h => h5 (by rw [h]))).symm, rfl⟩
      ·
       have h5 := nF h5
       refine cx_skip ?_
       refine cx_keep rfl rfl (cx_seq (cx_seq (cx_ops ?_)))
       refine ax_q (q_fadr_ptr rfl) ?_
       refine ax_q (q_load1_ptr rfl rfl rfl) ?_
       refine ax_q (q_fadr_ptr rfl) ?_
       refine ax_q (q_load1_ptr rfl rfl rfl) ?_
       refine ax_q (q_ibin rfl rfl rfl) ?_
       refine ax_nil (cx_keep rfl rfl ?_)
       refine cx_cond rfl (fun h6 => ?_) (fun h6 => ?_)
       ·
        have h6 := nT h6
        refine cx_seq (cx_ops ?_)
        refine ax_q (q_mov rfl) ?_
        refine ax_nil (cx_keep rfl rfl ?_)
        refine cx_ret (ret0 rfl rfl ?_)
        exact ⟨congrArg AM.bool (eqb_f (fun h => h6 (by rw [h]))).symm, rfl⟩
       ·
        have h6 := nF h6
        refine cx_skip ?_
        refine cx_keep rfl rfl (cx_seq (cx_seq (cx_ops ?_)))
        refine ax_q (q_fadr_ptr rfl) ?_
        refine ax_q (q_load1_ptr rfl rfl rfl) ?_
        refine ax_q (q_fadr_ptr rfl) ?_
        refine ax_q (q_load1_ptr rfl rfl rfl) ?_
        refine ax_q (q_ibin rfl rfl rfl) ?_
        refine ax_nil (cx_keep rfl rfl ?_)
        refine cx_cond rfl (fun h7 => ?_) (fun h7 => ?_)
        ·
         have h7 := nT h7
         refine cx_seq (cx_ops ?_)
         refine ax_q (q_mov rfl) ?_
         refine ax_nil (cx_keep rfl rfl ?_)
         refine cx_ret (ret0 rfl rfl ?_)
         exact ⟨congrArg AM.bool (eqb_f (fun h => h7 (by rw [h]))).symm, rfl⟩
        ·
         have h7 := nF h7
         refine cx_skip ?_
         refine cx_keep rfl rfl (cx_seq (cx_seq (cx_ops ?_)))
         refine ax_q (q_fadr_ptr rfl) ?_
         refine ax_q (q_load1_ptr rfl rfl rfl) ?_
         refine ax_q (q_fadr_ptr rfl) ?_
         refine ax_q (q_load1_ptr rfl rfl rfl) ?_
         refine ax_q (q_sbin rfl rfl rfl) ?_
         refine ax_nil (cx_keep rfl rfl ?_)
         refine cx_cond rfl (fun h8 => ?_) (fun h8 => ?_)
         ·
          have h8 := nT h8
          refine cx_seq (cx_ops ?_)
          refine ax_q (q_mov rfl) ?_
          refine ax_nil (cx_keep rfl rfl ?_)
          refine cx_ret (ret0 rfl rfl ?_)
          exact ⟨congrArg AM.bool (eqb_f (fun h => h8 (by rw [h]))).symm, rfl⟩
         ·
          have h8 := nF h8
          refine cx_skip ?_
          refine cx_keep rfl rfl (cx_seq (cx_seq (cx_ops ?_)))
          refine ax_q (q_fadr_ptr rfl) ?_
          refine ax_q (q_load1_ptr rfl rfl rfl) ?_
          refine ax_q (q_fadr_ptr rfl) ?_
          refine ax_q (q_load1_ptr rfl rfl rfl) ?_
          refine ax_q (q_sbin rfl rfl rfl) ?_
          refine ax_nil (cx_keep rfl rfl ?_)
          refine cx_cond rfl (fun h9 => ?_) (fun h9 => ?_)
          ·
           have h9 := nT h9
           refine cx_seq (cx_ops ?_)
           refine ax_q (q_mov rfl) ?_
           refine ax_nil (cx_keep rfl rfl ?_)
           refine cx_ret (ret0 rfl rfl ?_)
           exact ⟨congrArg AM.bool (eqb_f (fun h => h9 (by rw [h]))).symm, rfl⟩
          ·
           have h9 := nF h9
           refine cx_skip ?_
           refine cx_keep rfl rfl (cx_seq (cx_ops ?_))
           refine ax_q (q_mov rfl) ?_
           refine ax_nil (cx_keep rfl rfl ?_)
           refine cx_ret (ret0 rfl rfl ?_)
           exact ⟨congrArg AM.bool (eqb_t (GLogRecord.ext1 h0 h1 h2 h3 h4 h5 h6 h7 h8 h9)).symm, rfl⟩


/- loop.example/g00332/laws.eqLogRecordS -/
def k_c_eqLogRecordS : XCode :=
 .seq (.ops [.op (some 4) (.mov (.k (.bool false)))])
 (.keep [0, 1] (.seq (.seq (.ops [.op (some 6) (.mov (.t 0)),
   .op (some 7) (.lenS (.t 6)),
   .op (some 8) (.mov (.t 1)),
   .op (some 9) (.lenS (.t 8)),
   .op (some 10) (.bin .neq (.t 7) (.t 9))])
  (.keep [0, 1, 10] (.cond (.t 10)
  (.seq (.ops [.op (some 4) (.mov (.k (.bool false)))])
   (.keep [4] (.ret)))
  (.skip))))
 (.keep [0, 1] (.seq (.seq (.ops [.op (some 5) (.mov (.k (.int .i64 0)))])
  (.keep [0, 1, 5] (.block 0 (.loop (.seq (.seq (.ops [.op (some 11) (.mov (.t 5)),
     .op (some 12) (.mov (.t 0)),
     .op (some 13) (.lenS (.t 12)),
     .op (some 14) (.bin .lss (.t 11) (.t 13))])
   (.keep [0, 1, 5, 14] (.cond (.t 14)
    (.skip)
    (.exit 0))))
   (.keep [0, 1, 5] (.seq (.block 1 (.seq (.draw [.op (some 17) (.mov (.t 0)),
     .op (some 18) (.mov (.t 5)),
     .op (some 19) (.iadr 10 (.t 17) (.t 18)),
     .op (some 20) (.loadN 10 (.t 19)),
     .op (some 21) (.mov (.t 1)),
     .op (some 22) (.mov (.t 5)),
     .op (some 23) (.iadr 10 (.t 21) (.t 22)),
     .op (some 24) (.loadN 10 (.t 23)),
     .call (some 25) 118 [.t 20, .t 24],
     .op (some 26) (.not (.t 25))])
    (.keep [0, 1, 5, 26] (.cond (.t 26)
    (.seq (.ops [.op (some 4) (.mov (.k (.bool false)))])
     (.keep [4] (.ret)))
    (.skip)))))
   (.keep [0, 1, 5] (.ops [.op (some 15) (.mov (.t 5)),
    .op (some 16) (.bin .add (.t 15) (.k (.int .i64 1))),
    .op (some 5) (.mov (.t 16))])))))))))
 (.keep [] (.seq (.ops [.op (some 4) (.mov (.k (.bool true)))])
 (.keep [4] (.ret))))))))
theorem k_c_eqLogRecordS_fits : fitsF Tryz.prog 56 ⟨27, k_c_eqLogRecordS, [.t 4]⟩ = true := by kernel_rfl
theorem c_eqLogRecordS {xs ys : List GLogRecord} (hw : xs.length ≤ 9223372036854775807) : Con Tryz.prog noMv 56 [.d (.sl 10 (xs.map GLogRecord.row)), .d (.sl 10 (ys.map GLogRecord.row))] [] (fun r h => r = bool (eqb xs ys) ∧ h = []) := by
 refine con_of2 k_c_eqLogRecordS_fits rfl fun C hP hmv => ?_
 unfold k_c_eqLogRecordS
 refine cx_seq (cx_ops ?_)
 refine ax_q (q_mov rfl) ?_
 refine ax_nil (cx_keep rfl rfl (cx_seq (cx_seq (cx_ops ?_))))
 refine ax_q (q_mov rfl) ?_
 refine ax_q (q_lenS_map rfl) ?_
 refine ax_q (q_mov rfl) ?_
 refine ax_q (q_lenS_map rfl) ?_
 refine ax_q (q_ibin rfl rfl rfl) ?_
 refine ax_nil (cx_keep rfl rfl ?_)
 refine cx_cond rfl (fun h0 => ?_) (fun h0 => ?_)
 ·
  have h0 := nT h0
  refine cx_seq (cx_ops ?_)
  refine ax_q (q_mov rfl) ?_
  refine ax_nil (cx_keep rfl rfl ?_)
  refine cx_ret (ret0 rfl rfl ?_)
  exact ⟨congrArg AM.bool (eqb_f (fun h => h0 (by rw [h]))).symm, rfl⟩
 ·
  have h0 := nF h0
  refine cx_skip ?_
  refine cx_keep rfl rfl (cx_seq (cx_seq (cx_ops ?_)))
  refine ax_q (q_mov rfl) ?_
  refine ax_nil (cx_keep rfl rfl (cx_block ?_))
  have hl : xs.length = ys.length := by omega
  refine cx_loopU (fun n k => k ≤ xs.length ∧ n = xs.length - k ∧ xs.take k = ys.take k) (fun k : Nat => [(5, int k)]) (fun _ => []) ⟨_, 0, ⟨Nat.zero_le _, rfl, rfl⟩, by repeat constructor⟩ ?_
  rintro n k ⟨hk, rfl, ht⟩
  refine cx_seq (cx_seq (cx_ops ?_))
  refine ax_q (q_mov rfl) ?_
  refine ax_q (q_mov rfl) ?_
  refine ax_q (q_lenS_map rfl) ?_
  refine ax_q (q_ibin rfl rfl rfl) ?_
  refine ax_nil (cx_keep rfl rfl ?_)
  refine cx_cond rfl (fun h1 => ?_) (fun h1 => ?_)
  ·
   have h1 := dT h1
   have h1x : k < xs.length := by omega
   have h1y : k < ys.length := by omega
   refine cx_skip ?_
   refine cx_keep rfl rfl (cx_seq (cx_block (cx_seq (cx_draw ?_))))
   refine ax_q (q_mov rfl) ?_
   refine ax_q (q_mov rfl) ?_
   refine ax_q (q_ix rfl rfl (mapAt h1x)) ?_
   first | refine ax_q (q_ldN rfl rfl rfl) ?_ | refine ax_q (q_loadN_ip rfl (Nat.le_refl _)) ?_
   refine ax_q (q_mov rfl) ?_
   refine ax_q (q_mov rfl) ?_
   refine ax_q (q_ix rfl rfl (mapAt h1y)) ?_
   first | refine ax_q (q_ldN rfl rfl rfl) ?_ | refine ax_q (q_loadN_ip rfl (Nat.le_refl _)) ?_
   refine ax_callq rfl (c_eqLogRecord) hP (lal_id _ rfl) rfl ?_
   refine ax_q (q_not rfl) ?_
   refine ax_nil (cx_keep rfl rfl ?_)
   refine cx_cond rfl (fun h2 => ?_) (fun h2 => ?_)
   ·
    have h2 := bT h2
    refine cx_seq (cx_ops ?_)
    refine ax_q (q_mov rfl) ?_
    refine ax_nil (cx_keep rfl rfl ?_)
    refine cx_ret (ret0 rfl rfl ?_)
    exact ⟨congrArg AM.bool (eqbL_no h1x h1y h2).symm, rfl⟩
   ·
    have h2 := bF h2
    refine cx_skip ?_
    refine cx_keep rfl rfl (cx_ops ?_)
    refine ax_q (q_mov rfl) ?_
    refine ax_q (q_add rfl rfl (by omega)) ?_
    refine ax_q (q_mov rfl) ?_
    refine ax_nil ?_
    exact ⟨_, k + 1, by omega, ⟨by omega, rfl, eqbL_step h1x h1y ht h2⟩, by repeat constructor⟩
  ·
   have h1 := dF h1
   refine cx_exit rfl ?_
   refine cx_keep rfl rfl (cx_seq (cx_ops ?_))
   refine ax_q (q_mov rfl) ?_
   refine ax_nil (cx_keep rfl rfl ?_)
   refine cx_ret (ret0 rfl rfl ?_)
   exact ⟨congrArg AM.bool (eqb_t (eq_of_take hl (by rwa [show k = xs.length from by omega] at ht))).symm, rfl⟩


/- loop.example/g00332/laws.eqPage -/
def k_c_eqPage : XCode :=
 .seq (.ops [.op (some 2) (.box (.t 0)),
   .op (some 3) (.box (.t 1)),
   .op (some 4) (.mov (.k (.bool false)))])
 (.keep [2, 3] (.seq (.seq (.ops [.op (some 5) (.fadr (.t 2) 0),
   .op (some 6) (.load1 (.t 5)),
   .op (some 7) (.fadr (.t 3) 0),
   .op (some 8) (.load1 (.t 7)),
   .op (some 9) (.bin .neq (.t 6) (.t 8))])
  (.keep [2, 3, 9] (.cond (.t 9)
  (.seq (.ops [.op (some 4) (.mov (.k (.bool false)))])
   (.keep [4] (.ret)))
  (.skip))))
 (.keep [2, 3] (.seq (.seq (.ops [.op (some 10) (.fadr (.t 2) 1),
   .op (some 11) (.load1 (.t 10)),
   .op (some 12) (.fadr (.t 3) 1),
   .op (some 13) (.load1 (.t 12)),
   .call (some 14) 116 [.t 11, .t 13],
   .op (some 15) (.not (.t 14))])
  (.keep [15] (.cond (.t 15)
  (.seq (.ops [.op (some 4) (.mov (.k (.bool false)))])
   (.keep [4] (.ret)))
  (.skip))))
 (.keep [] (.seq (.ops [.op (some 4) (.mov (.k (.bool true)))])
 (.keep [4] (.ret))))))))
theorem k_c_eqPage_fits : fitsF Tryz.prog 195 ⟨16, k_c_eqPage, [.t 4]⟩ = true := by kernel_rfl
theorem c_eqPage {a b : Page} (hw0 : a.slots.length ≤ 9223372036854775807) : Con Tryz.prog noMv 195 [a.av, b.av] [] (fun r h => r = bool (eqb a b) ∧ h = []) := by
 refine con_of2 k_c_eqPage_fits rfl fun C hP hmv => ?_
 unfold k_c_eqPage
 refine cx_seq (cx_ops ?_)
 refine ax_e (e_box rfl rfl (by decide) rfl rfl rfl) ?_
 refine ax_e (e_box rfl rfl (by decide) rfl rfl rfl) ?_
 refine ax_q (q_mov rfl) ?_
 refine ax_nil (cx_keep rfl rfl (cx_seq (cx_seq (cx_ops ?_))))
 refine ax_q (q_fadr_ptr rfl) ?_
 refine ax_q (q_load1_ptr rfl rfl rfl) ?_
 refine ax_q (q_fadr_ptr rfl) ?_
 refine ax_q (q_load1_ptr rfl rfl rfl) ?_
 refine ax_q (q_ibin rfl rfl rfl) ?_
 refine ax_nil (cx_keep rfl rfl ?_)
 refine cx_cond rfl (fun h0 => ?_) (fun h0 => ?_)
 ·
  have h0 := nT h0
  refine cx_seq (cx_ops ?_)
  refine ax_q (q_mov rfl) ?_
  refine ax_nil (cx_keep rfl rfl ?_)
  refine cx_ret (ret0 rfl rfl ?_)
  exact ⟨congrArg AM.bool (eqb_f (fun h => h0 (by rw [h]))).symm, rfl⟩
 ·
  have h0 := nF h0
  refine cx_skip ?_
  refine cx_keep rfl rfl (cx_seq (cx_seq (cx_ops ?_)))
  refine ax_q (q_fadr_ptr rfl) ?_
  refine ax_q (q_load1_ptr rfl rfl rfl) ?_
  refine ax_q (q_fadr_ptr rfl) ?_
  refine ax_q (q_load1_ptr rfl rfl rfl) ?_
  refine ax_call rfl (vc_pure0 (c_eqStringS  ?_) hP rfl rfl ?_)
  ·
   assumption
  refine ax_q (q_not rfl) ?_
  refine ax_nil (cx_keep rfl rfl ?_)
  refine cx_cond rfl (fun h1 => ?_) (fun h1 => ?_)
  ·
   have h1 := bT h1
   refine cx_seq (cx_ops ?_)
   refine ax_q (q_mov rfl) ?_
   refine ax_nil (cx_keep rfl rfl ?_)
   refine cx_ret (ret0 rfl rfl ?_)
   exact ⟨congrArg AM.bool (eqb_f (fun h => by rw [h, eqb_rfl] at h1; cases h1)).symm, rfl⟩
  ·
   have h1 := bF h1
   refine cx_skip ?_
   refine cx_keep rfl rfl (cx_seq (cx_ops ?_))
   refine ax_q (q_mov rfl) ?_
   refine ax_nil (cx_keep rfl rfl ?_)
   refine cx_ret (ret0 rfl rfl ?_)
   exact ⟨congrArg AM.bool (eqb_t (page_ext h0 (eqb_iff.1 h1))).symm, rfl⟩


/- loop.example/g00332/laws.eqFrame -/
def k_c_eqFrame : XCode :=
 .seq (.ops [.op (some 2) (.box (.t 0)),
   .op (some 3) (.box (.t 1)),
   .op (some 4) (.mov (.k (.bool false)))])
 (.keep [2, 3] (.seq (.seq (.ops [.op (some 5) (.fadr (.t 2) 0),
   .op (some 6) (.load1 (.t 5)),
   .op (some 7) (.fadr (.t 3) 0),
   .op (some 8) (.load1 (.t 7)),
   .op (some 9) (.bin .neq (.t 6) (.t 8))])
  (.keep [2, 3, 9] (.cond (.t 9)
  (.seq (.ops [.op (some 4) (.mov (.k (.bool false)))])
   (.keep [4] (.ret)))
  (.skip))))
 (.keep [2, 3] (.seq (.seq (.ops [.op (some 10) (.fadr (.t 2) 1),
   .op (some 11) (.loadN 2 (.t 10)),
   .op (some 12) (.fadr (.t 3) 1),
   .op (some 13) (.loadN 2 (.t 12)),
   .call (some 14) 195 [.t 11, .t 13],
   .op (some 15) (.not (.t 14))])
  (.keep [2, 3, 15] (.cond (.t 15)
  (.seq (.ops [.op (some 4) (.mov (.k (.bool false)))])
   (.keep [4] (.ret)))
  (.skip))))
 (.keep [2, 3] (.seq (.seq (.ops [.op (some 16) (.fadr (.t 2) 3),
   .op (some 17) (.load1 (.t 16)),
   .op (some 18) (.fadr (.t 3) 3),
   .op (some 19) (.load1 (.t 18)),
   .op (some 20) (.eqb true (.t 17) (.t 19))])
  (.keep [2, 3, 20] (.cond (.t 20)
  (.seq (.ops [.op (some 4) (.mov (.k (.bool false)))])
   (.keep [4] (.ret)))
  (.skip))))
 (.keep [2, 3] (.seq (.seq (.ops [.op (some 21) (.fadr (.t 2) 4),
   .op (some 22) (.load1 (.t 21)),
   .op (some 23) (.fadr (.t 3) 4),
   .op (some 24) (.load1 (.t 23)),
   .op (some 25) (.bin .neq (.t 22) (.t 24))])
  (.keep [25] (.cond (.t 25)
  (.seq (.ops [.op (some 4) (.mov (.k (.bool false)))])
   (.keep [4] (.ret)))
  (.skip))))
 (.keep [] (.seq (.ops [.op (some 4) (.mov (.k (.bool true)))])
 (.keep [4] (.ret))))))))))))
theorem k_c_eqFrame_fits : fitsF Tryz.prog 119 ⟨26, k_c_eqFrame, [.t 4]⟩ = true := by kernel_rfl
theorem c_eqFrame {a b : GFrame} (hw0 : a.Page.slots.length ≤ 9223372036854775807) : Con Tryz.prog noMv 119 [a.av, b.av] [] (fun r h => r = bool (eqb a b) ∧ h = []) := by
 refine con_of2 k_c_eqFrame_fits rfl fun C hP hmv => ?_
 unfold k_c_eqFrame
 refine cx_seq (cx_ops ?_)
 refine ax_e (e_box rfl rfl (by decide) rfl rfl rfl) ?_
 refine ax_e (e_box rfl rfl (by decide) rfl rfl rfl) ?_
 refine ax_q (q_mov rfl) ?_
 refine ax_nil (cx_keep rfl rfl (cx_seq (cx_seq (cx_ops ?_))))
 refine ax_q (q_fadr_ptr rfl) ?_
 refine ax_q (q_load1_ptr rfl rfl rfl) ?_
 refine ax_q (q_fadr_ptr rfl) ?_
 refine ax_q (q_load1_ptr rfl rfl rfl) ?_
 refine ax_q (q_ibin rfl rfl rfl) ?_
 refine ax_nil (cx_keep rfl rfl ?_)
 refine cx_cond rfl (fun h0 => ?_) (fun h0 => ?_)
 ·
  have h0 := nT h0
  refine cx_seq (cx_ops ?_)
  refine ax_q (q_mov rfl) ?_
  refine ax_nil (cx_keep rfl rfl ?_)
  refine cx_ret (ret0 rfl rfl ?_)
  exact ⟨congrArg AM.bool (eqb_f (fun h => h0 (by rw [h]))).symm, rfl⟩
 ·
  have h0 := nF h0
  refine cx_skip ?_
  refine cx_keep rfl rfl (cx_seq (cx_seq (cx_ops ?_)))
  refine ax_q (q_fadr_ptr rfl) ?_
  refine ax_q (q_ldN rfl rfl rfl) ?_
  refine ax_q (q_fadr_ptr rfl) ?_
  refine ax_q (q_ldN rfl rfl rfl) ?_
  refine ax_call rfl (vc_pure0 (c_eqPage  ?_) hP rfl rfl ?_)
  ·
   assumption
  refine ax_q (q_not rfl) ?_
  refine ax_nil (cx_keep rfl rfl ?_)
  refine cx_cond rfl (fun h1 => ?_) (fun h1 => ?_)
  ·
   have h1 := bT h1
   refine cx_seq (cx_ops ?_)
   refine ax_q (q_mov rfl) ?_
   refine ax_nil (cx_keep rfl rfl ?_)
   refine cx_ret (ret0 rfl rfl ?_)
   exact ⟨congrArg AM.bool (eqb_f (fun h => by rw [h, eqb_rfl] at h1; cases h1)).symm, rfl⟩
  ·
   have h1 := bF h1
   refine cx_skip ?_
   refine cx_keep rfl rfl (cx_seq (cx_seq (cx_ops ?_)))
   refine ax_q (q_fadr_ptr rfl) ?_
   refine ax_q (q_load1_ptr rfl rfl rfl) ?_
   refine ax_q (q_fadr_ptr rfl) ?_
   refine ax_q (q_load1_ptr rfl rfl rfl) ?_
   refine ax_q (q_eqb rfl rfl) ?_
   refine ax_nil (cx_keep rfl rfl ?_)
   refine cx_cond rfl (fun h2 => ?_) (fun h2 => ?_)
   ·
    have h2 := bneT h2
    refine cx_seq (cx_ops ?_)
    refine ax_q (q_mov rfl) ?_
    refine ax_nil (cx_keep rfl rfl ?_)
    refine cx_ret (ret0 rfl rfl ?_)
    exact ⟨congrArg AM.bool (eqb_f (fun h => h2 (by rw [h]))).symm, rfl⟩
   ·
    have h2 := bneF h2
    refine cx_skip ?_
    refine cx_keep rfl rfl (cx_seq (cx_seq (cx_ops ?_)))
    refine ax_q (q_fadr_ptr rfl) ?_
    refine ax_q (q_load1_ptr rfl rfl rfl) ?_
    refine ax_q (q_fadr_ptr rfl) ?_
    refine ax_q (q_load1_ptr rfl rfl rfl) ?_
    refine ax_q (q_ibin rfl rfl rfl) ?_
    refine ax_nil (cx_keep rfl rfl ?_)
    refine cx_cond rfl (fun h3 => ?_) (fun h3 => ?_)
    ·
     have h3 := nT h3
     refine cx_seq (cx_ops ?_)
     refine ax_q (q_mov rfl) ?_
     refine ax_nil (cx_keep rfl rfl ?_)
     refine cx_ret (ret0 rfl rfl ?_)
     exact ⟨congrArg AM.bool (eqb_f (fun h => h3 (by rw [h]))).symm, rfl⟩
    ·
     have h3 := nF h3
     refine cx_skip ?_
     refine cx_keep rfl rfl (cx_seq (cx_ops ?_))
     refine ax_q (q_mov rfl) ?_
     refine ax_nil (cx_keep rfl rfl ?_)
     refine cx_ret (ret0 rfl rfl ?_)
     exact ⟨congrArg AM.bool (eqb_t (GFrame.ext1 h0 (eqb_iff.1 h1) h2 h3)).symm, rfl⟩


/- loop.example/g00332/laws.eqFrameS -/
def k_c_eqFrameS : XCode :=
 .seq (.ops [.op (some 4) (.mov (.k (.bool false)))])
 (.keep [0, 1] (.seq (.seq (.ops [.op (some 6) (.mov (.t 0)),
   .op (some 7) (.lenS (.t 6)),
   .op (some 8) (.mov (.t 1)),
   .op (some 9) (.lenS (.t 8)),
   .op (some 10) (.bin .neq (.t 7) (.t 9))])
  (.keep [0, 1, 10] (.cond (.t 10)
  (.seq (.ops [.op (some 4) (.mov (.k (.bool false)))])
   (.keep [4] (.ret)))
  (.skip))))
 (.keep [0, 1] (.seq (.seq (.ops [.op (some 5) (.mov (.k (.int .i64 0)))])
  (.keep [0, 1, 5] (.block 0 (.loop (.seq (.seq (.ops [.op (some 11) (.mov (.t 5)),
     .op (some 12) (.mov (.t 0)),
     .op (some 13) (.lenS (.t 12)),
     .op (some 14) (.bin .lss (.t 11) (.t 13))])
   (.keep [0, 1, 5, 14] (.cond (.t 14)
    (.skip)
    (.exit 0))))
   (.keep [0, 1, 5] (.seq (.block 1 (.seq (.draw [.op (some 17) (.mov (.t 0)),
     .op (some 18) (.mov (.t 5)),
     .op (some 19) (.iadr 5 (.t 17) (.t 18)),
     .op (some 20) (.loadN 5 (.t 19)),
     .op (some 21) (.mov (.t 1)),
     .op (some 22) (.mov (.t 5)),
     .op (some 23) (.iadr 5 (.t 21) (.t 22)),
     .op (some 24) (.loadN 5 (.t 23)),
     .call (some 25) 119 [.t 20, .t 24],
     .op (some 26) (.not (.t 25))])
    (.keep [0, 1, 5, 26] (.cond (.t 26)
    (.seq (.ops [.op (some 4) (.mov (.k (.bool false)))])
     (.keep [4] (.ret)))
    (.skip)))))
   (.keep [0, 1, 5] (.ops [.op (some 15) (.mov (.t 5)),
    .op (some 16) (.bin .add (.t 15) (.k (.int .i64 1))),
    .op (some 5) (.mov (.t 16))])))))))))
 (.keep [] (.seq (.ops [.op (some 4) (.mov (.k (.bool true)))])
 (.keep [4] (.ret))))))))
theorem k_c_eqFrameS_fits : fitsF Tryz.prog 57 ⟨27, k_c_eqFrameS, [.t 4]⟩ = true := by kernel_rfl
theorem c_eqFrameS {xs ys : List GFrame} (hw : xs.length ≤ 9223372036854775807) (hs : ∀ f ∈ xs, f.Page.slots.length ≤ 1048576) : Con Tryz.prog noMv 57 [.d (.sl 5 (xs.map GFrame.row)), .d (.sl 5 (ys.map GFrame.row))] [] (fun r h => r = bool (eqb xs ys) ∧ h = []) := by
 refine con_of2 k_c_eqFrameS_fits rfl fun C hP hmv => ?_
 unfold k_c_eqFrameS
 refine cx_seq (cx_ops ?_)
 refine ax_q (q_mov rfl) ?_
 refine ax_nil (cx_keep rfl rfl (cx_seq (cx_seq (cx_ops ?_))))
 refine ax_q (q_mov rfl) ?_
 refine ax_q (q_lenS_map rfl) ?_
 refine ax_q (q_mov rfl) ?_
 refine ax_q (q_lenS_map rfl) ?_
 refine ax_q (q_ibin rfl rfl rfl) ?_
 refine ax_nil (cx_keep rfl rfl ?_)
 refine cx_cond rfl (fun h0 => ?_) (fun h0 => ?_)
 ·
  have h0 := nT h0
  refine cx_seq (cx_ops ?_)
  refine ax_q (q_mov rfl) ?_
  refine ax_nil (cx_keep rfl rfl ?_)
  refine cx_ret (ret0 rfl rfl ?_)
  exact ⟨congrArg AM.bool (eqb_f (fun h => h0 (by rw [h]))).symm, rfl⟩
 ·
  have h0 := nF h0
  refine cx_skip ?_
  refine cx_keep rfl rfl (cx_seq (cx_seq (cx_ops ?_)))
  refine ax_q (q_mov rfl) ?_
  refine ax_nil (cx_keep rfl rfl (cx_block ?_))
  have hl : xs.length = ys.length := by omega
  refine cx_loopU (fun n k => k ≤ xs.length ∧ n = xs.length - k ∧ xs.take k = ys.take k) (fun k : Nat => [(5, int k)]) (fun _ => []) ⟨_, 0, ⟨Nat.zero_le _, rfl, rfl⟩, by repeat constructor⟩ ?_
  rintro n k ⟨hk, rfl, ht⟩
  refine cx_seq (cx_seq (cx_ops ?_))
  refine ax_q (q_mov rfl) ?_
  refine ax_q (q_mov rfl) ?_
  refine ax_q (q_lenS_map rfl) ?_
  refine ax_q (q_ibin rfl rfl rfl) ?_
  refine ax_nil (cx_keep rfl rfl ?_)
  refine cx_cond rfl (fun h1 => ?_) (fun h1 => ?_)
  ·
   have h1 := dT h1
   have h1x : k < xs.length := by omega
   have h1y : k < ys.length := by omega
   have hsk := hs _ (List.getElem_mem h1x)
   refine cx_skip ?_
   refine cx_keep rfl rfl (cx_seq (cx_block (cx_seq (cx_draw ?_))))
   refine ax_q (q_mov rfl) ?_
   refine ax_q (q_mov rfl) ?_
   refine ax_q (q_ix rfl rfl (mapAt h1x)) ?_
   first | refine ax_q (q_ldN rfl rfl rfl) ?_ | refine ax_q (q_loadN_ip rfl (Nat.le_refl _)) ?_
   refine ax_q (q_mov rfl) ?_
   refine ax_q (q_mov rfl) ?_
   refine ax_q (q_ix rfl rfl (mapAt h1y)) ?_
   first | refine ax_q (q_ldN rfl rfl rfl) ?_ | refine ax_q (q_loadN_ip rfl (Nat.le_refl _)) ?_
   refine ax_callq rfl (c_eqFrame (a := xs[k]) (b := ys[k]) ?_) hP (lal_id _ rfl) rfl ?_
   ·
    first | assumption | omega
   refine ax_q (q_not rfl) ?_
   refine ax_nil (cx_keep rfl rfl ?_)
   refine cx_cond rfl (fun h2 => ?_) (fun h2 => ?_)
   ·
    have h2 := bT h2
    refine cx_seq (cx_ops ?_)
    refine ax_q (q_mov rfl) ?_
    refine ax_nil (cx_keep rfl rfl ?_)
    refine cx_ret (ret0 rfl rfl ?_)
    exact ⟨congrArg AM.bool (eqbL_no h1x h1y h2).symm, rfl⟩
   ·
    have h2 := bF h2
    refine cx_skip ?_
    refine cx_keep rfl rfl (cx_ops ?_)
    refine ax_q (q_mov rfl) ?_
    refine ax_q (q_add rfl rfl (by omega)) ?_
    refine ax_q (q_mov rfl) ?_
    refine ax_nil ?_
    exact ⟨_, k + 1, by omega, ⟨by omega, rfl, eqbL_step h1x h1y ht h2⟩, by repeat constructor⟩
  ·
   have h1 := dF h1
   refine cx_exit rfl ?_
   refine cx_keep rfl rfl (cx_seq (cx_ops ?_))
   refine ax_q (q_mov rfl) ?_
   refine ax_nil (cx_keep rfl rfl ?_)
   refine cx_ret (ret0 rfl rfl ?_)
   exact ⟨congrArg AM.bool (eqb_t (eq_of_take hl (by rwa [show k = xs.length from by omega] at ht))).symm, rfl⟩


/- loop.example/g00332/laws.eqStore -/
def k_c_eqStore : XCode :=
 .seq (.ops [.op (some 2) (.box (.t 0)),
   .op (some 3) (.box (.t 1)),
   .op (some 4) (.mov (.k (.bool false)))])
 (.keep [2, 3] (.seq (.seq (.ops [.op (some 5) (.fadr (.t 2) 0),
   .op (some 6) (.loadN 4 (.t 5)),
   .op (some 7) (.fadr (.t 3) 0),
   .op (some 8) (.loadN 4 (.t 7)),
   .call (some 9) 55 [.t 6, .t 8],
   .op (some 10) (.not (.t 9))])
  (.keep [2, 3, 10] (.cond (.t 10)
  (.seq (.ops [.op (some 4) (.mov (.k (.bool false)))])
   (.keep [4] (.ret)))
  (.skip))))
 (.keep [2, 3] (.seq (.seq (.ops [.op (some 11) (.fadr (.t 2) 4),
   .op (some 12) (.load1 (.t 11)),
   .op (some 13) (.fadr (.t 3) 4),
   .op (some 14) (.load1 (.t 13)),
   .op (some 15) (.bin .neq (.t 12) (.t 14))])
  (.keep [2, 3, 15] (.cond (.t 15)
  (.seq (.ops [.op (some 4) (.mov (.k (.bool false)))])
   (.keep [4] (.ret)))
  (.skip))))
 (.keep [2, 3] (.seq (.seq (.ops [.op (some 16) (.fadr (.t 2) 5),
   .op (some 17) (.load1 (.t 16)),
   .op (some 18) (.fadr (.t 3) 5),
   .op (some 19) (.load1 (.t 18)),
   .call (some 20) 56 [.t 17, .t 19],
   .op (some 21) (.not (.t 20))])
  (.keep [2, 3, 21] (.cond (.t 21)
  (.seq (.ops [.op (some 4) (.mov (.k (.bool false)))])
   (.keep [4] (.ret)))
  (.skip))))
 (.keep [2, 3] (.seq (.seq (.ops [.op (some 22) (.fadr (.t 2) 6),
   .op (some 23) (.load1 (.t 22)),
   .op (some 24) (.fadr (.t 3) 6),
   .op (some 25) (.load1 (.t 24)),
   .op (some 26) (.bin .neq (.t 23) (.t 25))])
  (.keep [2, 3, 26] (.cond (.t 26)
  (.seq (.ops [.op (some 4) (.mov (.k (.bool false)))])
   (.keep [4] (.ret)))
  (.skip))))
 (.keep [2, 3] (.seq (.seq (.ops [.op (some 27) (.fadr (.t 2) 7),
   .op (some 28) (.load1 (.t 27)),
   .op (some 29) (.fadr (.t 3) 7),
   .op (some 30) (.load1 (.t 29)),
   .call (some 31) 57 [.t 28, .t 30],
   .op (some 32) (.not (.t 31))])
  (.keep [2, 3, 32] (.cond (.t 32)
  (.seq (.ops [.op (some 4) (.mov (.k (.bool false)))])
   (.keep [4] (.ret)))
  (.skip))))
 (.keep [2, 3] (.seq (.seq (.ops [.op (some 33) (.fadr (.t 2) 8),
   .op (some 34) (.load1 (.t 33)),
   .op (some 35) (.fadr (.t 3) 8),
   .op (some 36) (.load1 (.t 35)),
   .op (some 37) (.bin .neq (.t 34) (.t 36))])
  (.keep [37] (.cond (.t 37)
  (.seq (.ops [.op (some 4) (.mov (.k (.bool false)))])
   (.keep [4] (.ret)))
  (.skip))))
 (.keep [] (.seq (.ops [.op (some 4) (.mov (.k (.bool true)))])
 (.keep [4] (.ret))))))))))))))))
theorem k_c_eqStore_fits : fitsF Tryz.prog 19 ⟨38, k_c_eqStore, [.t 4]⟩ = true := by kernel_rfl
theorem c_eqStore {a b : GStore} (hb : StB a) : Con Tryz.prog noMv 19 [a.av, b.av] [] (fun r h => r = bool (eqb a b) ∧ h = []) := by
 refine con_of2 k_c_eqStore_fits rfl fun C hP hmv => ?_
 unfold k_c_eqStore
 obtain ⟨hw0, hw1, hw2, hw3, hwa, hw4, hw5, hw6⟩ := hb
 refine cx_seq (cx_ops ?_)
 refine ax_e (e_box rfl rfl (by decide) rfl rfl rfl) ?_
 refine ax_e (e_box rfl rfl (by decide) rfl rfl rfl) ?_
 refine ax_q (q_mov rfl) ?_
 refine ax_nil (cx_keep rfl rfl (cx_seq (cx_seq (cx_ops ?_))))
 refine ax_q (q_fadr_ptr rfl) ?_
 refine ax_q (q_ldN rfl rfl rfl) ?_
 refine ax_q (q_fadr_ptr rfl) ?_
 refine ax_q (q_ldN rfl rfl rfl) ?_
 refine ax_call rfl (vc_pure0 (c_eqDisk  ?_ ?_ ?_) hP rfl rfl ?_)
 ·
  first | assumption | omega
 ·
  first | assumption | omega
 ·
  first | assumption | omega
 refine ax_q (q_not rfl) ?_
 refine ax_nil (cx_keep rfl rfl ?_)
 refine cx_cond rfl (fun h0 => ?_) (fun h0 => ?_)
 ·
  have h0 := bT h0
  refine cx_seq (cx_ops ?_)
  refine ax_q (q_mov rfl) ?_
  refine ax_nil (cx_keep rfl rfl ?_)
  refine cx_ret (ret0 rfl rfl ?_)
  exact ⟨congrArg AM.bool (eqb_f (fun h => by rw [h, eqb_rfl] at h0; cases h0)).symm, rfl⟩
 ·
  have h0 := bF h0
  refine cx_skip ?_
  refine cx_keep rfl rfl (cx_seq (cx_seq (cx_ops ?_)))
  refine ax_q (q_fadr_ptr rfl) ?_
  refine ax_q (q_load1_ptr rfl rfl rfl) ?_
  refine ax_q (q_fadr_ptr rfl) ?_
  refine ax_q (q_load1_ptr rfl rfl rfl) ?_
  refine ax_q (q_ibin rfl rfl rfl) ?_
  refine ax_nil (cx_keep rfl rfl ?_)
  refine cx_cond rfl (fun h1 => ?_) (fun h1 => ?_)
  ·
   have h1 := nT h1
   refine cx_seq (cx_ops ?_)
   refine ax_q (q_mov rfl) ?_
   refine ax_nil (cx_keep rfl rfl ?_)
   refine cx_ret (ret0 rfl rfl ?_)
   exact ⟨congrArg AM.bool (eqb_f (fun h => h1 (by rw [h]))).symm, rfl⟩
  ·
   have h1 := nF h1
   refine cx_skip ?_
   refine cx_keep rfl rfl (cx_seq (cx_seq (cx_ops ?_)))
   refine ax_q (q_fadr_ptr rfl) ?_
   refine ax_q (q_load1_ptr rfl rfl rfl) ?_
   refine ax_q (q_fadr_ptr rfl) ?_
   refine ax_q (q_load1_ptr rfl rfl rfl) ?_
   refine ax_call rfl (vc_pure0 (c_eqLogRecordS  ?_) hP rfl rfl ?_)
   ·
    first | assumption | omega
   refine ax_q (q_not rfl) ?_
   refine ax_nil (cx_keep rfl rfl ?_)
   refine cx_cond rfl (fun h2 => ?_) (fun h2 => ?_)
   ·
    have h2 := bT h2
    refine cx_seq (cx_ops ?_)
    refine ax_q (q_mov rfl) ?_
    refine ax_nil (cx_keep rfl rfl ?_)
    refine cx_ret (ret0 rfl rfl ?_)
    exact ⟨congrArg AM.bool (eqb_f (fun h => by rw [h, eqb_rfl] at h2; cases h2)).symm, rfl⟩
   ·
    have h2 := bF h2
    refine cx_skip ?_
    refine cx_keep rfl rfl (cx_seq (cx_seq (cx_ops ?_)))
    refine ax_q (q_fadr_ptr rfl) ?_
    refine ax_q (q_load1_ptr rfl rfl rfl) ?_
    refine ax_q (q_fadr_ptr rfl) ?_
    refine ax_q (q_load1_ptr rfl rfl rfl) ?_
    refine ax_q (q_ibin rfl rfl rfl) ?_
    refine ax_nil (cx_keep rfl rfl ?_)
    refine cx_cond rfl (fun h3 => ?_) (fun h3 => ?_)
    ·
     have h3 := nT h3
     refine cx_seq (cx_ops ?_)
     refine ax_q (q_mov rfl) ?_
     refine ax_nil (cx_keep rfl rfl ?_)
     refine cx_ret (ret0 rfl rfl ?_)
     exact ⟨congrArg AM.bool (eqb_f (fun h => h3 (by rw [h]))).symm, rfl⟩
    ·
     have h3 := nF h3
     refine cx_skip ?_
     refine cx_keep rfl rfl (cx_seq (cx_seq (cx_ops ?_)))
     refine ax_q (q_fadr_ptr rfl) ?_
     refine ax_q (q_load1_ptr rfl rfl rfl) ?_
     refine ax_q (q_fadr_ptr rfl) ?_
     refine ax_q (q_load1_ptr rfl rfl rfl) ?_
     refine ax_call rfl (vc_pure0 (c_eqFrameS  ?_ ?_) hP rfl rfl ?_)
     ·
      first | assumption | omega
     ·
      assumption
     refine ax_q (q_not rfl) ?_
     refine ax_nil (cx_keep rfl rfl ?_)
     refine cx_cond rfl (fun h4 => ?_) (fun h4 => ?_)
     ·
      have h4 := bT h4
      refine cx_seq (cx_ops ?_)
      refine ax_q (q_mov rfl) ?_
      refine ax_nil (cx_keep rfl rfl ?_)
      refine cx_ret (ret0 rfl rfl ?_)
      exact ⟨congrArg AM.bool (eqb_f (fun h => by rw [h, eqb_rfl] at h4; cases h4)).symm, rfl⟩
     ·
      have h4 := bF h4
      refine cx_skip ?_
      refine cx_keep rfl rfl (cx_seq (cx_seq (cx_ops ?_)))
      refine ax_q (q_fadr_ptr rfl) ?_
      refine ax_q (q_load1_ptr rfl rfl rfl) ?_
      refine ax_q (q_fadr_ptr rfl) ?_
      refine ax_q (q_load1_ptr rfl rfl rfl) ?_
      refine ax_q (q_ibin rfl rfl rfl) ?_
      refine ax_nil (cx_keep rfl rfl ?_)
      refine cx_cond rfl (fun h5 => ?_) (fun h5 => ?_)
      ·
       have h5 := nT h5
       refine cx_seq (cx_ops ?_)
       refine ax_q (q_mov rfl) ?_
       refine ax_nil (cx_keep rfl rfl ?_)
       refine cx_ret (ret0 rfl rfl ?_)
       exact ⟨congrArg AM.bool (eqb_f (fun h => h5 (by rw [h]))).symm, rfl⟩
      ·
       have h5 := nF h5
       refine cx_skip ?_
       refine cx_keep rfl rfl (cx_seq (cx_ops ?_))
       refine ax_q (q_mov rfl) ?_
       refine ax_nil (cx_keep rfl rfl ?_)
       refine cx_ret (ret0 rfl rfl ?_)
       exact ⟨congrArg AM.bool (eqb_t (GStore.ext1 (eqb_iff.1 h0) h1 (eqb_iff.1 h2) h3 (eqb_iff.1 h4) h5)).symm, rfl⟩


/- loop.example/g00332/laws.eqTx -/
def k_c_eqTx : XCode :=
 .seq (.ops [.op (some 2) (.box (.t 0)),
   .op (some 3) (.box (.t 1)),
   .op (some 4) (.mov (.k (.bool false)))])
 (.keep [2, 3] (.seq (.seq (.ops [.op (some 5) (.fadr (.t 2) 0),
   .op (some 6) (.load1 (.t 5)),
   .op (some 7) (.fadr (.t 3) 0),
   .op (some 8) (.load1 (.t 7)),
   .op (some 9) (.bin .neq (.t 6) (.t 8))])
  (.keep [2, 3, 9] (.cond (.t 9)
  (.seq (.ops [.op (some 4) (.mov (.k (.bool false)))])
   (.keep [4] (.ret)))
  (.skip))))
 (.keep [2, 3] (.seq (.seq (.ops [.op (some 10) (.fadr (.t 2) 1),
   .op (some 11) (.load1 (.t 10)),
   .op (some 12) (.fadr (.t 3) 1),
   .op (some 13) (.load1 (.t 12)),
   .op (some 14) (.bin .neq (.t 11) (.t 13))])
  (.keep [14] (.cond (.t 14)
  (.seq (.ops [.op (some 4) (.mov (.k (.bool false)))])
   (.keep [4] (.ret)))
  (.skip))))
 (.keep [] (.seq (.ops [.op (some 4) (.mov (.k (.bool true)))])
 (.keep [4] (.ret))))))))
theorem k_c_eqTx_fits : fitsF Tryz.prog 100 ⟨15, k_c_eqTx, [.t 4]⟩ = true := by kernel_rfl
theorem c_eqTx {a b : GTx}  : Con Tryz.prog noMv 100 [a.av, b.av] [] (fun r h => r = bool (eqb a b) ∧ h = []) := by
 refine con_of2 k_c_eqTx_fits rfl fun C hP hmv => ?_
 unfold k_c_eqTx
 refine cx_seq (cx_ops ?_)
 refine ax_e (e_box rfl rfl (by decide) rfl rfl rfl) ?_
 refine ax_e (e_box rfl rfl (by decide) rfl rfl rfl) ?_
 refine ax_q (q_mov rfl) ?_
 refine ax_nil (cx_keep rfl rfl (cx_seq (cx_seq (cx_ops ?_))))
 refine ax_q (q_fadr_ptr rfl) ?_
 refine ax_q (q_load1_ptr rfl rfl rfl) ?_
 refine ax_q (q_fadr_ptr rfl) ?_
 refine ax_q (q_load1_ptr rfl rfl rfl) ?_
 refine ax_q (q_ibin rfl rfl rfl) ?_
 refine ax_nil (cx_keep rfl rfl ?_)
 refine cx_cond rfl (fun h0 => ?_) (fun h0 => ?_)
 ·
  have h0 := nT h0
  refine cx_seq (cx_ops ?_)
  refine ax_q (q_mov rfl) ?_
  refine ax_nil (cx_keep rfl rfl ?_)
  refine cx_ret (ret0 rfl rfl ?_)
  exact ⟨congrArg AM.bool (eqb_f (fun h => h0 (by rw [h]))).symm, rfl⟩
 ·
  have h0 := nF h0
  refine cx_skip ?_
  refine cx_keep rfl rfl (cx_seq (cx_seq (cx_ops ?_)))
  refine ax_q (q_fadr_ptr rfl) ?_
  refine ax_q (q_load1_ptr rfl rfl rfl) ?_
  refine ax_q (q_fadr_ptr rfl) ?_
  refine ax_q (q_load1_ptr rfl rfl rfl) ?_
  refine ax_q (q_ibin rfl rfl rfl) ?_
  refine ax_nil (cx_keep rfl rfl ?_)
  refine cx_cond rfl (fun h1 => ?_) (fun h1 => ?_)
  ·
   have h1 := nT h1
   refine cx_seq (cx_ops ?_)
   refine ax_q (q_mov rfl) ?_
   refine ax_nil (cx_keep rfl rfl ?_)
   refine cx_ret (ret0 rfl rfl ?_)
   exact ⟨congrArg AM.bool (eqb_f (fun h => h1 (by rw [h]))).symm, rfl⟩
  ·
   have h1 := nF h1
   refine cx_skip ?_
   refine cx_keep rfl rfl (cx_seq (cx_ops ?_))
   refine ax_q (q_mov rfl) ?_
   refine ax_nil (cx_keep rfl rfl ?_)
   refine cx_ret (ret0 rfl rfl ?_)
   exact ⟨congrArg AM.bool (eqb_t (GTx.ext1 h0 h1)).symm, rfl⟩


/- loop.example/g00332/laws.eqTxS -/
def k_c_eqTxS : XCode :=
 .seq (.ops [.op (some 4) (.mov (.k (.bool false)))])
 (.keep [0, 1] (.seq (.seq (.ops [.op (some 6) (.mov (.t 0)),
   .op (some 7) (.lenS (.t 6)),
   .op (some 8) (.mov (.t 1)),
   .op (some 9) (.lenS (.t 8)),
   .op (some 10) (.bin .neq (.t 7) (.t 9))])
  (.keep [0, 1, 10] (.cond (.t 10)
  (.seq (.ops [.op (some 4) (.mov (.k (.bool false)))])
   (.keep [4] (.ret)))
  (.skip))))
 (.keep [0, 1] (.seq (.seq (.ops [.op (some 5) (.mov (.k (.int .i64 0)))])
  (.keep [0, 1, 5] (.block 0 (.loop (.seq (.seq (.ops [.op (some 11) (.mov (.t 5)),
     .op (some 12) (.mov (.t 0)),
     .op (some 13) (.lenS (.t 12)),
     .op (some 14) (.bin .lss (.t 11) (.t 13))])
   (.keep [0, 1, 5, 14] (.cond (.t 14)
    (.skip)
    (.exit 0))))
   (.keep [0, 1, 5] (.seq (.block 1 (.seq (.draw [.op (some 17) (.mov (.t 0)),
     .op (some 18) (.mov (.t 5)),
     .op (some 19) (.iadr 2 (.t 17) (.t 18)),
     .op (some 20) (.loadN 2 (.t 19)),
     .op (some 21) (.mov (.t 1)),
     .op (some 22) (.mov (.t 5)),
     .op (some 23) (.iadr 2 (.t 21) (.t 22)),
     .op (some 24) (.loadN 2 (.t 23)),
     .call (some 25) 100 [.t 20, .t 24],
     .op (some 26) (.not (.t 25))])
    (.keep [0, 1, 5, 26] (.cond (.t 26)
    (.seq (.ops [.op (some 4) (.mov (.k (.bool false)))])
     (.keep [4] (.ret)))
    (.skip)))))
   (.keep [0, 1, 5] (.ops [.op (some 15) (.mov (.t 5)),
    .op (some 16) (.bin .add (.t 15) (.k (.int .i64 1))),
    .op (some 5) (.mov (.t 16))])))))))))
 (.keep [] (.seq (.ops [.op (some 4) (.mov (.k (.bool true)))])
 (.keep [4] (.ret))))))))
theorem k_c_eqTxS_fits : fitsF Tryz.prog 44 ⟨27, k_c_eqTxS, [.t 4]⟩ = true := by kernel_rfl
theorem c_eqTxS {xs ys : List GTx} (hw : xs.length ≤ 9223372036854775807) : Con Tryz.prog noMv 44 [.d (.sl 2 (xs.map GTx.row)), .d (.sl 2 (ys.map GTx.row))] [] (fun r h => r = bool (eqb xs ys) ∧ h = []) := by
 refine con_of2 k_c_eqTxS_fits rfl fun C hP hmv => ?_
 unfold k_c_eqTxS
 refine cx_seq (cx_ops ?_)
 refine ax_q (q_mov rfl) ?_
 refine ax_nil (cx_keep rfl rfl (cx_seq (cx_seq (cx_ops ?_))))
 refine ax_q (q_mov rfl) ?_
 refine ax_q (q_lenS_map rfl) ?_
 refine ax_q (q_mov rfl) ?_
 refine ax_q (q_lenS_map rfl) ?_
 refine ax_q (q_ibin rfl rfl rfl) ?_
 refine ax_nil (cx_keep rfl rfl ?_)
 refine cx_cond rfl (fun h0 => ?_) (fun h0 => ?_)
 ·
  have h0 := nT h0
  refine cx_seq (cx_ops ?_)
  refine ax_q (q_mov rfl) ?_
  refine ax_nil (cx_keep rfl rfl ?_)
  refine cx_ret (ret0 rfl rfl ?_)
  exact ⟨congrArg AM.bool (eqb_f (fun h => h0 (by rw [h]))).symm, rfl⟩
 ·
  have h0 := nF h0
  refine cx_skip ?_
  refine cx_keep rfl rfl (cx_seq (cx_seq (cx_ops ?_)))
  refine ax_q (q_mov rfl) ?_
  refine ax_nil (cx_keep rfl rfl (cx_block ?_))
  have hl : xs.length = ys.length := by omega
  refine cx_loopU (fun n k => k ≤ xs.length ∧ n = xs.length - k ∧ xs.take k = ys.take k) (fun k : Nat => [(5, int k)]) (fun _ => []) ⟨_, 0, ⟨Nat.zero_le _, rfl, rfl⟩, by repeat constructor⟩ ?_
  rintro n k ⟨hk, rfl, ht⟩
  refine cx_seq (cx_seq (cx_ops ?_))
  refine ax_q (q_mov rfl) ?_
  refine ax_q (q_mov rfl) ?_
  refine ax_q (q_lenS_map rfl) ?_
  refine ax_q (q_ibin rfl rfl rfl) ?_
  refine ax_nil (cx_keep rfl rfl ?_)
  refine cx_cond rfl (fun h1 => ?_) (fun h1 => ?_)
  ·
   have h1 := dT h1
   have h1x : k < xs.length := by omega
   have h1y : k < ys.length := by omega
   refine cx_skip ?_
   refine cx_keep rfl rfl (cx_seq (cx_block (cx_seq (cx_draw ?_))))
   refine ax_q (q_mov rfl) ?_
   refine ax_q (q_mov rfl) ?_
   refine ax_q (q_ix rfl rfl (mapAt h1x)) ?_
   first | refine ax_q (q_ldN rfl rfl rfl) ?_ | refine ax_q (q_loadN_ip rfl (Nat.le_refl _)) ?_
   refine ax_q (q_mov rfl) ?_
   refine ax_q (q_mov rfl) ?_
   refine ax_q (q_ix rfl rfl (mapAt h1y)) ?_
   first | refine ax_q (q_ldN rfl rfl rfl) ?_ | refine ax_q (q_loadN_ip rfl (Nat.le_refl _)) ?_
   refine ax_callq rfl (c_eqTx) hP (lal_id _ rfl) rfl ?_
   refine ax_q (q_not rfl) ?_
   refine ax_nil (cx_keep rfl rfl ?_)
   refine cx_cond rfl (fun h2 => ?_) (fun h2 => ?_)
   ·
    have h2 := bT h2
    refine cx_seq (cx_ops ?_)
    refine ax_q (q_mov rfl) ?_
    refine ax_nil (cx_keep rfl rfl ?_)
    refine cx_ret (ret0 rfl rfl ?_)
    exact ⟨congrArg AM.bool (eqbL_no h1x h1y h2).symm, rfl⟩
   ·
    have h2 := bF h2
    refine cx_skip ?_
    refine cx_keep rfl rfl (cx_ops ?_)
    refine ax_q (q_mov rfl) ?_
    refine ax_q (q_add rfl rfl (by omega)) ?_
    refine ax_q (q_mov rfl) ?_
    refine ax_nil ?_
    exact ⟨_, k + 1, by omega, ⟨by omega, rfl, eqbL_step h1x h1y ht h2⟩, by repeat constructor⟩
  ·
   have h1 := dF h1
   refine cx_exit rfl ?_
   refine cx_keep rfl rfl (cx_seq (cx_ops ?_))
   refine ax_q (q_mov rfl) ?_
   refine ax_nil (cx_keep rfl rfl ?_)
   refine cx_ret (ret0 rfl rfl ?_)
   exact ⟨congrArg AM.bool (eqb_t (eq_of_take hl (by rwa [show k = xs.length from by omega] at ht))).symm, rfl⟩


/- loop.example/g00332/laws.eqLock -/
def k_c_eqLock : XCode :=
 .seq (.ops [.op (some 2) (.box (.t 0)),
   .op (some 3) (.box (.t 1)),
   .op (some 4) (.mov (.k (.bool false)))])
 (.keep [2, 3] (.seq (.seq (.ops [.op (some 5) (.fadr (.t 2) 0),
   .op (some 6) (.load1 (.t 5)),
   .op (some 7) (.fadr (.t 3) 0),
   .op (some 8) (.load1 (.t 7)),
   .op (some 9) (.bin .neq (.t 6) (.t 8))])
  (.keep [2, 3, 9] (.cond (.t 9)
  (.seq (.ops [.op (some 4) (.mov (.k (.bool false)))])
   (.keep [4] (.ret)))
  (.skip))))
 (.keep [2, 3] (.seq (.seq (.ops [.op (some 10) (.fadr (.t 2) 1),
   .op (some 11) (.load1 (.t 10)),
   .op (some 12) (.fadr (.t 3) 1),
   .op (some 13) (.load1 (.t 12)),
   .op (some 14) (.bin .neq (.t 11) (.t 13))])
  (.keep [2, 3, 14] (.cond (.t 14)
  (.seq (.ops [.op (some 4) (.mov (.k (.bool false)))])
   (.keep [4] (.ret)))
  (.skip))))
 (.keep [2, 3] (.seq (.seq (.ops [.op (some 15) (.fadr (.t 2) 2),
   .op (some 16) (.load1 (.t 15)),
   .op (some 17) (.fadr (.t 3) 2),
   .op (some 18) (.load1 (.t 17)),
   .op (some 19) (.bin .neq (.t 16) (.t 18))])
  (.keep [2, 3, 19] (.cond (.t 19)
  (.seq (.ops [.op (some 4) (.mov (.k (.bool false)))])
   (.keep [4] (.ret)))
  (.skip))))
 (.keep [2, 3] (.seq (.seq (.ops [.op (some 20) (.fadr (.t 2) 3),
   .op (some 21) (.load1 (.t 20)),
   .op (some 22) (.fadr (.t 3) 3),
   .op (some 23) (.load1 (.t 22)),
   .op (some 24) (.bin .neq (.t 21) (.t 23))])
  (.keep [24] (.cond (.t 24)
  (.seq (.ops [.op (some 4) (.mov (.k (.bool false)))])
   (.keep [4] (.ret)))
  (.skip))))
 (.keep [] (.seq (.ops [.op (some 4) (.mov (.k (.bool true)))])
 (.keep [4] (.ret))))))))))))
theorem k_c_eqLock_fits : fitsF Tryz.prog 175 ⟨25, k_c_eqLock, [.t 4]⟩ = true := by kernel_rfl
theorem c_eqLock {a b : GLock}  : Con Tryz.prog noMv 175 [a.av, b.av] [] (fun r h => r = bool (eqb a b) ∧ h = []) := by
 refine con_of2 k_c_eqLock_fits rfl fun C hP hmv => ?_
 unfold k_c_eqLock
 refine cx_seq (cx_ops ?_)
 refine ax_e (e_box rfl rfl (by decide) rfl rfl rfl) ?_
 refine ax_e (e_box rfl rfl (by decide) rfl rfl rfl) ?_
 refine ax_q (q_mov rfl) ?_
 refine ax_nil (cx_keep rfl rfl (cx_seq (cx_seq (cx_ops ?_))))
 refine ax_q (q_fadr_ptr rfl) ?_
 refine ax_q (q_load1_ptr rfl rfl rfl) ?_
 refine ax_q (q_fadr_ptr rfl) ?_
 refine ax_q (q_load1_ptr rfl rfl rfl) ?_
 refine ax_q (q_ibin rfl rfl rfl) ?_
 refine ax_nil (cx_keep rfl rfl ?_)
 refine cx_cond rfl (fun h0 => ?_) (fun h0 => ?_)
 ·
  have h0 := nT h0
  refine cx_seq (cx_ops ?_)
  refine ax_q (q_mov rfl) ?_
  refine ax_nil (cx_keep rfl rfl ?_)
  refine cx_ret (ret0 rfl rfl ?_)
  exact ⟨congrArg AM.bool (eqb_f (fun h => h0 (by rw [h]))).symm, rfl⟩
 ·
  have h0 := nF h0
  refine cx_skip ?_
  refine cx_keep rfl rfl (cx_seq (cx_seq (cx_ops ?_)))
  refine ax_q (q_fadr_ptr rfl) ?_
  refine ax_q (q_load1_ptr rfl rfl rfl) ?_
  refine ax_q (q_fadr_ptr rfl) ?_
  refine ax_q (q_load1_ptr rfl rfl rfl) ?_
  refine ax_q (q_ibin rfl rfl rfl) ?_
  refine ax_nil (cx_keep rfl rfl ?_)
  refine cx_cond rfl (fun h1 => ?_) (fun h1 => ?_)
  ·
   have h1 := nT h1
   refine cx_seq (cx_ops ?_)
   refine ax_q (q_mov rfl) ?_
   refine ax_nil (cx_keep rfl rfl ?_)
   refine cx_ret (ret0 rfl rfl ?_)
   exact ⟨congrArg AM.bool (eqb_f (fun h => h1 (by rw [h]))).symm, rfl⟩
  ·
   have h1 := nF h1
   refine cx_skip ?_
   refine cx_keep rfl rfl (cx_seq (cx_seq (cx_ops ?_)))
   refine ax_q (q_fadr_ptr rfl) ?_
   refine ax_q (q_load1_ptr rfl rfl rfl) ?_
   refine ax_q (q_fadr_ptr rfl) ?_
   refine ax_q (q_load1_ptr rfl rfl rfl) ?_
   refine ax_q (q_ibin rfl rfl rfl) ?_
   refine ax_nil (cx_keep rfl rfl ?_)
   refine cx_cond rfl (fun h2 => ?_) (fun h2 => ?_)
   ·
    have h2 := nT h2
    refine cx_seq (cx_ops ?_)
    refine ax_q (q_mov rfl) ?_
    refine ax_nil (cx_keep rfl rfl ?_)
    refine cx_ret (ret0 rfl rfl ?_)
    exact ⟨congrArg AM.bool (eqb_f (fun h => h2 (by rw [h]))).symm, rfl⟩
   ·
    have h2 := nF h2
    refine cx_skip ?_
    refine cx_keep rfl rfl (cx_seq (cx_seq (cx_ops ?_)))
    refine ax_q (q_fadr_ptr rfl) ?_
    refine ax_q (q_load1_ptr rfl rfl rfl) ?_
    refine ax_q (q_fadr_ptr rfl) ?_
    refine ax_q (q_load1_ptr rfl rfl rfl) ?_
    refine ax_q (q_ibin rfl rfl rfl) ?_
    refine ax_nil (cx_keep rfl rfl ?_)
    refine cx_cond rfl (fun h3 => ?_) (fun h3 => ?_)
    ·
     have h3 := nT h3
     refine cx_seq (cx_ops ?_)
     refine ax_q (q_mov rfl) ?_
     refine ax_nil (cx_keep rfl rfl ?_)
     refine cx_ret (ret0 rfl rfl ?_)
     exact ⟨congrArg AM.bool (eqb_f (fun h => h3 (by rw [h]))).symm, rfl⟩
    ·
     have h3 := nF h3
     refine cx_skip ?_
     refine cx_keep rfl rfl (cx_seq (cx_ops ?_))
     refine ax_q (q_mov rfl) ?_
     refine ax_nil (cx_keep rfl rfl ?_)
     refine cx_ret (ret0 rfl rfl ?_)
     exact ⟨congrArg AM.bool (eqb_t (GLock.ext1 h0 h1 h2 h3)).symm, rfl⟩


/- loop.example/g00332/laws.eqLockS -/
def k_c_eqLockS : XCode :=
 .seq (.ops [.op (some 4) (.mov (.k (.bool false)))])
 (.keep [0, 1] (.seq (.seq (.ops [.op (some 6) (.mov (.t 0)),
   .op (some 7) (.lenS (.t 6)),
   .op (some 8) (.mov (.t 1)),
   .op (some 9) (.lenS (.t 8)),
   .op (some 10) (.bin .neq (.t 7) (.t 9))])
  (.keep [0, 1, 10] (.cond (.t 10)
  (.seq (.ops [.op (some 4) (.mov (.k (.bool false)))])
   (.keep [4] (.ret)))
  (.skip))))
 (.keep [0, 1] (.seq (.seq (.ops [.op (some 5) (.mov (.k (.int .i64 0)))])
  (.keep [0, 1, 5] (.block 0 (.loop (.seq (.seq (.ops [.op (some 11) (.mov (.t 5)),
     .op (some 12) (.mov (.t 0)),
     .op (some 13) (.lenS (.t 12)),
     .op (some 14) (.bin .lss (.t 11) (.t 13))])
   (.keep [0, 1, 5, 14] (.cond (.t 14)
    (.skip)
    (.exit 0))))
   (.keep [0, 1, 5] (.seq (.block 1 (.seq (.draw [.op (some 17) (.mov (.t 0)),
     .op (some 18) (.mov (.t 5)),
     .op (some 19) (.iadr 4 (.t 17) (.t 18)),
     .op (some 20) (.loadN 4 (.t 19)),
     .op (some 21) (.mov (.t 1)),
     .op (some 22) (.mov (.t 5)),
     .op (some 23) (.iadr 4 (.t 21) (.t 22)),
     .op (some 24) (.loadN 4 (.t 23)),
     .call (some 25) 175 [.t 20, .t 24],
     .op (some 26) (.not (.t 25))])
    (.keep [0, 1, 5, 26] (.cond (.t 26)
    (.seq (.ops [.op (some 4) (.mov (.k (.bool false)))])
     (.keep [4] (.ret)))
    (.skip)))))
   (.keep [0, 1, 5] (.ops [.op (some 15) (.mov (.t 5)),
    .op (some 16) (.bin .add (.t 15) (.k (.int .i64 1))),
    .op (some 5) (.mov (.t 16))])))))))))
 (.keep [] (.seq (.ops [.op (some 4) (.mov (.k (.bool true)))])
 (.keep [4] (.ret))))))))
theorem k_c_eqLockS_fits : fitsF Tryz.prog 101 ⟨27, k_c_eqLockS, [.t 4]⟩ = true := by kernel_rfl
theorem c_eqLockS {xs ys : List GLock} (hw : xs.length ≤ 9223372036854775807) : Con Tryz.prog noMv 101 [.d (.sl 4 (xs.map GLock.row)), .d (.sl 4 (ys.map GLock.row))] [] (fun r h => r = bool (eqb xs ys) ∧ h = []) := by
 refine con_of2 k_c_eqLockS_fits rfl fun C hP hmv => ?_
 unfold k_c_eqLockS
 refine cx_seq (cx_ops ?_)
 refine ax_q (q_mov rfl) ?_
 refine ax_nil (cx_keep rfl rfl (cx_seq (cx_seq (cx_ops ?_))))
 refine ax_q (q_mov rfl) ?_
 refine ax_q (q_lenS_map rfl) ?_
 refine ax_q (q_mov rfl) ?_
 refine ax_q (q_lenS_map rfl) ?_
 refine ax_q (q_ibin rfl rfl rfl) ?_
 refine ax_nil (cx_keep rfl rfl ?_)
 refine cx_cond rfl (fun h0 => ?_) (fun h0 => ?_)
 ·
  have h0 := nT h0
  refine cx_seq (cx_ops ?_)
  refine ax_q (q_mov rfl) ?_
  refine ax_nil (cx_keep rfl rfl ?_)
  refine cx_ret (ret0 rfl rfl ?_)
  exact ⟨congrArg AM.bool (eqb_f (fun h => h0 (by rw [h]))).symm, rfl⟩
 ·
  have h0 := nF h0
  refine cx_skip ?_
  refine cx_keep rfl rfl (cx_seq (cx_seq (cx_ops ?_)))
  refine ax_q (q_mov rfl) ?_
  refine ax_nil (cx_keep rfl rfl (cx_block ?_))
  have hl : xs.length = ys.length := by omega
  refine cx_loopU (fun n k => k ≤ xs.length ∧ n = xs.length - k ∧ xs.take k = ys.take k) (fun k : Nat => [(5, int k)]) (fun _ => []) ⟨_, 0, ⟨Nat.zero_le _, rfl, rfl⟩, by repeat constructor⟩ ?_
  rintro n k ⟨hk, rfl, ht⟩
  refine cx_seq (cx_seq (cx_ops ?_))
  refine ax_q (q_mov rfl) ?_
  refine ax_q (q_mov rfl) ?_
  refine ax_q (q_lenS_map rfl) ?_
  refine ax_q (q_ibin rfl rfl rfl) ?_
  refine ax_nil (cx_keep rfl rfl ?_)
  refine cx_cond rfl (fun h1 => ?_) (fun h1 => ?_)
  ·
   have h1 := dT h1
   have h1x : k < xs.length := by omega
   have h1y : k < ys.length := by omega
   refine cx_skip ?_
   refine cx_keep rfl rfl (cx_seq (cx_block (cx_seq (cx_draw ?_))))
   refine ax_q (q_mov rfl) ?_
   refine ax_q (q_mov rfl) ?_
   refine ax_q (q_ix rfl rfl (mapAt h1x)) ?_
   first | refine ax_q (q_ldN rfl rfl rfl) ?_ | refine ax_q (q_loadN_ip rfl (Nat.le_refl _)) ?_
   refine ax_q (q_mov rfl) ?_
   refine ax_q (q_mov rfl) ?_
   refine ax_q (q_ix rfl rfl (mapAt h1y)) ?_
   first | refine ax_q (q_ldN rfl rfl rfl) ?_ | refine ax_q (q_loadN_ip rfl (Nat.le_refl _)) ?_
   refine ax_callq rfl (c_eqLock) hP (lal_id _ rfl) rfl ?_
   refine ax_q (q_not rfl) ?_
   refine ax_nil (cx_keep rfl rfl ?_)
   refine cx_cond rfl (fun h2 => ?_) (fun h2 => ?_)
   ·
    have h2 := bT h2
    refine cx_seq (cx_ops ?_)
    refine ax_q (q_mov rfl) ?_
    refine ax_nil (cx_keep rfl rfl ?_)
    refine cx_ret (ret0 rfl rfl ?_)
    exact ⟨congrArg AM.bool (eqbL_no h1x h1y h2).symm, rfl⟩
   ·
    have h2 := bF h2
    refine cx_skip ?_
    refine cx_keep rfl rfl (cx_ops ?_)
    refine ax_q (q_mov rfl) ?_
    refine ax_q (q_add rfl rfl (by omega)) ?_
    refine ax_q (q_mov rfl) ?_
    refine ax_nil ?_
    exact ⟨_, k + 1, by omega, ⟨by omega, rfl, eqbL_step h1x h1y ht h2⟩, by repeat constructor⟩
  ·
   have h1 := dF h1
   refine cx_exit rfl ?_
   refine cx_keep rfl rfl (cx_seq (cx_ops ?_))
   refine ax_q (q_mov rfl) ?_
   refine ax_nil (cx_keep rfl rfl ?_)
   refine cx_ret (ret0 rfl rfl ?_)
   exact ⟨congrArg AM.bool (eqb_t (eq_of_take hl (by rwa [show k = xs.length from by omega] at ht))).symm, rfl⟩


/- loop.example/g00332/laws.eqWait -/
def k_c_eqWait : XCode :=
 .seq (.ops [.op (some 2) (.box (.t 0)),
   .op (some 3) (.box (.t 1)),
   .op (some 4) (.mov (.k (.bool false)))])
 (.keep [2, 3] (.seq (.seq (.ops [.op (some 5) (.fadr (.t 2) 0),
   .op (some 6) (.load1 (.t 5)),
   .op (some 7) (.fadr (.t 3) 0),
   .op (some 8) (.load1 (.t 7)),
   .op (some 9) (.bin .neq (.t 6) (.t 8))])
  (.keep [2, 3, 9] (.cond (.t 9)
  (.seq (.ops [.op (some 4) (.mov (.k (.bool false)))])
   (.keep [4] (.ret)))
  (.skip))))
 (.keep [2, 3] (.seq (.seq (.ops [.op (some 10) (.fadr (.t 2) 1),
   .op (some 11) (.load1 (.t 10)),
   .op (some 12) (.fadr (.t 3) 1),
   .op (some 13) (.load1 (.t 12)),
   .op (some 14) (.bin .neq (.t 11) (.t 13))])
  (.keep [14] (.cond (.t 14)
  (.seq (.ops [.op (some 4) (.mov (.k (.bool false)))])
   (.keep [4] (.ret)))
  (.skip))))
 (.keep [] (.seq (.ops [.op (some 4) (.mov (.k (.bool true)))])
 (.keep [4] (.ret))))))))
theorem k_c_eqWait_fits : fitsF Tryz.prog 176 ⟨15, k_c_eqWait, [.t 4]⟩ = true := by kernel_rfl
theorem c_eqWait {a b : GWait}  : Con Tryz.prog noMv 176 [a.av, b.av] [] (fun r h => r = bool (eqb a b) ∧ h = []) := by
 refine con_of2 k_c_eqWait_fits rfl fun C hP hmv => ?_
 unfold k_c_eqWait
 refine cx_seq (cx_ops ?_)
 refine ax_e (e_box rfl rfl (by decide) rfl rfl rfl) ?_
 refine ax_e (e_box rfl rfl (by decide) rfl rfl rfl) ?_
 refine ax_q (q_mov rfl) ?_
 refine ax_nil (cx_keep rfl rfl (cx_seq (cx_seq (cx_ops ?_))))
 refine ax_q (q_fadr_ptr rfl) ?_
 refine ax_q (q_load1_ptr rfl rfl rfl) ?_
 refine ax_q (q_fadr_ptr rfl) ?_
 refine ax_q (q_load1_ptr rfl rfl rfl) ?_
 refine ax_q (q_ibin rfl rfl rfl) ?_
 refine ax_nil (cx_keep rfl rfl ?_)
 refine cx_cond rfl (fun h0 => ?_) (fun h0 => ?_)
 ·
  have h0 := nT h0
  refine cx_seq (cx_ops ?_)
  refine ax_q (q_mov rfl) ?_
  refine ax_nil (cx_keep rfl rfl ?_)
  refine cx_ret (ret0 rfl rfl ?_)
  exact ⟨congrArg AM.bool (eqb_f (fun h => h0 (by rw [h]))).symm, rfl⟩
 ·
  have h0 := nF h0
  refine cx_skip ?_
  refine cx_keep rfl rfl (cx_seq (cx_seq (cx_ops ?_)))
  refine ax_q (q_fadr_ptr rfl) ?_
  refine ax_q (q_load1_ptr rfl rfl rfl) ?_
  refine ax_q (q_fadr_ptr rfl) ?_
  refine ax_q (q_load1_ptr rfl rfl rfl) ?_
  refine ax_q (q_ibin rfl rfl rfl) ?_
  refine ax_nil (cx_keep rfl rfl ?_)
  refine cx_cond rfl (fun h1 => ?_) (fun h1 => ?_)
  ·
   have h1 := nT h1
   refine cx_seq (cx_ops ?_)
   refine ax_q (q_mov rfl) ?_
   refine ax_nil (cx_keep rfl rfl ?_)
   refine cx_ret (ret0 rfl rfl ?_)
   exact ⟨congrArg AM.bool (eqb_f (fun h => h1 (by rw [h]))).symm, rfl⟩
  ·
   have h1 := nF h1
   refine cx_skip ?_
   refine cx_keep rfl rfl (cx_seq (cx_ops ?_))
   refine ax_q (q_mov rfl) ?_
   refine ax_nil (cx_keep rfl rfl ?_)
   refine cx_ret (ret0 rfl rfl ?_)
   exact ⟨congrArg AM.bool (eqb_t (GWait.ext1 h0 h1)).symm, rfl⟩


/- loop.example/g00332/laws.eqWaitS -/
def k_c_eqWaitS : XCode :=
 .seq (.ops [.op (some 4) (.mov (.k (.bool false)))])
 (.keep [0, 1] (.seq (.seq (.ops [.op (some 6) (.mov (.t 0)),
   .op (some 7) (.lenS (.t 6)),
   .op (some 8) (.mov (.t 1)),
   .op (some 9) (.lenS (.t 8)),
   .op (some 10) (.bin .neq (.t 7) (.t 9))])
  (.keep [0, 1, 10] (.cond (.t 10)
  (.seq (.ops [.op (some 4) (.mov (.k (.bool false)))])
   (.keep [4] (.ret)))
  (.skip))))
 (.keep [0, 1] (.seq (.seq (.ops [.op (some 5) (.mov (.k (.int .i64 0)))])
  (.keep [0, 1, 5] (.block 0 (.loop (.seq (.seq (.ops [.op (some 11) (.mov (.t 5)),
     .op (some 12) (.mov (.t 0)),
     .op (some 13) (.lenS (.t 12)),
     .op (some 14) (.bin .lss (.t 11) (.t 13))])
   (.keep [0, 1, 5, 14] (.cond (.t 14)
    (.skip)
    (.exit 0))))
   (.keep [0, 1, 5] (.seq (.block 1 (.seq (.draw [.op (some 17) (.mov (.t 0)),
     .op (some 18) (.mov (.t 5)),
     .op (some 19) (.iadr 2 (.t 17) (.t 18)),
     .op (some 20) (.loadN 2 (.t 19)),
     .op (some 21) (.mov (.t 1)),
     .op (some 22) (.mov (.t 5)),
     .op (some 23) (.iadr 2 (.t 21) (.t 22)),
     .op (some 24) (.loadN 2 (.t 23)),
     .call (some 25) 176 [.t 20, .t 24],
     .op (some 26) (.not (.t 25))])
    (.keep [0, 1, 5, 26] (.cond (.t 26)
    (.seq (.ops [.op (some 4) (.mov (.k (.bool false)))])
     (.keep [4] (.ret)))
    (.skip)))))
   (.keep [0, 1, 5] (.ops [.op (some 15) (.mov (.t 5)),
    .op (some 16) (.bin .add (.t 15) (.k (.int .i64 1))),
    .op (some 5) (.mov (.t 16))])))))))))
 (.keep [] (.seq (.ops [.op (some 4) (.mov (.k (.bool true)))])
 (.keep [4] (.ret))))))))
theorem k_c_eqWaitS_fits : fitsF Tryz.prog 102 ⟨27, k_c_eqWaitS, [.t 4]⟩ = true := by kernel_rfl
theorem c_eqWaitS {xs ys : List GWait} (hw : xs.length ≤ 9223372036854775807) : Con Tryz.prog noMv 102 [.d (.sl 2 (xs.map GWait.row)), .d (.sl 2 (ys.map GWait.row))] [] (fun r h => r = bool (eqb xs ys) ∧ h = []) := by
 refine con_of2 k_c_eqWaitS_fits rfl fun C hP hmv => ?_
 unfold k_c_eqWaitS
 refine cx_seq (cx_ops ?_)
 refine ax_q (q_mov rfl) ?_
 refine ax_nil (cx_keep rfl rfl (cx_seq (cx_seq (cx_ops ?_))))
 refine ax_q (q_mov rfl) ?_
 refine ax_q (q_lenS_map rfl) ?_
 refine ax_q (q_mov rfl) ?_
 refine ax_q (q_lenS_map rfl) ?_
 refine ax_q (q_ibin rfl rfl rfl) ?_
 refine ax_nil (cx_keep rfl rfl ?_)
 refine cx_cond rfl (fun h0 => ?_) (fun h0 => ?_)
 ·
  have h0 := nT h0
  refine cx_seq (cx_ops ?_)
  refine ax_q (q_mov rfl) ?_
  refine ax_nil (cx_keep rfl rfl ?_)
  refine cx_ret (ret0 rfl rfl ?_)
  exact ⟨congrArg AM.bool (eqb_f (fun h => h0 (by rw [h]))).symm, rfl⟩
 ·
  have h0 := nF h0
  refine cx_skip ?_
  refine cx_keep rfl rfl (cx_seq (cx_seq (cx_ops ?_)))
  refine ax_q (q_mov rfl) ?_
  refine ax_nil (cx_keep rfl rfl (cx_block ?_))
  have hl : xs.length = ys.length := by omega
  refine cx_loopU (fun n k => k ≤ xs.length ∧ n = xs.length - k ∧ xs.take k = ys.take k) (fun k : Nat => [(5, int k)]) (fun _ => []) ⟨_, 0, ⟨Nat.zero_le _, rfl, rfl⟩, by repeat constructor⟩ ?_
  rintro n k ⟨hk, rfl, ht⟩
  refine cx_seq (cx_seq (cx_ops ?_))
  refine ax_q (q_mov rfl) ?_
  refine ax_q (q_mov rfl) ?_
  refine ax_q (q_lenS_map rfl) ?_
  refine ax_q (q_ibin rfl rfl rfl) ?_
  refine ax_nil (cx_keep rfl rfl ?_)
  refine cx_cond rfl (fun h1 => ?_) (fun h1 => ?_)
  ·
   have h1 := dT h1
   have h1x : k < xs.length := by omega
   have h1y : k < ys.length := by omega
   refine cx_skip ?_
   refine cx_keep rfl rfl (cx_seq (cx_block (cx_seq (cx_draw ?_))))
   refine ax_q (q_mov rfl) ?_
   refine ax_q (q_mov rfl) ?_
   refine ax_q (q_ix rfl rfl (mapAt h1x)) ?_
   first | refine ax_q (q_ldN rfl rfl rfl) ?_ | refine ax_q (q_loadN_ip rfl (Nat.le_refl _)) ?_
   refine ax_q (q_mov rfl) ?_
   refine ax_q (q_mov rfl) ?_
   refine ax_q (q_ix rfl rfl (mapAt h1y)) ?_
   first | refine ax_q (q_ldN rfl rfl rfl) ?_ | refine ax_q (q_loadN_ip rfl (Nat.le_refl _)) ?_
   refine ax_callq rfl (c_eqWait) hP (lal_id _ rfl) rfl ?_
   refine ax_q (q_not rfl) ?_
   refine ax_nil (cx_keep rfl rfl ?_)
   refine cx_cond rfl (fun h2 => ?_) (fun h2 => ?_)
   ·
    have h2 := bT h2
    refine cx_seq (cx_ops ?_)
    refine ax_q (q_mov rfl) ?_
    refine ax_nil (cx_keep rfl rfl ?_)
    refine cx_ret (ret0 rfl rfl ?_)
    exact ⟨congrArg AM.bool (eqbL_no h1x h1y h2).symm, rfl⟩
   ·
    have h2 := bF h2
    refine cx_skip ?_
    refine cx_keep rfl rfl (cx_ops ?_)
    refine ax_q (q_mov rfl) ?_
    refine ax_q (q_add rfl rfl (by omega)) ?_
    refine ax_q (q_mov rfl) ?_
    refine ax_nil ?_
    exact ⟨_, k + 1, by omega, ⟨by omega, rfl, eqbL_step h1x h1y ht h2⟩, by repeat constructor⟩
  ·
   have h1 := dF h1
   refine cx_exit rfl ?_
   refine cx_keep rfl rfl (cx_seq (cx_ops ?_))
   refine ax_q (q_mov rfl) ?_
   refine ax_nil (cx_keep rfl rfl ?_)
   refine cx_ret (ret0 rfl rfl ?_)
   exact ⟨congrArg AM.bool (eqb_t (eq_of_take hl (by rwa [show k = xs.length from by omega] at ht))).symm, rfl⟩


/- loop.example/g00332/laws.eqLocks -/
def k_c_eqLocks : XCode :=
 .seq (.ops [.op (some 2) (.box (.t 0)),
   .op (some 3) (.box (.t 1)),
   .op (some 4) (.mov (.k (.bool false)))])
 (.keep [2, 3] (.seq (.seq (.ops [.op (some 5) (.fadr (.t 2) 0),
   .op (some 6) (.load1 (.t 5)),
   .op (some 7) (.fadr (.t 3) 0),
   .op (some 8) (.load1 (.t 7)),
   .call (some 9) 101 [.t 6, .t 8],
   .op (some 10) (.not (.t 9))])
  (.keep [2, 3, 10] (.cond (.t 10)
  (.seq (.ops [.op (some 4) (.mov (.k (.bool false)))])
   (.keep [4] (.ret)))
  (.skip))))
 (.keep [2, 3] (.seq (.seq (.ops [.op (some 11) (.fadr (.t 2) 1),
   .op (some 12) (.load1 (.t 11)),
   .op (some 13) (.fadr (.t 3) 1),
   .op (some 14) (.load1 (.t 13)),
   .call (some 15) 102 [.t 12, .t 14],
   .op (some 16) (.not (.t 15))])
  (.keep [16] (.cond (.t 16)
  (.seq (.ops [.op (some 4) (.mov (.k (.bool false)))])
   (.keep [4] (.ret)))
  (.skip))))
 (.keep [] (.seq (.ops [.op (some 4) (.mov (.k (.bool true)))])
 (.keep [4] (.ret))))))))
theorem k_c_eqLocks_fits : fitsF Tryz.prog 45 ⟨17, k_c_eqLocks, [.t 4]⟩ = true := by kernel_rfl
theorem c_eqLocks {a b : GLocks} (hw0 : a.Held.length ≤ 9223372036854775807) (hw1 : a.Waits.length ≤ 9223372036854775807) : Con Tryz.prog noMv 45 [a.av, b.av] [] (fun r h => r = bool (eqb a b) ∧ h = []) := by
 refine con_of2 k_c_eqLocks_fits rfl fun C hP hmv => ?_
 unfold k_c_eqLocks
 refine cx_seq (cx_ops ?_)
 refine ax_e (e_box rfl rfl (by decide) rfl rfl rfl) ?_
 refine ax_e (e_box rfl rfl (by decide) rfl rfl rfl) ?_
 refine ax_q (q_mov rfl) ?_
 refine ax_nil (cx_keep rfl rfl (cx_seq (cx_seq (cx_ops ?_))))
 refine ax_q (q_fadr_ptr rfl) ?_
 refine ax_q (q_load1_ptr rfl rfl rfl) ?_
 refine ax_q (q_fadr_ptr rfl) ?_
 refine ax_q (q_load1_ptr rfl rfl rfl) ?_
 refine ax_call rfl (vc_pure0 (c_eqLockS  ?_) hP rfl rfl ?_)
 ·
  assumption
 refine ax_q (q_not rfl) ?_
 refine ax_nil (cx_keep rfl rfl ?_)
 refine cx_cond rfl (fun h0 => ?_) (fun h0 => ?_)
 ·
  have h0 := bT h0
  refine cx_seq (cx_ops ?_)
  refine ax_q (q_mov rfl) ?_
  refine ax_nil (cx_keep rfl rfl ?_)
  refine cx_ret (ret0 rfl rfl ?_)
  exact ⟨congrArg AM.bool (eqb_f (fun h => by rw [h, eqb_rfl] at h0; cases h0)).symm, rfl⟩
 ·
  have h0 := bF h0
  refine cx_skip ?_
  refine cx_keep rfl rfl (cx_seq (cx_seq (cx_ops ?_)))
  refine ax_q (q_fadr_ptr rfl) ?_
  refine ax_q (q_load1_ptr rfl rfl rfl) ?_
  refine ax_q (q_fadr_ptr rfl) ?_
  refine ax_q (q_load1_ptr rfl rfl rfl) ?_
  refine ax_call rfl (vc_pure0 (c_eqWaitS  ?_) hP rfl rfl ?_)
  ·
   assumption
  refine ax_q (q_not rfl) ?_
  refine ax_nil (cx_keep rfl rfl ?_)
  refine cx_cond rfl (fun h1 => ?_) (fun h1 => ?_)
  ·
   have h1 := bT h1
   refine cx_seq (cx_ops ?_)
   refine ax_q (q_mov rfl) ?_
   refine ax_nil (cx_keep rfl rfl ?_)
   refine cx_ret (ret0 rfl rfl ?_)
   exact ⟨congrArg AM.bool (eqb_f (fun h => by rw [h, eqb_rfl] at h1; cases h1)).symm, rfl⟩
  ·
   have h1 := bF h1
   refine cx_skip ?_
   refine cx_keep rfl rfl (cx_seq (cx_ops ?_))
   refine ax_q (q_mov rfl) ?_
   refine ax_nil (cx_keep rfl rfl ?_)
   refine cx_ret (ret0 rfl rfl ?_)
   exact ⟨congrArg AM.bool (eqb_t (GLocks.ext1 (eqb_iff.1 h0) (eqb_iff.1 h1))).symm, rfl⟩


/- loop.example/g00332/laws.eqEngine -/
def k_c_eqEngine : XCode :=
 .seq (.ops [.op (some 2) (.box (.t 0)),
   .op (some 3) (.box (.t 1)),
   .op (some 4) (.mov (.k (.bool false)))])
 (.keep [2, 3] (.seq (.seq (.ops [.op (some 5) (.fadr (.t 2) 0),
   .op (some 6) (.loadN 9 (.t 5)),
   .op (some 7) (.fadr (.t 3) 0),
   .op (some 8) (.loadN 9 (.t 7)),
   .call (some 9) 19 [.t 6, .t 8],
   .op (some 10) (.not (.t 9))])
  (.keep [2, 3, 10] (.cond (.t 10)
  (.seq (.ops [.op (some 4) (.mov (.k (.bool false)))])
   (.keep [4] (.ret)))
  (.skip))))
 (.keep [2, 3] (.seq (.seq (.ops [.op (some 11) (.fadr (.t 2) 9),
   .op (some 12) (.load1 (.t 11)),
   .op (some 13) (.fadr (.t 3) 9),
   .op (some 14) (.load1 (.t 13)),
   .op (some 15) (.eqb true (.t 12) (.t 14))])
  (.keep [2, 3, 15] (.cond (.t 15)
  (.seq (.ops [.op (some 4) (.mov (.k (.bool false)))])
   (.keep [4] (.ret)))
  (.skip))))
 (.keep [2, 3] (.seq (.seq (.ops [.op (some 16) (.fadr (.t 2) 10),
   .op (some 17) (.load1 (.t 16)),
   .op (some 18) (.fadr (.t 3) 10),
   .op (some 19) (.load1 (.t 18)),
   .call (some 20) 44 [.t 17, .t 19],
   .op (some 21) (.not (.t 20))])
  (.keep [2, 3, 21] (.cond (.t 21)
  (.seq (.ops [.op (some 4) (.mov (.k (.bool false)))])
   (.keep [4] (.ret)))
  (.skip))))
 (.keep [2, 3] (.seq (.seq (.ops [.op (some 22) (.fadr (.t 2) 11),
   .op (some 23) (.loadN 2 (.t 22)),
   .op (some 24) (.fadr (.t 3) 11),
   .op (some 25) (.loadN 2 (.t 24)),
   .call (some 26) 45 [.t 23, .t 25],
   .op (some 27) (.not (.t 26))])
  (.keep [2, 3, 27] (.cond (.t 27)
  (.seq (.ops [.op (some 4) (.mov (.k (.bool false)))])
   (.keep [4] (.ret)))
  (.skip))))
 (.keep [2, 3] (.seq (.seq (.ops [.op (some 28) (.fadr (.t 2) 13),
   .op (some 29) (.load1 (.t 28)),
   .op (some 30) (.fadr (.t 3) 13),
   .op (some 31) (.load1 (.t 30)),
   .op (some 32) (.bin .neq (.t 29) (.t 31))])
  (.keep [32] (.cond (.t 32)
  (.seq (.ops [.op (some 4) (.mov (.k (.bool false)))])
   (.keep [4] (.ret)))
  (.skip))))
 (.keep [] (.seq (.ops [.op (some 4) (.mov (.k (.bool true)))])
 (.keep [4] (.ret))))))))))))))
theorem k_c_eqEngine_fits : fitsF Tryz.prog 11 ⟨33, k_c_eqEngine, [.t 4]⟩ = true := by kernel_rfl
theorem c_eqEngine {a b : GEngine} (hb : EnB a) : Con Tryz.prog noMv 11 [a.av, b.av] [] (fun r h => r = bool (eqb a b) ∧ h = []) := by
 refine con_of2 k_c_eqEngine_fits rfl fun C hP hmv => ?_
 unfold k_c_eqEngine
 obtain ⟨hs, hw0, hw1, hw2, hw3⟩ := hb
 refine cx_seq (cx_ops ?_)
 refine ax_e (e_box rfl rfl (by decide) rfl rfl rfl) ?_
 refine ax_e (e_box rfl rfl (by decide) rfl rfl rfl) ?_
 refine ax_q (q_mov rfl) ?_
 refine ax_nil (cx_keep rfl rfl (cx_seq (cx_seq (cx_ops ?_))))
 refine ax_q (q_fadr_ptr rfl) ?_
 refine ax_q (q_ldN rfl rfl rfl) ?_
 refine ax_q (q_fadr_ptr rfl) ?_
 refine ax_q (q_ldN rfl rfl rfl) ?_
 refine ax_call rfl (vc_pure0 (c_eqStore  ?_) hP rfl rfl ?_)
 ·
  assumption
 refine ax_q (q_not rfl) ?_
 refine ax_nil (cx_keep rfl rfl ?_)
 refine cx_cond rfl (fun h0 => ?_) (fun h0 => ?_)
 ·
  have h0 := bT h0
  refine cx_seq (cx_ops ?_)
  refine ax_q (q_mov rfl) ?_
  refine ax_nil (cx_keep rfl rfl ?_)
  refine cx_ret (ret0 rfl rfl ?_)
  exact ⟨congrArg AM.bool (eqb_f (fun h => by rw [h, eqb_rfl] at h0; cases h0)).symm, rfl⟩
 ·
  have h0 := bF h0
  refine cx_skip ?_
  refine cx_keep rfl rfl (cx_seq (cx_seq (cx_ops ?_)))
  refine ax_q (q_fadr_ptr rfl) ?_
  refine ax_q (q_load1_ptr rfl rfl rfl) ?_
  refine ax_q (q_fadr_ptr rfl) ?_
  refine ax_q (q_load1_ptr rfl rfl rfl) ?_
  refine ax_q (q_eqb rfl rfl) ?_
  refine ax_nil (cx_keep rfl rfl ?_)
  refine cx_cond rfl (fun h1 => ?_) (fun h1 => ?_)
  ·
   have h1 := bneT h1
   refine cx_seq (cx_ops ?_)
   refine ax_q (q_mov rfl) ?_
   refine ax_nil (cx_keep rfl rfl ?_)
   refine cx_ret (ret0 rfl rfl ?_)
   exact ⟨congrArg AM.bool (eqb_f (fun h => h1 (by rw [h]))).symm, rfl⟩
  ·
   have h1 := bneF h1
   refine cx_skip ?_
   refine cx_keep rfl rfl (cx_seq (cx_seq (cx_ops ?_)))
   refine ax_q (q_fadr_ptr rfl) ?_
   refine ax_q (q_load1_ptr rfl rfl rfl) ?_
   refine ax_q (q_fadr_ptr rfl) ?_
   refine ax_q (q_load1_ptr rfl rfl rfl) ?_
   refine ax_call rfl (vc_pure0 (c_eqTxS  ?_) hP rfl rfl ?_)
   ·
    first | assumption | omega
   refine ax_q (q_not rfl) ?_
   refine ax_nil (cx_keep rfl rfl ?_)
   refine cx_cond rfl (fun h2 => ?_) (fun h2 => ?_)
   ·
    have h2 := bT h2
    refine cx_seq (cx_ops ?_)
    refine ax_q (q_mov rfl) ?_
    refine ax_nil (cx_keep rfl rfl ?_)
    refine cx_ret (ret0 rfl rfl ?_)
    exact ⟨congrArg AM.bool (eqb_f (fun h => by rw [h, eqb_rfl] at h2; cases h2)).symm, rfl⟩
   ·
    have h2 := bF h2
    refine cx_skip ?_
    refine cx_keep rfl rfl (cx_seq (cx_seq (cx_ops ?_)))
    refine ax_q (q_fadr_ptr rfl) ?_
    refine ax_q (q_ldN rfl rfl rfl) ?_
    refine ax_q (q_fadr_ptr rfl) ?_
    refine ax_q (q_ldN rfl rfl rfl) ?_
    refine ax_call rfl (vc_pure0 (c_eqLocks  ?_ ?_) hP rfl rfl ?_)
    ·
     first | assumption | omega
    ·
     first | assumption | omega
    refine ax_q (q_not rfl) ?_
    refine ax_nil (cx_keep rfl rfl ?_)
    refine cx_cond rfl (fun h3 => ?_) (fun h3 => ?_)
    ·
     have h3 := bT h3
     refine cx_seq (cx_ops ?_)
     refine ax_q (q_mov rfl) ?_
     refine ax_nil (cx_keep rfl rfl ?_)
     refine cx_ret (ret0 rfl rfl ?_)
     exact ⟨congrArg AM.bool (eqb_f (fun h => by rw [h, eqb_rfl] at h3; cases h3)).symm, rfl⟩
    ·
     have h3 := bF h3
     refine cx_skip ?_
     refine cx_keep rfl rfl (cx_seq (cx_seq (cx_ops ?_)))
     refine ax_q (q_fadr_ptr rfl) ?_
     refine ax_q (q_load1_ptr rfl rfl rfl) ?_
     refine ax_q (q_fadr_ptr rfl) ?_
     refine ax_q (q_load1_ptr rfl rfl rfl) ?_
     refine ax_q (q_ibin rfl rfl rfl) ?_
     refine ax_nil (cx_keep rfl rfl ?_)
     refine cx_cond rfl (fun h4 => ?_) (fun h4 => ?_)
     ·
      have h4 := nT h4
      refine cx_seq (cx_ops ?_)
      refine ax_q (q_mov rfl) ?_
      refine ax_nil (cx_keep rfl rfl ?_)
      refine cx_ret (ret0 rfl rfl ?_)
      exact ⟨congrArg AM.bool (eqb_f (fun h => h4 (by rw [h]))).symm, rfl⟩
     ·
      have h4 := nF h4
      refine cx_skip ?_
      refine cx_keep rfl rfl (cx_seq (cx_ops ?_))
      refine ax_q (q_mov rfl) ?_
      refine ax_nil (cx_keep rfl rfl ?_)
      refine cx_ret (ret0 rfl rfl ?_)
      exact ⟨congrArg AM.bool (eqb_t (GEngine.ext1 (eqb_iff.1 h0) h1 (eqb_iff.1 h2) (eqb_iff.1 h3) h4)).symm, rfl⟩

end Go.Proofs.YtbanegjijhmojaaGreat
