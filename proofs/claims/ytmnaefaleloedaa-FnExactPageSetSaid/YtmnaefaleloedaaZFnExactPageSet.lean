/- The law FnExactPageSet of the given program returns true for all arguments, and its arguments read behind the call as they read before: the statement FnExactPageSetSaid, with no condition. -/
import Derived.Test.YtmnaefaleloedaaW
import Derived.Test.YtmnaefaleloedaaRows
namespace Go.Proofs.Ytmnaefaleloedaa
open Go Go.AM Go.ChangeShapes Go.RowKit
set_option linter.unusedVariables false
namespace fnExactPageSet
set_option maxRecDepth 10000
/- loop.example/g00332/laws.FnExactPageSet -/
def k_c_FnExactPageSet : XCode :=
  .seq (.ops [.op (some 4) (.box (.t 0)),
     .op (some 8) (.mov (.k (.bool false)))])
  (.keep [1, 2, 3, 4] (.seq (.seq (.ops [.op (some 20) (.mov (.t 2)),
      .op (some 21) (.lenT (.t 20)),
      .op (some 22) (.bin .gtr (.t 21) (.k (.int .i64 1048576)))])
   (.keep [1, 2, 3, 4, 22] (.cond (.t 22)
    (.seq (.ops [.op (some 8) (.mov (.k (.bool true)))])
     (.keep [8] (.ret)))
    (.skip))))
  (.keep [1, 2, 3, 4] (.seq (.ops [.op (some 9) (.mov (.k (.int .i64 1048576)))])
  (.keep [1, 2, 3, 4, 9] (.seq (.ops [.op (some 23) (.loadN 2 (.t 4)),
     .op (some 24) (.mov (.t 9)),
     .call (some 25) 5 [.t 23, .t 24],
     .op (some 9) (.mov (.t 25))])
  (.keep [1, 2, 3, 4, 9] (.seq (.seq (.ops [.op (some 26) (.mov (.t 9)),
      .op (some 27) (.bin .lss (.t 26) (.k (.int .i64 0)))])
   (.keep [1, 2, 3, 4, 27] (.cond (.t 27)
    (.seq (.ops [.op (some 8) (.mov (.k (.bool true)))])
     (.keep [8] (.ret)))
    (.skip))))
  (.keep [1, 2, 3, 4] (.seq (.ops [.op (some 29) (.loadN 2 (.t 4)),
     .call (some 30) 7 [.t 29],
     .op (some 31) (.mov (.t 1)),
     .op (some 32) (.mov (.t 2)),
     .op (some 33) (.mov (.t 3)),
     .call (some 34) 6 [.t 30, .t 31, .t 32, .t 33],
     .op (some 28) (.mov (.t 34)),
     .op (some 35) (.ext (.t 28) 0),
     .op (some 36) (.ext (.t 28) 1),
     .op (some 10) (.alloc [.int .i64 0, .nils 1]),
     .op none (.store 2 (.t 10) (.t 35)),
     .op (some 11) (.mov (.t 36))])
  (.keep [1, 2, 3, 4, 10, 11] (.seq (.ops [.op (some 37) (.loadN 2 (.t 4)),
     .call (some 38) 7 [.t 37],
     .op (some 12) (.alloc [.int .i64 0, .nils 1]),
     .op none (.store 2 (.t 12) (.t 38))])
  (.keep [1, 2, 3, 4, 10, 11, 12] (.seq (.ops [.op (some 40) (.loadN 2 (.t 12)),
     .op (some 41) (.mov (.t 1)),
     .op (some 42) (.mov (.t 2)),
     .op (some 43) (.mov (.t 3)),
     .call (some 44) 8 [.t 40, .t 41, .t 42, .t 43],
     .op (some 39) (.mov (.t 44)),
     .op (some 45) (.ext (.t 39) 0),
     .op (some 46) (.ext (.t 39) 1),
     .op (some 13) (.alloc [.int .i64 0, .nils 1]),
     .op none (.store 2 (.t 13) (.t 45)),
     .op (some 14) (.mov (.t 46))])
  (.keep [1, 2, 3, 4, 10, 11, 12, 13, 14] (.seq (.seq (.ops [.op (some 47) (.loadN 2 (.t 13)),
      .op (some 48) (.loadN 2 (.t 10)),
      .call (some 49) 9 [.t 47, .t 48],
      .op (some 50) (.not (.t 49)),
      .op (some 51) (.mov (.t 50)),
      .andor 55 false 4 51 [.op (some 52) (.mov (.t 14)), .op (some 53) (.mov (.t 11)), .op (some 54) (.bin .neq (.t 52) (.t 53))] (.t 54)])
   (.keep [1, 2, 3, 4, 10, 11, 12, 13, 14, 55] (.cond (.t 55)
    (.seq (.ops [.op (some 8) (.mov (.k (.bool false)))])
     (.keep [8] (.ret)))
    (.skip))))
  (.keep [1, 2, 3, 4, 10, 11, 12, 13, 14] (.seq (.seq (.drawE [[], [], [1], [0, 1, 2], [0, 1, 2, 3]] [.op (some 56) (.loadN 2 (.t 12)),
      .op (some 57) (.loadN 2 (.t 4)),
      .call (some 58) 7 [.t 57]]
     [.call (some 59) 9 [.t 56, .t 58],
      .op (some 60) (.not (.t 59))])
   (.keep [1, 2, 3, 4, 10, 11, 12, 13, 14, 60] (.cond (.t 60)
    (.seq (.ops [.op (some 8) (.mov (.k (.bool false)))])
     (.keep [8] (.ret)))
    (.skip))))
  (.keep [1, 2, 3, 4, 10, 11, 12, 13, 14] (.seq (.ops [.op (some 15) (.mov (.k (.int .i64 1)))])
  (.keep [1, 2, 3, 4, 10, 11, 12, 13, 14, 15] (.seq (.ops [.op (some 61) (.loadN 2 (.t 12)),
     .op (some 62) (.mov (.t 15)),
     .call (some 63) 10 [.t 61, .t 62],
     .op (some 15) (.mov (.t 63))])
  (.keep [1, 2, 3, 4, 10, 11, 13, 14, 15] (.seq (.seq (.ops [.op (some 64) (.mov (.t 15)),
      .op (some 65) (.bin .lss (.t 64) (.k (.int .i64 0))),
      .op (some 66) (.mov (.t 65)),
      .andor 71 false 2 66 [.op (some 67) (.loadN 2 (.t 13)), .op (some 68) (.loadN 2 (.t 10)), .call (some 69) 9 [.t 67, .t 68], .op (some 70) (.not (.t 69))] (.t 70),
      .op (some 72) (.mov (.t 71)),
      .andor 76 false 8 72 [.op (some 73) (.mov (.t 14)), .op (some 74) (.mov (.t 11)), .op (some 75) (.bin .neq (.t 73) (.t 74))] (.t 75)])
   (.keep [1, 2, 3, 4, 10, 11, 13, 76] (.cond (.t 76)
    (.seq (.ops [.op (some 8) (.mov (.k (.bool false)))])
     (.keep [8] (.ret)))
    (.skip))))
  (.keep [1, 2, 3, 4, 10, 11, 13] (.seq (.ops [.op (some 16) (.mov (.k (.int .i64 1)))])
  (.keep [1, 2, 3, 4, 10, 11, 13, 16] (.seq (.ops [.op (some 77) (.loadN 2 (.t 13)),
     .op (some 78) (.mov (.t 16)),
     .call (some 79) 10 [.t 77, .t 78],
     .op (some 16) (.mov (.t 79))])
  (.keep [1, 2, 3, 4, 10, 11, 13, 16] (.seq (.ops [.op (some 17) (.mov (.k (.int .i64 1)))])
  (.keep [1, 2, 3, 4, 10, 11, 13, 16, 17] (.seq (.ops [.op (some 80) (.loadN 2 (.t 13)),
     .op (some 81) (.mov (.t 17)),
     .call (some 82) 11 [.t 80, .t 81],
     .op (some 17) (.mov (.t 82))])
  (.keep [1, 2, 3, 4, 10, 11, 13, 16, 17] (.seq (.seq (.ops [.op (some 83) (.mov (.t 17)),
      .op (some 84) (.bin .lss (.t 83) (.k (.int .i64 0)))])
   (.keep [1, 2, 3, 4, 10, 11, 13, 16, 17, 84] (.cond (.t 84)
    (.seq (.ops [.op (some 8) (.mov (.k (.bool false)))])
     (.keep [8] (.ret)))
    (.skip))))
  (.keep [1, 2, 3, 4, 10, 11, 13, 16, 17] (.seq (.seq (.ops [.op (some 85) (.mov (.t 17)),
      .op (some 86) (.mov (.t 16)),
      .op (some 87) (.bin .neq (.t 85) (.t 86))])
   (.keep [1, 2, 3, 4, 10, 11, 13, 16, 87] (.cond (.t 87)
    (.seq (.ops [.op (some 8) (.mov (.k (.bool false)))])
     (.keep [8] (.ret)))
    (.skip))))
  (.keep [1, 2, 3, 4, 10, 11, 13, 16] (.seq (.ops [.op (some 89) (.loadN 2 (.t 4)),
     .call (some 90) 7 [.t 89],
     .op (some 91) (.mov (.t 1)),
     .op (some 92) (.mov (.t 2)),
     .op (some 93) (.mov (.t 3)),
     .call (some 94) 8 [.t 90, .t 91, .t 92, .t 93],
     .op (some 88) (.mov (.t 94)),
     .op (some 95) (.ext (.t 88) 0),
     .op (some 96) (.ext (.t 88) 1),
     .op (some 18) (.alloc [.int .i64 0, .nils 1]),
     .op none (.store 2 (.t 18) (.t 95)),
     .op (some 19) (.mov (.t 96))])
  (.keep [10, 11, 13, 16, 18, 19] (.seq (.seq (.ops [.op (some 97) (.loadN 2 (.t 18)),
      .op (some 98) (.loadN 2 (.t 10)),
      .call (some 99) 9 [.t 97, .t 98],
      .op (some 100) (.not (.t 99)),
      .op (some 101) (.mov (.t 100)),
      .andor 105 false 4 101 [.op (some 102) (.mov (.t 19)), .op (some 103) (.mov (.t 11)), .op (some 104) (.bin .neq (.t 102) (.t 103))] (.t 104)])
   (.keep [13, 16, 105] (.cond (.t 105)
    (.seq (.ops [.op (some 8) (.mov (.k (.bool false)))])
     (.keep [8] (.ret)))
    (.skip))))
  (.keep [13, 16] (.seq (.ops [.op (some 17) (.mov (.k (.int .i64 1)))])
  (.keep [13, 16, 17] (.seq (.ops [.op (some 106) (.loadN 2 (.t 13)),
     .op (some 107) (.mov (.t 17)),
     .call (some 108) 11 [.t 106, .t 107],
     .op (some 17) (.mov (.t 108))])
  (.keep [16, 17] (.seq (.seq (.ops [.op (some 109) (.mov (.t 17)),
      .op (some 110) (.bin .lss (.t 109) (.k (.int .i64 0)))])
   (.keep [16, 17, 110] (.cond (.t 110)
    (.seq (.ops [.op (some 8) (.mov (.k (.bool false)))])
     (.keep [8] (.ret)))
    (.skip))))
  (.keep [16, 17] (.seq (.seq (.ops [.op (some 111) (.mov (.t 17)),
      .op (some 112) (.mov (.t 16)),
      .op (some 113) (.bin .neq (.t 111) (.t 112))])
   (.keep [113] (.cond (.t 113)
    (.seq (.ops [.op (some 8) (.mov (.k (.bool false)))])
     (.keep [8] (.ret)))
    (.skip))))
  (.keep [] (.seq (.ops [.op (some 8) (.mov (.k (.bool true)))])
  (.keep [8] (.ret))))))))))))))))))))))))))))))))))))))))))))))))))))
theorem k_c_FnExactPageSet_fits : fitsF Try.prog 3 ⟨114, k_c_FnExactPageSet, [.t 8]⟩ = true := by kernel_rfl
theorem c_FnExactPageSet {p : Page} {slot lsn : Int} {data : Str} (hw : wfStrs p.slots) : Con Try.prog noMv 3 [p.av, int slot, str data, int lsn] [] (fun r h => r = bool true ∧ h = []) := by
  refine con_of2 k_c_FnExactPageSet_fits rfl fun C hP hmv => ?_
  unfold k_c_FnExactPageSet
  refine cx_seq ?_
  refine cx_ops ?_
  refine ax_e (e_box rfl rfl (by decide) rfl rfl rfl) ?_
  refine ax_q (q_mov rfl) ?_
  refine ax_nil ?_
  refine cx_keep rfl rfl ?_
  refine cx_seq ?_
  refine cx_seq ?_
  refine cx_ops ?_
  refine ax_q (q_mov rfl) ?_
  refine ax_q (q_lenT rfl) ?_
  first | refine ax_q (q_ibin rfl rfl rfl) ?_ | refine ax_q (q_sbin rfl rfl rfl) ?_
  refine ax_nil ?_
  refine cx_keep rfl rfl ?_
  refine cx_cond rfl (fun h0 => ?_) (fun h0 => ?_)
  · skip
    refine cx_seq ?_
    refine cx_ops ?_
    refine ax_q (q_mov rfl) ?_
    refine ax_nil ?_
    refine cx_keep rfl rfl ?_
    refine cx_ret (ret0 rfl rfl ?_)
    exact ⟨rfl, rfl⟩
  · skip
    refine cx_skip ?_
    refine cx_keep rfl rfl ?_
    refine cx_seq ?_
    refine cx_ops ?_
    refine ax_q (q_mov rfl) ?_
    refine ax_nil ?_
    refine cx_keep rfl rfl ?_
    refine cx_seq ?_
    refine cx_ops ?_
    refine ax_q (q_ldN rfl rfl rfl) ?_
    refine ax_q (q_mov rfl) ?_
    refine ax_call rfl (vc_pure0 (c_szPage (by omega) (by omega) hw) hP rfl rfl ?_)
    refine ax_q (q_mov rfl) ?_
    refine ax_nil ?_
    refine cx_keep rfl rfl ?_
    refine cx_seq ?_
    refine cx_seq ?_
    refine cx_ops ?_
    refine ax_q (q_mov rfl) ?_
    first | refine ax_q (q_ibin rfl rfl rfl) ?_ | refine ax_q (q_sbin rfl rfl rfl) ?_
    refine ax_nil ?_
    refine cx_keep rfl rfl ?_
    refine cx_cond rfl (fun h1 => ?_) (fun h1 => ?_)
    · skip
      refine cx_seq ?_
      refine cx_ops ?_
      refine ax_q (q_mov rfl) ?_
      refine ax_nil ?_
      refine cx_keep rfl rfl ?_
      refine cx_ret (ret0 rfl rfl ?_)
      exact ⟨rfl, rfl⟩
    · have hl : p.slots.length ≤ 1048576 := by have := szF_len (dF h1); unfold szStrs at this; omega
      have hq : (pageSet p slot data lsn).1.slots.length ≤ 1048576 := Nat.le_trans pageSet_len hl
      refine cx_skip ?_
      refine cx_keep rfl rfl ?_
      refine cx_seq ?_
      refine cx_ops ?_
      refine ax_q (q_ldN rfl rfl rfl) ?_
      refine ax_call rfl (vc_pure (c_toPage hl) hP rfl ?_)
      rintro r h ⟨rfl, rfl⟩
      refine ⟨fun _ => 30, [0], ⟨rfl, rfl, rfl, rfl, rfl, fun h => by cases h⟩, ?_⟩
      refine ax_q (q_mov rfl) ?_
      refine ax_q (q_mov rfl) ?_
      refine ax_q (q_mov rfl) ?_
      refine ax_call rfl (vc_lend (c_sPageSet hw hl) hP (.cons (.agg (.cons (.d _) (.cons (.lend (lend_whole rfl (by simp [marks_length]))) .nil))) (lal_id _ rfl)) ?_)
      rintro r h ⟨rfl, rfl⟩
      refine ⟨fun _ => 34, [0], ⟨rfl, rfl, rfl, rfl, rfl, fun _ => ⟨rfl, noisl_rows⟩⟩, ?_⟩
      refine ax_q (q_mov rfl) ?_
      refine ax_q (q_ext rfl rfl) ?_
      refine ax_q (q_ext rfl rfl) ?_
      refine ax_e (e_alloc (by decide) rfl rfl) ?_
      refine ax_e (e_st rfl rfl rfl rfl rfl rfl rfl) ?_
      refine ax_q (q_mov rfl) ?_
      refine ax_nil ?_
      refine cx_keep rfl rfl ?_
      refine cx_seq ?_
      refine cx_ops ?_
      refine ax_q (q_ldN rfl rfl rfl) ?_
      refine ax_call rfl (vc_pure (c_toPage hl) hP rfl ?_)
      rintro r h ⟨rfl, rfl⟩
      refine ⟨fun _ => 38, [0], ⟨rfl, rfl, rfl, rfl, rfl, fun h => by cases h⟩, ?_⟩
      refine ax_e (e_alloc (by decide) rfl rfl) ?_
      refine ax_e (e_st rfl rfl rfl rfl rfl rfl rfl) ?_
      refine ax_nil ?_
      refine cx_keep rfl rfl ?_
      refine cx_seq ?_
      refine cx_ops ?_
      refine ax_q (q_ldN rfl rfl rfl) ?_
      refine ax_q (q_mov rfl) ?_
      refine ax_q (q_mov rfl) ?_
      refine ax_q (q_mov rfl) ?_
      refine ax_call rfl (vc_lend (c_PageSet hw hl) hP (.cons (.agg (.cons (.d _) (.cons (.lend (lend_whole rfl (by simp [marks_length]))) .nil))) (lal_id _ rfl)) ?_)
      rintro r h ⟨rfl, rfl⟩
      refine ⟨fun _ => 44, [0], ⟨rfl, rfl, rfl, rfl, rfl, fun _ => ⟨rfl, noisl_rows⟩⟩, ?_⟩
      refine ax_q (q_mov rfl) ?_
      refine ax_q (q_ext rfl rfl) ?_
      refine ax_q (q_ext rfl rfl) ?_
      refine ax_e (e_alloc (by decide) rfl rfl) ?_
      refine ax_e (e_st rfl rfl rfl rfl rfl rfl rfl) ?_
      refine ax_q (q_mov rfl) ?_
      refine ax_nil ?_
      refine cx_keep rfl rfl ?_
      refine cx_seq ?_
      refine cx_seq ?_
      refine cx_ops ?_
      refine ax_q (q_ldN rfl rfl rfl) ?_
      refine ax_q (q_ldN rfl rfl rfl) ?_
      refine ax_call rfl (vc_lend0 (c_eqPage (by omega)) hP (.cons (.agg (.cons (.d _) (.cons (.lend (lend_whole rfl (by simp [marks_length]))) .nil))) (.cons (.agg (.cons (.d _) (.cons (.lend (lend_whole rfl (by simp [marks_length]))) .nil))) .nil)) rfl rfl ?_)
      refine ax_q (q_not rfl) ?_
      refine ax_q (q_mov rfl) ?_
      apply ax_andor rfl rfl
      · intro _
        refine ax_q (q_mov rfl) ?_
        refine ax_q (q_mov rfl) ?_
        first | refine ax_q (q_ibin rfl rfl rfl) ?_ | refine ax_q (q_sbin rfl rfl rfl) ?_
        exact ax_nil ⟨rfl, by repeat (first | exact trivial | refine ⟨rfl, ?_⟩ | refine ⟨?_, ?_⟩)⟩
      refine ax_nil ?_
      refine cx_keep rfl rfl ?_
      refine cx_cond rfl (fun h2 => ?_) (fun h2 => ?_)
      · skip
        exact absurd h2 (by simp [eqb_rfl])
      · skip
        refine cx_skip ?_
        refine cx_keep rfl rfl ?_
        refine cx_seq ?_
        refine cx_seq ?_
        refine cx_drawE ?_
        first | refine ⟨_, loc_q (q_ldN rfl rfl rfl), ?_⟩
        first | refine ⟨_, loc_q (q_ldN rfl rfl rfl), ?_⟩
        refine ⟨_, loc_call (fun _ => 58) false rfl (c_toPage hl) hP (.inr ⟨rfl, rfl, rfl⟩) rfl rfl (fun h => by cases h), ?_⟩
        refine ⟨rfl, ?_⟩
        refine ax_call rfl (vc_lend0 (c_eqPage (by omega)) hP (.cons (.agg (.cons (.d _) (.cons (.lend (lend_whole rfl (by simp [marks_length]))) .nil))) (.cons (.agg (.cons (.d _) (.cons (.lend (lend_whole rfl (by simp [marks_length]))) .nil))) .nil)) rfl rfl ?_)
        refine ax_q (q_not rfl) ?_
        refine ax_nil ?_
        refine cx_keep rfl rfl ?_
        refine cx_cond rfl (fun h3 => ?_) (fun h3 => ?_)
        · skip
          exact absurd h3 (by simp [eqb_rfl])
        · skip
          refine cx_skip ?_
          refine cx_keep rfl rfl ?_
          refine cx_seq ?_
          refine cx_ops ?_
          refine ax_q (q_mov rfl) ?_
          refine ax_nil ?_
          refine cx_keep rfl rfl ?_
          refine cx_seq ?_
          refine cx_ops ?_
          refine ax_q (q_ldN rfl rfl rfl) ?_
          refine ax_q (q_mov rfl) ?_
          refine ax_call rfl (vcall_own (c_markPage (p := p) (k0 := 1) (by omega)) hP hmv false (fun _ => 38) [1000] ⟨rfl, rfl, rfl, rfl, ⟨rfl, trivial⟩, rfl, rfl, rfl⟩ (.pass rfl rfl (.pass rfl rfl .nil)) ?_)
          rintro r h ⟨rfl, rfl⟩
          refine ⟨fun _ => 38, [], ⟨rfl, rfl, rfl, rfl, fun _ _ => rfl, rfl, rfl, fun h => by cases h⟩, ?_⟩
          refine ax_q (q_mov rfl) ?_
          refine ax_nil ?_
          refine cx_keep rfl rfl ?_
          refine cx_seq ?_
          refine cx_seq ?_
          refine cx_ops ?_
          refine ax_q (q_mov rfl) ?_
          first | refine ax_q (q_ibin rfl rfl rfl) ?_ | refine ax_q (q_sbin rfl rfl rfl) ?_
          refine ax_q (q_mov rfl) ?_
          apply ax_andor rfl rfl
          · intro _
            refine ax_q (q_ldN rfl rfl rfl) ?_
            refine ax_q (q_ldN rfl rfl rfl) ?_
            refine ax_call rfl (vc_lend0 (c_eqPage (by omega)) hP (.cons (.agg (.cons (.d _) (.cons (.lend (lend_whole rfl (by simp [marks_length]))) .nil))) (.cons (.agg (.cons (.d _) (.cons (.lend (lend_whole rfl (by simp [marks_length]))) .nil))) .nil)) rfl rfl ?_)
            refine ax_q (q_not rfl) ?_
            exact ax_nil ⟨rfl, by repeat (first | exact trivial | refine ⟨rfl, ?_⟩ | refine ⟨?_, ?_⟩)⟩
          refine ax_q (q_mov rfl) ?_
          apply ax_andor rfl rfl
          · intro _
            refine ax_q (q_mov rfl) ?_
            refine ax_q (q_mov rfl) ?_
            first | refine ax_q (q_ibin rfl rfl rfl) ?_ | refine ax_q (q_sbin rfl rfl rfl) ?_
            exact ax_nil ⟨rfl, by repeat (first | exact trivial | refine ⟨rfl, ?_⟩ | refine ⟨?_, ?_⟩)⟩
          refine ax_nil ?_
          refine cx_keep rfl rfl ?_
          refine cx_cond rfl (fun h4 => ?_) (fun h4 => ?_)
          · skip
            exact absurd h4 (by simp [eqb_rfl]; omega)
          · skip
            refine cx_skip ?_
            refine cx_keep rfl rfl ?_
            refine cx_seq ?_
            refine cx_ops ?_
            refine ax_q (q_mov rfl) ?_
            refine ax_nil ?_
            refine cx_keep rfl rfl ?_
            refine cx_seq ?_
            refine cx_ops ?_
            refine ax_q (q_ldN rfl rfl rfl) ?_
            refine ax_q (q_mov rfl) ?_
            refine ax_call rfl (vcall_own (c_markPage (p := (pageSet p slot data lsn).1) (k0 := 1) (by omega)) hP hmv false (fun _ => 44) [1000] ⟨rfl, rfl, rfl, rfl, ⟨rfl, trivial⟩, rfl, rfl, rfl⟩ (.pass rfl rfl (.pass rfl rfl .nil)) ?_)
            rintro r h ⟨rfl, rfl⟩
            refine ⟨fun _ => 44, [], ⟨rfl, rfl, rfl, rfl, fun _ _ => rfl, rfl, rfl, fun h => by cases h⟩, ?_⟩
            refine ax_q (q_mov rfl) ?_
            refine ax_nil ?_
            refine cx_keep rfl rfl ?_
            refine cx_seq ?_
            refine cx_ops ?_
            refine ax_q (q_mov rfl) ?_
            refine ax_nil ?_
            refine cx_keep rfl rfl ?_
            refine cx_seq ?_
            refine cx_ops ?_
            refine ax_q (q_ldN rfl rfl rfl) ?_
            refine ax_q (q_mov rfl) ?_
            refine ax_call rfl (vc_lend0 (c_heldPage (l := (pageSet p slot data lsn).1.lsn) (n := (pageSet p slot data lsn).1.slots.length) (k0 := 1) (by omega)) hP (.cons (.agg (.cons (.d _) (.cons (.lend (lend_whole rfl (by simp [marks_length]))) .nil))) (lal_id _ rfl)) rfl rfl ?_)
            refine ax_q (q_mov rfl) ?_
            refine ax_nil ?_
            refine cx_keep rfl rfl ?_
            refine cx_seq ?_
            refine cx_seq ?_
            refine cx_ops ?_
            refine ax_q (q_mov rfl) ?_
            first | refine ax_q (q_ibin rfl rfl rfl) ?_ | refine ax_q (q_sbin rfl rfl rfl) ?_
            refine ax_nil ?_
            refine cx_keep rfl rfl ?_
            refine cx_cond rfl (fun h5 => ?_) (fun h5 => ?_)
            · skip
              exact absurd (dT h5) (by omega)
            · skip
              refine cx_skip ?_
              refine cx_keep rfl rfl ?_
              refine cx_seq ?_
              refine cx_seq ?_
              refine cx_ops ?_
              refine ax_q (q_mov rfl) ?_
              refine ax_q (q_mov rfl) ?_
              first | refine ax_q (q_ibin rfl rfl rfl) ?_ | refine ax_q (q_sbin rfl rfl rfl) ?_
              refine ax_nil ?_
              refine cx_keep rfl rfl ?_
              refine cx_cond rfl (fun h6 => ?_) (fun h6 => ?_)
              · skip
                exact absurd h6 (by simp)
              · skip
                refine cx_skip ?_
                refine cx_keep rfl rfl ?_
                refine cx_seq ?_
                refine cx_ops ?_
                refine ax_q (q_ldN rfl rfl rfl) ?_
                refine ax_call rfl (vc_pure (c_toPage hl) hP rfl ?_)
                rintro r h ⟨rfl, rfl⟩
                refine ⟨fun _ => 90, [0], ⟨rfl, rfl, rfl, rfl, rfl, fun h => by cases h⟩, ?_⟩
                refine ax_q (q_mov rfl) ?_
                refine ax_q (q_mov rfl) ?_
                refine ax_q (q_mov rfl) ?_
                refine ax_call rfl (vc_lend (c_PageSet hw hl) hP (.cons (.agg (.cons (.d _) (.cons (.lend (lend_whole rfl (by simp [marks_length]))) .nil))) (lal_id _ rfl)) ?_)
                rintro r h ⟨rfl, rfl⟩
                refine ⟨fun _ => 94, [0], ⟨rfl, rfl, rfl, rfl, rfl, fun _ => ⟨rfl, noisl_rows⟩⟩, ?_⟩
                refine ax_q (q_mov rfl) ?_
                refine ax_q (q_ext rfl rfl) ?_
                refine ax_q (q_ext rfl rfl) ?_
                refine ax_e (e_alloc (by decide) rfl rfl) ?_
                refine ax_e (e_st rfl rfl rfl rfl rfl rfl rfl) ?_
                refine ax_q (q_mov rfl) ?_
                refine ax_nil ?_
                refine cx_keep rfl rfl ?_
                refine cx_seq ?_
                refine cx_seq ?_
                refine cx_ops ?_
                refine ax_q (q_ldN rfl rfl rfl) ?_
                refine ax_q (q_ldN rfl rfl rfl) ?_
                refine ax_call rfl (vc_lend0 (c_eqPage (by omega)) hP (.cons (.agg (.cons (.d _) (.cons (.lend (lend_whole rfl (by simp [marks_length]))) .nil))) (.cons (.agg (.cons (.d _) (.cons (.lend (lend_whole rfl (by simp [marks_length]))) .nil))) .nil)) rfl rfl ?_)
                refine ax_q (q_not rfl) ?_
                refine ax_q (q_mov rfl) ?_
                apply ax_andor rfl rfl
                · intro _
                  refine ax_q (q_mov rfl) ?_
                  refine ax_q (q_mov rfl) ?_
                  first | refine ax_q (q_ibin rfl rfl rfl) ?_ | refine ax_q (q_sbin rfl rfl rfl) ?_
                  exact ax_nil ⟨rfl, by repeat (first | exact trivial | refine ⟨rfl, ?_⟩ | refine ⟨?_, ?_⟩)⟩
                refine ax_nil ?_
                refine cx_keep rfl rfl ?_
                refine cx_cond rfl (fun h7 => ?_) (fun h7 => ?_)
                · skip
                  exact absurd h7 (by simp [eqb_rfl])
                · skip
                  refine cx_skip ?_
                  refine cx_keep rfl rfl ?_
                  refine cx_seq ?_
                  refine cx_ops ?_
                  refine ax_q (q_mov rfl) ?_
                  refine ax_nil ?_
                  refine cx_keep rfl rfl ?_
                  refine cx_seq ?_
                  refine cx_ops ?_
                  refine ax_q (q_ldN rfl rfl rfl) ?_
                  refine ax_q (q_mov rfl) ?_
                  refine ax_call rfl (vc_lend0 (c_heldPage (l := (pageSet p slot data lsn).1.lsn) (n := (pageSet p slot data lsn).1.slots.length) (k0 := 1) (by omega)) hP (.cons (.agg (.cons (.d _) (.cons (.lend (lend_whole rfl (by simp [marks_length]))) .nil))) (lal_id _ rfl)) rfl rfl ?_)
                  refine ax_q (q_mov rfl) ?_
                  refine ax_nil ?_
                  refine cx_keep rfl rfl ?_
                  refine cx_seq ?_
                  refine cx_seq ?_
                  refine cx_ops ?_
                  refine ax_q (q_mov rfl) ?_
                  first | refine ax_q (q_ibin rfl rfl rfl) ?_ | refine ax_q (q_sbin rfl rfl rfl) ?_
                  refine ax_nil ?_
                  refine cx_keep rfl rfl ?_
                  refine cx_cond rfl (fun h8 => ?_) (fun h8 => ?_)
                  · skip
                    exact absurd (dT h8) (by omega)
                  · skip
                    refine cx_skip ?_
                    refine cx_keep rfl rfl ?_
                    refine cx_seq ?_
                    refine cx_seq ?_
                    refine cx_ops ?_
                    refine ax_q (q_mov rfl) ?_
                    refine ax_q (q_mov rfl) ?_
                    first | refine ax_q (q_ibin rfl rfl rfl) ?_ | refine ax_q (q_sbin rfl rfl rfl) ?_
                    refine ax_nil ?_
                    refine cx_keep rfl rfl ?_
                    refine cx_cond rfl (fun h9 => ?_) (fun h9 => ?_)
                    · skip
                      exact absurd h9 (by simp)
                    · skip
                      refine cx_skip ?_
                      refine cx_keep rfl rfl ?_
                      refine cx_seq ?_
                      refine cx_ops ?_
                      refine ax_q (q_mov rfl) ?_
                      refine ax_nil ?_
                      refine cx_keep rfl rfl ?_
                      refine cx_ret (ret0 rfl rfl ?_)
                      exact ⟨rfl, rfl⟩
theorem own : ownKnob Try.prog.godebug = none := by kernel_rfl
theorem laid : laidOutB Try.prog = true := by kernel_rfl
theorem closedTs : closedT Try.prog [3, 9, 22, 24] = true := by kernel_rfl
theorem con (rows : List (List D)) (h : HasAll Try.prog Try.f3.params.toList rows) : Con Try.prog noMv 3 (argsAV Try.prog Try.f3.params.toList rows) [] (fun r h => r = bool true ∧ h = []) := by
  rw [Try.params3] at h ⊢
  obtain ⟨d0, r0, rfl, h0, h⟩ := h
  obtain ⟨d1, r1, rfl, h1, h⟩ := h
  obtain ⟨d2, r2, rfl, h2, h⟩ := h
  obtain ⟨d3, r3, rfl, h3, h⟩ := h
  obtain rfl := h
  obtain ⟨a0, rfl, w0⟩ := has_page Try.underlying24 rfl Try.underlying3 Try.underlying22 Try.underlying9 (by kernel_rfl) h0
  obtain ⟨a1, rfl, w1⟩ := hasC_int Try.underlying3 h1
  obtain ⟨a2, rfl, w2⟩ := hasC_str Try.underlying9 h2
  obtain ⟨a3, rfl, w3⟩ := hasC_int Try.underlying3 h3
  have e : argsAV Try.prog [24, 3, 9, 3] [[.int .i64 a0.lsn, strs a0.slots], [.int .i64 a1], [.str a2], [.int .i64 a3]] = [a0.av, int a1, str a2, int a3] := by
    simp only [argsAV, argAV, Try.underlying24, Try.underlying3, Try.underlying9]
    rfl
  show Con Try.prog noMv 3 (argsAV Try.prog [24, 3, 9, 3] _) [] _
  rw [e]
  exact c_FnExactPageSet w0
set_option maxRecDepth 100000 in
theorem lifted (os : Os) (started : os.Started) (H : Type) (enc : TypeId × Value → H) :
    ReturnsInHanded {} Try.checked os 3 .any (Rows.fnExactPageSetSpec.pre6 enc Try.prog Try.f3 Rows.fnExactPageSetRow.domain false) (Rows.fnExactPageSetSpec.post enc Try.prog Try.f3 false true false false) := by
  refine returnsInHanded_of_change (C := Try.checked) own started (by kernel_rfl) Try.func3
    (ChangeSpec.witness6 (enc := enc) (C := Try.checked) false ⟨#[], #[.agg #[.int .i64 0, .slice none 0 0], .int .i64 0, .string ⟨#[]⟩, .int .i64 0], []⟩ 8 (by kernel_rfl) (by kernel_rfl) (by kernel_rfl) (by kernel_rfl)) ?_
  intro W base args ds gs before hval hW hcnd _
  refine law_contract closedTs laid (by kernel_rfl) rfl rfl Try.underlying4 con (fun hl => ?_) hval hW
  match ds, hl with
  | [x0, x1, x2, x3], _ => rfl
theorem over : Rows.fnExactPageSetRow.holds Try.pinned (OpenSpec.ofChange Rows.fnExactPageSetSpec) :=
  OpenClaim.holds_of_wide 3 Try.f3 rfl rfl rfl rfl rfl rfl rfl ⟨rfl, rfl, rfl, rfl, rfl⟩ rfl rfl rfl rfl rfl (by kernel_rfl) Try.func3 (by kernel_rfl)
    (of_decide_eq_true (by kernel_rfl)) (by unfold Func.isWrapper; first | (rw [if_pos (by decide +kernel)]; kernel_rfl) | (rw [if_neg (by decide +kernel)]; exact ⟨rfl, rfl⟩))
    (fun os started H enc _ => lifted os started H enc)
theorem proved : Rows.FnExactPageSetSaid := over
end fnExactPageSet
end Go.Proofs.Ytmnaefaleloedaa
#print axioms Go.Proofs.Ytmnaefaleloedaa.fnExactPageSet.proved
