/- The law FnExactPageInsert of the given program returns true for all arguments, and its arguments read behind the call as they read before: the statement FnExactPageInsertSaid, with no condition. -/
import Derived.Test.YtmnaefaleloedaaW
import Derived.Test.YtmnaefaleloedaaRows
namespace Go.Proofs.Ytmnaefaleloedaa
open Go Go.AM Go.ChangeShapes Go.RowKit
set_option linter.unusedVariables false
namespace fnExactPageInsert
set_option maxRecDepth 10000
/- loop.example/g00332/laws.FnExactPageInsert -/
def k_c_FnExactPageInsert : XCode :=
  .seq (.ops [.op (some 2) (.box (.t 0)),
     .op (some 4) (.mov (.k (.bool false)))])
  (.keep [1, 2] (.seq (.seq (.ops [.op (some 19) (.mov (.t 1)),
      .op (some 20) (.lenT (.t 19)),
      .op (some 21) (.bin .gtr (.t 20) (.k (.int .i64 1048576)))])
   (.keep [1, 2, 21] (.cond (.t 21)
    (.seq (.ops [.op (some 4) (.mov (.k (.bool true)))])
     (.keep [4] (.ret)))
    (.skip))))
  (.keep [1, 2] (.seq (.ops [.op (some 5) (.mov (.k (.int .i64 1048576)))])
  (.keep [1, 2, 5] (.seq (.ops [.op (some 22) (.loadN 2 (.t 2)),
     .op (some 23) (.mov (.t 5)),
     .call (some 24) 5 [.t 22, .t 23],
     .op (some 5) (.mov (.t 24))])
  (.keep [1, 2, 5] (.seq (.seq (.ops [.op (some 25) (.mov (.t 5)),
      .op (some 26) (.bin .lss (.t 25) (.k (.int .i64 0)))])
   (.keep [1, 2, 26] (.cond (.t 26)
    (.seq (.ops [.op (some 4) (.mov (.k (.bool true)))])
     (.keep [4] (.ret)))
    (.skip))))
  (.keep [1, 2] (.seq (.ops [.op (some 28) (.loadN 2 (.t 2)),
     .call (some 29) 7 [.t 28],
     .op (some 30) (.mov (.t 1)),
     .call (some 31) 12 [.t 29, .t 30],
     .op (some 27) (.mov (.t 31)),
     .op (some 32) (.ext (.t 27) 0),
     .op (some 33) (.ext (.t 27) 1),
     .op (some 34) (.ext (.t 27) 2),
     .op (some 6) (.alloc [.int .i64 0, .nils 1]),
     .op none (.store 2 (.t 6) (.t 32)),
     .op (some 7) (.mov (.t 33)),
     .op (some 8) (.mov (.t 34))])
  (.keep [1, 2, 6, 7, 8] (.seq (.ops [.op (some 35) (.loadN 2 (.t 2)),
     .call (some 36) 7 [.t 35],
     .op (some 9) (.alloc [.int .i64 0, .nils 1]),
     .op none (.store 2 (.t 9) (.t 36))])
  (.keep [1, 2, 6, 7, 8, 9] (.seq (.ops [.op (some 38) (.loadN 2 (.t 9)),
     .op (some 39) (.mov (.t 1)),
     .call (some 40) 13 [.t 38, .t 39],
     .op (some 37) (.mov (.t 40)),
     .op (some 41) (.ext (.t 37) 0),
     .op (some 42) (.ext (.t 37) 1),
     .op (some 43) (.ext (.t 37) 2),
     .op (some 10) (.alloc [.int .i64 0, .nils 1]),
     .op none (.store 2 (.t 10) (.t 41)),
     .op (some 11) (.mov (.t 42)),
     .op (some 12) (.mov (.t 43))])
  (.keep [1, 2, 6, 7, 8, 9, 10, 11, 12] (.seq (.seq (.ops [.op (some 44) (.loadN 2 (.t 10)),
      .op (some 45) (.loadN 2 (.t 6)),
      .call (some 46) 9 [.t 44, .t 45],
      .op (some 47) (.not (.t 46)),
      .op (some 48) (.mov (.t 47)),
      .andor 52 false 4 48 [.op (some 49) (.mov (.t 11)), .op (some 50) (.mov (.t 7)), .op (some 51) (.bin .neq (.t 49) (.t 50))] (.t 51),
      .op (some 53) (.mov (.t 52)),
      .andor 57 false 9 53 [.op (some 54) (.mov (.t 12)), .op (some 55) (.mov (.t 8)), .op (some 56) (.bin .neq (.t 54) (.t 55))] (.t 56)])
   (.keep [1, 2, 6, 7, 8, 9, 10, 11, 12, 57] (.cond (.t 57)
    (.seq (.ops [.op (some 4) (.mov (.k (.bool false)))])
     (.keep [4] (.ret)))
    (.skip))))
  (.keep [1, 2, 6, 7, 8, 9, 10, 11, 12] (.seq (.seq (.drawE [[], [], [1], [0, 1, 2], [0, 1, 2, 3]] [.op (some 58) (.loadN 2 (.t 9)),
      .op (some 59) (.loadN 2 (.t 2)),
      .call (some 60) 7 [.t 59]]
     [.call (some 61) 9 [.t 58, .t 60],
      .op (some 62) (.not (.t 61))])
   (.keep [1, 2, 6, 7, 8, 9, 10, 11, 12, 62] (.cond (.t 62)
    (.seq (.ops [.op (some 4) (.mov (.k (.bool false)))])
     (.keep [4] (.ret)))
    (.skip))))
  (.keep [1, 2, 6, 7, 8, 9, 10, 11, 12] (.seq (.ops [.op (some 13) (.mov (.k (.int .i64 1)))])
  (.keep [1, 2, 6, 7, 8, 9, 10, 11, 12, 13] (.seq (.ops [.op (some 63) (.loadN 2 (.t 9)),
     .op (some 64) (.mov (.t 13)),
     .call (some 65) 10 [.t 63, .t 64],
     .op (some 13) (.mov (.t 65))])
  (.keep [1, 2, 6, 7, 8, 10, 11, 12, 13] (.seq (.seq (.ops [.op (some 66) (.mov (.t 13)),
      .op (some 67) (.bin .lss (.t 66) (.k (.int .i64 0))),
      .op (some 68) (.mov (.t 67)),
      .andor 73 false 2 68 [.op (some 69) (.loadN 2 (.t 10)), .op (some 70) (.loadN 2 (.t 6)), .call (some 71) 9 [.t 69, .t 70], .op (some 72) (.not (.t 71))] (.t 72),
      .op (some 74) (.mov (.t 73)),
      .andor 78 false 8 74 [.op (some 75) (.mov (.t 11)), .op (some 76) (.mov (.t 7)), .op (some 77) (.bin .neq (.t 75) (.t 76))] (.t 77),
      .op (some 79) (.mov (.t 78)),
      .andor 83 false 13 79 [.op (some 80) (.mov (.t 12)), .op (some 81) (.mov (.t 8)), .op (some 82) (.bin .neq (.t 80) (.t 81))] (.t 82)])
   (.keep [1, 2, 6, 7, 8, 10, 83] (.cond (.t 83)
    (.seq (.ops [.op (some 4) (.mov (.k (.bool false)))])
     (.keep [4] (.ret)))
    (.skip))))
  (.keep [1, 2, 6, 7, 8, 10] (.seq (.ops [.op (some 14) (.mov (.k (.int .i64 1)))])
  (.keep [1, 2, 6, 7, 8, 10, 14] (.seq (.ops [.op (some 84) (.loadN 2 (.t 10)),
     .op (some 85) (.mov (.t 14)),
     .call (some 86) 10 [.t 84, .t 85],
     .op (some 14) (.mov (.t 86))])
  (.keep [1, 2, 6, 7, 8, 10, 14] (.seq (.ops [.op (some 15) (.mov (.k (.int .i64 1)))])
  (.keep [1, 2, 6, 7, 8, 10, 14, 15] (.seq (.ops [.op (some 87) (.loadN 2 (.t 10)),
     .op (some 88) (.mov (.t 15)),
     .call (some 89) 11 [.t 87, .t 88],
     .op (some 15) (.mov (.t 89))])
  (.keep [1, 2, 6, 7, 8, 10, 14, 15] (.seq (.seq (.ops [.op (some 90) (.mov (.t 15)),
      .op (some 91) (.bin .lss (.t 90) (.k (.int .i64 0)))])
   (.keep [1, 2, 6, 7, 8, 10, 14, 15, 91] (.cond (.t 91)
    (.seq (.ops [.op (some 4) (.mov (.k (.bool false)))])
     (.keep [4] (.ret)))
    (.skip))))
  (.keep [1, 2, 6, 7, 8, 10, 14, 15] (.seq (.seq (.ops [.op (some 92) (.mov (.t 15)),
      .op (some 93) (.mov (.t 14)),
      .op (some 94) (.bin .neq (.t 92) (.t 93))])
   (.keep [1, 2, 6, 7, 8, 10, 14, 94] (.cond (.t 94)
    (.seq (.ops [.op (some 4) (.mov (.k (.bool false)))])
     (.keep [4] (.ret)))
    (.skip))))
  (.keep [1, 2, 6, 7, 8, 10, 14] (.seq (.ops [.op (some 96) (.loadN 2 (.t 2)),
     .call (some 97) 7 [.t 96],
     .op (some 98) (.mov (.t 1)),
     .call (some 99) 13 [.t 97, .t 98],
     .op (some 95) (.mov (.t 99)),
     .op (some 100) (.ext (.t 95) 0),
     .op (some 101) (.ext (.t 95) 1),
     .op (some 102) (.ext (.t 95) 2),
     .op (some 16) (.alloc [.int .i64 0, .nils 1]),
     .op none (.store 2 (.t 16) (.t 100)),
     .op (some 17) (.mov (.t 101)),
     .op (some 18) (.mov (.t 102))])
  (.keep [6, 7, 8, 10, 14, 16, 17, 18] (.seq (.seq (.ops [.op (some 103) (.loadN 2 (.t 16)),
      .op (some 104) (.loadN 2 (.t 6)),
      .call (some 105) 9 [.t 103, .t 104],
      .op (some 106) (.not (.t 105)),
      .op (some 107) (.mov (.t 106)),
      .andor 111 false 4 107 [.op (some 108) (.mov (.t 17)), .op (some 109) (.mov (.t 7)), .op (some 110) (.bin .neq (.t 108) (.t 109))] (.t 110),
      .op (some 112) (.mov (.t 111)),
      .andor 116 false 9 112 [.op (some 113) (.mov (.t 18)), .op (some 114) (.mov (.t 8)), .op (some 115) (.bin .neq (.t 113) (.t 114))] (.t 115)])
   (.keep [10, 14, 116] (.cond (.t 116)
    (.seq (.ops [.op (some 4) (.mov (.k (.bool false)))])
     (.keep [4] (.ret)))
    (.skip))))
  (.keep [10, 14] (.seq (.ops [.op (some 15) (.mov (.k (.int .i64 1)))])
  (.keep [10, 14, 15] (.seq (.ops [.op (some 117) (.loadN 2 (.t 10)),
     .op (some 118) (.mov (.t 15)),
     .call (some 119) 11 [.t 117, .t 118],
     .op (some 15) (.mov (.t 119))])
  (.keep [14, 15] (.seq (.seq (.ops [.op (some 120) (.mov (.t 15)),
      .op (some 121) (.bin .lss (.t 120) (.k (.int .i64 0)))])
   (.keep [14, 15, 121] (.cond (.t 121)
    (.seq (.ops [.op (some 4) (.mov (.k (.bool false)))])
     (.keep [4] (.ret)))
    (.skip))))
  (.keep [14, 15] (.seq (.seq (.ops [.op (some 122) (.mov (.t 15)),
      .op (some 123) (.mov (.t 14)),
      .op (some 124) (.bin .neq (.t 122) (.t 123))])
   (.keep [124] (.cond (.t 124)
    (.seq (.ops [.op (some 4) (.mov (.k (.bool false)))])
     (.keep [4] (.ret)))
    (.skip))))
  (.keep [] (.seq (.ops [.op (some 4) (.mov (.k (.bool true)))])
  (.keep [4] (.ret))))))))))))))))))))))))))))))))))))))))))))))))))))
theorem k_c_FnExactPageInsert_fits : fitsF Try.prog 4 ⟨125, k_c_FnExactPageInsert, [.t 4]⟩ = true := by kernel_rfl
theorem c_FnExactPageInsert {p : Page} {data : Str} (hw : wfStrs p.slots) : Con Try.prog noMv 4 [p.av, str data] [] (fun r h => r = bool true ∧ h = []) := by
  refine con_of2 k_c_FnExactPageInsert_fits rfl fun C hP hmv => ?_
  unfold k_c_FnExactPageInsert
  refine cx_seq ?_
  refine cx_ops ?_
  refine ax_e (e_box rfl rfl (by decide) rfl rfl rfl) ?_
  refine ax_q (q_mov rfl) ?_
  refine ax_nil ?_
  refine cx_keep rfl rfl ?_
  refine cx_seq ?_
  refine cx_seq ?_
  refine cx_ops ?_
  refine ax_q (q_mov rfl) ?_
  refine ax_q (q_lenT rfl) ?_
  first | refine ax_q (q_ibin rfl rfl rfl) ?_ | refine ax_q (q_sbin rfl rfl rfl) ?_
  refine ax_nil ?_
  refine cx_keep rfl rfl ?_
  refine cx_cond rfl (fun h0 => ?_) (fun h0 => ?_)
  · skip
    refine cx_seq ?_
    refine cx_ops ?_
    refine ax_q (q_mov rfl) ?_
    refine ax_nil ?_
    refine cx_keep rfl rfl ?_
    refine cx_ret (ret0 rfl rfl ?_)
    exact ⟨rfl, rfl⟩
  · skip
    refine cx_skip ?_
    refine cx_keep rfl rfl ?_
    refine cx_seq ?_
    refine cx_ops ?_
    refine ax_q (q_mov rfl) ?_
    refine ax_nil ?_
    refine cx_keep rfl rfl ?_
    refine cx_seq ?_
    refine cx_ops ?_
    refine ax_q (q_ldN rfl rfl rfl) ?_
    refine ax_q (q_mov rfl) ?_
    refine ax_call rfl (vc_pure0 (c_szPage (by omega) (by omega) hw) hP rfl rfl ?_)
    refine ax_q (q_mov rfl) ?_
    refine ax_nil ?_
    refine cx_keep rfl rfl ?_
    refine cx_seq ?_
    refine cx_seq ?_
    refine cx_ops ?_
    refine ax_q (q_mov rfl) ?_
    first | refine ax_q (q_ibin rfl rfl rfl) ?_ | refine ax_q (q_sbin rfl rfl rfl) ?_
    refine ax_nil ?_
    refine cx_keep rfl rfl ?_
    refine cx_cond rfl (fun h1 => ?_) (fun h1 => ?_)
    · skip
      refine cx_seq ?_
      refine cx_ops ?_
      refine ax_q (q_mov rfl) ?_
      refine ax_nil ?_
      refine cx_keep rfl rfl ?_
      refine cx_ret (ret0 rfl rfl ?_)
      exact ⟨rfl, rfl⟩
    · have hl : p.slots.length ≤ 1048576 := by have := szF_len (dF h1); unfold szStrs at this; omega
      have hq : (pageInsert p data).1.slots.length ≤ 1048576 := Nat.le_trans pageInsert_len hl
      refine cx_skip ?_
      refine cx_keep rfl rfl ?_
      refine cx_seq ?_
      refine cx_ops ?_
      refine ax_q (q_ldN rfl rfl rfl) ?_
      refine ax_call rfl (vc_pure (c_toPage hl) hP rfl ?_)
      rintro r h ⟨rfl, rfl⟩
      refine ⟨fun _ => 29, [0], ⟨rfl, rfl, rfl, rfl, rfl, fun h => by cases h⟩, ?_⟩
      refine ax_q (q_mov rfl) ?_
      refine ax_call rfl (vc_lend (c_sPageInsert hw hl) hP (.cons (.agg (.cons (.d _) (.cons (.lend (lend_whole rfl (by simp [marks_length]))) .nil))) (lal_id _ rfl)) ?_)
      rintro r h ⟨rfl, rfl⟩
      refine ⟨fun _ => 31, [0], ⟨rfl, rfl, rfl, rfl, rfl, fun _ => ⟨rfl, noisl_rows⟩⟩, ?_⟩
      refine ax_q (q_mov rfl) ?_
      refine ax_q (q_ext rfl rfl) ?_
      refine ax_q (q_ext rfl rfl) ?_
      refine ax_q (q_ext rfl rfl) ?_
      refine ax_e (e_alloc (by decide) rfl rfl) ?_
      refine ax_e (e_st rfl rfl rfl rfl rfl rfl rfl) ?_
      refine ax_q (q_mov rfl) ?_
      refine ax_q (q_mov rfl) ?_
      refine ax_nil ?_
      refine cx_keep rfl rfl ?_
      refine cx_seq ?_
      refine cx_ops ?_
      refine ax_q (q_ldN rfl rfl rfl) ?_
      refine ax_call rfl (vc_pure (c_toPage hl) hP rfl ?_)
      rintro r h ⟨rfl, rfl⟩
      refine ⟨fun _ => 36, [0], ⟨rfl, rfl, rfl, rfl, rfl, fun h => by cases h⟩, ?_⟩
      refine ax_e (e_alloc (by decide) rfl rfl) ?_
      refine ax_e (e_st rfl rfl rfl rfl rfl rfl rfl) ?_
      refine ax_nil ?_
      refine cx_keep rfl rfl ?_
      refine cx_seq ?_
      refine cx_ops ?_
      refine ax_q (q_ldN rfl rfl rfl) ?_
      refine ax_q (q_mov rfl) ?_
      refine ax_call rfl (vc_lend (c_PageInsert hw hl) hP (.cons (.agg (.cons (.d _) (.cons (.lend (lend_whole rfl (by simp [marks_length]))) .nil))) (lal_id _ rfl)) ?_)
      rintro r h ⟨rfl, rfl⟩
      refine ⟨fun _ => 40, [0], ⟨rfl, rfl, rfl, rfl, rfl, fun _ => ⟨rfl, noisl_rows⟩⟩, ?_⟩
      refine ax_q (q_mov rfl) ?_
      refine ax_q (q_ext rfl rfl) ?_
      refine ax_q (q_ext rfl rfl) ?_
      refine ax_q (q_ext rfl rfl) ?_
      refine ax_e (e_alloc (by decide) rfl rfl) ?_
      refine ax_e (e_st rfl rfl rfl rfl rfl rfl rfl) ?_
      refine ax_q (q_mov rfl) ?_
      refine ax_q (q_mov rfl) ?_
      refine ax_nil ?_
      refine cx_keep rfl rfl ?_
      refine cx_seq ?_
      refine cx_seq ?_
      refine cx_ops ?_
      refine ax_q (q_ldN rfl rfl rfl) ?_
      refine ax_q (q_ldN rfl rfl rfl) ?_
      refine ax_call rfl (vc_lend0 (c_eqPage (by omega)) hP (.cons (.agg (.cons (.d _) (.cons (.lend (lend_whole rfl (by simp [marks_length]))) .nil))) (.cons (.agg (.cons (.d _) (.cons (.lend (lend_whole rfl (by simp [marks_length]))) .nil))) .nil)) rfl rfl ?_)
      refine ax_q (q_not rfl) ?_
      refine ax_q (q_mov rfl) ?_
      apply ax_andor rfl rfl
      · intro _
        refine ax_q (q_mov rfl) ?_
        refine ax_q (q_mov rfl) ?_
        first | refine ax_q (q_ibin rfl rfl rfl) ?_ | refine ax_q (q_sbin rfl rfl rfl) ?_
        exact ax_nil ⟨rfl, by repeat (first | exact trivial | refine ⟨rfl, ?_⟩ | refine ⟨?_, ?_⟩)⟩
      refine ax_q (q_mov rfl) ?_
      apply ax_andor rfl rfl
      · intro _
        refine ax_q (q_mov rfl) ?_
        refine ax_q (q_mov rfl) ?_
        first | refine ax_q (q_ibin rfl rfl rfl) ?_ | refine ax_q (q_sbin rfl rfl rfl) ?_
        exact ax_nil ⟨rfl, by repeat (first | exact trivial | refine ⟨rfl, ?_⟩ | refine ⟨?_, ?_⟩)⟩
      refine ax_nil ?_
      refine cx_keep rfl rfl ?_
      refine cx_cond rfl (fun h2 => ?_) (fun h2 => ?_)
      · skip
        exact absurd h2 (by simp [eqb_rfl])
      · skip
        refine cx_skip ?_
        refine cx_keep rfl rfl ?_
        refine cx_seq ?_
        refine cx_seq ?_
        refine cx_drawE ?_
        first | refine ⟨_, loc_q (q_ldN rfl rfl rfl), ?_⟩
        first | refine ⟨_, loc_q (q_ldN rfl rfl rfl), ?_⟩
        refine ⟨_, loc_call (fun _ => 60) false rfl (c_toPage hl) hP (.inr ⟨rfl, rfl, rfl⟩) rfl rfl (fun h => by cases h), ?_⟩
        refine ⟨rfl, ?_⟩
        refine ax_call rfl (vc_lend0 (c_eqPage (by omega)) hP (.cons (.agg (.cons (.d _) (.cons (.lend (lend_whole rfl (by simp [marks_length]))) .nil))) (.cons (.agg (.cons (.d _) (.cons (.lend (lend_whole rfl (by simp [marks_length]))) .nil))) .nil)) rfl rfl ?_)
        refine ax_q (q_not rfl) ?_
        refine ax_nil ?_
        refine cx_keep rfl rfl ?_
        refine cx_cond rfl (fun h3 => ?_) (fun h3 => ?_)
        · skip
          exact absurd h3 (by simp [eqb_rfl])
        · skip
          refine cx_skip ?_
          refine cx_keep rfl rfl ?_
          refine cx_seq ?_
          refine cx_ops ?_
          refine ax_q (q_mov rfl) ?_
          refine ax_nil ?_
          refine cx_keep rfl rfl ?_
          refine cx_seq ?_
          refine cx_ops ?_
          refine ax_q (q_ldN rfl rfl rfl) ?_
          refine ax_q (q_mov rfl) ?_
          refine ax_call rfl (vcall_own (c_markPage (p := p) (k0 := 1) (by omega)) hP hmv false (fun _ => 36) [1000] ⟨rfl, rfl, rfl, rfl, ⟨rfl, trivial⟩, rfl, rfl, rfl⟩ (.pass rfl rfl (.pass rfl rfl .nil)) ?_)
          rintro r h ⟨rfl, rfl⟩
          refine ⟨fun _ => 36, [], ⟨rfl, rfl, rfl, rfl, fun _ _ => rfl, rfl, rfl, fun h => by cases h⟩, ?_⟩
          refine ax_q (q_mov rfl) ?_
          refine ax_nil ?_
          refine cx_keep rfl rfl ?_
          refine cx_seq ?_
          refine cx_seq ?_
          refine cx_ops ?_
          refine ax_q (q_mov rfl) ?_
          first | refine ax_q (q_ibin rfl rfl rfl) ?_ | refine ax_q (q_sbin rfl rfl rfl) ?_
          refine ax_q (q_mov rfl) ?_
          apply ax_andor rfl rfl
          · intro _
            refine ax_q (q_ldN rfl rfl rfl) ?_
            refine ax_q (q_ldN rfl rfl rfl) ?_
            refine ax_call rfl (vc_lend0 (c_eqPage (by omega)) hP (.cons (.agg (.cons (.d _) (.cons (.lend (lend_whole rfl (by simp [marks_length]))) .nil))) (.cons (.agg (.cons (.d _) (.cons (.lend (lend_whole rfl (by simp [marks_length]))) .nil))) .nil)) rfl rfl ?_)
            refine ax_q (q_not rfl) ?_
            exact ax_nil ⟨rfl, by repeat (first | exact trivial | refine ⟨rfl, ?_⟩ | refine ⟨?_, ?_⟩)⟩
          refine ax_q (q_mov rfl) ?_
          apply ax_andor rfl rfl
          · intro _
            refine ax_q (q_mov rfl) ?_
            refine ax_q (q_mov rfl) ?_
            first | refine ax_q (q_ibin rfl rfl rfl) ?_ | refine ax_q (q_sbin rfl rfl rfl) ?_
            exact ax_nil ⟨rfl, by repeat (first | exact trivial | refine ⟨rfl, ?_⟩ | refine ⟨?_, ?_⟩)⟩
          refine ax_q (q_mov rfl) ?_
          apply ax_andor rfl rfl
          · intro _
            refine ax_q (q_mov rfl) ?_
            refine ax_q (q_mov rfl) ?_
            first | refine ax_q (q_ibin rfl rfl rfl) ?_ | refine ax_q (q_sbin rfl rfl rfl) ?_
            exact ax_nil ⟨rfl, by repeat (first | exact trivial | refine ⟨rfl, ?_⟩ | refine ⟨?_, ?_⟩)⟩
          refine ax_nil ?_
          refine cx_keep rfl rfl ?_
          refine cx_cond rfl (fun h4 => ?_) (fun h4 => ?_)
          · skip
            exact absurd h4 (by simp [eqb_rfl]; omega)
          · skip
            refine cx_skip ?_
            refine cx_keep rfl rfl ?_
            refine cx_seq ?_
            refine cx_ops ?_
            refine ax_q (q_mov rfl) ?_
            refine ax_nil ?_
            refine cx_keep rfl rfl ?_
            refine cx_seq ?_
            refine cx_ops ?_
            refine ax_q (q_ldN rfl rfl rfl) ?_
            refine ax_q (q_mov rfl) ?_
            refine ax_call rfl (vcall_own (c_markPage (p := (pageInsert p data).1) (k0 := 1) (by omega)) hP hmv false (fun _ => 40) [1000] ⟨rfl, rfl, rfl, rfl, ⟨rfl, trivial⟩, rfl, rfl, rfl⟩ (.pass rfl rfl (.pass rfl rfl .nil)) ?_)
            rintro r h ⟨rfl, rfl⟩
            refine ⟨fun _ => 40, [], ⟨rfl, rfl, rfl, rfl, fun _ _ => rfl, rfl, rfl, fun h => by cases h⟩, ?_⟩
            refine ax_q (q_mov rfl) ?_
            refine ax_nil ?_
            refine cx_keep rfl rfl ?_
            refine cx_seq ?_
            refine cx_ops ?_
            refine ax_q (q_mov rfl) ?_
            refine ax_nil ?_
            refine cx_keep rfl rfl ?_
            refine cx_seq ?_
            refine cx_ops ?_
            refine ax_q (q_ldN rfl rfl rfl) ?_
            refine ax_q (q_mov rfl) ?_
            refine ax_call rfl (vc_lend0 (c_heldPage (l := (pageInsert p data).1.lsn) (n := (pageInsert p data).1.slots.length) (k0 := 1) (by omega)) hP (.cons (.agg (.cons (.d _) (.cons (.lend (lend_whole rfl (by simp [marks_length]))) .nil))) (lal_id _ rfl)) rfl rfl ?_)
            refine ax_q (q_mov rfl) ?_
            refine ax_nil ?_
            refine cx_keep rfl rfl ?_
            refine cx_seq ?_
            refine cx_seq ?_
            refine cx_ops ?_
            refine ax_q (q_mov rfl) ?_
            first | refine ax_q (q_ibin rfl rfl rfl) ?_ | refine ax_q (q_sbin rfl rfl rfl) ?_
            refine ax_nil ?_
            refine cx_keep rfl rfl ?_
            refine cx_cond rfl (fun h5 => ?_) (fun h5 => ?_)
            · skip
              exact absurd (dT h5) (by omega)
            · skip
              refine cx_skip ?_
              refine cx_keep rfl rfl ?_
              refine cx_seq ?_
              refine cx_seq ?_
              refine cx_ops ?_
              refine ax_q (q_mov rfl) ?_
              refine ax_q (q_mov rfl) ?_
              first | refine ax_q (q_ibin rfl rfl rfl) ?_ | refine ax_q (q_sbin rfl rfl rfl) ?_
              refine ax_nil ?_
              refine cx_keep rfl rfl ?_
              refine cx_cond rfl (fun h6 => ?_) (fun h6 => ?_)
              · skip
                exact absurd h6 (by simp)
              · skip
                refine cx_skip ?_
                refine cx_keep rfl rfl ?_
                refine cx_seq ?_
                refine cx_ops ?_
                refine ax_q (q_ldN rfl rfl rfl) ?_
                refine ax_call rfl (vc_pure (c_toPage hl) hP rfl ?_)
                rintro r h ⟨rfl, rfl⟩
                refine ⟨fun _ => 97, [0], ⟨rfl, rfl, rfl, rfl, rfl, fun h => by cases h⟩, ?_⟩
                refine ax_q (q_mov rfl) ?_
                refine ax_call rfl (vc_lend (c_PageInsert hw hl) hP (.cons (.agg (.cons (.d _) (.cons (.lend (lend_whole rfl (by simp [marks_length]))) .nil))) (lal_id _ rfl)) ?_)
                rintro r h ⟨rfl, rfl⟩
                refine ⟨fun _ => 99, [0], ⟨rfl, rfl, rfl, rfl, rfl, fun _ => ⟨rfl, noisl_rows⟩⟩, ?_⟩
                refine ax_q (q_mov rfl) ?_
                refine ax_q (q_ext rfl rfl) ?_
                refine ax_q (q_ext rfl rfl) ?_
                refine ax_q (q_ext rfl rfl) ?_
                refine ax_e (e_alloc (by decide) rfl rfl) ?_
                refine ax_e (e_st rfl rfl rfl rfl rfl rfl rfl) ?_
                refine ax_q (q_mov rfl) ?_
                refine ax_q (q_mov rfl) ?_
                refine ax_nil ?_
                refine cx_keep rfl rfl ?_
                refine cx_seq ?_
                refine cx_seq ?_
                refine cx_ops ?_
                refine ax_q (q_ldN rfl rfl rfl) ?_
                refine ax_q (q_ldN rfl rfl rfl) ?_
                refine ax_call rfl (vc_lend0 (c_eqPage (by omega)) hP (.cons (.agg (.cons (.d _) (.cons (.lend (lend_whole rfl (by simp [marks_length]))) .nil))) (.cons (.agg (.cons (.d _) (.cons (.lend (lend_whole rfl (by simp [marks_length]))) .nil))) .nil)) rfl rfl ?_)
                refine ax_q (q_not rfl) ?_
                refine ax_q (q_mov rfl) ?_
                apply ax_andor rfl rfl
                · intro _
                  refine ax_q (q_mov rfl) ?_
                  refine ax_q (q_mov rfl) ?_
                  first | refine ax_q (q_ibin rfl rfl rfl) ?_ | refine ax_q (q_sbin rfl rfl rfl) ?_
                  exact ax_nil ⟨rfl, by repeat (first | exact trivial | refine ⟨rfl, ?_⟩ | refine ⟨?_, ?_⟩)⟩
                refine ax_q (q_mov rfl) ?_
                apply ax_andor rfl rfl
                · intro _
                  refine ax_q (q_mov rfl) ?_
                  refine ax_q (q_mov rfl) ?_
                  first | refine ax_q (q_ibin rfl rfl rfl) ?_ | refine ax_q (q_sbin rfl rfl rfl) ?_
                  exact ax_nil ⟨rfl, by repeat (first | exact trivial | refine ⟨rfl, ?_⟩ | refine ⟨?_, ?_⟩)⟩
                refine ax_nil ?_
                refine cx_keep rfl rfl ?_
                refine cx_cond rfl (fun h7 => ?_) (fun h7 => ?_)
                · skip
                  exact absurd h7 (by simp [eqb_rfl])
                · skip
                  refine cx_skip ?_
                  refine cx_keep rfl rfl ?_
                  refine cx_seq ?_
                  refine cx_ops ?_
                  refine ax_q (q_mov rfl) ?_
                  refine ax_nil ?_
                  refine cx_keep rfl rfl ?_
                  refine cx_seq ?_
                  refine cx_ops ?_
                  refine ax_q (q_ldN rfl rfl rfl) ?_
                  refine ax_q (q_mov rfl) ?_
                  refine ax_call rfl (vc_lend0 (c_heldPage (l := (pageInsert p data).1.lsn) (n := (pageInsert p data).1.slots.length) (k0 := 1) (by omega)) hP (.cons (.agg (.cons (.d _) (.cons (.lend (lend_whole rfl (by simp [marks_length]))) .nil))) (lal_id _ rfl)) rfl rfl ?_)
                  refine ax_q (q_mov rfl) ?_
                  refine ax_nil ?_
                  refine cx_keep rfl rfl ?_
                  refine cx_seq ?_
                  refine cx_seq ?_
                  refine cx_ops ?_
                  refine ax_q (q_mov rfl) ?_
                  first | refine ax_q (q_ibin rfl rfl rfl) ?_ | refine ax_q (q_sbin rfl rfl rfl) ?_
                  refine ax_nil ?_
                  refine cx_keep rfl rfl ?_
                  refine cx_cond rfl (fun h8 => ?_) (fun h8 => ?_)
                  · skip
                    exact absurd (dT h8) (by omega)
                  · skip
                    refine cx_skip ?_
                    refine cx_keep rfl rfl ?_
                    refine cx_seq ?_
                    refine cx_seq ?_
                    refine cx_ops ?_
                    refine ax_q (q_mov rfl) ?_
                    refine ax_q (q_mov rfl) ?_
                    first | refine ax_q (q_ibin rfl rfl rfl) ?_ | refine ax_q (q_sbin rfl rfl rfl) ?_
                    refine ax_nil ?_
                    refine cx_keep rfl rfl ?_
                    refine cx_cond rfl (fun h9 => ?_) (fun h9 => ?_)
                    · skip
                      exact absurd h9 (by simp)
                    · skip
                      refine cx_skip ?_
                      refine cx_keep rfl rfl ?_
                      refine cx_seq ?_
                      refine cx_ops ?_
                      refine ax_q (q_mov rfl) ?_
                      refine ax_nil ?_
                      refine cx_keep rfl rfl ?_
                      refine cx_ret (ret0 rfl rfl ?_)
                      exact ⟨rfl, rfl⟩
theorem own : ownKnob Try.prog.godebug = none := by kernel_rfl
theorem laid : laidOutB Try.prog = true := by kernel_rfl
theorem closedTs : closedT Try.prog [3, 9, 22, 24] = true := by kernel_rfl
theorem con (rows : List (List D)) (h : HasAll Try.prog Try.f4.params.toList rows) : Con Try.prog noMv 4 (argsAV Try.prog Try.f4.params.toList rows) [] (fun r h => r = bool true ∧ h = []) := by
  rw [Try.params4] at h ⊢
  obtain ⟨d0, r0, rfl, h0, h⟩ := h
  obtain ⟨d1, r1, rfl, h1, h⟩ := h
  obtain rfl := h
  obtain ⟨a0, rfl, w0⟩ := has_page Try.underlying24 rfl Try.underlying3 Try.underlying22 Try.underlying9 (by kernel_rfl) h0
  obtain ⟨a1, rfl, w1⟩ := hasC_str Try.underlying9 h1
  have e : argsAV Try.prog [24, 9] [[.int .i64 a0.lsn, strs a0.slots], [.str a1]] = [a0.av, str a1] := by
    simp only [argsAV, argAV, Try.underlying24, Try.underlying9]
    rfl
  show Con Try.prog noMv 4 (argsAV Try.prog [24, 9] _) [] _
  rw [e]
  exact c_FnExactPageInsert w0
set_option maxRecDepth 100000 in
theorem lifted (os : Os) (started : os.Started) (H : Type) (enc : TypeId × Value → H) :
    ReturnsInHanded {} Try.checked os 4 .any (Rows.fnExactPageInsertSpec.pre6 enc Try.prog Try.f4 Rows.fnExactPageInsertRow.domain false) (Rows.fnExactPageInsertSpec.post enc Try.prog Try.f4 false true false false) := by
  refine returnsInHanded_of_change (C := Try.checked) own started (by kernel_rfl) Try.func4
    (ChangeSpec.witness6 (enc := enc) (C := Try.checked) false ⟨#[], #[.agg #[.int .i64 0, .slice none 0 0], .string ⟨#[]⟩], []⟩ 8 (by kernel_rfl) (by kernel_rfl) (by kernel_rfl) (by kernel_rfl)) ?_
  intro W base args ds gs before hval hW hcnd _
  refine law_contract closedTs laid (by kernel_rfl) rfl rfl Try.underlying4 con (fun hl => ?_) hval hW
  match ds, hl with
  | [x0, x1], _ => rfl
theorem over : Rows.fnExactPageInsertRow.holds Try.pinned (OpenSpec.ofChange Rows.fnExactPageInsertSpec) :=
  OpenClaim.holds_of_wide 4 Try.f4 rfl rfl rfl rfl rfl rfl rfl ⟨rfl, rfl, rfl, rfl, rfl⟩ rfl rfl rfl rfl rfl (by kernel_rfl) Try.func4 (by kernel_rfl)
    (of_decide_eq_true (by kernel_rfl)) (by unfold Func.isWrapper; first | (rw [if_pos (by decide +kernel)]; kernel_rfl) | (rw [if_neg (by decide +kernel)]; exact ⟨rfl, rfl⟩))
    (fun os started H enc _ => lifted os started H enc)
theorem proved : Rows.FnExactPageInsertSaid := over
end fnExactPageInsert
end Go.Proofs.Ytmnaefaleloedaa
#print axioms Go.Proofs.Ytmnaefaleloedaa.fnExactPageInsert.proved
