/- The law FnBinds of the given program returns true for all arguments, and its arguments read behind the call as they read before: the statement FnBindsSaid, with no condition. -/
import Derived.Test.YthdafcdhnjapnaaGreatDoorW1
import Derived.Test.YthdafcdhnjapnaaGreatDoorRows
import Derived.Test.YthdafcdhnjapnaaGreatDoorTie
import Derived.Test.YthdafcdhnjapnaaGreatDoorCards
import Derived.LaidLaws
import Derived.SevenTiedAt
import Derived.Lay
namespace Go.Proofs.YthdafcdhnjapnaaGreatDoor
open Go Go.AM Go.ChangeShapes Go.RowKit
set_option linter.unusedVariables false
set_option linter.unusedSimpArgs false
namespace fnBinds
set_option maxRecDepth 10000
/- loop.example/g00332/laws.FnBinds -/
def k_c_FnBinds : XCode :=
 .seq (.ops [.op (some 4) (.mov (.k (.bool false)))])
 (.keep [0, 1] (.seq (.seq (.ops [.op (some 19) (.mov (.t 0)),
   .op (some 20) (.lenS (.t 19)),
   .op (some 21) (.bin .gtr (.t 20) (.k (.int .i64 1048576))),
   .op (some 22) (.mov (.t 21)),
   .andor 26 false 3 22 [.op (some 23) (.mov (.t 1)), .op (some 24) (.lenS (.t 23)), .op (some 25) (.bin .gtr (.t 24) (.k (.int .i64 1048576)))] (.t 25)])
  (.keep [0, 1, 26] (.cond (.t 26)
  (.seq (.ops [.op (some 4) (.mov (.k (.bool true)))])
   (.keep [4] (.ret)))
  (.skip))))
 (.keep [0, 1] (.seq (.ops [.op (some 27) (.bslice 1 [.k (.str [111, 114]), .k (.str [97, 110, 100]), .k (.str [61]), .k (.str [60]), .k (.str [43]), .k (.str [45]), .k (.str [42]), .k (.str [47])]),
   .op (some 5) (.mov (.t 27))])
 (.keep [0, 1, 5] (.seq (.ops [.op (some 28) (.bslice 1 [.k (.int .i64 0), .k (.int .i64 1), .k (.int .i64 2), .k (.int .i64 2), .k (.int .i64 3), .k (.int .i64 3), .k (.int .i64 4), .k (.int .i64 4)]),
   .op (some 6) (.mov (.t 28))])
 (.keep [0, 1, 5, 6] (.seq (.ops [.op (some 29) (.mov (.t 0)),
   .op (some 30) (.mov (.t 5)),
   .op (some 31) (.lenS (.t 30)),
   .call (some 32) 15 [.t 29, .k (.int .i64 0), .t 31],
   .op (some 7) (.mov (.t 32))])
 (.keep [1, 5, 6, 7] (.seq (.ops [.op (some 33) (.mov (.t 1)),
   .op (some 34) (.mov (.t 5)),
   .op (some 35) (.lenS (.t 34)),
   .call (some 36) 15 [.t 33, .k (.int .i64 0), .t 35],
   .op (some 8) (.mov (.t 36))])
 (.keep [5, 6, 7, 8] (.seq (.seq (.ops [.op (some 37) (.mov (.t 6)),
   .op (some 38) (.mov (.t 7)),
   .op (some 39) (.iadr 1 (.t 37) (.t 38)),
   .op (some 40) (.load1 (.t 39)),
   .op (some 41) (.bin .eql (.t 40) (.k (.int .i64 2))),
   .op (some 42) (.mov (.t 41)),
   .andor 48 true 5 42 [.op (some 43) (.mov (.t 6)), .op (some 44) (.mov (.t 8)), .op (some 45) (.iadr 1 (.t 43) (.t 44)), .op (some 46) (.load1 (.t 45)), .op (some 47) (.bin .eql (.t 46) (.k (.int .i64 2)))] (.t 47)])
  (.keep [5, 6, 7, 8, 48] (.cond (.t 48)
  (.seq (.ops [.op (some 4) (.mov (.k (.bool true)))])
   (.keep [4] (.ret)))
  (.skip))))
 (.keep [5, 6, 7, 8] (.seq (.draw [.op (some 49) (.mov (.t 5)),
   .op (some 50) (.mov (.t 7)),
   .op (some 51) (.iadr 1 (.t 49) (.t 50)),
   .op (some 52) (.load1 (.t 51)),
   .op (some 53) (.bin .add (.k (.str [105, 100, 32])) (.t 52)),
   .op (some 54) (.bin .add (.t 53) (.k (.str [32, 110, 32]))),
   .op (some 55) (.mov (.t 5)),
   .op (some 56) (.mov (.t 8)),
   .op (some 57) (.iadr 1 (.t 55) (.t 56)),
   .op (some 58) (.load1 (.t 57)),
   .op (some 59) (.bin .add (.t 54) (.t 58)),
   .op (some 60) (.bin .add (.t 59) (.k (.str [32, 53]))),
   .op (some 9) (.mov (.t 60))])
 (.keep [5, 6, 7, 8, 9] (.seq (.draw [.op (some 61) (.mov (.t 5)),
   .op (some 62) (.mov (.t 7)),
   .op (some 63) (.iadr 1 (.t 61) (.t 62)),
   .op (some 64) (.load1 (.t 63)),
   .op (some 65) (.bin .add (.k (.str [40, 105, 100, 32])) (.t 64)),
   .op (some 66) (.bin .add (.t 65) (.k (.str [32, 110, 41, 32]))),
   .op (some 67) (.mov (.t 5)),
   .op (some 68) (.mov (.t 8)),
   .op (some 69) (.iadr 1 (.t 67) (.t 68)),
   .op (some 70) (.load1 (.t 69)),
   .op (some 71) (.bin .add (.t 66) (.t 70)),
   .op (some 72) (.bin .add (.t 71) (.k (.str [32, 53]))),
   .op (some 10) (.mov (.t 72))])
 (.keep [5, 6, 7, 8, 9, 10] (.seq (.draw [.op (some 73) (.mov (.t 5)),
   .op (some 74) (.mov (.t 7)),
   .op (some 75) (.iadr 1 (.t 73) (.t 74)),
   .op (some 76) (.load1 (.t 75)),
   .op (some 77) (.bin .add (.k (.str [105, 100, 32])) (.t 76)),
   .op (some 78) (.bin .add (.t 77) (.k (.str [32, 40, 110, 32]))),
   .op (some 79) (.mov (.t 5)),
   .op (some 80) (.mov (.t 8)),
   .op (some 81) (.iadr 1 (.t 79) (.t 80)),
   .op (some 82) (.load1 (.t 81)),
   .op (some 83) (.bin .add (.t 78) (.t 82)),
   .op (some 84) (.bin .add (.t 83) (.k (.str [32, 53, 41]))),
   .op (some 11) (.mov (.t 84))])
 (.keep [6, 7, 8, 9, 10, 11] (.seq (.ops [.op (some 85) (.mov (.t 10)),
   .op (some 12) (.mov (.t 85))])
 (.keep [6, 7, 8, 9, 11, 12] (.seq (.seq (.draw [.op (some 86) (.mov (.t 6)),
   .op (some 87) (.mov (.t 8)),
   .op (some 88) (.iadr 1 (.t 86) (.t 87)),
   .op (some 89) (.load1 (.t 88)),
   .op (some 90) (.mov (.t 6)),
   .op (some 91) (.mov (.t 7)),
   .op (some 92) (.iadr 1 (.t 90) (.t 91)),
   .op (some 93) (.load1 (.t 92)),
   .op (some 94) (.bin .gtr (.t 89) (.t 93))])
  (.keep [9, 11, 12, 94] (.cond (.t 94)
  (.ops [.op (some 95) (.mov (.t 11)),
    .op (some 12) (.mov (.t 95))])
  (.skip))))
 (.keep [9, 12] (.seq (.ops [.op (some 97) (.mov (.t 9)),
   .call (some 98) 9 [.t 97],
   .op (some 96) (.mov (.t 98)),
   .op (some 99) (.ext (.t 96) 0),
   .op (some 100) (.ext (.t 96) 1),
   .op (some 13) (.alloc [.nils 7]),
   .op none (.store 1 (.t 13) (.t 99)),
   .op (some 14) (.mov (.t 100))])
 (.keep [9, 12, 13, 14] (.seq (.ops [.op (some 102) (.mov (.t 12)),
   .call (some 103) 9 [.t 102],
   .op (some 101) (.mov (.t 103)),
   .op (some 104) (.ext (.t 101) 0),
   .op (some 105) (.ext (.t 101) 1),
   .op (some 15) (.alloc [.nils 7]),
   .op none (.store 1 (.t 15) (.t 104)),
   .op (some 16) (.mov (.t 105))])
 (.keep [9, 13, 14, 15, 16] (.seq (.ops [.op (some 107) (.mov (.t 9)),
   .call (some 108) 16 [.t 107],
   .op (some 106) (.mov (.t 108)),
   .op (some 109) (.ext (.t 106) 0),
   .op (some 110) (.ext (.t 106) 1),
   .op (some 17) (.alloc [.nils 7]),
   .op none (.store 1 (.t 17) (.t 109)),
   .op (some 18) (.mov (.t 110))])
 (.keep [13, 14, 15, 16, 17, 18] (.seq (.ops [.op (some 111) (.mov (.t 14)),
   .op (some 112) (.bin .eql (.t 111) (.k (.int .i64 0))),
   .op (some 113) (.mov (.t 112)),
   .andor 116 true 2 113 [.op (some 114) (.mov (.t 16)), .op (some 115) (.bin .eql (.t 114) (.k (.int .i64 0)))] (.t 115),
   .op (some 117) (.mov (.t 116)),
   .andor 120 true 6 117 [.op (some 118) (.mov (.t 18)), .op (some 119) (.bin .eql (.t 118) (.k (.int .i64 0)))] (.t 119),
   .op (some 121) (.mov (.t 120)),
   .andor 125 true 10 121 [.op (some 122) (.loadN 1 (.t 13)), .op (some 123) (.loadN 1 (.t 15)), .call (some 124) 12 [.t 122, .t 123]] (.t 124),
   .op (some 126) (.mov (.t 125)),
   .andor 130 true 15 126 [.op (some 127) (.loadN 1 (.t 13)), .op (some 128) (.loadN 1 (.t 17)), .call (some 129) 12 [.t 127, .t 128]] (.t 129),
   .op (some 4) (.mov (.t 130))])
 (.keep [4] (.ret))))))))))))))))))))))))))))))))
theorem k_c_FnBinds_fits : fitsF Tryz.prog 4 ⟨131, k_c_FnBinds, [.t 4]⟩ = true := by kernel_rfl
set_option maxHeartbeats 8000000 in
theorem c_FnBinds {code more : Str} (w0 : wfL (fun _ => True) code) (w1 : wfL (fun _ => True) more) : Con Tryz.prog noMv 4 [.d (.sl 1 (code.map byteRow)), .d (.sl 1 (more.map byteRow))] [] (fun r h => r = bool true ∧ h = []) := by
 refine con_of2 k_c_FnBinds_fits rfl fun C hP hmv => ?_
 unfold k_c_FnBinds
 refine cx_seq ?_
 refine cx_ops ?_
 refine ax_q (q_mov rfl) ?_
 refine ax_nil ?_
 refine cx_keep rfl rfl ?_
 refine cx_seq ?_
 refine cx_seq ?_
 refine cx_ops ?_
 refine ax_q (q_mov rfl) ?_
 first | refine ax_q (q_lenS_map rfl) ?_ | refine ax_q (q_lenS_osl rfl) ?_ | refine ax_q (q_lenS_zs rfl) ?_ | refine ax_q (q_lenS rfl) ?_
 refine ax_q (q_ibin rfl rfl rfl) ?_
 refine ax_q (q_mov rfl) ?_
 apply ax_or rfl rfl
 ·
  intro g
  have g := dF g
  refine ax_q (q_mov rfl) ?_
  first | refine ax_q (q_lenS_map rfl) ?_ | refine ax_q (q_lenS_osl rfl) ?_ | refine ax_q (q_lenS_zs rfl) ?_ | refine ax_q (q_lenS rfl) ?_
  refine ax_q (q_ibin rfl rfl rfl) ?_
  exact ax_nil ⟨rfl, by repeat (first | exact trivial | refine ⟨rfl, ?_⟩ | refine ⟨?_, ?_⟩)⟩
 refine ax_nil ?_
 refine cx_keep rfl rfl ?_
 refine cx_cond rfl (fun h0 => ?_) (fun h0 => ?_)
 ·
  have h0 := (fun h => (or_T h).imp dT dT) h0
  refine cx_seq ?_
  refine cx_ops ?_
  refine ax_q (q_mov rfl) ?_
  refine ax_nil ?_
  refine cx_keep rfl rfl ?_
  refine cx_ret (ret0 rfl rfl ?_)
  exact ⟨rfl, rfl⟩
 ·
  have h0 := (fun h => And.intro (dF (or_F h).1) (dF (or_F h).2)) h0
  have hcl : code.length ≤ 1048576 := by omega
  have hml : more.length ≤ 1048576 := by omega
  obtain ⟨i, hi, hi8⟩ := at8 code
  obtain ⟨j, hj, hj8⟩ := at8 more
  have hli := (sg8_at hi8).2
  have hlj := (sg8_at hj8).2
  refine cx_skip ?_
  refine cx_keep rfl rfl ?_
  refine cx_seq ?_
  refine cx_ops ?_
  refine ax_e (e_bslice rfl (by decide) rfl rfl) ?_
  refine ax_q (q_mov rfl) ?_
  refine ax_nil ?_
  refine cx_keep rfl rfl ?_
  refine cx_seq ?_
  refine cx_ops ?_
  refine ax_e (e_bslice rfl (by decide) rfl rfl) ?_
  refine ax_q (q_mov rfl) ?_
  refine ax_nil ?_
  refine cx_keep rfl rfl ?_
  refine cx_seq ?_
  refine cx_ops ?_
  refine ax_q (q_mov rfl) ?_
  refine ax_q (q_mov rfl) ?_
  first | refine ax_q (q_lenS_map rfl) ?_ | refine ax_q (q_lenS_osl rfl) ?_ | refine ax_q (q_lenS_zs rfl) ?_ | refine ax_q (q_lenS rfl) ?_
  first | refine ax_call rfl (vc_pure0 (c_at (more := code) (i := 0) (n := 8) ?_ ?_ ?_) hP rfl rfl ?_) | refine ax_call rfl (vc_lend0 (c_at (more := code) (i := 0) (n := 8) ?_ ?_ ?_) hP (by repeat (first | exact lal_id _ rfl | exact LAL.nil | refine LAL.cons ?_ ?_ | exact la_id _ rfl | exact LA.lend (lend_whole rfl (by first | (simp; done) | (rw [List.length_map]; rfl))) | refine LA.agg ?_ | refine LA.fn ?_ | refine LA.lend ?_ | exact Lend.d _ | exact Lend.zs _ | exact lend_whole rfl (by first | (simp; done) | (rw [List.length_map]; rfl)) | refine Lend.ptr rfl ?_ | refine Lend.fn ?_ | exact LendL.nil | refine LendL.cons ?_ ?_)) rfl rfl ?_)
  ·
   first | assumption | omega | (simp; done) | (simp; omega)
  ·
   decide
  ·
   decide
  rw [hi]
  refine ax_q (q_mov rfl) ?_
  refine ax_nil ?_
  refine cx_keep rfl rfl ?_
  refine cx_seq ?_
  refine cx_ops ?_
  refine ax_q (q_mov rfl) ?_
  refine ax_q (q_mov rfl) ?_
  first | refine ax_q (q_lenS_map rfl) ?_ | refine ax_q (q_lenS_osl rfl) ?_ | refine ax_q (q_lenS_zs rfl) ?_ | refine ax_q (q_lenS rfl) ?_
  first | refine ax_call rfl (vc_pure0 (c_at (more := more) (i := 0) (n := 8) ?_ ?_ ?_) hP rfl rfl ?_) | refine ax_call rfl (vc_lend0 (c_at (more := more) (i := 0) (n := 8) ?_ ?_ ?_) hP (by repeat (first | exact lal_id _ rfl | exact LAL.nil | refine LAL.cons ?_ ?_ | exact la_id _ rfl | exact LA.lend (lend_whole rfl (by first | (simp; done) | (rw [List.length_map]; rfl))) | refine LA.agg ?_ | refine LA.fn ?_ | refine LA.lend ?_ | exact Lend.d _ | exact Lend.zs _ | exact lend_whole rfl (by first | (simp; done) | (rw [List.length_map]; rfl)) | refine Lend.ptr rfl ?_ | refine Lend.fn ?_ | exact LendL.nil | refine LendL.cons ?_ ?_)) rfl rfl ?_)
  ·
   first | assumption | omega | (simp; done) | (simp; omega)
  ·
   decide
  ·
   decide
  rw [hj]
  refine ax_q (q_mov rfl) ?_
  refine ax_nil ?_
  refine cx_keep rfl rfl ?_
  refine cx_seq ?_
  refine cx_seq ?_
  refine cx_ops ?_
  refine ax_q (q_mov rfl) ?_
  refine ax_q (q_mov rfl) ?_
  refine ax_q (q_ixo rfl rfl hi8) ?_
  refine ax_q (q_load1_rptr rfl rfl (lv8_at hi8) rfl) ?_
  refine ax_q (q_ibin rfl rfl rfl) ?_
  refine ax_q (q_mov rfl) ?_
  apply ax_and rfl rfl
  ·
   intro g
   have g := dT g
   refine ax_q (q_mov rfl) ?_
   refine ax_q (q_mov rfl) ?_
   refine ax_q (q_ixo rfl rfl hj8) ?_
   refine ax_q (q_load1_rptr rfl rfl (lv8_at hj8) rfl) ?_
   refine ax_q (q_ibin rfl rfl rfl) ?_
   exact ax_nil ⟨rfl, by repeat (first | exact trivial | refine ⟨rfl, ?_⟩ | refine ⟨?_, ?_⟩)⟩
  refine ax_nil ?_
  refine cx_keep rfl rfl ?_
  refine cx_cond rfl (fun h1 => ?_) (fun h1 => ?_)
  ·
   have h1 := (fun h => And.intro (dT (and_T h).1) (dT (and_T h).2)) h1
   refine cx_seq ?_
   refine cx_ops ?_
   refine ax_q (q_mov rfl) ?_
   refine ax_nil ?_
   refine cx_keep rfl rfl ?_
   refine cx_ret (ret0 rfl rfl ?_)
   exact ⟨rfl, rfl⟩
  ·
   have h1 := (fun h => (and_F h).imp dF dF) h1
   obtain ⟨p1, p2, p3, hnl⟩ := binds hi8 hj8 h1
   refine cx_skip ?_
   refine cx_keep rfl rfl ?_
   refine cx_seq ?_
   refine cx_draw ?_
   refine ax_q (q_mov rfl) ?_
   refine ax_q (q_mov rfl) ?_
   refine ax_q (q_ixo rfl rfl hi8) ?_
   refine ax_q (q_load1_rptr rfl rfl (sg8_at hi8).1 rfl) ?_
   refine ax_q (q_sbin_add rfl rfl (by simp only [List.length_append, List.length_cons, List.length_nil]; omega)) ?_
   refine ax_q (q_sbin_add rfl rfl (by simp only [List.length_append, List.length_cons, List.length_nil]; omega)) ?_
   refine ax_q (q_mov rfl) ?_
   refine ax_q (q_mov rfl) ?_
   refine ax_q (q_ixo rfl rfl hj8) ?_
   refine ax_q (q_load1_rptr rfl rfl (sg8_at hj8).1 rfl) ?_
   refine ax_q (q_sbin_add rfl rfl (by simp only [List.length_append, List.length_cons, List.length_nil]; omega)) ?_
   refine ax_q (q_sbin_add rfl rfl (by simp only [List.length_append, List.length_cons, List.length_nil]; omega)) ?_
   refine ax_q (q_mov rfl) ?_
   refine ax_nil ?_
   refine cx_keep rfl rfl ?_
   refine cx_seq ?_
   refine cx_draw ?_
   refine ax_q (q_mov rfl) ?_
   refine ax_q (q_mov rfl) ?_
   refine ax_q (q_ixo rfl rfl hi8) ?_
   refine ax_q (q_load1_rptr rfl rfl (sg8_at hi8).1 rfl) ?_
   refine ax_q (q_sbin_add rfl rfl (by simp only [List.length_append, List.length_cons, List.length_nil]; omega)) ?_
   refine ax_q (q_sbin_add rfl rfl (by simp only [List.length_append, List.length_cons, List.length_nil]; omega)) ?_
   refine ax_q (q_mov rfl) ?_
   refine ax_q (q_mov rfl) ?_
   refine ax_q (q_ixo rfl rfl hj8) ?_
   refine ax_q (q_load1_rptr rfl rfl (sg8_at hj8).1 rfl) ?_
   refine ax_q (q_sbin_add rfl rfl (by simp only [List.length_append, List.length_cons, List.length_nil]; omega)) ?_
   refine ax_q (q_sbin_add rfl rfl (by simp only [List.length_append, List.length_cons, List.length_nil]; omega)) ?_
   refine ax_q (q_mov rfl) ?_
   refine ax_nil ?_
   refine cx_keep rfl rfl ?_
   refine cx_seq ?_
   refine cx_draw ?_
   refine ax_q (q_mov rfl) ?_
   refine ax_q (q_mov rfl) ?_
   refine ax_q (q_ixo rfl rfl hi8) ?_
   refine ax_q (q_load1_rptr rfl rfl (sg8_at hi8).1 rfl) ?_
   refine ax_q (q_sbin_add rfl rfl (by simp only [List.length_append, List.length_cons, List.length_nil]; omega)) ?_
   refine ax_q (q_sbin_add rfl rfl (by simp only [List.length_append, List.length_cons, List.length_nil]; omega)) ?_
   refine ax_q (q_mov rfl) ?_
   refine ax_q (q_mov rfl) ?_
   refine ax_q (q_ixo rfl rfl hj8) ?_
   refine ax_q (q_load1_rptr rfl rfl (sg8_at hj8).1 rfl) ?_
   refine ax_q (q_sbin_add rfl rfl (by simp only [List.length_append, List.length_cons, List.length_nil]; omega)) ?_
   refine ax_q (q_sbin_add rfl rfl (by simp only [List.length_append, List.length_cons, List.length_nil]; omega)) ?_
   refine ax_q (q_mov rfl) ?_
   refine ax_nil ?_
   refine cx_keep rfl rfl ?_
   refine cx_seq ?_
   refine cx_ops ?_
   refine ax_q (q_mov rfl) ?_
   refine ax_q (q_mov rfl) ?_
   refine ax_nil ?_
   refine cx_keep rfl rfl ?_
   refine cx_seq ?_
   refine cx_seq ?_
   refine cx_draw ?_
   refine ax_q (q_mov rfl) ?_
   refine ax_q (q_mov rfl) ?_
   refine ax_q (q_ixo rfl rfl hj8) ?_
   refine ax_q (q_load1_rptr rfl rfl (lv8_at hj8) rfl) ?_
   refine ax_q (q_mov rfl) ?_
   refine ax_q (q_mov rfl) ?_
   refine ax_q (q_ixo rfl rfl hi8) ?_
   refine ax_q (q_load1_rptr rfl rfl (lv8_at hi8) rfl) ?_
   refine ax_q (q_ibin rfl rfl rfl) ?_
   refine ax_nil ?_
   refine cx_keep rfl rfl ?_
   refine cx_cond rfl (fun h2 => ?_) (fun h2 => ?_)
   ·
    have h2 := dT h2
    have p2 : PEok (rightB i j) (binE i j) := by
     unfold dueB at p2
     rwa [if_pos h2] at p2
    refine cx_ops ?_
    refine ax_q (q_mov rfl) ?_
    refine ax_q (q_mov rfl) ?_
    refine ax_nil ?_
    refine cx_keep rfl rfl ?_
    refine cx_seq ?_
    refine cx_ops ?_
    refine ax_q (q_mov rfl) ?_
    first | refine ax_call rfl (vc_pure (c_ParseExpr (t := plainB i j) (e := binE i j) ?_) hP rfl ?_) | refine ax_call rfl (vc_lend (c_ParseExpr (t := plainB i j) (e := binE i j) ?_) hP (by repeat (first | exact lal_id _ rfl | exact LAL.nil | refine LAL.cons ?_ ?_ | exact la_id _ rfl | exact LA.lend (lend_whole rfl (by first | (simp; done) | (rw [List.length_map]; rfl))) | refine LA.agg ?_ | refine LA.fn ?_ | refine LA.lend ?_ | exact Lend.d _ | exact Lend.zs _ | exact lend_whole rfl (by first | (simp; done) | (rw [List.length_map]; rfl)) | refine Lend.ptr rfl ?_ | refine Lend.fn ?_ | exact LendL.nil | refine LendL.cons ?_ ?_)) ?_)
    ·
     first | assumption | omega | (simp; done) | (simp; omega)
    rintro r h ⟨rfl, rfl⟩
    refine ⟨fun i => 98 + 200 * i, [0], ⟨rfl, rfl, rfl, rfl, rfl, (by first | exact (fun h => absurd h Bool.false_ne_true) | exact (fun _ => ⟨rfl, (noisl_of (by repeat (first | exact trivial | refine ⟨noisl_map (fun _ => rfl), ?_⟩ | refine ⟨?_, ?_⟩)))⟩))⟩, ?_⟩
    skip
    refine ax_q (q_mov rfl) ?_
    refine ax_q (q_ext rfl rfl) ?_
    refine ax_q (q_ext rfl rfl) ?_
    refine ax_e (e_alloc (by decide) rfl rfl) ?_
    refine ax_e (e_st rfl rfl rfl rfl rfl rfl rfl) ?_
    refine ax_q (q_mov rfl) ?_
    refine ax_nil ?_
    refine cx_keep rfl rfl ?_
    refine cx_seq ?_
    refine cx_ops ?_
    refine ax_q (q_mov rfl) ?_
    first | refine ax_call rfl (vc_pure (c_ParseExpr (t := rightB i j) (e := binE i j) ?_) hP rfl ?_) | refine ax_call rfl (vc_lend (c_ParseExpr (t := rightB i j) (e := binE i j) ?_) hP (by repeat (first | exact lal_id _ rfl | exact LAL.nil | refine LAL.cons ?_ ?_ | exact la_id _ rfl | exact LA.lend (lend_whole rfl (by first | (simp; done) | (rw [List.length_map]; rfl))) | refine LA.agg ?_ | refine LA.fn ?_ | refine LA.lend ?_ | exact Lend.d _ | exact Lend.zs _ | exact lend_whole rfl (by first | (simp; done) | (rw [List.length_map]; rfl)) | refine Lend.ptr rfl ?_ | refine Lend.fn ?_ | exact LendL.nil | refine LendL.cons ?_ ?_)) ?_)
    ·
     first | assumption | omega | (simp; done) | (simp; omega)
    rintro r h ⟨rfl, rfl⟩
    refine ⟨fun i => 103 + 200 * i, [0], ⟨rfl, rfl, rfl, rfl, rfl, (by first | exact (fun h => absurd h Bool.false_ne_true) | exact (fun _ => ⟨rfl, (noisl_of (by repeat (first | exact trivial | refine ⟨noisl_map (fun _ => rfl), ?_⟩ | refine ⟨?_, ?_⟩)))⟩))⟩, ?_⟩
    skip
    refine ax_q (q_mov rfl) ?_
    refine ax_q (q_ext rfl rfl) ?_
    refine ax_q (q_ext rfl rfl) ?_
    refine ax_e (e_alloc (by decide) rfl rfl) ?_
    refine ax_e (e_st rfl rfl rfl rfl rfl rfl rfl) ?_
    refine ax_q (q_mov rfl) ?_
    refine ax_nil ?_
    refine cx_keep rfl rfl ?_
    refine cx_seq ?_
    refine cx_ops ?_
    refine ax_q (q_mov rfl) ?_
    first | refine ax_call rfl (vc_pure (c_sParseExpr (t := plainB i j) (e := binE i j) ?_) hP rfl ?_) | refine ax_call rfl (vc_lend (c_sParseExpr (t := plainB i j) (e := binE i j) ?_) hP (by repeat (first | exact lal_id _ rfl | exact LAL.nil | refine LAL.cons ?_ ?_ | exact la_id _ rfl | exact LA.lend (lend_whole rfl (by first | (simp; done) | (rw [List.length_map]; rfl))) | refine LA.agg ?_ | refine LA.fn ?_ | refine LA.lend ?_ | exact Lend.d _ | exact Lend.zs _ | exact lend_whole rfl (by first | (simp; done) | (rw [List.length_map]; rfl)) | refine Lend.ptr rfl ?_ | refine Lend.fn ?_ | exact LendL.nil | refine LendL.cons ?_ ?_)) ?_)
    ·
     first | assumption | omega | (simp; done) | (simp; omega)
    rintro r h ⟨rfl, rfl⟩
    refine ⟨fun i => 108 + 200 * i, [0], ⟨rfl, rfl, rfl, rfl, rfl, (by first | exact (fun h => absurd h Bool.false_ne_true) | exact (fun _ => ⟨rfl, (noisl_of (by repeat (first | exact trivial | refine ⟨noisl_map (fun _ => rfl), ?_⟩ | refine ⟨?_, ?_⟩)))⟩))⟩, ?_⟩
    skip
    refine ax_q (q_mov rfl) ?_
    refine ax_q (q_ext rfl rfl) ?_
    refine ax_q (q_ext rfl rfl) ?_
    refine ax_e (e_alloc (by decide) rfl rfl) ?_
    refine ax_e (e_st rfl rfl rfl rfl rfl rfl rfl) ?_
    refine ax_q (q_mov rfl) ?_
    refine ax_nil ?_
    refine cx_keep rfl rfl ?_
    refine cx_seq ?_
    refine cx_ops ?_
    refine ax_q (q_mov rfl) ?_
    refine ax_q (q_ibin rfl rfl rfl) ?_
    refine ax_q (q_mov rfl) ?_
    apply ax_and rfl rfl
    ·
     intro g
     have g := dT g
     refine ax_q (q_mov rfl) ?_
     refine ax_q (q_ibin rfl rfl rfl) ?_
     exact ax_nil ⟨rfl, by repeat (first | exact trivial | refine ⟨rfl, ?_⟩ | refine ⟨?_, ?_⟩)⟩
    refine ax_q (q_mov rfl) ?_
    apply ax_and rfl rfl
    ·
     intro g
     have g := (fun h => And.intro (dT (and_T h).1) (dT (and_T h).2)) g
     refine ax_q (q_mov rfl) ?_
     refine ax_q (q_ibin rfl rfl rfl) ?_
     exact ax_nil ⟨rfl, by repeat (first | exact trivial | refine ⟨rfl, ?_⟩ | refine ⟨?_, ?_⟩)⟩
    refine ax_q (q_mov rfl) ?_
    apply ax_and rfl rfl
    ·
     intro g
     have g := (fun h => And.intro ((fun h => And.intro (dT (and_T h).1) (dT (and_T h).2)) (and_T h).1) (dT (and_T h).2)) g
     refine ax_q (q_ldN rfl rfl rfl) ?_
     refine ax_q (q_ldN rfl rfl rfl) ?_
     first | refine ax_call rfl (vc_pure0 (c_sameExpr (a := binE i j) (b := binE i j) ?_ ?_) hP rfl rfl ?_) | refine ax_call rfl (vc_lend0 (c_sameExpr (a := binE i j) (b := binE i j) ?_ ?_) hP (by repeat (first | exact lal_id _ rfl | exact LAL.nil | refine LAL.cons ?_ ?_ | exact la_id _ rfl | exact LA.lend (lend_whole rfl (by first | (simp; done) | (rw [List.length_map]; rfl))) | refine LA.agg ?_ | refine LA.fn ?_ | refine LA.lend ?_ | exact Lend.d _ | exact Lend.zs _ | exact lend_whole rfl (by first | (simp; done) | (rw [List.length_map]; rfl)) | refine Lend.ptr rfl ?_ | refine Lend.fn ?_ | exact LendL.nil | refine LendL.cons ?_ ?_)) rfl rfl ?_)
     ·
      first | assumption | omega | (simp; done) | (simp; omega)
     ·
      first | assumption | omega | (simp; done) | (simp; omega)
     exact ax_nil ⟨rfl, by repeat (first | exact trivial | refine ⟨rfl, ?_⟩ | refine ⟨?_, ?_⟩)⟩
    refine ax_q (q_mov rfl) ?_
    apply ax_and rfl rfl
    ·
     intro g
     have g := (fun h => And.intro ((fun h => And.intro ((fun h => And.intro (dT (and_T h).1) (dT (and_T h).2)) (and_T h).1) (dT (and_T h).2)) (and_T h).1) (id (and_T h).2)) g
     refine ax_q (q_ldN rfl rfl rfl) ?_
     refine ax_q (q_ldN rfl rfl rfl) ?_
     first | refine ax_call rfl (vc_pure0 (c_sameExpr (a := binE i j) (b := binE i j) ?_ ?_) hP rfl rfl ?_) | refine ax_call rfl (vc_lend0 (c_sameExpr (a := binE i j) (b := binE i j) ?_ ?_) hP (by repeat (first | exact lal_id _ rfl | exact LAL.nil | refine LAL.cons ?_ ?_ | exact la_id _ rfl | exact LA.lend (lend_whole rfl (by first | (simp; done) | (rw [List.length_map]; rfl))) | refine LA.agg ?_ | refine LA.fn ?_ | refine LA.lend ?_ | exact Lend.d _ | exact Lend.zs _ | exact lend_whole rfl (by first | (simp; done) | (rw [List.length_map]; rfl)) | refine Lend.ptr rfl ?_ | refine Lend.fn ?_ | exact LendL.nil | refine LendL.cons ?_ ?_)) rfl rfl ?_)
     ·
      first | assumption | omega | (simp; done) | (simp; omega)
     ·
      first | assumption | omega | (simp; done) | (simp; omega)
     exact ax_nil ⟨rfl, by repeat (first | exact trivial | refine ⟨rfl, ?_⟩ | refine ⟨?_, ?_⟩)⟩
    refine ax_q (q_mov rfl) ?_
    refine ax_nil ?_
    refine cx_keep rfl rfl ?_
    refine cx_ret (ret0 rfl rfl ?_)
    exact ⟨by rw [eqb_t rfl]; rfl, rfl⟩
   ·
    have h2 := dF h2
    have p2 : PEok (leftB i j) (binE i j) := by
     unfold dueB at p2
     rwa [if_neg h2] at p2
    refine cx_skip ?_
    refine cx_keep rfl rfl ?_
    refine cx_seq ?_
    refine cx_ops ?_
    refine ax_q (q_mov rfl) ?_
    first | refine ax_call rfl (vc_pure (c_ParseExpr (t := plainB i j) (e := binE i j) ?_) hP rfl ?_) | refine ax_call rfl (vc_lend (c_ParseExpr (t := plainB i j) (e := binE i j) ?_) hP (by repeat (first | exact lal_id _ rfl | exact LAL.nil | refine LAL.cons ?_ ?_ | exact la_id _ rfl | exact LA.lend (lend_whole rfl (by first | (simp; done) | (rw [List.length_map]; rfl))) | refine LA.agg ?_ | refine LA.fn ?_ | refine LA.lend ?_ | exact Lend.d _ | exact Lend.zs _ | exact lend_whole rfl (by first | (simp; done) | (rw [List.length_map]; rfl)) | refine Lend.ptr rfl ?_ | refine Lend.fn ?_ | exact LendL.nil | refine LendL.cons ?_ ?_)) ?_)
    ·
     first | assumption | omega | (simp; done) | (simp; omega)
    rintro r h ⟨rfl, rfl⟩
    refine ⟨fun i => 98 + 200 * i, [0], ⟨rfl, rfl, rfl, rfl, rfl, (by first | exact (fun h => absurd h Bool.false_ne_true) | exact (fun _ => ⟨rfl, (noisl_of (by repeat (first | exact trivial | refine ⟨noisl_map (fun _ => rfl), ?_⟩ | refine ⟨?_, ?_⟩)))⟩))⟩, ?_⟩
    skip
    refine ax_q (q_mov rfl) ?_
    refine ax_q (q_ext rfl rfl) ?_
    refine ax_q (q_ext rfl rfl) ?_
    refine ax_e (e_alloc (by decide) rfl rfl) ?_
    refine ax_e (e_st rfl rfl rfl rfl rfl rfl rfl) ?_
    refine ax_q (q_mov rfl) ?_
    refine ax_nil ?_
    refine cx_keep rfl rfl ?_
    refine cx_seq ?_
    refine cx_ops ?_
    refine ax_q (q_mov rfl) ?_
    first | refine ax_call rfl (vc_pure (c_ParseExpr (t := leftB i j) (e := binE i j) ?_) hP rfl ?_) | refine ax_call rfl (vc_lend (c_ParseExpr (t := leftB i j) (e := binE i j) ?_) hP (by repeat (first | exact lal_id _ rfl | exact LAL.nil | refine LAL.cons ?_ ?_ | exact la_id _ rfl | exact LA.lend (lend_whole rfl (by first | (simp; done) | (rw [List.length_map]; rfl))) | refine LA.agg ?_ | refine LA.fn ?_ | refine LA.lend ?_ | exact Lend.d _ | exact Lend.zs _ | exact lend_whole rfl (by first | (simp; done) | (rw [List.length_map]; rfl)) | refine Lend.ptr rfl ?_ | refine Lend.fn ?_ | exact LendL.nil | refine LendL.cons ?_ ?_)) ?_)
    ·
     first | assumption | omega | (simp; done) | (simp; omega)
    rintro r h ⟨rfl, rfl⟩
    refine ⟨fun i => 103 + 200 * i, [0], ⟨rfl, rfl, rfl, rfl, rfl, (by first | exact (fun h => absurd h Bool.false_ne_true) | exact (fun _ => ⟨rfl, (noisl_of (by repeat (first | exact trivial | refine ⟨noisl_map (fun _ => rfl), ?_⟩ | refine ⟨?_, ?_⟩)))⟩))⟩, ?_⟩
    skip
    refine ax_q (q_mov rfl) ?_
    refine ax_q (q_ext rfl rfl) ?_
    refine ax_q (q_ext rfl rfl) ?_
    refine ax_e (e_alloc (by decide) rfl rfl) ?_
    refine ax_e (e_st rfl rfl rfl rfl rfl rfl rfl) ?_
    refine ax_q (q_mov rfl) ?_
    refine ax_nil ?_
    refine cx_keep rfl rfl ?_
    refine cx_seq ?_
    refine cx_ops ?_
    refine ax_q (q_mov rfl) ?_
    first | refine ax_call rfl (vc_pure (c_sParseExpr (t := plainB i j) (e := binE i j) ?_) hP rfl ?_) | refine ax_call rfl (vc_lend (c_sParseExpr (t := plainB i j) (e := binE i j) ?_) hP (by repeat (first | exact lal_id _ rfl | exact LAL.nil | refine LAL.cons ?_ ?_ | exact la_id _ rfl | exact LA.lend (lend_whole rfl (by first | (simp; done) | (rw [List.length_map]; rfl))) | refine LA.agg ?_ | refine LA.fn ?_ | refine LA.lend ?_ | exact Lend.d _ | exact Lend.zs _ | exact lend_whole rfl (by first | (simp; done) | (rw [List.length_map]; rfl)) | refine Lend.ptr rfl ?_ | refine Lend.fn ?_ | exact LendL.nil | refine LendL.cons ?_ ?_)) ?_)
    ·
     first | assumption | omega | (simp; done) | (simp; omega)
    rintro r h ⟨rfl, rfl⟩
    refine ⟨fun i => 108 + 200 * i, [0], ⟨rfl, rfl, rfl, rfl, rfl, (by first | exact (fun h => absurd h Bool.false_ne_true) | exact (fun _ => ⟨rfl, (noisl_of (by repeat (first | exact trivial | refine ⟨noisl_map (fun _ => rfl), ?_⟩ | refine ⟨?_, ?_⟩)))⟩))⟩, ?_⟩
    skip
    refine ax_q (q_mov rfl) ?_
    refine ax_q (q_ext rfl rfl) ?_
    refine ax_q (q_ext rfl rfl) ?_
    refine ax_e (e_alloc (by decide) rfl rfl) ?_
    refine ax_e (e_st rfl rfl rfl rfl rfl rfl rfl) ?_
    refine ax_q (q_mov rfl) ?_
    refine ax_nil ?_
    refine cx_keep rfl rfl ?_
    refine cx_seq ?_
    refine cx_ops ?_
    refine ax_q (q_mov rfl) ?_
    refine ax_q (q_ibin rfl rfl rfl) ?_
    refine ax_q (q_mov rfl) ?_
    apply ax_and rfl rfl
    ·
     intro g
     have g := dT g
     refine ax_q (q_mov rfl) ?_
     refine ax_q (q_ibin rfl rfl rfl) ?_
     exact ax_nil ⟨rfl, by repeat (first | exact trivial | refine ⟨rfl, ?_⟩ | refine ⟨?_, ?_⟩)⟩
    refine ax_q (q_mov rfl) ?_
    apply ax_and rfl rfl
    ·
     intro g
     have g := (fun h => And.intro (dT (and_T h).1) (dT (and_T h).2)) g
     refine ax_q (q_mov rfl) ?_
     refine ax_q (q_ibin rfl rfl rfl) ?_
     exact ax_nil ⟨rfl, by repeat (first | exact trivial | refine ⟨rfl, ?_⟩ | refine ⟨?_, ?_⟩)⟩
    refine ax_q (q_mov rfl) ?_
    apply ax_and rfl rfl
    ·
     intro g
     have g := (fun h => And.intro ((fun h => And.intro (dT (and_T h).1) (dT (and_T h).2)) (and_T h).1) (dT (and_T h).2)) g
     refine ax_q (q_ldN rfl rfl rfl) ?_
     refine ax_q (q_ldN rfl rfl rfl) ?_
     first | refine ax_call rfl (vc_pure0 (c_sameExpr (a := binE i j) (b := binE i j) ?_ ?_) hP rfl rfl ?_) | refine ax_call rfl (vc_lend0 (c_sameExpr (a := binE i j) (b := binE i j) ?_ ?_) hP (by repeat (first | exact lal_id _ rfl | exact LAL.nil | refine LAL.cons ?_ ?_ | exact la_id _ rfl | exact LA.lend (lend_whole rfl (by first | (simp; done) | (rw [List.length_map]; rfl))) | refine LA.agg ?_ | refine LA.fn ?_ | refine LA.lend ?_ | exact Lend.d _ | exact Lend.zs _ | exact lend_whole rfl (by first | (simp; done) | (rw [List.length_map]; rfl)) | refine Lend.ptr rfl ?_ | refine Lend.fn ?_ | exact LendL.nil | refine LendL.cons ?_ ?_)) rfl rfl ?_)
     ·
      first | assumption | omega | (simp; done) | (simp; omega)
     ·
      first | assumption | omega | (simp; done) | (simp; omega)
     exact ax_nil ⟨rfl, by repeat (first | exact trivial | refine ⟨rfl, ?_⟩ | refine ⟨?_, ?_⟩)⟩
    refine ax_q (q_mov rfl) ?_
    apply ax_and rfl rfl
    ·
     intro g
     have g := (fun h => And.intro ((fun h => And.intro ((fun h => And.intro (dT (and_T h).1) (dT (and_T h).2)) (and_T h).1) (dT (and_T h).2)) (and_T h).1) (id (and_T h).2)) g
     refine ax_q (q_ldN rfl rfl rfl) ?_
     refine ax_q (q_ldN rfl rfl rfl) ?_
     first | refine ax_call rfl (vc_pure0 (c_sameExpr (a := binE i j) (b := binE i j) ?_ ?_) hP rfl rfl ?_) | refine ax_call rfl (vc_lend0 (c_sameExpr (a := binE i j) (b := binE i j) ?_ ?_) hP (by repeat (first | exact lal_id _ rfl | exact LAL.nil | refine LAL.cons ?_ ?_ | exact la_id _ rfl | exact LA.lend (lend_whole rfl (by first | (simp; done) | (rw [List.length_map]; rfl))) | refine LA.agg ?_ | refine LA.fn ?_ | refine LA.lend ?_ | exact Lend.d _ | exact Lend.zs _ | exact lend_whole rfl (by first | (simp; done) | (rw [List.length_map]; rfl)) | refine Lend.ptr rfl ?_ | refine Lend.fn ?_ | exact LendL.nil | refine LendL.cons ?_ ?_)) rfl rfl ?_)
     ·
      first | assumption | omega | (simp; done) | (simp; omega)
     ·
      first | assumption | omega | (simp; done) | (simp; omega)
     exact ax_nil ⟨rfl, by repeat (first | exact trivial | refine ⟨rfl, ?_⟩ | refine ⟨?_, ?_⟩)⟩
    refine ax_q (q_mov rfl) ?_
    refine ax_nil ?_
    refine cx_keep rfl rfl ?_
    refine cx_ret (ret0 rfl rfl ?_)
    exact ⟨by rw [eqb_t rfl]; rfl, rfl⟩

theorem own : ownKnob Tryz.prog.godebug = none := by kernel_rfl
theorem laid : laidOutB Tryz.prog = true := by kernel_rfl
theorem closedTs : closedT Tryz.prog [5, 22] = true := by kernel_rfl
theorem con (rows : List (List D)) (h : HasAll Tryz.prog Tryz.f4.params.toList rows) : Con Tryz.prog noMv 4 (argsAV Tryz.prog Tryz.f4.params.toList rows) [] (fun r h => r = AM.bool true ∧ h = []) := by
  rw [Tryz.params4] at h ⊢
  obtain ⟨d0, r0, rfl, h0, h⟩ := h
  obtain ⟨d1, r1, rfl, h1, h⟩ := h
  obtain rfl := h
  obtain ⟨a0, rfl, w0⟩ := (dec_slice (sz := 1) Tryz.underlying22 (by kernel_rfl) (dec_byte Tryz.underlying5)) h0
  obtain ⟨a1, rfl, w1⟩ := (dec_slice (sz := 1) Tryz.underlying22 (by kernel_rfl) (dec_byte Tryz.underlying5)) h1
  have e : argsAV Tryz.prog [22, 22] [[.sl 1 (a0.map byteRow)], [.sl 1 (a1.map byteRow)]] = [.d (.sl 1 (a0.map byteRow)), .d (.sl 1 (a1.map byteRow))] := by
    first | (simp only [argsAV, argAV, Tryz.underlying22]; done) | (simp only [argsAV, argAV, Tryz.underlying22]; rfl)
  show Con Tryz.prog noMv 4 (argsAV Tryz.prog [22, 22] [[.sl 1 (a0.map byteRow)], [.sl 1 (a1.map byteRow)]]) [] _
  rw [e]
  exact c_FnBinds w0 w1
/-- The settled world, what is listed holding what its initialiser lays: the witness. -/
noncomputable def laidWorld (os : Os) : World := World.laidAll Tryz.prog os Rows.fnBindsRow.laid
set_option maxRecDepth 100000 in
theorem laid_met (os : Os) (args : Array Value) : laidMetH Tryz.prog Rows.fnBindsRow.laid ((laidWorld os).forCall (fun _ _ => 0) ⟨#[], args, []⟩).memory :=
  show laidMet Tryz.prog Rows.fnBindsRow.laid _ from laidMet_laidAll _ (by kernel_rfl) (by kernel_rfl)
set_option maxRecDepth 100000 in
theorem gok {W : World} (h : laidMetH Tryz.prog Rows.fnBindsRow.laid W) : GOK Tryz.prog (fun _ => False) noN W :=
  have h' : laidMet Tryz.prog Rows.fnBindsRow.laid W := h
  gok_three (tab_pow (l := Rows.fnBindsRow.laid) (g := 3) (t := 140) (e := 130) (by first | exact List.mem_of_getElem? (i := 2) rfl | simp [Rows.fnBindsRow]) (by kernel_rfl) (by kernel_rfl) Tryz.underlying140 Tryz.underlying130 (by kernel_rfl) (by kernel_rfl) h') (tab_strs (l := Rows.fnBindsRow.laid) (g := 0) (t := 106) (e := 9) (zs := [[105, 100], [110], [110, 97, 109, 101]]) (by first | exact List.mem_of_getElem? (i := 5) rfl | simp [Rows.fnBindsRow]) (by kernel_rfl) (by kernel_rfl) Tryz.underlying106 Tryz.underlying9 (by kernel_rfl) (by kernel_rfl) h') (tab_strs (l := Rows.fnBindsRow.laid) (g := 1) (t := 109) (e := 9) (zs := [[43], [45], [42], [47], [61], [60], [97, 110, 100], [111, 114]]) (by first | exact List.mem_of_getElem? (i := 6) rfl | simp [Rows.fnBindsRow]) (by kernel_rfl) (by kernel_rfl) Tryz.underlying109 Tryz.underlying9 (by kernel_rfl) (by kernel_rfl) h') (tab_iface (l := Rows.fnBindsRow.laid) (g := 4) (t := 123) (List.mem_of_getElem? (i := 4) rfl) (by kernel_rfl) (by kernel_rfl) Tryz.underlying123 h')
set_option maxRecDepth 100000 in
theorem lifted (os : Os) (started : os.Started) (H : Type) (enc : TypeId × Value → H) :
    ReturnsInHanded {} Tryz.checked os 4 .any (fun w args => (Rows.fnBindsSpec.pre enc Tryz.prog Tryz.f4 Rows.fnBindsRow.domain false w args ∧ laidMetH Tryz.prog Rows.fnBindsRow.laid w) ∧ sizedMet enc Tryz.prog Tryz.f4 (OpenSpec.ofChange Rows.fnBindsSpec) false w args) (Rows.fnBindsSpec.post enc Tryz.prog Tryz.f4 false true false false) := by
  refine returnsInHanded_of_change_and (C := Tryz.checked) (X := fun w _ => laidMetH Tryz.prog Rows.fnBindsRow.laid w) (fun _ _ _ hh h => h.of_heap hh) own started (by kernel_rfl) Tryz.func4
    (ChangeSpec.witness_at (enc := enc) (C := Tryz.checked) (os := os) (X := fun w _ => laidMetH Tryz.prog Rows.fnBindsRow.laid w) false (laidWorld os) #[.slice none 0 0, .slice none 0 0] 8 (World.laidAll_os _ _ _) (by kernel_rfl) (by kernel_rfl) (by kernel_rfl) (by kernel_rfl) (by kernel_rfl) (laid_met os _)) ?_
  intro W base args ds gs before hval hW hcnd _ hL _
  refine law_contractV closedTs laid (by kernel_rfl) (by kernel_rfl) rfl Tryz.underlying4 con (fun hl hg => ?_) hval hW (gok hL)
  match ds, gs, hl, hg with
  | [x0, x1], [y0, y1], _, _ => rfl
theorem over : Rows.fnBindsRow.holds Tryz.pinned (OpenSpec.ofChange Rows.fnBindsSpec) :=
  OpenClaim.holds_of_wide 4 Tryz.f4 rfl rfl rfl rfl rfl rfl rfl ⟨rfl, rfl, rfl, rfl, rfl⟩ rfl rfl rfl rfl rfl (by kernel_rfl) Tryz.func4 (by kernel_rfl)
    (of_decide_eq_true (by kernel_rfl)) (by unfold Func.isWrapper; first | (rw [if_pos (by decide +kernel)]; kernel_rfl) | (rw [if_neg (by decide +kernel)]; exact ⟨rfl, rfl⟩))
    (fun os started H enc _ => lifted os started H enc)
theorem proved : Rows.FnBindsCardSaid :=
  Claim7.holds_tied_plain_at .later [] [.data, .data, .data, .sentinel, .sentinel, .widerDeep, .data] true (true, "33a9c400c407d053510ffcfdd792fc464fdc9e8eadb439c768c451c8cc76d6ba") true
    over (fun _ h => by cases h) (by kernel_rfl) (fun _ h => by cases h) fnBinds_row_tie rfl ⟨rfl, rfl⟩ (by kernel_rfl) rfl
    (fun f fn hf hfn => by
      obtain rfl : f = 4 := (Option.some.inj ((show Tryz.prog.funcNamed "loop.example/g00332/laws.FnBinds" = some 4 by kernel_rfl).symm.trans hf)).symm
      obtain rfl : fn = Tryz.f4 := (Option.some.inj (Tryz.func4.symm.trans hfn)).symm
      refine ⟨by kernel_rfl, fun j t ht => ?_⟩
      rw [Tryz.params4] at ht
      rcases j with _ | _ | j
      · obtain rfl : t = 22 := by simpa using ht.symm
        exact (show Tryz.prog.wantsStandIn 22 = false by kernel_rfl)
      · obtain rfl : t = 22 := by simpa using ht.symm
        exact (show Tryz.prog.wantsStandIn 22 = false by kernel_rfl)
      · simp at ht)
    (by kernel_rfl)
end fnBinds
end Go.Proofs.YthdafcdhnjapnaaGreatDoor
#print axioms Go.Proofs.YthdafcdhnjapnaaGreatDoor.fnBinds.proved
