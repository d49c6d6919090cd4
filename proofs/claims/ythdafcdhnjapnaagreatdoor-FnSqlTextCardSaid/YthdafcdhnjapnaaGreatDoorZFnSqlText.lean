/- The law FnSqlText of the given program returns true for all arguments, and its arguments read behind the call as they read before: the statement FnSqlTextSaid, with no condition. -/
import Derived.Test.YthdafcdhnjapnaaGreatDoorW2
import Derived.Test.YthdafcdhnjapnaaGreatDoorRows
import Derived.Test.YthdafcdhnjapnaaGreatDoorTie
import Derived.Test.YthdafcdhnjapnaaGreatDoorCards
import Derived.LaidLaws
import Derived.SevenTiedAt
import Derived.Lay
namespace Go.Proofs.YthdafcdhnjapnaaGreatDoor
open Go Go.AM Go.ChangeShapes Go.RowKit
set_option linter.unusedVariables false
set_option linter.unusedSimpArgs false
namespace fnSqlText
set_option maxRecDepth 10000
/- loop.example/g00332/laws.FnSqlText -/
def k_c_FnSqlText : XCode :=
 .seq (.ops [.op (some 2) (.mov (.k (.bool false)))])
 (.keep [0] (.seq (.seq (.ops [.op (some 10) (.mov (.t 0)),
   .op (some 11) (.lenS (.t 10)),
   .op (some 12) (.bin .gtr (.t 11) (.k (.int .i64 1048576)))])
  (.keep [0, 12] (.cond (.t 12)
  (.seq (.ops [.op (some 2) (.mov (.k (.bool true)))])
   (.keep [2] (.ret)))
  (.skip))))
 (.keep [0] (.seq (.ops [.op (some 13) (.mov (.t 0)),
   .call (some 14) 17 [.t 13],
   .op (some 3) (.alloc [.int .i64 0, .int .i64 0, .int .i64 0, .int .i64 0, .int .i64 0, .str [], .int .i64 0, .int .i64 0, .str [], .int .i64 0, .nils 7, .nils 7, .int .i64 0, .bool false]),
   .op none (.store 14 (.t 3) (.t 14))])
 (.keep [3] (.seq (.ops [.op (some 16) (.loadN 14 (.t 3)),
   .call (some 17) 18 [.t 16],
   .op (some 15) (.mov (.t 17)),
   .op (some 18) (.ext (.t 15) 0),
   .op (some 19) (.ext (.t 15) 1),
   .op (some 4) (.mov (.t 18)),
   .op (some 5) (.mov (.t 19))])
 (.keep [3, 4, 5] (.seq (.ops [.op (some 21) (.loadN 14 (.t 3)),
   .call (some 22) 19 [.t 21],
   .op (some 20) (.mov (.t 22)),
   .op (some 23) (.ext (.t 20) 0),
   .op (some 24) (.ext (.t 20) 1),
   .op (some 6) (.mov (.t 23)),
   .op (some 7) (.mov (.t 24))])
 (.keep [3, 4, 5, 6] (.seq (.ops [.op (some 26) (.mov (.t 4)),
   .call (some 27) 20 [.t 26],
   .op (some 25) (.mov (.t 27)),
   .op (some 28) (.ext (.t 25) 0),
   .op (some 29) (.ext (.t 25) 1),
   .op (some 8) (.alloc [.int .i64 0, .int .i64 0, .int .i64 0, .int .i64 0, .int .i64 0, .str [], .int .i64 0, .int .i64 0, .str [], .int .i64 0, .nils 7, .nils 7, .int .i64 0, .bool false]),
   .op none (.store 14 (.t 8) (.t 28)),
   .op (some 9) (.mov (.t 29))])
 (.keep [3, 4, 5, 6, 8, 9] (.seq (.ops [.op (some 30) (.mov (.t 5)),
   .op (some 31) (.bin .eql (.t 30) (.k (.int .i64 0))),
   .op (some 32) (.mov (.t 31)),
   .andor 36 true 2 32 [.op (some 33) (.mov (.t 4)), .op (some 34) (.mov (.t 6)), .op (some 35) (.bin .eql (.t 33) (.t 34))] (.t 35),
   .op (some 37) (.mov (.t 36)),
   .andor 40 true 7 37 [.op (some 38) (.mov (.t 9)), .op (some 39) (.bin .eql (.t 38) (.k (.int .i64 0)))] (.t 39),
   .op (some 41) (.mov (.t 40)),
   .andor 45 true 11 41 [.op (some 42) (.loadN 14 (.t 8)), .op (some 43) (.loadN 14 (.t 3)), .call (some 44) 21 [.t 42, .t 43]] (.t 44),
   .op (some 46) (.mov (.t 45)),
   .andor 49 true 16 46 [.op (some 47) (.loadN 14 (.t 3)), .call (some 48) 22 [.t 47]] (.t 48),
   .op (some 2) (.mov (.t 49))])
 (.keep [2] (.ret))))))))))))))
theorem k_c_FnSqlText_fits : fitsF Tryz.prog 5 ⟨50, k_c_FnSqlText, [.t 2]⟩ = true := by kernel_rfl
set_option maxHeartbeats 8000000 in
theorem c_FnSqlText {code : Str} (w0 : wfL (fun _ => True) code) : Con Tryz.prog noMv 5 [.d (.sl 1 (code.map byteRow))] [] (fun r h => r = bool true ∧ h = []) := by
 refine con_of2 k_c_FnSqlText_fits rfl fun C hP hmv => ?_
 unfold k_c_FnSqlText
 refine cx_seq ?_
 refine cx_ops ?_
 refine ax_q (q_mov rfl) ?_
 refine ax_nil ?_
 refine cx_keep rfl rfl ?_
 refine cx_seq ?_
 refine cx_seq ?_
 refine cx_ops ?_
 refine ax_q (q_mov rfl) ?_
 first | refine ax_q (q_lenS_map rfl) ?_ | refine ax_q (q_lenS_osl rfl) ?_ | refine ax_q (q_lenS_zs rfl) ?_ | refine ax_q (q_lenS rfl) ?_
 refine ax_q (q_ibin rfl rfl rfl) ?_
 refine ax_nil ?_
 refine cx_keep rfl rfl ?_
 refine cx_cond rfl (fun h0 => ?_) (fun h0 => ?_)
 ·
  have h0 := dT h0
  refine cx_seq ?_
  refine cx_ops ?_
  refine ax_q (q_mov rfl) ?_
  refine ax_nil ?_
  refine cx_keep rfl rfl ?_
  refine cx_ret (ret0 rfl rfl ?_)
  exact ⟨rfl, rfl⟩
 ·
  have h0 := dF h0
  have hcl : code.length ≤ 1048576 := by omega
  have hok := stmtOf_ok hcl
  have hsq := sq_ok hok
  obtain ⟨hz0, hz1, hz2, hz3, hz4, hz5⟩ := stmt_ok_sz hok
  refine cx_skip ?_
  refine cx_keep rfl rfl ?_
  refine cx_seq ?_
  refine cx_ops ?_
  refine ax_q (q_mov rfl) ?_
  first | refine ax_call rfl (vc_pure0 (c_StmtOf (code := code) ?_) hP rfl rfl ?_) | refine ax_call rfl (vc_lend0 (c_StmtOf (code := code) ?_) hP (by repeat (first | exact lal_id _ rfl | exact LAL.nil | refine LAL.cons ?_ ?_ | exact la_id _ rfl | exact LA.lend (lend_whole rfl (by first | (simp; done) | (rw [List.length_map]; rfl))) | refine LA.agg ?_ | refine LA.fn ?_ | refine LA.lend ?_ | exact Lend.d _ | exact Lend.zs _ | exact lend_whole rfl (by first | (simp; done) | (rw [List.length_map]; rfl)) | refine Lend.ptr rfl ?_ | refine Lend.fn ?_ | exact LendL.nil | refine LendL.cons ?_ ?_)) rfl rfl ?_)
  ·
   first | assumption | omega | (simp; done) | (simp; omega)
  refine ax_e (e_alloc (by decide) rfl rfl) ?_
  refine ax_e (e_st rfl rfl rfl rfl rfl rfl rfl) ?_
  refine ax_nil ?_
  refine cx_keep rfl rfl ?_
  refine cx_seq ?_
  refine cx_ops ?_
  refine ax_q (q_ldN rfl rfl rfl) ?_
  first | refine ax_call rfl (vc_pure0 (c_StmtText (s := stmtOf code) ?_ ?_ ?_ ?_ ?_ ?_) hP rfl rfl ?_) | refine ax_call rfl (vc_lend0 (c_StmtText (s := stmtOf code) ?_ ?_ ?_ ?_ ?_ ?_) hP (by repeat (first | exact lal_id _ rfl | exact LAL.nil | refine LAL.cons ?_ ?_ | exact la_id _ rfl | exact LA.lend (lend_whole rfl (by first | (simp; done) | (rw [List.length_map]; rfl))) | refine LA.agg ?_ | refine LA.fn ?_ | refine LA.lend ?_ | exact Lend.d _ | exact Lend.zs _ | exact lend_whole rfl (by first | (simp; done) | (rw [List.length_map]; rfl)) | refine Lend.ptr rfl ?_ | refine Lend.fn ?_ | exact LendL.nil | refine LendL.cons ?_ ?_)) rfl rfl ?_)
  ·
   first | assumption | omega | (simp; done) | (simp; omega)
  ·
   first | assumption | omega | (simp; done) | (simp; omega)
  ·
   first | assumption | omega | (simp; done) | (simp; omega)
  ·
   first | assumption | omega | (simp; done) | (simp; omega)
  ·
   first | assumption | omega | (simp; done) | (simp; omega)
  ·
   first | assumption | omega | (simp; done) | (simp; omega)
  rw [stT_t hok]
  refine ax_q (q_mov rfl) ?_
  refine ax_q (q_ext rfl rfl) ?_
  refine ax_q (q_ext rfl rfl) ?_
  refine ax_q (q_mov rfl) ?_
  refine ax_q (q_mov rfl) ?_
  refine ax_nil ?_
  refine cx_keep rfl rfl ?_
  refine cx_seq ?_
  refine cx_ops ?_
  refine ax_q (q_ldN rfl rfl rfl) ?_
  first | refine ax_call rfl (vc_pure0 (c_sStmtText (s := stmtOf code) ?_ ?_ ?_ ?_ ?_ ?_) hP rfl rfl ?_) | refine ax_call rfl (vc_lend0 (c_sStmtText (s := stmtOf code) ?_ ?_ ?_ ?_ ?_ ?_) hP (by repeat (first | exact lal_id _ rfl | exact LAL.nil | refine LAL.cons ?_ ?_ | exact la_id _ rfl | exact LA.lend (lend_whole rfl (by first | (simp; done) | (rw [List.length_map]; rfl))) | refine LA.agg ?_ | refine LA.fn ?_ | refine LA.lend ?_ | exact Lend.d _ | exact Lend.zs _ | exact lend_whole rfl (by first | (simp; done) | (rw [List.length_map]; rfl)) | refine Lend.ptr rfl ?_ | refine Lend.fn ?_ | exact LendL.nil | refine LendL.cons ?_ ?_)) rfl rfl ?_)
  ·
   first | assumption | omega | (simp; done) | (simp; omega)
  ·
   first | assumption | omega | (simp; done) | (simp; omega)
  ·
   first | assumption | omega | (simp; done) | (simp; omega)
  ·
   first | assumption | omega | (simp; done) | (simp; omega)
  ·
   first | assumption | omega | (simp; done) | (simp; omega)
  ·
   first | assumption | omega | (simp; done) | (simp; omega)
  rw [stT_t hok]
  refine ax_q (q_mov rfl) ?_
  refine ax_q (q_ext rfl rfl) ?_
  refine ax_q (q_ext rfl rfl) ?_
  refine ax_q (q_mov rfl) ?_
  refine ax_q (q_mov rfl) ?_
  refine ax_nil ?_
  refine cx_keep rfl rfl ?_
  refine cx_seq ?_
  refine cx_ops ?_
  refine ax_q (q_mov rfl) ?_
  first | refine ax_call rfl (vc_pure0 (c_ParseSql (t := stT (stmtOf code)) (x := stmtOf code) ?_) hP rfl rfl ?_) | refine ax_call rfl (vc_lend0 (c_ParseSql (t := stT (stmtOf code)) (x := stmtOf code) ?_) hP (by repeat (first | exact lal_id _ rfl | exact LAL.nil | refine LAL.cons ?_ ?_ | exact la_id _ rfl | exact LA.lend (lend_whole rfl (by first | (simp; done) | (rw [List.length_map]; rfl))) | refine LA.agg ?_ | refine LA.fn ?_ | refine LA.lend ?_ | exact Lend.d _ | exact Lend.zs _ | exact lend_whole rfl (by first | (simp; done) | (rw [List.length_map]; rfl)) | refine Lend.ptr rfl ?_ | refine Lend.fn ?_ | exact LendL.nil | refine LendL.cons ?_ ?_)) rfl rfl ?_)
  ·
   first | assumption | omega | (simp; done) | (simp; omega)
  refine ax_q (q_mov rfl) ?_
  refine ax_q (q_ext rfl rfl) ?_
  refine ax_q (q_ext rfl rfl) ?_
  refine ax_e (e_alloc (by decide) rfl rfl) ?_
  refine ax_e (e_st rfl rfl rfl rfl rfl rfl rfl) ?_
  refine ax_q (q_mov rfl) ?_
  refine ax_nil ?_
  refine cx_keep rfl rfl ?_
  refine cx_seq ?_
  refine cx_ops ?_
  refine ax_q (q_mov rfl) ?_
  refine ax_q (q_ibin rfl rfl rfl) ?_
  refine ax_q (q_mov rfl) ?_
  apply ax_and rfl rfl
  ·
   intro g
   have g := dT g
   refine ax_q (q_mov rfl) ?_
   refine ax_q (q_mov rfl) ?_
   refine ax_q (q_sbin rfl rfl rfl) ?_
   exact ax_nil ⟨rfl, by repeat (first | exact trivial | refine ⟨rfl, ?_⟩ | refine ⟨?_, ?_⟩)⟩
  refine ax_q (q_mov rfl) ?_
  apply ax_and rfl rfl
  ·
   intro g
   have g := (fun h => And.intro (dT (and_T h).1) (dT (and_T h).2)) g
   refine ax_q (q_mov rfl) ?_
   refine ax_q (q_ibin rfl rfl rfl) ?_
   exact ax_nil ⟨rfl, by repeat (first | exact trivial | refine ⟨rfl, ?_⟩ | refine ⟨?_, ?_⟩)⟩
  refine ax_q (q_mov rfl) ?_
  apply ax_and rfl rfl
  ·
   intro g
   have g := (fun h => And.intro ((fun h => And.intro (dT (and_T h).1) (dT (and_T h).2)) (and_T h).1) (dT (and_T h).2)) g
   refine ax_q (q_ldN rfl rfl rfl) ?_
   refine ax_q (q_ldN rfl rfl rfl) ?_
   first | refine ax_call rfl (vc_pure0 (c_sameStmt (s := stmtOf code) ?_ ?_) hP rfl rfl ?_) | refine ax_call rfl (vc_lend0 (c_sameStmt (s := stmtOf code) ?_ ?_) hP (by repeat (first | exact lal_id _ rfl | exact LAL.nil | refine LAL.cons ?_ ?_ | exact la_id _ rfl | exact LA.lend (lend_whole rfl (by first | (simp; done) | (rw [List.length_map]; rfl))) | refine LA.agg ?_ | refine LA.fn ?_ | refine LA.lend ?_ | exact Lend.d _ | exact Lend.zs _ | exact lend_whole rfl (by first | (simp; done) | (rw [List.length_map]; rfl)) | refine Lend.ptr rfl ?_ | refine Lend.fn ?_ | exact LendL.nil | refine LendL.cons ?_ ?_)) rfl rfl ?_)
   ·
    first | assumption | omega | (simp; done) | (simp; omega)
   ·
    first | assumption | omega | (simp; done) | (simp; omega)
   exact ax_nil ⟨rfl, by repeat (first | exact trivial | refine ⟨rfl, ?_⟩ | refine ⟨?_, ?_⟩)⟩
  refine ax_q (q_mov rfl) ?_
  apply ax_and rfl rfl
  ·
   intro g
   have g := (fun h => And.intro ((fun h => And.intro ((fun h => And.intro (dT (and_T h).1) (dT (and_T h).2)) (and_T h).1) (dT (and_T h).2)) (and_T h).1) (id (and_T h).2)) g
   refine ax_q (q_ldN rfl rfl rfl) ?_
   first | refine ax_call rfl (vc_pure0 (c_StmtOK (s := stmtOf code) ?_ ?_ ?_ ?_ ?_ ?_) hP rfl rfl ?_) | refine ax_call rfl (vc_lend0 (c_StmtOK (s := stmtOf code) ?_ ?_ ?_ ?_ ?_ ?_) hP (by repeat (first | exact lal_id _ rfl | exact LAL.nil | refine LAL.cons ?_ ?_ | exact la_id _ rfl | exact LA.lend (lend_whole rfl (by first | (simp; done) | (rw [List.length_map]; rfl))) | refine LA.agg ?_ | refine LA.fn ?_ | refine LA.lend ?_ | exact Lend.d _ | exact Lend.zs _ | exact lend_whole rfl (by first | (simp; done) | (rw [List.length_map]; rfl)) | refine Lend.ptr rfl ?_ | refine Lend.fn ?_ | exact LendL.nil | refine LendL.cons ?_ ?_)) rfl rfl ?_)
   ·
    first | assumption | omega | (simp; done) | (simp; omega)
   ·
    first | assumption | omega | (simp; done) | (simp; omega)
   ·
    first | assumption | omega | (simp; done) | (simp; omega)
   ·
    first | assumption | omega | (simp; done) | (simp; omega)
   ·
    first | assumption | omega | (simp; done) | (simp; omega)
   ·
    first | assumption | omega | (simp; done) | (simp; omega)
   exact ax_nil ⟨rfl, by repeat (first | exact trivial | refine ⟨rfl, ?_⟩ | refine ⟨?_, ?_⟩)⟩
  refine ax_q (q_mov rfl) ?_
  refine ax_nil ?_
  refine cx_keep rfl rfl ?_
  refine cx_ret (ret0 rfl rfl ?_)
  exact ⟨by rw [hok]; simp [mkRes, AM.bool], rfl⟩

theorem own : ownKnob Tryz.prog.godebug = none := by kernel_rfl
theorem laid : laidOutB Tryz.prog = true := by kernel_rfl
theorem closedTs : closedT Tryz.prog [5, 22] = true := by kernel_rfl
theorem con (rows : List (List D)) (h : HasAll Tryz.prog Tryz.f5.params.toList rows) : Con Tryz.prog noMv 5 (argsAV Tryz.prog Tryz.f5.params.toList rows) [] (fun r h => r = AM.bool true ∧ h = []) := by
  rw [Tryz.params5] at h ⊢
  obtain ⟨d0, r0, rfl, h0, h⟩ := h
  obtain rfl := h
  obtain ⟨a0, rfl, w0⟩ := (dec_slice (sz := 1) Tryz.underlying22 (by kernel_rfl) (dec_byte Tryz.underlying5)) h0
  have e : argsAV Tryz.prog [22] [[.sl 1 (a0.map byteRow)]] = [.d (.sl 1 (a0.map byteRow))] := by
    first | (simp only [argsAV, argAV, Tryz.underlying22]; done) | (simp only [argsAV, argAV, Tryz.underlying22]; rfl)
  show Con Tryz.prog noMv 5 (argsAV Tryz.prog [22] [[.sl 1 (a0.map byteRow)]]) [] _
  rw [e]
  exact c_FnSqlText w0
/-- The settled world, what is listed holding what its initialiser lays: the witness. -/
noncomputable def laidWorld (os : Os) : World := World.laidAll Tryz.prog os Rows.fnSqlTextRow.laid
set_option maxRecDepth 100000 in
theorem laid_met (os : Os) (args : Array Value) : laidMetH Tryz.prog Rows.fnSqlTextRow.laid ((laidWorld os).forCall (fun _ _ => 0) ⟨#[], args, []⟩).memory :=
  show laidMet Tryz.prog Rows.fnSqlTextRow.laid _ from laidMet_laidAll _ (by kernel_rfl) (by kernel_rfl)
set_option maxRecDepth 100000 in
theorem gok {W : World} (h : laidMetH Tryz.prog Rows.fnSqlTextRow.laid W) : GOK Tryz.prog (fun _ => False) noN W :=
  have h' : laidMet Tryz.prog Rows.fnSqlTextRow.laid W := h
  gok_three (tab_pow (l := Rows.fnSqlTextRow.laid) (g := 3) (t := 140) (e := 130) (by first | exact List.mem_of_getElem? (i := 2) rfl | simp [Rows.fnSqlTextRow]) (by kernel_rfl) (by kernel_rfl) Tryz.underlying140 Tryz.underlying130 (by kernel_rfl) (by kernel_rfl) h') (tab_strs (l := Rows.fnSqlTextRow.laid) (g := 0) (t := 106) (e := 9) (zs := [[105, 100], [110], [110, 97, 109, 101]]) (by first | exact List.mem_of_getElem? (i := 5) rfl | simp [Rows.fnSqlTextRow]) (by kernel_rfl) (by kernel_rfl) Tryz.underlying106 Tryz.underlying9 (by kernel_rfl) (by kernel_rfl) h') (tab_strs (l := Rows.fnSqlTextRow.laid) (g := 1) (t := 109) (e := 9) (zs := [[43], [45], [42], [47], [61], [60], [97, 110, 100], [111, 114]]) (by first | exact List.mem_of_getElem? (i := 6) rfl | simp [Rows.fnSqlTextRow]) (by kernel_rfl) (by kernel_rfl) Tryz.underlying109 Tryz.underlying9 (by kernel_rfl) (by kernel_rfl) h') (tab_iface (l := Rows.fnSqlTextRow.laid) (g := 4) (t := 123) (List.mem_of_getElem? (i := 4) rfl) (by kernel_rfl) (by kernel_rfl) Tryz.underlying123 h')
set_option maxRecDepth 100000 in
theorem lifted (os : Os) (started : os.Started) (H : Type) (enc : TypeId × Value → H) :
    ReturnsInHanded {} Tryz.checked os 5 .any (fun w args => (Rows.fnSqlTextSpec.pre enc Tryz.prog Tryz.f5 Rows.fnSqlTextRow.domain false w args ∧ laidMetH Tryz.prog Rows.fnSqlTextRow.laid w) ∧ sizedMet enc Tryz.prog Tryz.f5 (OpenSpec.ofChange Rows.fnSqlTextSpec) false w args) (Rows.fnSqlTextSpec.post enc Tryz.prog Tryz.f5 false true false false) := by
  refine returnsInHanded_of_change_and (C := Tryz.checked) (X := fun w _ => laidMetH Tryz.prog Rows.fnSqlTextRow.laid w) (fun _ _ _ hh h => h.of_heap hh) own started (by kernel_rfl) Tryz.func5
    (ChangeSpec.witness_at (enc := enc) (C := Tryz.checked) (os := os) (X := fun w _ => laidMetH Tryz.prog Rows.fnSqlTextRow.laid w) false (laidWorld os) #[.slice none 0 0] 8 (World.laidAll_os _ _ _) (by kernel_rfl) (by kernel_rfl) (by kernel_rfl) (by kernel_rfl) (by kernel_rfl) (laid_met os _)) ?_
  intro W base args ds gs before hval hW hcnd _ hL _
  refine law_contractV closedTs laid (by kernel_rfl) (by kernel_rfl) rfl Tryz.underlying4 con (fun hl hg => ?_) hval hW (gok hL)
  match ds, gs, hl, hg with
  | [x0], [y0, y1], _, _ => rfl
theorem over : Rows.fnSqlTextRow.holds Tryz.pinned (OpenSpec.ofChange Rows.fnSqlTextSpec) :=
  OpenClaim.holds_of_wide 5 Tryz.f5 rfl rfl rfl rfl rfl rfl rfl ⟨rfl, rfl, rfl, rfl, rfl⟩ rfl rfl rfl rfl rfl (by kernel_rfl) Tryz.func5 (by kernel_rfl)
    (of_decide_eq_true (by kernel_rfl)) (by unfold Func.isWrapper; first | (rw [if_pos (by decide +kernel)]; kernel_rfl) | (rw [if_neg (by decide +kernel)]; exact ⟨rfl, rfl⟩))
    (fun os started H enc _ => lifted os started H enc)
theorem proved : Rows.FnSqlTextCardSaid :=
  Claim7.holds_tied_plain_at .later [] [.data, .data, .data, .sentinel, .sentinel, .widerDeep, .data] true (true, "33a9c400c407d053510ffcfdd792fc464fdc9e8eadb439c768c451c8cc76d6ba") true
    over (fun _ h => by cases h) (by kernel_rfl) (fun _ h => by cases h) fnSqlText_row_tie rfl ⟨rfl, rfl⟩ (by kernel_rfl) rfl
    (fun f fn hf hfn => by
      obtain rfl : f = 5 := (Option.some.inj ((show Tryz.prog.funcNamed "loop.example/g00332/laws.FnSqlText" = some 5 by kernel_rfl).symm.trans hf)).symm
      obtain rfl : fn = Tryz.f5 := (Option.some.inj (Tryz.func5.symm.trans hfn)).symm
      refine ⟨by kernel_rfl, fun j t ht => ?_⟩
      rw [Tryz.params5] at ht
      rcases j with _ | j
      · obtain rfl : t = 22 := by simpa using ht.symm
        exact (show Tryz.prog.wantsStandIn 22 = false by kernel_rfl)
      · simp at ht)
    (by kernel_rfl)
end fnSqlText
end Go.Proofs.YthdafcdhnjapnaaGreatDoor
#print axioms Go.Proofs.YthdafcdhnjapnaaGreatDoor.fnSqlText.proved
