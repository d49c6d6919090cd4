/- The walks: what each function computes, as a contract without a world (part 1). -/
import Derived.Test.YtalnddcijlkklaaProg
import Derived.Test.YtalnddcijlkklaaW0
namespace Go.Proofs.Ytalnddcijlkklaa
open Go Go.AM
set_option maxRecDepth 10000
set_option linter.unusedVariables false
/- loop.example/g00332/impl.compile -/
def k_c_compile : XCode :=
  .seq (.ops [.op (some 4) (.box (.t 1)),
     .op (some 6) (.mov (.k (.nils 5)))])
  (.keep [0, 2, 4] (.seq (.ops [.op (some 9) (.fadr (.t 4) 0),
     .op (some 10) (.load1 (.t 9)),
     .op (some 11) (.mov (.t 2)),
     .op (some 12) (.iadr 7 (.t 10) (.t 11)),
     .op (some 13) (.loadN 7 (.t 12)),
     .op (some 7) (.alloc [.int .i64 0, .int .i64 0, .int .i64 0, .int .i64 0, .int .i64 0, .int .i64 0, .str []]),
     .op none (.store 7 (.t 7) (.t 13))])
  (.keep [0, 4, 7] (.seq (.seq (.ops [.op (some 14) (.fadr (.t 7) 0),
      .op (some 15) (.load1 (.t 14))])
   (.keep [0, 4, 7, 15] (.block 0 (.seq (.ops [.op (some 17) (.bin .eql (.t 15) (.k (.int .i64 1))),
       .op (some 16) (.mov (.t 17))])
    (.keep [0, 4, 7, 15, 16] (.cond (.t 16)
     (.seq (.ops [.op (some 18) (.mov (.t 0)),
         .op (some 19) (.fadr (.t 7) 4),
         .op (some 20) (.loadN 3 (.t 19)),
         .op (some 21) (.build [.int .i64 0, .int .i64 0, .int .i64 0, .int .i64 0, .str []] [(0, 1, .k (.int .i64 1)), (2, 3, .t 20)]),
         .op (some 22) (.bslice 5 [.t 21]),
         .op (some 23) (.app 5 48 [.int .i64 0, .int .i64 0, .int .i64 0, .int .i64 0, .str []] (.t 18) (.t 22)),
         .op (some 6) (.mov (.t 23))])
      (.keep [6] (.ret)))
     (.seq (.ops [.op (some 25) (.bin .eql (.t 15) (.k (.int .i64 2))),
         .op (some 24) (.mov (.t 25))])
      (.keep [0, 4, 7, 24] (.cond (.t 24)
       (.seq (.ops [.op (some 26) (.mov (.t 0)),
           .op (some 27) (.fadr (.t 7) 3),
           .op (some 28) (.load1 (.t 27)),
           .op (some 29) (.build [.int .i64 0, .int .i64 0, .int .i64 0, .int .i64 0, .str []] [(0, 1, .k (.int .i64 2)), (1, 1, .t 28)]),
           .op (some 30) (.bslice 5 [.t 29]),
           .op (some 31) (.app 5 48 [.int .i64 0, .int .i64 0, .int .i64 0, .int .i64 0, .str []] (.t 26) (.t 30)),
           .op (some 6) (.mov (.t 31))])
        (.keep [6] (.ret)))
       (.skip))))))))))
  (.keep [0, 4, 7] (.seq (.ops [.op (some 32) (.mov (.t 0)),
     .op (some 33) (.loadN 1 (.t 4)),
     .op (some 34) (.fadr (.t 7) 1),
     .op (some 35) (.load1 (.t 34)),
     .call (some 36) 59 [.t 32, .t 33, .t 35],
     .op (some 0) (.mov (.t 36))])
  (.keep [0, 4, 7] (.seq (.seq (.ops [.op (some 37) (.fadr (.t 7) 0),
      .op (some 38) (.load1 (.t 37)),
      .call (some 39) 82 [.t 38]])
   (.keep [0, 4, 7, 39] (.cond (.t 39)
    (.seq (.ops [.op (some 40) (.mov (.t 0)),
        .op (some 41) (.fadr (.t 7) 0),
        .op (some 42) (.load1 (.t 41)),
        .op (some 43) (.build [.int .i64 0, .int .i64 0, .int .i64 0, .int .i64 0, .str []] [(0, 1, .k (.int .i64 3)), (1, 1, .t 42)]),
        .op (some 44) (.bslice 5 [.t 43]),
        .op (some 45) (.app 5 48 [.int .i64 0, .int .i64 0, .int .i64 0, .int .i64 0, .str []] (.t 40) (.t 44)),
        .op (some 6) (.mov (.t 45))])
     (.keep [6] (.ret)))
    (.skip))))
  (.keep [0, 4, 7] (.seq (.ops [.op (some 46) (.mov (.t 0)),
     .op (some 47) (.lenS (.t 46)),
     .op (some 8) (.mov (.t 47))])
  (.keep [0, 4, 7, 8] (.seq (.seq (.ops [.op (some 48) (.fadr (.t 7) 0),
      .op (some 49) (.load1 (.t 48))])
   (.keep [0, 4, 7, 8, 49] (.block 1 (.seq (.ops [.op (some 51) (.bin .eql (.t 49) (.k (.int .i64 12))),
       .op (some 50) (.mov (.t 51))])
    (.keep [0, 4, 7, 8, 49, 50] (.cond (.t 50)
     (.ops [.op (some 52) (.mov (.t 0)),
        .op (some 53) (.build [.int .i64 0, .int .i64 0, .int .i64 0, .int .i64 0, .str []] [(0, 1, .k (.int .i64 5))]),
        .op (some 54) (.bslice 5 [.t 53]),
        .op (some 55) (.app 5 48 [.int .i64 0, .int .i64 0, .int .i64 0, .int .i64 0, .str []] (.t 52) (.t 54)),
        .op (some 0) (.mov (.t 55))])
     (.seq (.ops [.op (some 57) (.bin .eql (.t 49) (.k (.int .i64 13))),
         .op (some 56) (.mov (.t 57))])
      (.keep [0, 4, 7, 8, 56] (.cond (.t 56)
       (.ops [.op (some 58) (.mov (.t 0)),
          .op (some 59) (.build [.int .i64 0, .int .i64 0, .int .i64 0, .int .i64 0, .str []] [(0, 1, .k (.int .i64 6))]),
          .op (some 60) (.bslice 5 [.t 59]),
          .op (some 61) (.app 5 48 [.int .i64 0, .int .i64 0, .int .i64 0, .int .i64 0, .str []] (.t 58) (.t 60)),
          .op (some 0) (.mov (.t 61))])
       (.skip))))))))))
  (.keep [0, 4, 7, 8] (.seq (.drawE [[], [], [], [2], [0, 1, 2, 3], [], [5], [5, 6], [5, 6, 7], [0, 1, 2, 3, 4, 5, 6, 7, 8], [0, 1, 2, 3, 4, 5, 6, 7, 8, 9]] [.op (some 62) (.mov (.t 0)),
     .op (some 63) (.loadN 1 (.t 4)),
     .op (some 64) (.fadr (.t 7) 2),
     .op (some 65) (.load1 (.t 64)),
     .call (some 66) 59 [.t 62, .t 63, .t 65],
     .op (some 67) (.fadr (.t 7) 0),
     .op (some 68) (.load1 (.t 67)),
     .op (some 69) (.build [.int .i64 0, .int .i64 0, .int .i64 0, .int .i64 0, .str []] [(0, 1, .k (.int .i64 4)), (1, 1, .t 68)]),
     .op (some 70) (.bslice 5 [.t 69])]
    [.op (some 71) (.app 5 48 [.int .i64 0, .int .i64 0, .int .i64 0, .int .i64 0, .str []] (.t 66) (.t 70)),
     .op (some 0) (.mov (.t 71))])
  (.keep [0, 7, 8] (.seq (.seq (.ops [.op (some 72) (.fadr (.t 7) 0),
      .op (some 73) (.load1 (.t 72)),
      .op (some 74) (.bin .eql (.t 73) (.k (.int .i64 12))),
      .op (some 75) (.mov (.t 74)),
      .andor 79 false 3 75 [.op (some 76) (.fadr (.t 7) 0), .op (some 77) (.load1 (.t 76)), .op (some 78) (.bin .eql (.t 77) (.k (.int .i64 13)))] (.t 78)])
   (.keep [0, 8, 79] (.cond (.t 79)
    (.ops [.op (some 80) (.mov (.t 0)),
       .op (some 81) (.mov (.t 8)),
       .op (some 82) (.mov (.t 0)),
       .op (some 83) (.lenS (.t 82)),
       .op (some 84) (.iadr 5 (.t 80) (.t 81)),
       .op (some 85) (.fadr (.t 84) 1),
       .op none (.store 1 (.t 85) (.t 83))])
    (.skip))))
  (.keep [0] (.seq (.ops [.op (some 86) (.mov (.t 0)),
     .op (some 6) (.mov (.t 86))])
  (.keep [6] (.ret))))))))))))))))))))
theorem k_c_compile_fits : fitsF Try.prog 59 ⟨87, k_c_compile, [.t 6]⟩ = true := by kernel_rfl
theorem c_compile {e : GExpr} {f : Nat} {i : Int} {out : List GIns} (hi : 0 ≤ i) (hf : i < f) (hl : i < e.Nodes.length) (ht : (T e.Nodes i).2.2 = true) (hb : (out.length : Int) + 2 * (i - (T e.Nodes i).1 + 1) ≤ 1000000) (hw : e.Nodes.length ≤ 1048576) : Con Try.prog (fun e => Nat.beq e 1000) 59 [.osl 1000 5 0 out.length, e.av, int i] [(1000, .rows 5 (out.map GIns.row))] (fun r h => r = .osl 1000 5 0 (putE e.Nodes f i out).length ∧ h = [(1000, .rows 5 ((putE e.Nodes f i out).map GIns.row))]) := by
  induction f generalizing i out with
  | zero => exact absurd hf (by omega)
  | succ f ih =>
    refine con_of2 k_c_compile_fits rfl fun C hP hmv => ?_
    unfold k_c_compile
    obtain ⟨j, rfl⟩ : ∃ j : Nat, i = (j : Int) := ⟨i.toNat, by omega⟩
    have hj : j < e.Nodes.length := by omega
    have hTb := @T_b e.Nodes j
    refine cx_seq ?_
    refine cx_ops ?_
    refine ax_e (e_box rfl rfl (by decide) rfl rfl rfl) ?_
    refine ax_q (q_mov rfl) ?_
    refine ax_nil ?_
    refine cx_keep rfl rfl ?_
    refine cx_seq ?_
    refine cx_ops ?_
    first | refine ax_q (q_fadr_ptr rfl) ?_ | refine ax_q (q_fadr_rptr rfl) ?_ | refine ax_q (q_fadr_ip rfl) ?_
    first | refine ax_q (q_load1_ptr rfl rfl rfl) ?_ | refine ax_q (q_load1_ip rfl) ?_ | refine ax_q (q_load1_rptr rfl rfl rfl rfl) ?_ | refine ax_q (q_load1_rptr rfl rfl (by assumption) rfl) ?_ | refine ax_q (q_load1_rptr rfl rfl (mapAt (by first | assumption | omega)) rfl) ?_
    refine ax_q (q_mov rfl) ?_
    refine ax_q (q_ix rfl rfl (mapAt hj)) ?_
    first | refine ax_q (q_ldN rfl rfl rfl) ?_ | refine ax_q (q_loadN_ip rfl (Nat.le_refl _)) ?_ | refine ax_q (q_loadN_ip rfl (by decide)) ?_ | refine ax_q (q_loadN_rptr rfl rfl (by assumption) (by decide)) ?_ | refine ax_q (q_loadN_rptr rfl rfl (mapAt (by first | assumption | omega)) (by decide)) ?_
    refine ax_e (e_alloc (by decide) rfl rfl) ?_
    refine ax_e (e_st rfl rfl rfl rfl rfl rfl rfl) ?_
    refine ax_nil ?_
    refine cx_keep rfl rfl ?_
    refine cx_seq ?_
    refine cx_seq ?_
    refine cx_ops ?_
    first | refine ax_q (q_fadr_ptr rfl) ?_ | refine ax_q (q_fadr_rptr rfl) ?_ | refine ax_q (q_fadr_ip rfl) ?_
    first | refine ax_q (q_load1_ptr rfl rfl rfl) ?_ | refine ax_q (q_load1_ip rfl) ?_ | refine ax_q (q_load1_rptr rfl rfl rfl rfl) ?_ | refine ax_q (q_load1_rptr rfl rfl (by assumption) rfl) ?_ | refine ax_q (q_load1_rptr rfl rfl (mapAt (by first | assumption | omega)) rfl) ?_
    refine ax_nil ?_
    refine cx_keep rfl rfl ?_
    refine cx_block ?_
    refine cx_seq ?_
    refine cx_ops ?_
    refine ax_q (q_ibin rfl rfl rfl) ?_
    refine ax_q (q_mov rfl) ?_
    refine ax_nil ?_
    refine cx_keep rfl rfl ?_
    refine cx_cond rfl (fun h0 => ?_) (fun h0 => ?_)
    · have h0 := dT h0
      refine cx_seq ?_
      refine cx_ops ?_
      refine ax_q (q_mov rfl) ?_
      first | refine ax_q (q_fadr_ptr rfl) ?_ | refine ax_q (q_fadr_rptr rfl) ?_ | refine ax_q (q_fadr_ip rfl) ?_
      first | refine ax_q (q_ldN rfl rfl rfl) ?_ | refine ax_q (q_loadN_ip rfl (Nat.le_refl _)) ?_ | refine ax_q (q_loadN_ip rfl (by decide)) ?_ | refine ax_q (q_loadN_rptr rfl rfl (by assumption) (by decide)) ?_ | refine ax_q (q_loadN_rptr rfl rfl (mapAt (by first | assumption | omega)) (by decide)) ?_
      refine ax_q (q_build rfl) ?_
      refine ax_e (e_bslice rfl (by decide) rfl rfl) ?_
      refine ax_e (e_appn (n' := (out ++ [(⟨1, 0, e.Nodes[j].V⟩ : GIns)]).length) (rs' := (out ++ [(⟨1, 0, e.Nodes[j].V⟩ : GIns)]).map GIns.row) rfl rfl (by simp) rfl (src_osl rfl (by simp)) (.inr (by rw [hmv]; rfl)) (hbnd (by omega) (by simp) (by decide)) (by simp) (app1 rfl)) ?_
      refine ax_q (q_mov rfl) ?_
      refine ax_nil ?_
      refine cx_keep rfl rfl ?_
      refine cx_ret (retN id [1000] rfl rfl rfl rfl rfl ?_)
      rw [putE_1 hj h0]; exact ⟨rfl, rfl⟩
    · have h0 := dF h0
      refine cx_seq ?_
      refine cx_ops ?_
      refine ax_q (q_ibin rfl rfl rfl) ?_
      refine ax_q (q_mov rfl) ?_
      refine ax_nil ?_
      refine cx_keep rfl rfl ?_
      refine cx_cond rfl (fun h1 => ?_) (fun h1 => ?_)
      · have h1 := dT h1
        refine cx_seq ?_
        refine cx_ops ?_
        refine ax_q (q_mov rfl) ?_
        first | refine ax_q (q_fadr_ptr rfl) ?_ | refine ax_q (q_fadr_rptr rfl) ?_ | refine ax_q (q_fadr_ip rfl) ?_
        first | refine ax_q (q_load1_ptr rfl rfl rfl) ?_ | refine ax_q (q_load1_ip rfl) ?_ | refine ax_q (q_load1_rptr rfl rfl rfl rfl) ?_ | refine ax_q (q_load1_rptr rfl rfl (by assumption) rfl) ?_ | refine ax_q (q_load1_rptr rfl rfl (mapAt (by first | assumption | omega)) rfl) ?_
        refine ax_q (q_build rfl) ?_
        refine ax_e (e_bslice rfl (by decide) rfl rfl) ?_
        refine ax_e (e_appn (n' := (out ++ [(⟨2, e.Nodes[j].Column, .zero⟩ : GIns)]).length) (rs' := (out ++ [(⟨2, e.Nodes[j].Column, .zero⟩ : GIns)]).map GIns.row) rfl rfl (by simp) rfl (src_osl rfl (by simp)) (.inr (by rw [hmv]; rfl)) (hbnd (by omega) (by simp) (by decide)) (by simp) (app1 rfl)) ?_
        refine ax_q (q_mov rfl) ?_
        refine ax_nil ?_
        refine cx_keep rfl rfl ?_
        refine cx_ret (retN id [1000] rfl rfl rfl rfl rfl ?_)
        rw [putE_2 hj h0 h1]; exact ⟨rfl, rfl⟩
      · have h1 := dF h1
        refine cx_skip ?_
        refine cx_keep rfl rfl ?_
        refine cx_seq ?_
        refine cx_ops ?_
        refine ax_q (q_mov rfl) ?_
        first | refine ax_q (q_ldN rfl rfl rfl) ?_ | refine ax_q (q_loadN_ip rfl (Nat.le_refl _)) ?_ | refine ax_q (q_loadN_ip rfl (by decide)) ?_ | refine ax_q (q_loadN_rptr rfl rfl (by assumption) (by decide)) ?_ | refine ax_q (q_loadN_rptr rfl rfl (mapAt (by first | assumption | omega)) (by decide)) ?_
        first | refine ax_q (q_fadr_ptr rfl) ?_ | refine ax_q (q_fadr_rptr rfl) ?_ | refine ax_q (q_fadr_ip rfl) ?_
        first | refine ax_q (q_load1_ptr rfl rfl rfl) ?_ | refine ax_q (q_load1_ip rfl) ?_ | refine ax_q (q_load1_rptr rfl rfl rfl rfl) ?_ | refine ax_q (q_load1_rptr rfl rfl (by assumption) rfl) ?_ | refine ax_q (q_load1_rptr rfl rfl (mapAt (by first | assumption | omega)) rfl) ?_
        obtain ⟨⟨hA0, hA1, hAt, hAs⟩, hB⟩ := T_kids hj ht h0 h1
        have la := putE_lenI (ns := e.Nodes) (f := f) (out := out) hA0 (by omega) (by omega) hAt
        have hTa := @T_b e.Nodes e.Nodes[j].A
        refine ax_call rfl (vcall_own (ih (i := e.Nodes[j].A) (out := out) (by omega) (by omega) (by omega) hAt (by omega)) hP hmv false (fun _ => 1000) [1000] ⟨rfl, rfl, rfl, rfl, ⟨rfl, trivial⟩, rfl, rfl, rfl⟩ (.pass rfl rfl (.pass rfl rfl (.pass rfl rfl .nil))) ?_)
        rintro r h ⟨rfl, rfl⟩
        refine ⟨fun _ => 1000, [], ⟨rfl, rfl, rfl, rfl, mem1 rfl, rfl, rfl, fun h => absurd h Bool.false_ne_true⟩, ?_⟩
        refine ax_q (q_mov rfl) ?_
        refine ax_nil ?_
        refine cx_keep rfl rfl ?_
        refine cx_seq ?_
        refine cx_seq ?_
        refine cx_ops ?_
        first | refine ax_q (q_fadr_ptr rfl) ?_ | refine ax_q (q_fadr_rptr rfl) ?_ | refine ax_q (q_fadr_ip rfl) ?_
        first | refine ax_q (q_load1_ptr rfl rfl rfl) ?_ | refine ax_q (q_load1_ip rfl) ?_ | refine ax_q (q_load1_rptr rfl rfl rfl rfl) ?_ | refine ax_q (q_load1_rptr rfl rfl (by assumption) rfl) ?_ | refine ax_q (q_load1_rptr rfl rfl (mapAt (by first | assumption | omega)) rfl) ?_
        first | refine ax_call rfl (vc_pure0 (c_isUnary  ) hP rfl rfl ?_) | refine ax_call rfl (vc_lend0 (c_isUnary  ) hP (by repeat (first | exact lal_id _ rfl | exact LAL.nil | refine LAL.cons ?_ ?_ | exact la_id _ rfl | exact LA.lend (lend_whole rfl (by first | (simp; done) | (rw [List.length_map]; rfl))) | refine LA.agg ?_ | refine LA.fn ?_ | refine LA.lend ?_ | exact Lend.d _ | exact Lend.zs _ | exact lend_whole rfl (by first | (simp; done) | (rw [List.length_map]; rfl)) | refine Lend.ptr rfl ?_ | refine Lend.fn ?_ | exact LendL.nil | refine LendL.cons ?_ ?_)) rfl rfl ?_)
        refine ax_nil ?_
        refine cx_keep rfl rfl ?_
        refine cx_cond rfl (fun h2 => ?_) (fun h2 => ?_)
        · skip
          have h2 : e.Nodes[j].Op ≤ 5 := (inR_iff.1 h2).2
          refine cx_seq ?_
          refine cx_ops ?_
          refine ax_q (q_mov rfl) ?_
          first | refine ax_q (q_fadr_ptr rfl) ?_ | refine ax_q (q_fadr_rptr rfl) ?_ | refine ax_q (q_fadr_ip rfl) ?_
          first | refine ax_q (q_load1_ptr rfl rfl rfl) ?_ | refine ax_q (q_load1_ip rfl) ?_ | refine ax_q (q_load1_rptr rfl rfl rfl rfl) ?_ | refine ax_q (q_load1_rptr rfl rfl (by assumption) rfl) ?_ | refine ax_q (q_load1_rptr rfl rfl (mapAt (by first | assumption | omega)) rfl) ?_
          refine ax_q (q_build rfl) ?_
          refine ax_e (e_bslice rfl (by decide) rfl rfl) ?_
          refine ax_e (e_appn (n' := ((putE e.Nodes f e.Nodes[j].A out) ++ [(⟨3, e.Nodes[j].Op, .zero⟩ : GIns)]).length) (rs' := ((putE e.Nodes f e.Nodes[j].A out) ++ [(⟨3, e.Nodes[j].Op, .zero⟩ : GIns)]).map GIns.row) rfl rfl (by simp) rfl (src_osl rfl (by simp)) (.inr (by rw [hmv]; rfl)) (hbnd (by omega) (by simp) (by decide)) (by simp) (app1 rfl)) ?_
          refine ax_q (q_mov rfl) ?_
          refine ax_nil ?_
          refine cx_keep rfl rfl ?_
          refine cx_ret (retN id [1000] rfl rfl rfl rfl rfl ?_)
          rw [putE_3 hj h0 h1 h2]; exact ⟨rfl, rfl⟩
        · skip
          have h2 : ¬ e.Nodes[j].Op ≤ 5 := fun hh => by have := ((T_un hj ht h0 h1).1 hh).1; rw [h2] at this; cases this
          obtain ⟨hB0, hB1, hBt, hBs, hBe⟩ := hB h2
          refine cx_skip ?_
          refine cx_keep rfl rfl ?_
          refine cx_seq ?_
          refine cx_ops ?_
          refine ax_q (q_mov rfl) ?_
          first | refine ax_q (q_lenS_map rfl) ?_ | refine ax_q (q_lenS_osl rfl) ?_ | refine ax_q (q_lenS_zs rfl) ?_ | refine ax_q (q_lenS rfl) ?_
          refine ax_q (q_mov rfl) ?_
          refine ax_nil ?_
          refine cx_keep rfl rfl ?_
          refine cx_seq ?_
          refine cx_seq ?_
          refine cx_ops ?_
          first | refine ax_q (q_fadr_ptr rfl) ?_ | refine ax_q (q_fadr_rptr rfl) ?_ | refine ax_q (q_fadr_ip rfl) ?_
          first | refine ax_q (q_load1_ptr rfl rfl rfl) ?_ | refine ax_q (q_load1_ip rfl) ?_ | refine ax_q (q_load1_rptr rfl rfl rfl rfl) ?_ | refine ax_q (q_load1_rptr rfl rfl (by assumption) rfl) ?_ | refine ax_q (q_load1_rptr rfl rfl (mapAt (by first | assumption | omega)) rfl) ?_
          refine ax_nil ?_
          refine cx_keep rfl rfl ?_
          refine cx_block ?_
          refine cx_seq ?_
          refine cx_ops ?_
          refine ax_q (q_ibin rfl rfl rfl) ?_
          refine ax_q (q_mov rfl) ?_
          refine ax_nil ?_
          refine cx_keep rfl rfl ?_
          refine cx_cond rfl (fun h3 => ?_) (fun h3 => ?_)
          · have h3 := dT h3
            have lb := putE_lenI (ns := e.Nodes) (f := f) (out := ((putE e.Nodes f e.Nodes[j].A out) ++ [(⟨5, 0, .zero⟩ : GIns)])) hB0 (by omega) (by omega) hBt
            rw [List.length_append, List.length_singleton] at lb
            refine cx_ops ?_
            refine ax_q (q_mov rfl) ?_
            refine ax_q (q_build rfl) ?_
            refine ax_e (e_bslice rfl (by decide) rfl rfl) ?_
            refine ax_e (e_appn (n' := ((putE e.Nodes f e.Nodes[j].A out) ++ [(⟨5, 0, .zero⟩ : GIns)]).length) (rs' := ((putE e.Nodes f e.Nodes[j].A out) ++ [(⟨5, 0, .zero⟩ : GIns)]).map GIns.row) rfl rfl (by simp) rfl (src_osl rfl (by simp)) (.inr (by rw [hmv]; rfl)) (hbnd (by omega) (by simp) (by decide)) (by simp) (app1 rfl)) ?_
            refine ax_q (q_mov rfl) ?_
            refine ax_nil ?_
            refine cx_keep rfl rfl ?_
            refine cx_seq ?_
            refine cx_drawL 4 66 (Nat.beq 1000) (nrA 1000) [] ([(1000, .rows 5 ((putE e.Nodes f e.Nodes[j].B ((putE e.Nodes f e.Nodes[j].A out) ++ [(⟨5, 0, .zero⟩ : GIns)])).map GIns.row))]) [[0], [4], [7], [64], [62, 63, 65], [7], [67], [68], [69]] [[], [], [], [], [1000], [1000], [1000], [1000], [1000]] rfl ?_
            first | refine ⟨_, .inr ⟨rfl, _, rfl, .inl rfl, loc_q (q_mov rfl)⟩, ?_⟩
            first | refine ⟨_, .inr ⟨rfl, _, rfl, .inl rfl, loc_q (q_ldN rfl rfl rfl)⟩, ?_⟩ | refine ⟨_, .inr ⟨rfl, _, rfl, .inl rfl, loc_q (q_loadN_ip rfl (Nat.le_refl _))⟩, ?_⟩ | refine ⟨_, .inr ⟨rfl, _, rfl, .inl rfl, loc_q (q_loadN_ip rfl (by decide))⟩, ?_⟩ | refine ⟨_, .inr ⟨rfl, _, rfl, .inl rfl, loc_q (q_loadN_rptr rfl rfl (by assumption) (by decide))⟩, ?_⟩ | refine ⟨_, .inr ⟨rfl, _, rfl, .inl rfl, loc_q (q_loadN_rptr rfl rfl (mapAt (by first | assumption | omega)) (by decide))⟩, ?_⟩
            first | refine ⟨_, .inr ⟨rfl, _, rfl, .inl rfl, loc_q (q_fadr_ptr rfl)⟩, ?_⟩ | refine ⟨_, .inr ⟨rfl, _, rfl, .inl rfl, loc_q (q_fadr_rptr rfl)⟩, ?_⟩ | refine ⟨_, .inr ⟨rfl, _, rfl, .inl rfl, loc_q (q_fadr_ip rfl)⟩, ?_⟩
            first | refine ⟨_, .inr ⟨rfl, _, rfl, .inl rfl, loc_q (q_load1_ptr rfl rfl rfl)⟩, ?_⟩ | refine ⟨_, .inr ⟨rfl, _, rfl, .inl rfl, loc_q (q_load1_ip rfl)⟩, ?_⟩ | refine ⟨_, .inr ⟨rfl, _, rfl, .inl rfl, loc_q (q_load1_rptr rfl rfl rfl rfl)⟩, ?_⟩ | refine ⟨_, .inr ⟨rfl, _, rfl, .inl rfl, loc_q (q_load1_rptr rfl rfl (by assumption) rfl)⟩, ?_⟩ | refine ⟨_, .inr ⟨rfl, _, rfl, .inl rfl, loc_q (q_load1_rptr rfl rfl (mapAt (by first | assumption | omega)) rfl)⟩, ?_⟩
            refine ⟨⟨66, _, []⟩, .inl ⟨rfl, rfl, rfl, locl_callm (fun _ => 1000) [1000] (fun _ => 1000) [] rfl (ih (i := e.Nodes[j].B) (out := ((putE e.Nodes f e.Nodes[j].A out) ++ [(⟨5, 0, .zero⟩ : GIns)])) (by omega) (by omega) (by omega) hBt (by simp only [List.length_append, List.length_singleton]; omega)) hP hmv rfl rfl rfl rfl ⟨rfl, trivial⟩ rfl rfl rfl (.pass rfl rfl (.pass rfl rfl (.pass rfl rfl .nil))) rfl rfl rfl rfl (mem1 rfl) rfl⟩, ?_⟩
            first | refine ⟨_, .inr ⟨rfl, _, rfl, .inr ⟨rfl, rfl, .inr rfl, rfl, rfl⟩, loc_q (q_fadr_ptr rfl)⟩, ?_⟩ | refine ⟨_, .inr ⟨rfl, _, rfl, .inr ⟨rfl, rfl, .inr rfl, rfl, rfl⟩, loc_q (q_fadr_rptr rfl)⟩, ?_⟩ | refine ⟨_, .inr ⟨rfl, _, rfl, .inr ⟨rfl, rfl, .inr rfl, rfl, rfl⟩, loc_q (q_fadr_ip rfl)⟩, ?_⟩
            first | refine ⟨_, .inr ⟨rfl, _, rfl, .inr ⟨rfl, rfl, .inr rfl, rfl, rfl⟩, loc_q (q_load1_ptr rfl rfl rfl)⟩, ?_⟩ | refine ⟨_, .inr ⟨rfl, _, rfl, .inr ⟨rfl, rfl, .inr rfl, rfl, rfl⟩, loc_q (q_load1_ip rfl)⟩, ?_⟩ | refine ⟨_, .inr ⟨rfl, _, rfl, .inr ⟨rfl, rfl, .inr rfl, rfl, rfl⟩, loc_q (q_load1_rptr rfl rfl rfl rfl)⟩, ?_⟩ | refine ⟨_, .inr ⟨rfl, _, rfl, .inr ⟨rfl, rfl, .inr rfl, rfl, rfl⟩, loc_q (q_load1_rptr rfl rfl (by assumption) rfl)⟩, ?_⟩ | refine ⟨_, .inr ⟨rfl, _, rfl, .inr ⟨rfl, rfl, .inr rfl, rfl, rfl⟩, loc_q (q_load1_rptr rfl rfl (mapAt (by first | assumption | omega)) rfl)⟩, ?_⟩
            first | refine ⟨_, .inr ⟨rfl, _, rfl, .inr ⟨rfl, rfl, .inr rfl, rfl, rfl⟩, loc_q (q_build rfl)⟩, ?_⟩
            first | refine ⟨_, .inr ⟨rfl, _, rfl, .inr ⟨rfl, rfl, .inr rfl, rfl, rfl⟩, loc_bslice rfl⟩, ?_⟩
            refine ⟨rfl, ?_⟩
            refine ax_e (e_appn (n' := ((putE e.Nodes f e.Nodes[j].B ((putE e.Nodes f e.Nodes[j].A out) ++ [(⟨5, 0, .zero⟩ : GIns)])) ++ [(⟨4, e.Nodes[j].Op, .zero⟩ : GIns)]).length) (rs' := ((putE e.Nodes f e.Nodes[j].B ((putE e.Nodes f e.Nodes[j].A out) ++ [(⟨5, 0, .zero⟩ : GIns)])) ++ [(⟨4, e.Nodes[j].Op, .zero⟩ : GIns)]).map GIns.row) rfl rfl (by simp) rfl (src_osl rfl (by simp)) (.inr (by rw [hmv]; rfl)) (hbnd (by omega) (by simp) (by decide)) (by simp) (app1 rfl)) ?_
            refine ax_q (q_mov rfl) ?_
            refine ax_nil ?_
            refine cx_keep rfl rfl ?_
            refine cx_seq ?_
            refine cx_seq ?_
            refine cx_ops ?_
            first | refine ax_q (q_fadr_ptr rfl) ?_ | refine ax_q (q_fadr_rptr rfl) ?_ | refine ax_q (q_fadr_ip rfl) ?_
            first | refine ax_q (q_load1_ptr rfl rfl rfl) ?_ | refine ax_q (q_load1_ip rfl) ?_ | refine ax_q (q_load1_rptr rfl rfl rfl rfl) ?_ | refine ax_q (q_load1_rptr rfl rfl (by assumption) rfl) ?_ | refine ax_q (q_load1_rptr rfl rfl (mapAt (by first | assumption | omega)) rfl) ?_
            refine ax_q (q_ibin rfl rfl rfl) ?_
            refine ax_q (q_mov rfl) ?_
            apply ax_or rfl rfl
            · intro g
              have g := dF g
              first | refine ax_q (q_fadr_ptr rfl) ?_ | refine ax_q (q_fadr_rptr rfl) ?_ | refine ax_q (q_fadr_ip rfl) ?_
              first | refine ax_q (q_load1_ptr rfl rfl rfl) ?_ | refine ax_q (q_load1_ip rfl) ?_ | refine ax_q (q_load1_rptr rfl rfl rfl rfl) ?_ | refine ax_q (q_load1_rptr rfl rfl (by assumption) rfl) ?_ | refine ax_q (q_load1_rptr rfl rfl (mapAt (by first | assumption | omega)) rfl) ?_
              refine ax_q (q_ibin rfl rfl rfl) ?_
              exact ax_nil ⟨rfl, by repeat (first | exact trivial | refine ⟨rfl, ?_⟩ | refine ⟨?_, ?_⟩)⟩
            refine ax_nil ?_
            refine cx_keep rfl rfl ?_
            refine cx_cond rfl (fun h5 => ?_) (fun h5 => ?_)
            · have h5 := (fun h => (or_T h).imp dT dT) h5
              refine cx_ops ?_
              refine ax_q (q_mov rfl) ?_
              refine ax_q (q_mov rfl) ?_
              refine ax_q (q_mov rfl) ?_
              first | refine ax_q (q_lenS_map rfl) ?_ | refine ax_q (q_lenS_osl rfl) ?_ | refine ax_q (q_lenS_zs rfl) ?_ | refine ax_q (q_lenS rfl) ?_
              refine ax_q (q_ixo rfl rfl (by have := @putE_ge e.Nodes f ((putE e.Nodes f e.Nodes[j].A out) ++ [(⟨5, 0, .zero⟩ : GIns)]) e.Nodes[j].B; simp only [List.length_append, List.length_singleton] at this ⊢; omega)) ?_
              first | refine ax_q (q_fadr_ptr rfl) ?_ | refine ax_q (q_fadr_rptr rfl) ?_ | refine ax_q (q_fadr_ip rfl) ?_
              refine ax_e (e_str (q := GIns.row ⟨5, ((putE e.Nodes f e.Nodes[j].B ((putE e.Nodes f e.Nodes[j].A out) ++ [(⟨5, 0, .zero⟩ : GIns)])) ++ [(⟨4, e.Nodes[j].Op, .zero⟩ : GIns)]).length, .zero⟩) (row := GIns.row ⟨5, 0, .zero⟩) (rs' := (binC ((putE e.Nodes f e.Nodes[j].B ((putE e.Nodes f e.Nodes[j].A out) ++ [(⟨5, 0, .zero⟩ : GIns)])) ++ [(⟨4, e.Nodes[j].Op, .zero⟩ : GIns)]) (putE e.Nodes f e.Nodes[j].A out).length).map GIns.row) rfl rfl rfl rfl rfl rfl (by rw [List.getElem?_map, bin_at]; rfl) rfl rfl (bin_set bin_at)) ?_
              refine ax_nil ?_
              refine cx_keep rfl rfl ?_
              refine cx_seq ?_
              refine cx_ops ?_
              refine ax_q (q_mov rfl) ?_
              refine ax_q (q_mov rfl) ?_
              refine ax_nil ?_
              refine cx_keep rfl rfl ?_
              refine cx_ret (retN id [1000] rfl rfl rfl rfl rfl ?_)
              first | (rw [putE_4 (b := 5) hj h0 h1 h2 (by omega) (by rw [if_neg (by omega)]), binC_len]; exact ⟨rfl, rfl⟩) | (rw [putE_4 (b := 6) hj h0 h1 h2 (by omega) (by rw [if_pos (by omega)]), binC_len]; exact ⟨rfl, rfl⟩) | (rw [putE_5 hj h0 h1 h2 (by omega)]; exact ⟨rfl, rfl⟩)
            · have h5 := (fun h => And.intro (dF (or_F h).1) (dF (or_F h).2)) h5
              exfalso; omega
          · have h3 := dF h3
            refine cx_seq ?_
            refine cx_ops ?_
            refine ax_q (q_ibin rfl rfl rfl) ?_
            refine ax_q (q_mov rfl) ?_
            refine ax_nil ?_
            refine cx_keep rfl rfl ?_
            refine cx_cond rfl (fun h4 => ?_) (fun h4 => ?_)
            · have h4 := dT h4
              have lb := putE_lenI (ns := e.Nodes) (f := f) (out := ((putE e.Nodes f e.Nodes[j].A out) ++ [(⟨6, 0, .zero⟩ : GIns)])) hB0 (by omega) (by omega) hBt
              rw [List.length_append, List.length_singleton] at lb
              refine cx_ops ?_
              refine ax_q (q_mov rfl) ?_
              refine ax_q (q_build rfl) ?_
              refine ax_e (e_bslice rfl (by decide) rfl rfl) ?_
              refine ax_e (e_appn (n' := ((putE e.Nodes f e.Nodes[j].A out) ++ [(⟨6, 0, .zero⟩ : GIns)]).length) (rs' := ((putE e.Nodes f e.Nodes[j].A out) ++ [(⟨6, 0, .zero⟩ : GIns)]).map GIns.row) rfl rfl (by simp) rfl (src_osl rfl (by simp)) (.inr (by rw [hmv]; rfl)) (hbnd (by omega) (by simp) (by decide)) (by simp) (app1 rfl)) ?_
              refine ax_q (q_mov rfl) ?_
              refine ax_nil ?_
              refine cx_keep rfl rfl ?_
              refine cx_seq ?_
              refine cx_drawL 4 66 (Nat.beq 1000) (nrA 1000) [] ([(1000, .rows 5 ((putE e.Nodes f e.Nodes[j].B ((putE e.Nodes f e.Nodes[j].A out) ++ [(⟨6, 0, .zero⟩ : GIns)])).map GIns.row))]) [[0], [4], [7], [64], [62, 63, 65], [7], [67], [68], [69]] [[], [], [], [], [1000], [1000], [1000], [1000], [1000]] rfl ?_
              first | refine ⟨_, .inr ⟨rfl, _, rfl, .inl rfl, loc_q (q_mov rfl)⟩, ?_⟩
              first | refine ⟨_, .inr ⟨rfl, _, rfl, .inl rfl, loc_q (q_ldN rfl rfl rfl)⟩, ?_⟩ | refine ⟨_, .inr ⟨rfl, _, rfl, .inl rfl, loc_q (q_loadN_ip rfl (Nat.le_refl _))⟩, ?_⟩ | refine ⟨_, .inr ⟨rfl, _, rfl, .inl rfl, loc_q (q_loadN_ip rfl (by decide))⟩, ?_⟩ | refine ⟨_, .inr ⟨rfl, _, rfl, .inl rfl, loc_q (q_loadN_rptr rfl rfl (by assumption) (by decide))⟩, ?_⟩ | refine ⟨_, .inr ⟨rfl, _, rfl, .inl rfl, loc_q (q_loadN_rptr rfl rfl (mapAt (by first | assumption | omega)) (by decide))⟩, ?_⟩
              first | refine ⟨_, .inr ⟨rfl, _, rfl, .inl rfl, loc_q (q_fadr_ptr rfl)⟩, ?_⟩ | refine ⟨_, .inr ⟨rfl, _, rfl, .inl rfl, loc_q (q_fadr_rptr rfl)⟩, ?_⟩ | refine ⟨_, .inr ⟨rfl, _, rfl, .inl rfl, loc_q (q_fadr_ip rfl)⟩, ?_⟩
              first | refine ⟨_, .inr ⟨rfl, _, rfl, .inl rfl, loc_q (q_load1_ptr rfl rfl rfl)⟩, ?_⟩ | refine ⟨_, .inr ⟨rfl, _, rfl, .inl rfl, loc_q (q_load1_ip rfl)⟩, ?_⟩ | refine ⟨_, .inr ⟨rfl, _, rfl, .inl rfl, loc_q (q_load1_rptr rfl rfl rfl rfl)⟩, ?_⟩ | refine ⟨_, .inr ⟨rfl, _, rfl, .inl rfl, loc_q (q_load1_rptr rfl rfl (by assumption) rfl)⟩, ?_⟩ | refine ⟨_, .inr ⟨rfl, _, rfl, .inl rfl, loc_q (q_load1_rptr rfl rfl (mapAt (by first | assumption | omega)) rfl)⟩, ?_⟩
              refine ⟨⟨66, _, []⟩, .inl ⟨rfl, rfl, rfl, locl_callm (fun _ => 1000) [1000] (fun _ => 1000) [] rfl (ih (i := e.Nodes[j].B) (out := ((putE e.Nodes f e.Nodes[j].A out) ++ [(⟨6, 0, .zero⟩ : GIns)])) (by omega) (by omega) (by omega) hBt (by simp only [List.length_append, List.length_singleton]; omega)) hP hmv rfl rfl rfl rfl ⟨rfl, trivial⟩ rfl rfl rfl (.pass rfl rfl (.pass rfl rfl (.pass rfl rfl .nil))) rfl rfl rfl rfl (mem1 rfl) rfl⟩, ?_⟩
              first | refine ⟨_, .inr ⟨rfl, _, rfl, .inr ⟨rfl, rfl, .inr rfl, rfl, rfl⟩, loc_q (q_fadr_ptr rfl)⟩, ?_⟩ | refine ⟨_, .inr ⟨rfl, _, rfl, .inr ⟨rfl, rfl, .inr rfl, rfl, rfl⟩, loc_q (q_fadr_rptr rfl)⟩, ?_⟩ | refine ⟨_, .inr ⟨rfl, _, rfl, .inr ⟨rfl, rfl, .inr rfl, rfl, rfl⟩, loc_q (q_fadr_ip rfl)⟩, ?_⟩
              first | refine ⟨_, .inr ⟨rfl, _, rfl, .inr ⟨rfl, rfl, .inr rfl, rfl, rfl⟩, loc_q (q_load1_ptr rfl rfl rfl)⟩, ?_⟩ | refine ⟨_, .inr ⟨rfl, _, rfl, .inr ⟨rfl, rfl, .inr rfl, rfl, rfl⟩, loc_q (q_load1_ip rfl)⟩, ?_⟩ | refine ⟨_, .inr ⟨rfl, _, rfl, .inr ⟨rfl, rfl, .inr rfl, rfl, rfl⟩, loc_q (q_load1_rptr rfl rfl rfl rfl)⟩, ?_⟩ | refine ⟨_, .inr ⟨rfl, _, rfl, .inr ⟨rfl, rfl, .inr rfl, rfl, rfl⟩, loc_q (q_load1_rptr rfl rfl (by assumption) rfl)⟩, ?_⟩ | refine ⟨_, .inr ⟨rfl, _, rfl, .inr ⟨rfl, rfl, .inr rfl, rfl, rfl⟩, loc_q (q_load1_rptr rfl rfl (mapAt (by first | assumption | omega)) rfl)⟩, ?_⟩
              first | refine ⟨_, .inr ⟨rfl, _, rfl, .inr ⟨rfl, rfl, .inr rfl, rfl, rfl⟩, loc_q (q_build rfl)⟩, ?_⟩
              first | refine ⟨_, .inr ⟨rfl, _, rfl, .inr ⟨rfl, rfl, .inr rfl, rfl, rfl⟩, loc_bslice rfl⟩, ?_⟩
              refine ⟨rfl, ?_⟩
              refine ax_e (e_appn (n' := ((putE e.Nodes f e.Nodes[j].B ((putE e.Nodes f e.Nodes[j].A out) ++ [(⟨6, 0, .zero⟩ : GIns)])) ++ [(⟨4, e.Nodes[j].Op, .zero⟩ : GIns)]).length) (rs' := ((putE e.Nodes f e.Nodes[j].B ((putE e.Nodes f e.Nodes[j].A out) ++ [(⟨6, 0, .zero⟩ : GIns)])) ++ [(⟨4, e.Nodes[j].Op, .zero⟩ : GIns)]).map GIns.row) rfl rfl (by simp) rfl (src_osl rfl (by simp)) (.inr (by rw [hmv]; rfl)) (hbnd (by omega) (by simp) (by decide)) (by simp) (app1 rfl)) ?_
              refine ax_q (q_mov rfl) ?_
              refine ax_nil ?_
              refine cx_keep rfl rfl ?_
              refine cx_seq ?_
              refine cx_seq ?_
              refine cx_ops ?_
              first | refine ax_q (q_fadr_ptr rfl) ?_ | refine ax_q (q_fadr_rptr rfl) ?_ | refine ax_q (q_fadr_ip rfl) ?_
              first | refine ax_q (q_load1_ptr rfl rfl rfl) ?_ | refine ax_q (q_load1_ip rfl) ?_ | refine ax_q (q_load1_rptr rfl rfl rfl rfl) ?_ | refine ax_q (q_load1_rptr rfl rfl (by assumption) rfl) ?_ | refine ax_q (q_load1_rptr rfl rfl (mapAt (by first | assumption | omega)) rfl) ?_
              refine ax_q (q_ibin rfl rfl rfl) ?_
              refine ax_q (q_mov rfl) ?_
              apply ax_or rfl rfl
              · intro g
                have g := dF g
                first | refine ax_q (q_fadr_ptr rfl) ?_ | refine ax_q (q_fadr_rptr rfl) ?_ | refine ax_q (q_fadr_ip rfl) ?_
                first | refine ax_q (q_load1_ptr rfl rfl rfl) ?_ | refine ax_q (q_load1_ip rfl) ?_ | refine ax_q (q_load1_rptr rfl rfl rfl rfl) ?_ | refine ax_q (q_load1_rptr rfl rfl (by assumption) rfl) ?_ | refine ax_q (q_load1_rptr rfl rfl (mapAt (by first | assumption | omega)) rfl) ?_
                refine ax_q (q_ibin rfl rfl rfl) ?_
                exact ax_nil ⟨rfl, by repeat (first | exact trivial | refine ⟨rfl, ?_⟩ | refine ⟨?_, ?_⟩)⟩
              refine ax_nil ?_
              refine cx_keep rfl rfl ?_
              refine cx_cond rfl (fun h5 => ?_) (fun h5 => ?_)
              · have h5 := (fun h => (or_T h).imp dT dT) h5
                refine cx_ops ?_
                refine ax_q (q_mov rfl) ?_
                refine ax_q (q_mov rfl) ?_
                refine ax_q (q_mov rfl) ?_
                first | refine ax_q (q_lenS_map rfl) ?_ | refine ax_q (q_lenS_osl rfl) ?_ | refine ax_q (q_lenS_zs rfl) ?_ | refine ax_q (q_lenS rfl) ?_
                refine ax_q (q_ixo rfl rfl (by have := @putE_ge e.Nodes f ((putE e.Nodes f e.Nodes[j].A out) ++ [(⟨6, 0, .zero⟩ : GIns)]) e.Nodes[j].B; simp only [List.length_append, List.length_singleton] at this ⊢; omega)) ?_
                first | refine ax_q (q_fadr_ptr rfl) ?_ | refine ax_q (q_fadr_rptr rfl) ?_ | refine ax_q (q_fadr_ip rfl) ?_
                refine ax_e (e_str (q := GIns.row ⟨6, ((putE e.Nodes f e.Nodes[j].B ((putE e.Nodes f e.Nodes[j].A out) ++ [(⟨6, 0, .zero⟩ : GIns)])) ++ [(⟨4, e.Nodes[j].Op, .zero⟩ : GIns)]).length, .zero⟩) (row := GIns.row ⟨6, 0, .zero⟩) (rs' := (binC ((putE e.Nodes f e.Nodes[j].B ((putE e.Nodes f e.Nodes[j].A out) ++ [(⟨6, 0, .zero⟩ : GIns)])) ++ [(⟨4, e.Nodes[j].Op, .zero⟩ : GIns)]) (putE e.Nodes f e.Nodes[j].A out).length).map GIns.row) rfl rfl rfl rfl rfl rfl (by rw [List.getElem?_map, bin_at]; rfl) rfl rfl (bin_set bin_at)) ?_
                refine ax_nil ?_
                refine cx_keep rfl rfl ?_
                refine cx_seq ?_
                refine cx_ops ?_
                refine ax_q (q_mov rfl) ?_
                refine ax_q (q_mov rfl) ?_
                refine ax_nil ?_
                refine cx_keep rfl rfl ?_
                refine cx_ret (retN id [1000] rfl rfl rfl rfl rfl ?_)
                first | (rw [putE_4 (b := 5) hj h0 h1 h2 (by omega) (by rw [if_neg (by omega)]), binC_len]; exact ⟨rfl, rfl⟩) | (rw [putE_4 (b := 6) hj h0 h1 h2 (by omega) (by rw [if_pos (by omega)]), binC_len]; exact ⟨rfl, rfl⟩) | (rw [putE_5 hj h0 h1 h2 (by omega)]; exact ⟨rfl, rfl⟩)
              · have h5 := (fun h => And.intro (dF (or_F h).1) (dF (or_F h).2)) h5
                exfalso; omega
            · have h4 := dF h4
              have lb := putE_lenI (ns := e.Nodes) (f := f) (out := (putE e.Nodes f e.Nodes[j].A out)) hB0 (by omega) (by omega) hBt
              refine cx_skip ?_
              refine cx_keep rfl rfl ?_
              refine cx_seq ?_
              refine cx_drawL 4 66 (Nat.beq 1000) (nrA 1000) [] ([(1000, .rows 5 ((putE e.Nodes f e.Nodes[j].B (putE e.Nodes f e.Nodes[j].A out)).map GIns.row))]) [[0], [4], [7], [64], [62, 63, 65], [7], [67], [68], [69]] [[], [], [], [], [1000], [1000], [1000], [1000], [1000]] rfl ?_
              first | refine ⟨_, .inr ⟨rfl, _, rfl, .inl rfl, loc_q (q_mov rfl)⟩, ?_⟩
              first | refine ⟨_, .inr ⟨rfl, _, rfl, .inl rfl, loc_q (q_ldN rfl rfl rfl)⟩, ?_⟩ | refine ⟨_, .inr ⟨rfl, _, rfl, .inl rfl, loc_q (q_loadN_ip rfl (Nat.le_refl _))⟩, ?_⟩ | refine ⟨_, .inr ⟨rfl, _, rfl, .inl rfl, loc_q (q_loadN_ip rfl (by decide))⟩, ?_⟩ | refine ⟨_, .inr ⟨rfl, _, rfl, .inl rfl, loc_q (q_loadN_rptr rfl rfl (by assumption) (by decide))⟩, ?_⟩ | refine ⟨_, .inr ⟨rfl, _, rfl, .inl rfl, loc_q (q_loadN_rptr rfl rfl (mapAt (by first | assumption | omega)) (by decide))⟩, ?_⟩
              first | refine ⟨_, .inr ⟨rfl, _, rfl, .inl rfl, loc_q (q_fadr_ptr rfl)⟩, ?_⟩ | refine ⟨_, .inr ⟨rfl, _, rfl, .inl rfl, loc_q (q_fadr_rptr rfl)⟩, ?_⟩ | refine ⟨_, .inr ⟨rfl, _, rfl, .inl rfl, loc_q (q_fadr_ip rfl)⟩, ?_⟩
              first | refine ⟨_, .inr ⟨rfl, _, rfl, .inl rfl, loc_q (q_load1_ptr rfl rfl rfl)⟩, ?_⟩ | refine ⟨_, .inr ⟨rfl, _, rfl, .inl rfl, loc_q (q_load1_ip rfl)⟩, ?_⟩ | refine ⟨_, .inr ⟨rfl, _, rfl, .inl rfl, loc_q (q_load1_rptr rfl rfl rfl rfl)⟩, ?_⟩ | refine ⟨_, .inr ⟨rfl, _, rfl, .inl rfl, loc_q (q_load1_rptr rfl rfl (by assumption) rfl)⟩, ?_⟩ | refine ⟨_, .inr ⟨rfl, _, rfl, .inl rfl, loc_q (q_load1_rptr rfl rfl (mapAt (by first | assumption | omega)) rfl)⟩, ?_⟩
              refine ⟨⟨66, _, []⟩, .inl ⟨rfl, rfl, rfl, locl_callm (fun _ => 1000) [1000] (fun _ => 1000) [] rfl (ih (i := e.Nodes[j].B) (out := (putE e.Nodes f e.Nodes[j].A out)) (by omega) (by omega) (by omega) hBt (by omega)) hP hmv rfl rfl rfl rfl ⟨rfl, trivial⟩ rfl rfl rfl (.pass rfl rfl (.pass rfl rfl (.pass rfl rfl .nil))) rfl rfl rfl rfl (mem1 rfl) rfl⟩, ?_⟩
              first | refine ⟨_, .inr ⟨rfl, _, rfl, .inr ⟨rfl, rfl, .inr rfl, rfl, rfl⟩, loc_q (q_fadr_ptr rfl)⟩, ?_⟩ | refine ⟨_, .inr ⟨rfl, _, rfl, .inr ⟨rfl, rfl, .inr rfl, rfl, rfl⟩, loc_q (q_fadr_rptr rfl)⟩, ?_⟩ | refine ⟨_, .inr ⟨rfl, _, rfl, .inr ⟨rfl, rfl, .inr rfl, rfl, rfl⟩, loc_q (q_fadr_ip rfl)⟩, ?_⟩
              first | refine ⟨_, .inr ⟨rfl, _, rfl, .inr ⟨rfl, rfl, .inr rfl, rfl, rfl⟩, loc_q (q_load1_ptr rfl rfl rfl)⟩, ?_⟩ | refine ⟨_, .inr ⟨rfl, _, rfl, .inr ⟨rfl, rfl, .inr rfl, rfl, rfl⟩, loc_q (q_load1_ip rfl)⟩, ?_⟩ | refine ⟨_, .inr ⟨rfl, _, rfl, .inr ⟨rfl, rfl, .inr rfl, rfl, rfl⟩, loc_q (q_load1_rptr rfl rfl rfl rfl)⟩, ?_⟩ | refine ⟨_, .inr ⟨rfl, _, rfl, .inr ⟨rfl, rfl, .inr rfl, rfl, rfl⟩, loc_q (q_load1_rptr rfl rfl (by assumption) rfl)⟩, ?_⟩ | refine ⟨_, .inr ⟨rfl, _, rfl, .inr ⟨rfl, rfl, .inr rfl, rfl, rfl⟩, loc_q (q_load1_rptr rfl rfl (mapAt (by first | assumption | omega)) rfl)⟩, ?_⟩
              first | refine ⟨_, .inr ⟨rfl, _, rfl, .inr ⟨rfl, rfl, .inr rfl, rfl, rfl⟩, loc_q (q_build rfl)⟩, ?_⟩
              first | refine ⟨_, .inr ⟨rfl, _, rfl, .inr ⟨rfl, rfl, .inr rfl, rfl, rfl⟩, loc_bslice rfl⟩, ?_⟩
              refine ⟨rfl, ?_⟩
              refine ax_e (e_appn (n' := ((putE e.Nodes f e.Nodes[j].B (putE e.Nodes f e.Nodes[j].A out)) ++ [(⟨4, e.Nodes[j].Op, .zero⟩ : GIns)]).length) (rs' := ((putE e.Nodes f e.Nodes[j].B (putE e.Nodes f e.Nodes[j].A out)) ++ [(⟨4, e.Nodes[j].Op, .zero⟩ : GIns)]).map GIns.row) rfl rfl (by simp) rfl (src_osl rfl (by simp)) (.inr (by rw [hmv]; rfl)) (hbnd (by omega) (by simp) (by decide)) (by simp) (app1 rfl)) ?_
              refine ax_q (q_mov rfl) ?_
              refine ax_nil ?_
              refine cx_keep rfl rfl ?_
              refine cx_seq ?_
              refine cx_seq ?_
              refine cx_ops ?_
              first | refine ax_q (q_fadr_ptr rfl) ?_ | refine ax_q (q_fadr_rptr rfl) ?_ | refine ax_q (q_fadr_ip rfl) ?_
              first | refine ax_q (q_load1_ptr rfl rfl rfl) ?_ | refine ax_q (q_load1_ip rfl) ?_ | refine ax_q (q_load1_rptr rfl rfl rfl rfl) ?_ | refine ax_q (q_load1_rptr rfl rfl (by assumption) rfl) ?_ | refine ax_q (q_load1_rptr rfl rfl (mapAt (by first | assumption | omega)) rfl) ?_
              refine ax_q (q_ibin rfl rfl rfl) ?_
              refine ax_q (q_mov rfl) ?_
              apply ax_or rfl rfl
              · intro g
                have g := dF g
                first | refine ax_q (q_fadr_ptr rfl) ?_ | refine ax_q (q_fadr_rptr rfl) ?_ | refine ax_q (q_fadr_ip rfl) ?_
                first | refine ax_q (q_load1_ptr rfl rfl rfl) ?_ | refine ax_q (q_load1_ip rfl) ?_ | refine ax_q (q_load1_rptr rfl rfl rfl rfl) ?_ | refine ax_q (q_load1_rptr rfl rfl (by assumption) rfl) ?_ | refine ax_q (q_load1_rptr rfl rfl (mapAt (by first | assumption | omega)) rfl) ?_
                refine ax_q (q_ibin rfl rfl rfl) ?_
                exact ax_nil ⟨rfl, by repeat (first | exact trivial | refine ⟨rfl, ?_⟩ | refine ⟨?_, ?_⟩)⟩
              refine ax_nil ?_
              refine cx_keep rfl rfl ?_
              refine cx_cond rfl (fun h5 => ?_) (fun h5 => ?_)
              · have h5 := (fun h => (or_T h).imp dT dT) h5
                exfalso; omega
              · have h5 := (fun h => And.intro (dF (or_F h).1) (dF (or_F h).2)) h5
                refine cx_skip ?_
                refine cx_keep rfl rfl ?_
                refine cx_seq ?_
                refine cx_ops ?_
                refine ax_q (q_mov rfl) ?_
                refine ax_q (q_mov rfl) ?_
                refine ax_nil ?_
                refine cx_keep rfl rfl ?_
                refine cx_ret (retN id [1000] rfl rfl rfl rfl rfl ?_)
                first | (rw [putE_4 (b := 5) hj h0 h1 h2 (by omega) (by rw [if_neg (by omega)]), binC_len]; exact ⟨rfl, rfl⟩) | (rw [putE_4 (b := 6) hj h0 h1 h2 (by omega) (by rw [if_pos (by omega)]), binC_len]; exact ⟨rfl, rfl⟩) | (rw [putE_5 hj h0 h1 h2 (by omega)]; exact ⟨rfl, rfl⟩)


/- loop.example/g00332/impl.CompileExpr -/
def k_c_Compile : XCode :=
  .seq (.ops [.op (some 1) (.box (.t 0)),
     .op (some 2) (.mov (.k (.nils 5))),
     .op (some 3) (.mov (.k (.int .i64 0)))])
  (.keep [1] (.seq (.seq (.ops [.op (some 4) (.loadN 1 (.t 1)),
      .call (some 5) 50 [.t 4],
      .op (some 6) (.not (.t 5))])
   (.keep [1, 6] (.cond (.t 6)
    (.seq (.ops [.op (some 2) (.mov (.k (.nils 5))),
        .op (some 3) (.mov (.k (.int .i64 1)))])
     (.keep [2, 3] (.ret)))
    (.skip))))
  (.keep [1] (.seq (.ops [.op (some 7) (.loadN 1 (.t 1)),
     .op (some 8) (.fadr (.t 1) 0),
     .op (some 9) (.load1 (.t 8)),
     .op (some 10) (.lenS (.t 9)),
     .op (some 11) (.bin .sub (.t 10) (.k (.int .i64 1))),
     .call (some 12) 59 [.k (.nils 0), .t 7, .t 11],
     .op (some 2) (.mov (.t 12)),
     .op (some 3) (.mov (.k (.int .i64 0)))])
  (.keep [2, 3] (.ret))))))
theorem k_c_Compile_fits : fitsF Try.prog 25 ⟨13, k_c_Compile, [.t 2, .t 3]⟩ = true := by kernel_rfl
theorem c_Compile {e : GExpr} (hw : e.Nodes.length ≤ 1048576) (hv : ∀ x ∈ e.Nodes, x.V.T.length ≤ 1048576) : Con Try.prog noMv 25 [e.av] [] (fun r h => r = .tup [.osl 0 5 0 (compF e).1.length, int (compF e).2] ∧ h = [(0, .rows 5 ((compF e).1.map GIns.row))]) := by
  refine con_of2 k_c_Compile_fits rfl fun C hP hmv => ?_
  unfold k_c_Compile
  refine cx_seq ?_
  refine cx_ops ?_
  refine ax_e (e_box rfl rfl (by decide) rfl rfl rfl) ?_
  refine ax_q (q_mov rfl) ?_
  refine ax_q (q_mov rfl) ?_
  refine ax_nil ?_
  refine cx_keep rfl rfl ?_
  refine cx_seq ?_
  refine cx_seq ?_
  refine cx_ops ?_
  first | refine ax_q (q_ldN rfl rfl rfl) ?_ | refine ax_q (q_loadN_ip rfl (Nat.le_refl _)) ?_ | refine ax_q (q_loadN_ip rfl (by decide)) ?_ | refine ax_q (q_loadN_rptr rfl rfl (by assumption) (by decide)) ?_ | refine ax_q (q_loadN_rptr rfl rfl (mapAt (by first | assumption | omega)) (by decide)) ?_
  first | refine ax_call rfl (vc_pure0 (c_ExprOK  ?_ ?_) hP rfl rfl ?_) | refine ax_call rfl (vc_lend0 (c_ExprOK  ?_ ?_) hP (by repeat (first | exact lal_id _ rfl | exact LAL.nil | refine LAL.cons ?_ ?_ | exact la_id _ rfl | exact LA.lend (lend_whole rfl (by first | (simp; done) | (rw [List.length_map]; rfl))) | refine LA.agg ?_ | refine LA.fn ?_ | refine LA.lend ?_ | exact Lend.d _ | exact Lend.zs _ | exact lend_whole rfl (by first | (simp; done) | (rw [List.length_map]; rfl)) | refine Lend.ptr rfl ?_ | refine Lend.fn ?_ | exact LendL.nil | refine LendL.cons ?_ ?_)) rfl rfl ?_)
  · first | assumption | omega | (simp; done) | (simp; omega)
  · first | assumption | omega | (simp; done) | (simp; omega)
  refine ax_q (q_not rfl) ?_
  refine ax_nil ?_
  refine cx_keep rfl rfl ?_
  refine cx_cond rfl (fun h0 => ?_) (fun h0 => ?_)
  · have h0 := bT h0
    refine cx_seq ?_
    refine cx_ops ?_
    refine ax_q (q_mov rfl) ?_
    refine ax_q (q_mov rfl) ?_
    refine ax_nil ?_
    refine cx_keep rfl rfl ?_
    refine cx_wk (wk_virt 901 5 rfl rfl rfl) ?_
    refine cx_wk (wk_zs 2 901 [] rfl rfl) ?_
    refine cx_ret (retN (fun _ => 0) [901] rfl rfl rfl rfl rfl ?_)
    rw [compF_0 h0]; exact ⟨rfl, rfl⟩
  · have h0 := bF h0
    refine cx_skip ?_
    refine cx_keep rfl rfl ?_
    refine cx_seq ?_
    refine cx_ops ?_
    first | refine ax_q (q_ldN rfl rfl rfl) ?_ | refine ax_q (q_loadN_ip rfl (Nat.le_refl _)) ?_ | refine ax_q (q_loadN_ip rfl (by decide)) ?_ | refine ax_q (q_loadN_rptr rfl rfl (by assumption) (by decide)) ?_ | refine ax_q (q_loadN_rptr rfl rfl (mapAt (by first | assumption | omega)) (by decide)) ?_
    first | refine ax_q (q_fadr_ptr rfl) ?_ | refine ax_q (q_fadr_rptr rfl) ?_ | refine ax_q (q_fadr_ip rfl) ?_
    first | refine ax_q (q_load1_ptr rfl rfl rfl) ?_ | refine ax_q (q_load1_ip rfl) ?_ | refine ax_q (q_load1_rptr rfl rfl rfl rfl) ?_ | refine ax_q (q_load1_rptr rfl rfl (by assumption) rfl) ?_ | refine ax_q (q_load1_rptr rfl rfl (mapAt (by first | assumption | omega)) rfl) ?_
    first | refine ax_q (q_lenS_map rfl) ?_ | refine ax_q (q_lenS_osl rfl) ?_ | refine ax_q (q_lenS_zs rfl) ?_ | refine ax_q (q_lenS rfl) ?_
    refine ax_q (q_sub rfl rfl (by omega)) ?_
    refine ax_wk (wk_virt 900 5 rfl rfl rfl) ?_
    have hz := comp_hyps h0
    refine ax_call rfl (vcall_own (c_compile (f := e.Nodes.length + 1) (i := (e.Nodes.length : Int) - 1) (out := []) hz.1 hz.2.1 hz.2.2.1 hz.2.2.2.1 hz.2.2.2.2 hw) hP hmv false (fun _ => 900) [1000] ⟨rfl, rfl, rfl, rfl, ⟨rfl, trivial⟩, rfl, rfl, rfl⟩ (.nilS (.pass rfl rfl (.pass rfl rfl .nil))) ?_)
    rintro r h ⟨rfl, rfl⟩
    refine ⟨fun _ => 900, [], ⟨rfl, rfl, rfl, rfl, mem1 rfl, rfl, rfl, fun h => absurd h Bool.false_ne_true⟩, ?_⟩
    refine ax_q (q_mov rfl) ?_
    refine ax_q (q_mov rfl) ?_
    refine ax_nil ?_
    refine cx_keep rfl rfl ?_
    refine cx_ret (retN (fun _ => 0) [900] rfl rfl rfl rfl rfl ?_)
    rw [compF_1 h0]; exact ⟨rfl, rfl⟩


/- loop.example/g00332/laws.eqExprNode -/
def k_c_eqExprNode : XCode :=
  .seq (.ops [.op (some 2) (.box (.t 0)),
     .op (some 3) (.box (.t 1)),
     .op (some 4) (.mov (.k (.bool false)))])
  (.keep [2, 3] (.seq (.seq (.ops [.op (some 5) (.fadr (.t 2) 0),
      .op (some 6) (.load1 (.t 5)),
      .op (some 7) (.fadr (.t 3) 0),
      .op (some 8) (.load1 (.t 7)),
      .op (some 9) (.bin .neq (.t 6) (.t 8))])
   (.keep [2, 3, 9] (.cond (.t 9)
    (.seq (.ops [.op (some 4) (.mov (.k (.bool false)))])
     (.keep [4] (.ret)))
    (.skip))))
  (.keep [2, 3] (.seq (.seq (.ops [.op (some 10) (.fadr (.t 2) 1),
      .op (some 11) (.load1 (.t 10)),
      .op (some 12) (.fadr (.t 3) 1),
      .op (some 13) (.load1 (.t 12)),
      .op (some 14) (.bin .neq (.t 11) (.t 13))])
   (.keep [2, 3, 14] (.cond (.t 14)
    (.seq (.ops [.op (some 4) (.mov (.k (.bool false)))])
     (.keep [4] (.ret)))
    (.skip))))
  (.keep [2, 3] (.seq (.seq (.ops [.op (some 15) (.fadr (.t 2) 2),
      .op (some 16) (.load1 (.t 15)),
      .op (some 17) (.fadr (.t 3) 2),
      .op (some 18) (.load1 (.t 17)),
      .op (some 19) (.bin .neq (.t 16) (.t 18))])
   (.keep [2, 3, 19] (.cond (.t 19)
    (.seq (.ops [.op (some 4) (.mov (.k (.bool false)))])
     (.keep [4] (.ret)))
    (.skip))))
  (.keep [2, 3] (.seq (.seq (.ops [.op (some 20) (.fadr (.t 2) 3),
      .op (some 21) (.load1 (.t 20)),
      .op (some 22) (.fadr (.t 3) 3),
      .op (some 23) (.load1 (.t 22)),
      .op (some 24) (.bin .neq (.t 21) (.t 23))])
   (.keep [2, 3, 24] (.cond (.t 24)
    (.seq (.ops [.op (some 4) (.mov (.k (.bool false)))])
     (.keep [4] (.ret)))
    (.skip))))
  (.keep [2, 3] (.seq (.seq (.ops [.op (some 25) (.fadr (.t 2) 4),
      .op (some 26) (.loadN 3 (.t 25)),
      .op (some 27) (.fadr (.t 3) 4),
      .op (some 28) (.loadN 3 (.t 27)),
      .call (some 29) 34 [.t 26, .t 28],
      .op (some 30) (.not (.t 29))])
   (.keep [30] (.cond (.t 30)
    (.seq (.ops [.op (some 4) (.mov (.k (.bool false)))])
     (.keep [4] (.ret)))
    (.skip))))
  (.keep [] (.seq (.ops [.op (some 4) (.mov (.k (.bool true)))])
  (.keep [4] (.ret))))))))))))))
theorem k_c_eqExprNode_fits : fitsF Try.prog 83 ⟨31, k_c_eqExprNode, [.t 4]⟩ = true := by kernel_rfl
theorem c_eqExprNode {a b : GExprNode}  : Con Try.prog noMv 83 [a.av, b.av] [] (fun r h => r = bool (eqb a b) ∧ h = []) := by
  refine con_of2 k_c_eqExprNode_fits rfl fun C hP hmv => ?_
  unfold k_c_eqExprNode
  refine cx_seq ?_
  refine cx_ops ?_
  refine ax_e (e_box rfl rfl (by decide) rfl rfl rfl) ?_
  refine ax_e (e_box rfl rfl (by decide) rfl rfl rfl) ?_
  refine ax_q (q_mov rfl) ?_
  refine ax_nil ?_
  refine cx_keep rfl rfl ?_
  refine cx_seq ?_
  refine cx_seq ?_
  refine cx_ops ?_
  first | refine ax_q (q_fadr_ptr rfl) ?_ | refine ax_q (q_fadr_rptr rfl) ?_ | refine ax_q (q_fadr_ip rfl) ?_
  first | refine ax_q (q_load1_ptr rfl rfl rfl) ?_ | refine ax_q (q_load1_ip rfl) ?_ | refine ax_q (q_load1_rptr rfl rfl rfl rfl) ?_ | refine ax_q (q_load1_rptr rfl rfl (by assumption) rfl) ?_ | refine ax_q (q_load1_rptr rfl rfl (mapAt (by first | assumption | omega)) rfl) ?_
  first | refine ax_q (q_fadr_ptr rfl) ?_ | refine ax_q (q_fadr_rptr rfl) ?_ | refine ax_q (q_fadr_ip rfl) ?_
  first | refine ax_q (q_load1_ptr rfl rfl rfl) ?_ | refine ax_q (q_load1_ip rfl) ?_ | refine ax_q (q_load1_rptr rfl rfl rfl rfl) ?_ | refine ax_q (q_load1_rptr rfl rfl (by assumption) rfl) ?_ | refine ax_q (q_load1_rptr rfl rfl (mapAt (by first | assumption | omega)) rfl) ?_
  refine ax_q (q_ibin rfl rfl rfl) ?_
  refine ax_nil ?_
  refine cx_keep rfl rfl ?_
  refine cx_cond rfl (fun h0 => ?_) (fun h0 => ?_)
  · have h0 := nT h0
    refine cx_seq ?_
    refine cx_ops ?_
    refine ax_q (q_mov rfl) ?_
    refine ax_nil ?_
    refine cx_keep rfl rfl ?_
    refine cx_ret (ret0 rfl rfl ?_)
    exact ⟨congrArg AM.bool (eqb_f (fun h => h0 (by rw [h]))).symm, rfl⟩
  · have h0 := nF h0
    refine cx_skip ?_
    refine cx_keep rfl rfl ?_
    refine cx_seq ?_
    refine cx_seq ?_
    refine cx_ops ?_
    first | refine ax_q (q_fadr_ptr rfl) ?_ | refine ax_q (q_fadr_rptr rfl) ?_ | refine ax_q (q_fadr_ip rfl) ?_
    first | refine ax_q (q_load1_ptr rfl rfl rfl) ?_ | refine ax_q (q_load1_ip rfl) ?_ | refine ax_q (q_load1_rptr rfl rfl rfl rfl) ?_ | refine ax_q (q_load1_rptr rfl rfl (by assumption) rfl) ?_ | refine ax_q (q_load1_rptr rfl rfl (mapAt (by first | assumption | omega)) rfl) ?_
    first | refine ax_q (q_fadr_ptr rfl) ?_ | refine ax_q (q_fadr_rptr rfl) ?_ | refine ax_q (q_fadr_ip rfl) ?_
    first | refine ax_q (q_load1_ptr rfl rfl rfl) ?_ | refine ax_q (q_load1_ip rfl) ?_ | refine ax_q (q_load1_rptr rfl rfl rfl rfl) ?_ | refine ax_q (q_load1_rptr rfl rfl (by assumption) rfl) ?_ | refine ax_q (q_load1_rptr rfl rfl (mapAt (by first | assumption | omega)) rfl) ?_
    refine ax_q (q_ibin rfl rfl rfl) ?_
    refine ax_nil ?_
    refine cx_keep rfl rfl ?_
    refine cx_cond rfl (fun h1 => ?_) (fun h1 => ?_)
    · have h1 := nT h1
      refine cx_seq ?_
      refine cx_ops ?_
      refine ax_q (q_mov rfl) ?_
      refine ax_nil ?_
      refine cx_keep rfl rfl ?_
      refine cx_ret (ret0 rfl rfl ?_)
      exact ⟨congrArg AM.bool (eqb_f (fun h => h1 (by rw [h]))).symm, rfl⟩
    · have h1 := nF h1
      refine cx_skip ?_
      refine cx_keep rfl rfl ?_
      refine cx_seq ?_
      refine cx_seq ?_
      refine cx_ops ?_
      first | refine ax_q (q_fadr_ptr rfl) ?_ | refine ax_q (q_fadr_rptr rfl) ?_ | refine ax_q (q_fadr_ip rfl) ?_
      first | refine ax_q (q_load1_ptr rfl rfl rfl) ?_ | refine ax_q (q_load1_ip rfl) ?_ | refine ax_q (q_load1_rptr rfl rfl rfl rfl) ?_ | refine ax_q (q_load1_rptr rfl rfl (by assumption) rfl) ?_ | refine ax_q (q_load1_rptr rfl rfl (mapAt (by first | assumption | omega)) rfl) ?_
      first | refine ax_q (q_fadr_ptr rfl) ?_ | refine ax_q (q_fadr_rptr rfl) ?_ | refine ax_q (q_fadr_ip rfl) ?_
      first | refine ax_q (q_load1_ptr rfl rfl rfl) ?_ | refine ax_q (q_load1_ip rfl) ?_ | refine ax_q (q_load1_rptr rfl rfl rfl rfl) ?_ | refine ax_q (q_load1_rptr rfl rfl (by assumption) rfl) ?_ | refine ax_q (q_load1_rptr rfl rfl (mapAt (by first | assumption | omega)) rfl) ?_
      refine ax_q (q_ibin rfl rfl rfl) ?_
      refine ax_nil ?_
      refine cx_keep rfl rfl ?_
      refine cx_cond rfl (fun h2 => ?_) (fun h2 => ?_)
      · have h2 := nT h2
        refine cx_seq ?_
        refine cx_ops ?_
        refine ax_q (q_mov rfl) ?_
        refine ax_nil ?_
        refine cx_keep rfl rfl ?_
        refine cx_ret (ret0 rfl rfl ?_)
        exact ⟨congrArg AM.bool (eqb_f (fun h => h2 (by rw [h]))).symm, rfl⟩
      · have h2 := nF h2
        refine cx_skip ?_
        refine cx_keep rfl rfl ?_
        refine cx_seq ?_
        refine cx_seq ?_
        refine cx_ops ?_
        first | refine ax_q (q_fadr_ptr rfl) ?_ | refine ax_q (q_fadr_rptr rfl) ?_ | refine ax_q (q_fadr_ip rfl) ?_
        first | refine ax_q (q_load1_ptr rfl rfl rfl) ?_ | refine ax_q (q_load1_ip rfl) ?_ | refine ax_q (q_load1_rptr rfl rfl rfl rfl) ?_ | refine ax_q (q_load1_rptr rfl rfl (by assumption) rfl) ?_ | refine ax_q (q_load1_rptr rfl rfl (mapAt (by first | assumption | omega)) rfl) ?_
        first | refine ax_q (q_fadr_ptr rfl) ?_ | refine ax_q (q_fadr_rptr rfl) ?_ | refine ax_q (q_fadr_ip rfl) ?_
        first | refine ax_q (q_load1_ptr rfl rfl rfl) ?_ | refine ax_q (q_load1_ip rfl) ?_ | refine ax_q (q_load1_rptr rfl rfl rfl rfl) ?_ | refine ax_q (q_load1_rptr rfl rfl (by assumption) rfl) ?_ | refine ax_q (q_load1_rptr rfl rfl (mapAt (by first | assumption | omega)) rfl) ?_
        refine ax_q (q_ibin rfl rfl rfl) ?_
        refine ax_nil ?_
        refine cx_keep rfl rfl ?_
        refine cx_cond rfl (fun h3 => ?_) (fun h3 => ?_)
        · have h3 := nT h3
          refine cx_seq ?_
          refine cx_ops ?_
          refine ax_q (q_mov rfl) ?_
          refine ax_nil ?_
          refine cx_keep rfl rfl ?_
          refine cx_ret (ret0 rfl rfl ?_)
          exact ⟨congrArg AM.bool (eqb_f (fun h => h3 (by rw [h]))).symm, rfl⟩
        · have h3 := nF h3
          refine cx_skip ?_
          refine cx_keep rfl rfl ?_
          refine cx_seq ?_
          refine cx_seq ?_
          refine cx_ops ?_
          first | refine ax_q (q_fadr_ptr rfl) ?_ | refine ax_q (q_fadr_rptr rfl) ?_ | refine ax_q (q_fadr_ip rfl) ?_
          first | refine ax_q (q_ldN rfl rfl rfl) ?_ | refine ax_q (q_loadN_ip rfl (Nat.le_refl _)) ?_ | refine ax_q (q_loadN_ip rfl (by decide)) ?_ | refine ax_q (q_loadN_rptr rfl rfl (by assumption) (by decide)) ?_ | refine ax_q (q_loadN_rptr rfl rfl (mapAt (by first | assumption | omega)) (by decide)) ?_
          first | refine ax_q (q_fadr_ptr rfl) ?_ | refine ax_q (q_fadr_rptr rfl) ?_ | refine ax_q (q_fadr_ip rfl) ?_
          first | refine ax_q (q_ldN rfl rfl rfl) ?_ | refine ax_q (q_loadN_ip rfl (Nat.le_refl _)) ?_ | refine ax_q (q_loadN_ip rfl (by decide)) ?_ | refine ax_q (q_loadN_rptr rfl rfl (by assumption) (by decide)) ?_ | refine ax_q (q_loadN_rptr rfl rfl (mapAt (by first | assumption | omega)) (by decide)) ?_
          first | refine ax_call rfl (vc_pure0 (c_eqValue  ) hP rfl rfl ?_) | refine ax_call rfl (vc_lend0 (c_eqValue  ) hP (by repeat (first | exact lal_id _ rfl | exact LAL.nil | refine LAL.cons ?_ ?_ | exact la_id _ rfl | exact LA.lend (lend_whole rfl (by first | (simp; done) | (rw [List.length_map]; rfl))) | refine LA.agg ?_ | refine LA.fn ?_ | refine LA.lend ?_ | exact Lend.d _ | exact Lend.zs _ | exact lend_whole rfl (by first | (simp; done) | (rw [List.length_map]; rfl)) | refine Lend.ptr rfl ?_ | refine Lend.fn ?_ | exact LendL.nil | refine LendL.cons ?_ ?_)) rfl rfl ?_)
          refine ax_q (q_not rfl) ?_
          refine ax_nil ?_
          refine cx_keep rfl rfl ?_
          refine cx_cond rfl (fun h4 => ?_) (fun h4 => ?_)
          · have h4 := bT h4
            refine cx_seq ?_
            refine cx_ops ?_
            refine ax_q (q_mov rfl) ?_
            refine ax_nil ?_
            refine cx_keep rfl rfl ?_
            refine cx_ret (ret0 rfl rfl ?_)
            exact ⟨congrArg AM.bool (eqb_f (fun h => by rw [h, eqb_rfl] at h4; cases h4)).symm, rfl⟩
          · have h4 := bF h4
            refine cx_skip ?_
            refine cx_keep rfl rfl ?_
            refine cx_seq ?_
            refine cx_ops ?_
            refine ax_q (q_mov rfl) ?_
            refine ax_nil ?_
            refine cx_keep rfl rfl ?_
            refine cx_ret (ret0 rfl rfl ?_)
            exact ⟨congrArg AM.bool (eqb_t (GExprNode.ext1 h0 h1 h2 h3 (eqb_iff.1 h4))).symm, rfl⟩


/- loop.example/g00332/laws.eqExprNodeS -/
def k_c_eqExprNodeS : XCode :=
  .seq (.ops [.op (some 4) (.mov (.k (.bool false)))])
  (.keep [0, 1] (.seq (.seq (.ops [.op (some 6) (.mov (.t 0)),
      .op (some 7) (.lenS (.t 6)),
      .op (some 8) (.mov (.t 1)),
      .op (some 9) (.lenS (.t 8)),
      .op (some 10) (.bin .neq (.t 7) (.t 9))])
   (.keep [0, 1, 10] (.cond (.t 10)
    (.seq (.ops [.op (some 4) (.mov (.k (.bool false)))])
     (.keep [4] (.ret)))
    (.skip))))
  (.keep [0, 1] (.seq (.seq (.ops [.op (some 5) (.mov (.k (.int .i64 0)))])
   (.keep [0, 1, 5] (.block 0 (.loop (.seq (.seq (.ops [.op (some 11) (.mov (.t 5)),
         .op (some 12) (.mov (.t 0)),
         .op (some 13) (.lenS (.t 12)),
         .op (some 14) (.bin .lss (.t 11) (.t 13))])
      (.keep [0, 1, 5, 14] (.cond (.t 14)
       (.skip)
       (.exit 0))))
     (.keep [0, 1, 5] (.seq (.block 1 (.seq (.draw [.op (some 17) (.mov (.t 0)),
          .op (some 18) (.mov (.t 5)),
          .op (some 19) (.iadr 7 (.t 17) (.t 18)),
          .op (some 20) (.loadN 7 (.t 19)),
          .op (some 21) (.mov (.t 1)),
          .op (some 22) (.mov (.t 5)),
          .op (some 23) (.iadr 7 (.t 21) (.t 22)),
          .op (some 24) (.loadN 7 (.t 23)),
          .call (some 25) 83 [.t 20, .t 24],
          .op (some 26) (.not (.t 25))])
       (.keep [0, 1, 5, 26] (.cond (.t 26)
        (.seq (.ops [.op (some 4) (.mov (.k (.bool false)))])
         (.keep [4] (.ret)))
        (.skip)))))
     (.keep [0, 1, 5] (.ops [.op (some 15) (.mov (.t 5)),
       .op (some 16) (.bin .add (.t 15) (.k (.int .i64 1))),
       .op (some 5) (.mov (.t 16))])))))))))
  (.keep [] (.seq (.ops [.op (some 4) (.mov (.k (.bool true)))])
  (.keep [4] (.ret))))))))
theorem k_c_eqExprNodeS_fits : fitsF Try.prog 60 ⟨27, k_c_eqExprNodeS, [.t 4]⟩ = true := by kernel_rfl
theorem c_eqExprNodeS {xs ys : List GExprNode} (hw : xs.length ≤ 9223372036854775807) : Con Try.prog noMv 60 [.d (.sl 7 (xs.map GExprNode.row)), .d (.sl 7 (ys.map GExprNode.row))] [] (fun r h => r = bool (eqb xs ys) ∧ h = []) := by
  refine con_of2 k_c_eqExprNodeS_fits rfl fun C hP hmv => ?_
  unfold k_c_eqExprNodeS
  refine cx_seq ?_
  refine cx_ops ?_
  refine ax_q (q_mov rfl) ?_
  refine ax_nil ?_
  refine cx_keep rfl rfl ?_
  refine cx_seq ?_
  refine cx_seq ?_
  refine cx_ops ?_
  refine ax_q (q_mov rfl) ?_
  first | refine ax_q (q_lenS_map rfl) ?_ | refine ax_q (q_lenS_osl rfl) ?_ | refine ax_q (q_lenS_zs rfl) ?_ | refine ax_q (q_lenS rfl) ?_
  refine ax_q (q_mov rfl) ?_
  first | refine ax_q (q_lenS_map rfl) ?_ | refine ax_q (q_lenS_osl rfl) ?_ | refine ax_q (q_lenS_zs rfl) ?_ | refine ax_q (q_lenS rfl) ?_
  refine ax_q (q_ibin rfl rfl rfl) ?_
  refine ax_nil ?_
  refine cx_keep rfl rfl ?_
  refine cx_cond rfl (fun h0 => ?_) (fun h0 => ?_)
  · have h0 := nT h0
    refine cx_seq ?_
    refine cx_ops ?_
    refine ax_q (q_mov rfl) ?_
    refine ax_nil ?_
    refine cx_keep rfl rfl ?_
    refine cx_ret (ret0 rfl rfl ?_)
    exact ⟨congrArg AM.bool (eqb_f (fun h => h0 (by rw [h]))).symm, rfl⟩
  · have h0 := nF h0
    refine cx_skip ?_
    refine cx_keep rfl rfl ?_
    refine cx_seq ?_
    refine cx_seq ?_
    refine cx_ops ?_
    refine ax_q (q_mov rfl) ?_
    refine ax_nil ?_
    refine cx_keep rfl rfl ?_
    refine cx_block ?_
    have hl : xs.length = ys.length := by omega
    refine cx_loopU (fun n k => k ≤ xs.length ∧ n = xs.length - k ∧ xs.take k = ys.take k) (fun k : Nat => [(5, int k)]) (fun _ => []) ⟨_, 0, ⟨Nat.zero_le _, rfl, rfl⟩, by repeat (first | exact trivial | refine ⟨rfl, ?_⟩ | refine ⟨?_, ?_⟩)⟩ ?_
    rintro n k ⟨hk, rfl, ht⟩
    refine cx_seq ?_
    refine cx_seq ?_
    refine cx_ops ?_
    refine ax_q (q_mov rfl) ?_
    refine ax_q (q_mov rfl) ?_
    first | refine ax_q (q_lenS_map rfl) ?_ | refine ax_q (q_lenS_osl rfl) ?_ | refine ax_q (q_lenS_zs rfl) ?_ | refine ax_q (q_lenS rfl) ?_
    refine ax_q (q_ibin rfl rfl rfl) ?_
    refine ax_nil ?_
    refine cx_keep rfl rfl ?_
    refine cx_cond rfl (fun h1 => ?_) (fun h1 => ?_)
    · have h1 := dT h1
      have h1x : k < xs.length := by omega
      have h1y : k < ys.length := by omega
      refine cx_skip ?_
      refine cx_keep rfl rfl ?_
      refine cx_seq ?_
      refine cx_block ?_
      refine cx_seq ?_
      refine cx_draw ?_
      refine ax_q (q_mov rfl) ?_
      refine ax_q (q_mov rfl) ?_
      refine ax_q (q_ix rfl rfl (mapAt h1x)) ?_
      first | refine ax_q (q_ldN rfl rfl rfl) ?_ | refine ax_q (q_loadN_ip rfl (Nat.le_refl _)) ?_ | refine ax_q (q_loadN_ip rfl (by decide)) ?_ | refine ax_q (q_loadN_rptr rfl rfl (by assumption) (by decide)) ?_ | refine ax_q (q_loadN_rptr rfl rfl (mapAt (by first | assumption | omega)) (by decide)) ?_
      refine ax_q (q_mov rfl) ?_
      refine ax_q (q_mov rfl) ?_
      refine ax_q (q_ix rfl rfl (mapAt h1y)) ?_
      first | refine ax_q (q_ldN rfl rfl rfl) ?_ | refine ax_q (q_loadN_ip rfl (Nat.le_refl _)) ?_ | refine ax_q (q_loadN_ip rfl (by decide)) ?_ | refine ax_q (q_loadN_rptr rfl rfl (by assumption) (by decide)) ?_ | refine ax_q (q_loadN_rptr rfl rfl (mapAt (by first | assumption | omega)) (by decide)) ?_
      first | refine ax_callq rfl (c_eqExprNode) hP (lal_id _ rfl) rfl ?_ | refine ax_call rfl (vc_pure0 (c_eqExprNode) hP rfl rfl ?_)
      refine ax_q (q_not rfl) ?_
      refine ax_nil ?_
      refine cx_keep rfl rfl ?_
      refine cx_cond rfl (fun h2 => ?_) (fun h2 => ?_)
      · have h2 := bT h2
        refine cx_seq ?_
        refine cx_ops ?_
        refine ax_q (q_mov rfl) ?_
        refine ax_nil ?_
        refine cx_keep rfl rfl ?_
        refine cx_ret (ret0 rfl rfl ?_)
        exact ⟨congrArg AM.bool (eqbL_no h1x h1y h2).symm, rfl⟩
      · have h2 := bF h2
        refine cx_skip ?_
        refine cx_keep rfl rfl ?_
        refine cx_ops ?_
        refine ax_q (q_mov rfl) ?_
        refine ax_q (q_add rfl rfl (by omega)) ?_
        refine ax_q (q_mov rfl) ?_
        refine ax_nil ?_
        exact ⟨_, k + 1, by omega, ⟨by omega, rfl, eqbL_step h1x h1y ht h2⟩, by repeat (first | exact trivial | refine ⟨rfl, ?_⟩ | refine ⟨?_, ?_⟩)⟩
    · have h1 := dF h1
      refine cx_exit rfl ?_
      refine cx_keep rfl rfl ?_
      refine cx_seq ?_
      refine cx_ops ?_
      refine ax_q (q_mov rfl) ?_
      refine ax_nil ?_
      refine cx_keep rfl rfl ?_
      refine cx_ret (ret0 rfl rfl ?_)
      exact ⟨congrArg AM.bool (eqb_t (eq_of_take hl (by rwa [show k = xs.length from by omega] at ht))).symm, rfl⟩


/- loop.example/g00332/laws.eqExpr -/
def k_c_eqExpr : XCode :=
  .seq (.ops [.op (some 2) (.box (.t 0)),
     .op (some 3) (.box (.t 1)),
     .op (some 4) (.mov (.k (.bool false)))])
  (.keep [2, 3] (.seq (.seq (.ops [.op (some 5) (.fadr (.t 2) 0),
      .op (some 6) (.load1 (.t 5)),
      .op (some 7) (.fadr (.t 3) 0),
      .op (some 8) (.load1 (.t 7)),
      .call (some 9) 60 [.t 6, .t 8],
      .op (some 10) (.not (.t 9))])
   (.keep [10] (.cond (.t 10)
    (.seq (.ops [.op (some 4) (.mov (.k (.bool false)))])
     (.keep [4] (.ret)))
    (.skip))))
  (.keep [] (.seq (.ops [.op (some 4) (.mov (.k (.bool true)))])
  (.keep [4] (.ret))))))
theorem k_c_eqExpr_fits : fitsF Try.prog 26 ⟨11, k_c_eqExpr, [.t 4]⟩ = true := by kernel_rfl
theorem c_eqExpr {a b : GExpr} (hw0 : a.Nodes.length ≤ 9223372036854775807) : Con Try.prog noMv 26 [a.av, b.av] [] (fun r h => r = bool (eqb a b) ∧ h = []) := by
  refine con_of2 k_c_eqExpr_fits rfl fun C hP hmv => ?_
  unfold k_c_eqExpr
  refine cx_seq ?_
  refine cx_ops ?_
  refine ax_e (e_box rfl rfl (by decide) rfl rfl rfl) ?_
  refine ax_e (e_box rfl rfl (by decide) rfl rfl rfl) ?_
  refine ax_q (q_mov rfl) ?_
  refine ax_nil ?_
  refine cx_keep rfl rfl ?_
  refine cx_seq ?_
  refine cx_seq ?_
  refine cx_ops ?_
  first | refine ax_q (q_fadr_ptr rfl) ?_ | refine ax_q (q_fadr_rptr rfl) ?_ | refine ax_q (q_fadr_ip rfl) ?_
  first | refine ax_q (q_load1_ptr rfl rfl rfl) ?_ | refine ax_q (q_load1_ip rfl) ?_ | refine ax_q (q_load1_rptr rfl rfl rfl rfl) ?_ | refine ax_q (q_load1_rptr rfl rfl (by assumption) rfl) ?_ | refine ax_q (q_load1_rptr rfl rfl (mapAt (by first | assumption | omega)) rfl) ?_
  first | refine ax_q (q_fadr_ptr rfl) ?_ | refine ax_q (q_fadr_rptr rfl) ?_ | refine ax_q (q_fadr_ip rfl) ?_
  first | refine ax_q (q_load1_ptr rfl rfl rfl) ?_ | refine ax_q (q_load1_ip rfl) ?_ | refine ax_q (q_load1_rptr rfl rfl rfl rfl) ?_ | refine ax_q (q_load1_rptr rfl rfl (by assumption) rfl) ?_ | refine ax_q (q_load1_rptr rfl rfl (mapAt (by first | assumption | omega)) rfl) ?_
  first | refine ax_call rfl (vc_pure0 (c_eqExprNodeS  ?_) hP rfl rfl ?_) | refine ax_call rfl (vc_lend0 (c_eqExprNodeS  ?_) hP (by repeat (first | exact lal_id _ rfl | exact LAL.nil | refine LAL.cons ?_ ?_ | exact la_id _ rfl | exact LA.lend (lend_whole rfl (by first | (simp; done) | (rw [List.length_map]; rfl))) | refine LA.agg ?_ | refine LA.fn ?_ | refine LA.lend ?_ | exact Lend.d _ | exact Lend.zs _ | exact lend_whole rfl (by first | (simp; done) | (rw [List.length_map]; rfl)) | refine Lend.ptr rfl ?_ | refine Lend.fn ?_ | exact LendL.nil | refine LendL.cons ?_ ?_)) rfl rfl ?_)
  · first | assumption | omega | (simp; done) | (simp; omega)
  refine ax_q (q_not rfl) ?_
  refine ax_nil ?_
  refine cx_keep rfl rfl ?_
  refine cx_cond rfl (fun h0 => ?_) (fun h0 => ?_)
  · have h0 := bT h0
    refine cx_seq ?_
    refine cx_ops ?_
    refine ax_q (q_mov rfl) ?_
    refine ax_nil ?_
    refine cx_keep rfl rfl ?_
    refine cx_ret (ret0 rfl rfl ?_)
    exact ⟨congrArg AM.bool (eqb_f (fun h => by rw [h, eqb_rfl] at h0; cases h0)).symm, rfl⟩
  · have h0 := bF h0
    refine cx_skip ?_
    refine cx_keep rfl rfl ?_
    refine cx_seq ?_
    refine cx_ops ?_
    refine ax_q (q_mov rfl) ?_
    refine ax_nil ?_
    refine cx_keep rfl rfl ?_
    refine cx_ret (ret0 rfl rfl ?_)
    exact ⟨congrArg AM.bool (eqb_t (GExpr.ext1 (eqb_iff.1 h0))).symm, rfl⟩


/- loop.example/g00332/laws.markText -/
def k_c_markText : XCode :=
  .seq (.ops [.op (some 2) (.mov (.k (.str [])))])
  (.keep [0] (.seq (.seq (.ops [.op (some 4) (.mov (.t 0)),
      .op (some 5) (.bin .leq (.t 4) (.k (.int .i64 0)))])
   (.keep [0, 5] (.cond (.t 5)
    (.seq (.ops [.op (some 2) (.mov (.k (.str [109, 48])))])
     (.keep [2] (.ret)))
    (.skip))))
  (.keep [0] (.seq (.ops [.op (some 3) (.mov (.k (.str [])))])
  (.keep [0, 3] (.seq (.block 0 (.loop (.seq (.seq (.ops [.op (some 6) (.mov (.t 0)),
         .op (some 7) (.bin .gtr (.t 6) (.k (.int .i64 0)))])
      (.keep [0, 3, 7] (.cond (.t 7)
       (.skip)
       (.exit 0))))
     (.keep [0, 3] (.block 1 (.seq (.ops [.op (some 8) (.mov (.t 0)),
         .op (some 9) (.bin .rem (.t 8) (.k (.int .i64 10))),
         .op (some 10) (.bin .add (.k (.int .i64 48)) (.t 9)),
         .op (some 11) (.conv .u8 (.t 10)),
         .op (some 12) (.bslice 1 [.t 11]),
         .op (some 13) (.b2s (.t 12)),
         .op (some 14) (.mov (.t 3)),
         .op (some 15) (.bin .add (.t 13) (.t 14)),
         .op (some 3) (.mov (.t 15))])
      (.keep [0, 3] (.ops [.op (some 16) (.mov (.t 0)),
        .op (some 17) (.bin .quo (.t 16) (.k (.int .i64 10))),
        .op (some 0) (.mov (.t 17))]))))))))
  (.keep [3] (.seq (.ops [.op (some 18) (.mov (.t 3)),
     .op (some 19) (.bin .add (.k (.str [109])) (.t 18)),
     .op (some 2) (.mov (.t 19))])
  (.keep [2] (.ret))))))))))
theorem k_c_markText_fits : fitsF Try.prog 62 ⟨20, k_c_markText, [.t 2]⟩ = true := by kernel_rfl
theorem c_markText {k : Nat} (hk : k ≤ 1000000000000000000) : Con Try.prog noMv 62 [int k] [] (fun r h => r = str (mkT k) ∧ h = []) := by
  refine con_of2 k_c_markText_fits rfl fun C hP hmv => ?_
  unfold k_c_markText
  refine cx_seq ?_
  refine cx_ops ?_
  refine ax_q (q_mov rfl) ?_
  refine ax_nil ?_
  refine cx_keep rfl rfl ?_
  refine cx_seq ?_
  refine cx_seq ?_
  refine cx_ops ?_
  refine ax_q (q_mov rfl) ?_
  refine ax_q (q_ibin rfl rfl rfl) ?_
  refine ax_nil ?_
  refine cx_keep rfl rfl ?_
  refine cx_cond rfl (fun h1 => ?_) (fun h1 => ?_)
  · have h1 : k = 0 := by have := of_decide_eq_true h1; omega
    refine cx_seq ?_
    refine cx_ops ?_
    refine ax_q (q_mov rfl) ?_
    refine ax_nil ?_
    refine cx_keep rfl rfl ?_
    refine cx_ret (ret0 rfl rfl ?_)
    exact ⟨by rw [mkT, if_pos h1]; rfl, rfl⟩
  · have h1 : k ≠ 0 := by have := of_decide_eq_false h1; omega
    refine cx_skip ?_
    refine cx_keep rfl rfl ?_
    refine cx_seq ?_
    refine cx_ops ?_
    refine ax_q (q_mov rfl) ?_
    refine ax_nil ?_
    refine cx_keep rfl rfl ?_
    refine cx_seq ?_
    refine cx_block ?_
    refine cx_loopU (fun n (p : Nat × Str) => n = p.1 ∧ ∃ f, digs f p.1 p.2 = digs 20 k [] ∧ p.1 < 10 ^ f ∧ f + p.2.length ≤ 20 ∧ p.1 ≤ k) (fun p => [(0, int p.1), (3, str p.2)]) (fun _ => []) ⟨_, (k, []), ⟨rfl, 20, rfl, by omega, by simp, Nat.le_refl _⟩, by repeat (first | exact trivial | refine ⟨rfl, ?_⟩ | refine ⟨?_, ?_⟩)⟩ ?_
    rintro m ⟨m2, o⟩ ⟨rfl, f, hd, hm, hf, hmk⟩
    simp only at hd hm hf hmk ⊢
    refine cx_seq ?_
    refine cx_seq ?_
    refine cx_ops ?_
    refine ax_q (q_mov rfl) ?_
    refine ax_q (q_ibin rfl rfl rfl) ?_
    refine ax_nil ?_
    refine cx_keep rfl rfl ?_
    refine cx_cond rfl (fun h2 => ?_) (fun h2 => ?_)
    · have h2 : 0 < m := by have := of_decide_eq_true h2; omega
      obtain ⟨f, rfl⟩ : ∃ g, f = g + 1 := ⟨f - 1, by cases f with
        | zero => simp at hm; omega
        | succ f => rfl⟩
      have hd2 : ∃ f', digs f' (m / 10) (UInt8.ofNat (48 + m % 10) :: o) = digs 20 k [] ∧ m / 10 < 10 ^ f' ∧ f' + (UInt8.ofNat (48 + m % 10) :: o).length ≤ 20 ∧ m / 10 ≤ k := ⟨f, by rw [← hd, digs, if_neg (by omega)], by rw [Nat.pow_succ] at hm; omega, by simp only [List.length_cons]; omega, by omega⟩
      refine cx_skip ?_
      refine cx_keep rfl rfl ?_
      refine cx_block ?_
      refine cx_seq ?_
      refine cx_ops ?_
      refine ax_q (q_mov rfl) ?_
      refine ax_qe (r' := int ((m % 10 : Nat) : Int)) (q_idiv rfl rfl rfl (by decide)) (by rw [Int.tmod_eq_emod_of_nonneg (by omega)]; rfl) ?_
      refine ax_qe (r' := int ((48 + m % 10 : Nat) : Int)) (q_ibin rfl rfl rfl) (by rw [wi (by omega) (by omega)]; rfl) ?_
      refine ax_qe (r' := .d (.int .u8 ((UInt8.ofNat (48 + m % 10)).toNat : Int))) (q_conv rfl) (by rw [byteConv (by omega)]) ?_
      refine ax_e (e_bslice rfl (by decide) rfl rfl) ?_
      refine ax_q (q_b2s (bs := [UInt8.ofNat (48 + m % 10)]) rfl (src_osl rfl (by simp)) (by simp [byteRow]) ⟨_, _, _, _, .inl rfl⟩) ?_
      refine ax_q (q_mov rfl) ?_
      refine ax_qe (r' := str (UInt8.ofNat (48 + m % 10) :: o)) (q_sbin_add rfl rfl (by simp; omega)) (rfl) ?_
      refine ax_q (q_mov rfl) ?_
      refine ax_nil ?_
      refine cx_keep rfl rfl ?_
      refine cx_ops ?_
      refine ax_q (q_mov rfl) ?_
      refine ax_qe (r' := int ((m / 10 : Nat) : Int)) (q_idiv rfl rfl rfl (by decide)) (by rw [Int.tdiv_eq_ediv_of_nonneg (by omega), wi (by omega) (by omega)]; rfl) ?_
      refine ax_q (q_mov rfl) ?_
      refine ax_nil ?_
      exact ⟨_, (m / 10, UInt8.ofNat (48 + m % 10) :: o), by simp only; omega, ⟨rfl, hd2⟩, by repeat (first | exact trivial | refine ⟨rfl, ?_⟩ | refine ⟨?_, ?_⟩)⟩
    · have h2 : m = 0 := by have := of_decide_eq_false h2; omega
      refine cx_exit rfl ?_
      refine cx_keep rfl rfl ?_
      refine cx_seq ?_
      refine cx_ops ?_
      refine ax_q (q_mov rfl) ?_
      refine ax_q (q_sbin_add rfl rfl (by simp; omega)) ?_
      refine ax_q (q_mov rfl) ?_
      refine ax_nil ?_
      refine cx_keep rfl rfl ?_
      refine cx_ret (ret0 rfl rfl ?_)
      exact ⟨by subst h2; rw [digs0] at hd; rw [hd, mkT, if_neg h1]; rfl, rfl⟩


/- loop.example/g00332/laws.markExprNodeS -/
def k_c_markExprNodeS : XCode :=
  .seq (.ops [.op (some 4) (.mov (.k (.int .i64 0)))])
  (.keep [0, 1] (.seq (.seq (.ops [.op (some 5) (.mov (.k (.int .i64 0)))])
   (.keep [0, 1, 5] (.block 0 (.loop (.seq (.seq (.ops [.op (some 6) (.mov (.t 5)),
         .op (some 7) (.mov (.t 0)),
         .op (some 8) (.lenS (.t 7)),
         .op (some 9) (.bin .lss (.t 6) (.t 8))])
      (.keep [0, 1, 5, 9] (.cond (.t 9)
       (.skip)
       (.exit 0))))
     (.keep [0, 1, 5] (.seq (.block 1 (.seq (.ops [.op (some 12) (.mov (.t 0)),
          .op (some 13) (.mov (.t 5)),
          .op (some 14) (.mov (.t 1)),
          .op (some 15) (.iadr 7 (.t 12) (.t 13)),
          .op (some 16) (.fadr (.t 15) 0),
          .op none (.store 1 (.t 16) (.t 14))])
       (.keep [0, 1, 5] (.seq (.ops [.op (some 17) (.mov (.t 1)),
          .op (some 18) (.bin .add (.t 17) (.k (.int .i64 1))),
          .op (some 1) (.mov (.t 18))])
       (.keep [0, 1, 5] (.seq (.ops [.op (some 19) (.mov (.t 0)),
          .op (some 20) (.mov (.t 5)),
          .op (some 21) (.mov (.t 1)),
          .op (some 22) (.iadr 7 (.t 19) (.t 20)),
          .op (some 23) (.fadr (.t 22) 1),
          .op none (.store 1 (.t 23) (.t 21))])
       (.keep [0, 1, 5] (.seq (.ops [.op (some 24) (.mov (.t 1)),
          .op (some 25) (.bin .add (.t 24) (.k (.int .i64 1))),
          .op (some 1) (.mov (.t 25))])
       (.keep [0, 1, 5] (.seq (.ops [.op (some 26) (.mov (.t 0)),
          .op (some 27) (.mov (.t 5)),
          .op (some 28) (.mov (.t 1)),
          .op (some 29) (.iadr 7 (.t 26) (.t 27)),
          .op (some 30) (.fadr (.t 29) 2),
          .op none (.store 1 (.t 30) (.t 28))])
       (.keep [0, 1, 5] (.seq (.ops [.op (some 31) (.mov (.t 1)),
          .op (some 32) (.bin .add (.t 31) (.k (.int .i64 1))),
          .op (some 1) (.mov (.t 32))])
       (.keep [0, 1, 5] (.seq (.ops [.op (some 33) (.mov (.t 0)),
          .op (some 34) (.mov (.t 5)),
          .op (some 35) (.mov (.t 1)),
          .op (some 36) (.iadr 7 (.t 33) (.t 34)),
          .op (some 37) (.fadr (.t 36) 3),
          .op none (.store 1 (.t 37) (.t 35))])
       (.keep [0, 1, 5] (.seq (.ops [.op (some 38) (.mov (.t 1)),
          .op (some 39) (.bin .add (.t 38) (.k (.int .i64 1))),
          .op (some 1) (.mov (.t 39))])
       (.keep [0, 1, 5] (.seq (.ops [.op (some 40) (.mov (.t 0)),
          .op (some 41) (.mov (.t 5)),
          .op (some 42) (.mov (.t 1)),
          .op (some 43) (.iadr 7 (.t 40) (.t 41)),
          .op (some 44) (.fadr (.t 43) 4),
          .op (some 45) (.fadr (.t 44) 0),
          .op none (.store 1 (.t 45) (.t 42))])
       (.keep [0, 1, 5] (.seq (.ops [.op (some 46) (.mov (.t 1)),
          .op (some 47) (.bin .add (.t 46) (.k (.int .i64 1))),
          .op (some 1) (.mov (.t 47))])
       (.keep [0, 1, 5] (.seq (.ops [.op (some 48) (.mov (.t 0)),
          .op (some 49) (.mov (.t 5)),
          .op (some 50) (.mov (.t 1)),
          .op (some 51) (.iadr 7 (.t 48) (.t 49)),
          .op (some 52) (.fadr (.t 51) 4),
          .op (some 53) (.fadr (.t 52) 1),
          .op none (.store 1 (.t 53) (.t 50))])
       (.keep [0, 1, 5] (.seq (.ops [.op (some 54) (.mov (.t 1)),
          .op (some 55) (.bin .add (.t 54) (.k (.int .i64 1))),
          .op (some 1) (.mov (.t 55))])
       (.keep [0, 1, 5] (.seq (.ops [.op (some 56) (.mov (.t 0)),
          .op (some 57) (.mov (.t 5)),
          .op (some 58) (.mov (.t 1)),
          .call (some 59) 62 [.t 58],
          .op (some 60) (.iadr 7 (.t 56) (.t 57)),
          .op (some 61) (.fadr (.t 60) 4),
          .op (some 62) (.fadr (.t 61) 2),
          .op none (.store 1 (.t 62) (.t 59))])
       (.keep [0, 1, 5] (.ops [.op (some 63) (.mov (.t 1)),
         .op (some 64) (.bin .add (.t 63) (.k (.int .i64 1))),
         .op (some 1) (.mov (.t 64))]))))))))))))))))))))))))))))
     (.keep [0, 1, 5] (.ops [.op (some 10) (.mov (.t 5)),
       .op (some 11) (.bin .add (.t 10) (.k (.int .i64 1))),
       .op (some 5) (.mov (.t 11))])))))))))
  (.keep [1] (.seq (.ops [.op (some 65) (.mov (.t 1)),
     .op (some 4) (.mov (.t 65))])
  (.keep [4] (.ret))))))
theorem k_c_markExprNodeS_fits : fitsF Try.prog 61 ⟨66, k_c_markExprNodeS, [.t 4]⟩ = true := by kernel_rfl
theorem c_markExprNodeS {xs : List GExprNode} {k0 : Nat} (hw : k0 + 7 * xs.length ≤ 1000000000000000000) : Con Try.prog noMv 61 [.osl 1000 7 0 xs.length, int k0] [(1000, .rows 7 (xs.map GExprNode.row))] (fun r h => r = int ((k0 + 7 * xs.length : Nat) : Int) ∧ h = [(1000, .rows 7 ((markL GExprNode.mk1 7 k0 xs).map GExprNode.row))]) := by
  refine con_of2 k_c_markExprNodeS_fits rfl fun C hP hmv => ?_
  unfold k_c_markExprNodeS
  refine cx_seq ?_
  refine cx_ops ?_
  refine ax_q (q_mov rfl) ?_
  refine ax_nil ?_
  refine cx_keep rfl rfl ?_
  refine cx_seq ?_
  refine cx_seq ?_
  refine cx_ops ?_
  refine ax_q (q_mov rfl) ?_
  refine ax_nil ?_
  refine cx_keep rfl rfl ?_
  refine cx_block ?_
  refine cx_loopU (fun n k => k ≤ xs.length ∧ n = xs.length - k) (fun k : Nat => [(1, int ((k0 + 7 * k : Nat) : Int)), (5, int k)]) (fun k => [(1000, .rows 7 ((markL GExprNode.mk1 7 k0 (xs.take k) ++ xs.drop k).map GExprNode.row))]) ⟨_, 0, ⟨Nat.zero_le _, rfl⟩, by repeat (first | exact trivial | refine ⟨rfl, ?_⟩ | refine ⟨?_, ?_⟩)⟩ ?_
  rintro n k ⟨hk, rfl⟩
  refine cx_seq ?_
  refine cx_seq ?_
  refine cx_ops ?_
  refine ax_q (q_mov rfl) ?_
  refine ax_q (q_mov rfl) ?_
  first | refine ax_q (q_lenS_map rfl) ?_ | refine ax_q (q_lenS_osl rfl) ?_ | refine ax_q (q_lenS_zs rfl) ?_ | refine ax_q (q_lenS rfl) ?_
  refine ax_q (q_ibin rfl rfl rfl) ?_
  refine ax_nil ?_
  refine cx_keep rfl rfl ?_
  refine cx_cond rfl (fun h0 => ?_) (fun h0 => ?_)
  · have h0 := dT h0
    have h1x : k < xs.length := by omega
    have h1l : k < ((markL GExprNode.mk1 7 k0 (xs.take k) ++ xs.drop k).map GExprNode.row).length := by rw [markL_mlen]; exact h1x
    refine cx_skip ?_
    refine cx_keep rfl rfl ?_
    refine cx_seq ?_
    refine cx_block ?_
    refine cx_seq ?_
    refine cx_ops ?_
    refine ax_q (q_mov rfl) ?_
    refine ax_q (q_mov rfl) ?_
    refine ax_q (q_mov rfl) ?_
    refine ax_q (q_ixo rfl rfl h1x) ?_
    first | refine ax_q (q_fadr_ptr rfl) ?_ | refine ax_q (q_fadr_rptr rfl) ?_ | refine ax_q (q_fadr_ip rfl) ?_
    refine ax_e (e_str (q := [.int .i64 ((k0 + 7 * k : Nat) : Int), .int .i64 xs[k].A, .int .i64 xs[k].B, .int .i64 xs[k].Column, .int .i64 xs[k].V.Kind, .int .i64 xs[k].V.N, .str xs[k].V.T]) rfl rfl rfl rfl rfl rfl (markL_at h1x) rfl rfl (rfl)) ?_
    refine ax_nil ?_
    refine cx_keep rfl rfl ?_
    refine cx_seq ?_
    refine cx_ops ?_
    refine ax_q (q_mov rfl) ?_
    refine ax_qe (r' := int ((k0 + 7 * k + 1 : Nat) : Int)) (q_ibin rfl rfl rfl) (by rw [wi (by omega) (by omega)]; rfl) ?_
    refine ax_q (q_mov rfl) ?_
    refine ax_nil ?_
    refine cx_keep rfl rfl ?_
    refine cx_seq ?_
    refine cx_ops ?_
    refine ax_q (q_mov rfl) ?_
    refine ax_q (q_mov rfl) ?_
    refine ax_q (q_mov rfl) ?_
    refine ax_q (q_ixo rfl rfl h1x) ?_
    first | refine ax_q (q_fadr_ptr rfl) ?_ | refine ax_q (q_fadr_rptr rfl) ?_ | refine ax_q (q_fadr_ip rfl) ?_
    refine ax_e (e_str (q := [.int .i64 ((k0 + 7 * k : Nat) : Int), .int .i64 ((k0 + 7 * k + 1 : Nat) : Int), .int .i64 xs[k].B, .int .i64 xs[k].Column, .int .i64 xs[k].V.Kind, .int .i64 xs[k].V.N, .str xs[k].V.T]) rfl rfl rfl rfl rfl rfl (setAt h1l) rfl rfl (set_set' rfl)) ?_
    refine ax_nil ?_
    refine cx_keep rfl rfl ?_
    refine cx_seq ?_
    refine cx_ops ?_
    refine ax_q (q_mov rfl) ?_
    refine ax_qe (r' := int ((k0 + 7 * k + 2 : Nat) : Int)) (q_ibin rfl rfl rfl) (by rw [wi (by omega) (by omega)]; rfl) ?_
    refine ax_q (q_mov rfl) ?_
    refine ax_nil ?_
    refine cx_keep rfl rfl ?_
    refine cx_seq ?_
    refine cx_ops ?_
    refine ax_q (q_mov rfl) ?_
    refine ax_q (q_mov rfl) ?_
    refine ax_q (q_mov rfl) ?_
    refine ax_q (q_ixo rfl rfl h1x) ?_
    first | refine ax_q (q_fadr_ptr rfl) ?_ | refine ax_q (q_fadr_rptr rfl) ?_ | refine ax_q (q_fadr_ip rfl) ?_
    refine ax_e (e_str (q := [.int .i64 ((k0 + 7 * k : Nat) : Int), .int .i64 ((k0 + 7 * k + 1 : Nat) : Int), .int .i64 ((k0 + 7 * k + 2 : Nat) : Int), .int .i64 xs[k].Column, .int .i64 xs[k].V.Kind, .int .i64 xs[k].V.N, .str xs[k].V.T]) rfl rfl rfl rfl rfl rfl (setAt h1l) rfl rfl (set_set' rfl)) ?_
    refine ax_nil ?_
    refine cx_keep rfl rfl ?_
    refine cx_seq ?_
    refine cx_ops ?_
    refine ax_q (q_mov rfl) ?_
    refine ax_qe (r' := int ((k0 + 7 * k + 3 : Nat) : Int)) (q_ibin rfl rfl rfl) (by rw [wi (by omega) (by omega)]; rfl) ?_
    refine ax_q (q_mov rfl) ?_
    refine ax_nil ?_
    refine cx_keep rfl rfl ?_
    refine cx_seq ?_
    refine cx_ops ?_
    refine ax_q (q_mov rfl) ?_
    refine ax_q (q_mov rfl) ?_
    refine ax_q (q_mov rfl) ?_
    refine ax_q (q_ixo rfl rfl h1x) ?_
    first | refine ax_q (q_fadr_ptr rfl) ?_ | refine ax_q (q_fadr_rptr rfl) ?_ | refine ax_q (q_fadr_ip rfl) ?_
    refine ax_e (e_str (q := [.int .i64 ((k0 + 7 * k : Nat) : Int), .int .i64 ((k0 + 7 * k + 1 : Nat) : Int), .int .i64 ((k0 + 7 * k + 2 : Nat) : Int), .int .i64 ((k0 + 7 * k + 3 : Nat) : Int), .int .i64 xs[k].V.Kind, .int .i64 xs[k].V.N, .str xs[k].V.T]) rfl rfl rfl rfl rfl rfl (setAt h1l) rfl rfl (set_set' rfl)) ?_
    refine ax_nil ?_
    refine cx_keep rfl rfl ?_
    refine cx_seq ?_
    refine cx_ops ?_
    refine ax_q (q_mov rfl) ?_
    refine ax_qe (r' := int ((k0 + 7 * k + 4 : Nat) : Int)) (q_ibin rfl rfl rfl) (by rw [wi (by omega) (by omega)]; rfl) ?_
    refine ax_q (q_mov rfl) ?_
    refine ax_nil ?_
    refine cx_keep rfl rfl ?_
    refine cx_seq ?_
    refine cx_ops ?_
    refine ax_q (q_mov rfl) ?_
    refine ax_q (q_mov rfl) ?_
    refine ax_q (q_mov rfl) ?_
    refine ax_q (q_ixo rfl rfl h1x) ?_
    first | refine ax_q (q_fadr_ptr rfl) ?_ | refine ax_q (q_fadr_rptr rfl) ?_ | refine ax_q (q_fadr_ip rfl) ?_
    first | refine ax_q (q_fadr_ptr rfl) ?_ | refine ax_q (q_fadr_rptr rfl) ?_ | refine ax_q (q_fadr_ip rfl) ?_
    refine ax_e (e_str (q := [.int .i64 ((k0 + 7 * k : Nat) : Int), .int .i64 ((k0 + 7 * k + 1 : Nat) : Int), .int .i64 ((k0 + 7 * k + 2 : Nat) : Int), .int .i64 ((k0 + 7 * k + 3 : Nat) : Int), .int .i64 ((k0 + 7 * k + 4 : Nat) : Int), .int .i64 xs[k].V.N, .str xs[k].V.T]) rfl rfl rfl rfl rfl rfl (setAt h1l) rfl rfl (set_set' rfl)) ?_
    refine ax_nil ?_
    refine cx_keep rfl rfl ?_
    refine cx_seq ?_
    refine cx_ops ?_
    refine ax_q (q_mov rfl) ?_
    refine ax_qe (r' := int ((k0 + 7 * k + 5 : Nat) : Int)) (q_ibin rfl rfl rfl) (by rw [wi (by omega) (by omega)]; rfl) ?_
    refine ax_q (q_mov rfl) ?_
    refine ax_nil ?_
    refine cx_keep rfl rfl ?_
    refine cx_seq ?_
    refine cx_ops ?_
    refine ax_q (q_mov rfl) ?_
    refine ax_q (q_mov rfl) ?_
    refine ax_q (q_mov rfl) ?_
    refine ax_q (q_ixo rfl rfl h1x) ?_
    first | refine ax_q (q_fadr_ptr rfl) ?_ | refine ax_q (q_fadr_rptr rfl) ?_ | refine ax_q (q_fadr_ip rfl) ?_
    first | refine ax_q (q_fadr_ptr rfl) ?_ | refine ax_q (q_fadr_rptr rfl) ?_ | refine ax_q (q_fadr_ip rfl) ?_
    refine ax_e (e_str (q := [.int .i64 ((k0 + 7 * k : Nat) : Int), .int .i64 ((k0 + 7 * k + 1 : Nat) : Int), .int .i64 ((k0 + 7 * k + 2 : Nat) : Int), .int .i64 ((k0 + 7 * k + 3 : Nat) : Int), .int .i64 ((k0 + 7 * k + 4 : Nat) : Int), .int .i64 ((k0 + 7 * k + 5 : Nat) : Int), .str xs[k].V.T]) rfl rfl rfl rfl rfl rfl (setAt h1l) rfl rfl (set_set' rfl)) ?_
    refine ax_nil ?_
    refine cx_keep rfl rfl ?_
    refine cx_seq ?_
    refine cx_ops ?_
    refine ax_q (q_mov rfl) ?_
    refine ax_qe (r' := int ((k0 + 7 * k + 6 : Nat) : Int)) (q_ibin rfl rfl rfl) (by rw [wi (by omega) (by omega)]; rfl) ?_
    refine ax_q (q_mov rfl) ?_
    refine ax_nil ?_
    refine cx_keep rfl rfl ?_
    refine cx_seq ?_
    refine cx_ops ?_
    refine ax_q (q_mov rfl) ?_
    refine ax_q (q_mov rfl) ?_
    refine ax_q (q_mov rfl) ?_
    refine ax_call rfl (vc_pure0 (c_markText (by omega)) hP rfl rfl ?_)
    refine ax_q (q_ixo rfl rfl h1x) ?_
    first | refine ax_q (q_fadr_ptr rfl) ?_ | refine ax_q (q_fadr_rptr rfl) ?_ | refine ax_q (q_fadr_ip rfl) ?_
    first | refine ax_q (q_fadr_ptr rfl) ?_ | refine ax_q (q_fadr_rptr rfl) ?_ | refine ax_q (q_fadr_ip rfl) ?_
    refine ax_e (e_str (q := GExprNode.row (GExprNode.mk1 (k0 + 7 * k) xs[k])) rfl rfl rfl rfl rfl rfl (setAt h1l) rfl rfl (set_set' (markL_set h1x))) ?_
    refine ax_nil ?_
    refine cx_keep rfl rfl ?_
    refine cx_ops ?_
    refine ax_q (q_mov rfl) ?_
    refine ax_qe (r' := int ((k0 + 7 * k + 7 : Nat) : Int)) (q_ibin rfl rfl rfl) (by rw [wi (by omega) (by omega)]; rfl) ?_
    refine ax_q (q_mov rfl) ?_
    refine ax_nil ?_
    refine cx_keep rfl rfl ?_
    refine cx_ops ?_
    refine ax_q (q_mov rfl) ?_
    refine ax_qe (r' := int ((k + 1 : Nat) : Int)) (q_ibin rfl rfl rfl) (by rw [wi (by omega) (by omega)]; rfl) ?_
    refine ax_q (q_mov rfl) ?_
    refine ax_nil ?_
    exact ⟨_, k + 1, by omega, ⟨by omega, rfl⟩, by repeat (first | exact trivial | refine ⟨rfl, ?_⟩ | refine ⟨?_, ?_⟩)⟩
  · have h0 := dF h0
    refine cx_exit rfl ?_
    refine cx_keep rfl rfl ?_
    refine cx_seq ?_
    refine cx_ops ?_
    refine ax_q (q_mov rfl) ?_
    refine ax_q (q_mov rfl) ?_
    refine ax_nil ?_
    refine cx_keep rfl rfl ?_
    have hk2 : k = xs.length := by omega
    subst hk2
    refine cx_ret (retN id [1000] rfl rfl rfl rfl rfl ?_)
    exact ⟨rfl, by rw [markL_full]; rfl⟩


/- loop.example/g00332/laws.markExpr -/
def k_c_markExpr : XCode :=
  .seq (.ops [.op (some 2) (.box (.t 0)),
     .op (some 4) (.mov (.k (.int .i64 0)))])
  (.keep [1, 2] (.seq (.ops [.op (some 5) (.fadr (.t 2) 0),
     .op (some 6) (.load1 (.t 5)),
     .op (some 7) (.mov (.t 1)),
     .call (some 8) 61 [.t 6, .t 7],
     .op (some 1) (.mov (.t 8))])
  (.keep [1] (.seq (.ops [.op (some 9) (.mov (.t 1)),
     .op (some 4) (.mov (.t 9))])
  (.keep [4] (.ret))))))
theorem k_c_markExpr_fits : fitsF Try.prog 27 ⟨10, k_c_markExpr, [.t 4]⟩ = true := by kernel_rfl
theorem c_markExpr {a : GExpr} {k0 : Nat} (hw : GExpr.mkN k0 a ≤ 1000000000000000000) : Con Try.prog noMv 27 [a.avO 1000, int k0] (a.hO 1000) (fun r h => r = int ((GExpr.mkN k0 a : Nat) : Int) ∧ h = (GExpr.mkS k0 a).hO 1000) := by
  refine con_of2 k_c_markExpr_fits rfl fun C hP hmv => ?_
  unfold k_c_markExpr
  refine cx_seq ?_
  refine cx_ops ?_
  refine ax_e (e_box rfl rfl (by decide) rfl rfl rfl) ?_
  refine ax_q (q_mov rfl) ?_
  refine ax_nil ?_
  refine cx_keep rfl rfl ?_
  refine cx_seq ?_
  refine cx_ops ?_
  first | refine ax_q (q_fadr_ptr rfl) ?_ | refine ax_q (q_fadr_rptr rfl) ?_ | refine ax_q (q_fadr_ip rfl) ?_
  first | refine ax_q (q_load1_ptr rfl rfl rfl) ?_ | refine ax_q (q_load1_ip rfl) ?_ | refine ax_q (q_load1_rptr rfl rfl rfl rfl) ?_ | refine ax_q (q_load1_rptr rfl rfl (by assumption) rfl) ?_ | refine ax_q (q_load1_rptr rfl rfl (mapAt (by first | assumption | omega)) rfl) ?_
  refine ax_q (q_mov rfl) ?_
  refine ax_call rfl (vcall_own (c_markExprNodeS (xs := a.Nodes) (k0 := k0) (by unfold GExpr.mkN at hw; omega)) hP hmv false (fun _ => 1000) [1000] ⟨rfl, rfl, rfl, rfl, ⟨rfl, trivial⟩, rfl, rfl, rfl⟩ (.pass rfl rfl (.pass rfl rfl .nil)) ?_)
  rintro r h ⟨rfl, rfl⟩
  refine ⟨fun _ => 1000, [], ⟨rfl, rfl, rfl, rfl, fun _ h => (by cases h with | head => rfl | tail _ h => cases h), rfl, rfl, fun h => by cases h⟩, ?_⟩
  refine ax_q (q_mov rfl) ?_
  refine ax_nil ?_
  refine cx_keep rfl rfl ?_
  refine cx_seq ?_
  refine cx_ops ?_
  refine ax_q (q_mov rfl) ?_
  refine ax_q (q_mov rfl) ?_
  refine ax_nil ?_
  refine cx_keep rfl rfl ?_
  refine cx_ret (retN id [1000] rfl rfl rfl rfl rfl ?_)
  exact ⟨rfl, rfl⟩


/- loop.example/g00332/laws.markInsS -/
def k_c_markInsS : XCode :=
  .seq (.ops [.op (some 4) (.mov (.k (.int .i64 0)))])
  (.keep [0, 1] (.seq (.seq (.ops [.op (some 5) (.mov (.k (.int .i64 0)))])
   (.keep [0, 1, 5] (.block 0 (.loop (.seq (.seq (.ops [.op (some 6) (.mov (.t 5)),
         .op (some 7) (.mov (.t 0)),
         .op (some 8) (.lenS (.t 7)),
         .op (some 9) (.bin .lss (.t 6) (.t 8))])
      (.keep [0, 1, 5, 9] (.cond (.t 9)
       (.skip)
       (.exit 0))))
     (.keep [0, 1, 5] (.seq (.block 1 (.seq (.ops [.op (some 12) (.mov (.t 0)),
          .op (some 13) (.mov (.t 5)),
          .op (some 14) (.mov (.t 1)),
          .op (some 15) (.iadr 5 (.t 12) (.t 13)),
          .op (some 16) (.fadr (.t 15) 0),
          .op none (.store 1 (.t 16) (.t 14))])
       (.keep [0, 1, 5] (.seq (.ops [.op (some 17) (.mov (.t 1)),
          .op (some 18) (.bin .add (.t 17) (.k (.int .i64 1))),
          .op (some 1) (.mov (.t 18))])
       (.keep [0, 1, 5] (.seq (.ops [.op (some 19) (.mov (.t 0)),
          .op (some 20) (.mov (.t 5)),
          .op (some 21) (.mov (.t 1)),
          .op (some 22) (.iadr 5 (.t 19) (.t 20)),
          .op (some 23) (.fadr (.t 22) 1),
          .op none (.store 1 (.t 23) (.t 21))])
       (.keep [0, 1, 5] (.seq (.ops [.op (some 24) (.mov (.t 1)),
          .op (some 25) (.bin .add (.t 24) (.k (.int .i64 1))),
          .op (some 1) (.mov (.t 25))])
       (.keep [0, 1, 5] (.seq (.ops [.op (some 26) (.mov (.t 0)),
          .op (some 27) (.mov (.t 5)),
          .op (some 28) (.mov (.t 1)),
          .op (some 29) (.iadr 5 (.t 26) (.t 27)),
          .op (some 30) (.fadr (.t 29) 2),
          .op (some 31) (.fadr (.t 30) 0),
          .op none (.store 1 (.t 31) (.t 28))])
       (.keep [0, 1, 5] (.seq (.ops [.op (some 32) (.mov (.t 1)),
          .op (some 33) (.bin .add (.t 32) (.k (.int .i64 1))),
          .op (some 1) (.mov (.t 33))])
       (.keep [0, 1, 5] (.seq (.ops [.op (some 34) (.mov (.t 0)),
          .op (some 35) (.mov (.t 5)),
          .op (some 36) (.mov (.t 1)),
          .op (some 37) (.iadr 5 (.t 34) (.t 35)),
          .op (some 38) (.fadr (.t 37) 2),
          .op (some 39) (.fadr (.t 38) 1),
          .op none (.store 1 (.t 39) (.t 36))])
       (.keep [0, 1, 5] (.seq (.ops [.op (some 40) (.mov (.t 1)),
          .op (some 41) (.bin .add (.t 40) (.k (.int .i64 1))),
          .op (some 1) (.mov (.t 41))])
       (.keep [0, 1, 5] (.seq (.ops [.op (some 42) (.mov (.t 0)),
          .op (some 43) (.mov (.t 5)),
          .op (some 44) (.mov (.t 1)),
          .call (some 45) 62 [.t 44],
          .op (some 46) (.iadr 5 (.t 42) (.t 43)),
          .op (some 47) (.fadr (.t 46) 2),
          .op (some 48) (.fadr (.t 47) 2),
          .op none (.store 1 (.t 48) (.t 45))])
       (.keep [0, 1, 5] (.ops [.op (some 49) (.mov (.t 1)),
         .op (some 50) (.bin .add (.t 49) (.k (.int .i64 1))),
         .op (some 1) (.mov (.t 50))]))))))))))))))))))))
     (.keep [0, 1, 5] (.ops [.op (some 10) (.mov (.t 5)),
       .op (some 11) (.bin .add (.t 10) (.k (.int .i64 1))),
       .op (some 5) (.mov (.t 11))])))))))))
  (.keep [1] (.seq (.ops [.op (some 51) (.mov (.t 1)),
     .op (some 4) (.mov (.t 51))])
  (.keep [4] (.ret))))))
theorem k_c_markInsS_fits : fitsF Try.prog 28 ⟨52, k_c_markInsS, [.t 4]⟩ = true := by kernel_rfl
theorem c_markInsS {xs : List GIns} {k0 : Nat} (hw : k0 + 5 * xs.length ≤ 1000000000000000000) : Con Try.prog noMv 28 [.osl 1000 5 0 xs.length, int k0] [(1000, .rows 5 (xs.map GIns.row))] (fun r h => r = int ((k0 + 5 * xs.length : Nat) : Int) ∧ h = [(1000, .rows 5 ((markL GIns.mk1 5 k0 xs).map GIns.row))]) := by
  refine con_of2 k_c_markInsS_fits rfl fun C hP hmv => ?_
  unfold k_c_markInsS
  refine cx_seq ?_
  refine cx_ops ?_
  refine ax_q (q_mov rfl) ?_
  refine ax_nil ?_
  refine cx_keep rfl rfl ?_
  refine cx_seq ?_
  refine cx_seq ?_
  refine cx_ops ?_
  refine ax_q (q_mov rfl) ?_
  refine ax_nil ?_
  refine cx_keep rfl rfl ?_
  refine cx_block ?_
  refine cx_loopU (fun n k => k ≤ xs.length ∧ n = xs.length - k) (fun k : Nat => [(1, int ((k0 + 5 * k : Nat) : Int)), (5, int k)]) (fun k => [(1000, .rows 5 ((markL GIns.mk1 5 k0 (xs.take k) ++ xs.drop k).map GIns.row))]) ⟨_, 0, ⟨Nat.zero_le _, rfl⟩, by repeat (first | exact trivial | refine ⟨rfl, ?_⟩ | refine ⟨?_, ?_⟩)⟩ ?_
  rintro n k ⟨hk, rfl⟩
  refine cx_seq ?_
  refine cx_seq ?_
  refine cx_ops ?_
  refine ax_q (q_mov rfl) ?_
  refine ax_q (q_mov rfl) ?_
  first | refine ax_q (q_lenS_map rfl) ?_ | refine ax_q (q_lenS_osl rfl) ?_ | refine ax_q (q_lenS_zs rfl) ?_ | refine ax_q (q_lenS rfl) ?_
  refine ax_q (q_ibin rfl rfl rfl) ?_
  refine ax_nil ?_
  refine cx_keep rfl rfl ?_
  refine cx_cond rfl (fun h0 => ?_) (fun h0 => ?_)
  · have h0 := dT h0
    have h1x : k < xs.length := by omega
    have h1l : k < ((markL GIns.mk1 5 k0 (xs.take k) ++ xs.drop k).map GIns.row).length := by rw [markL_mlen]; exact h1x
    refine cx_skip ?_
    refine cx_keep rfl rfl ?_
    refine cx_seq ?_
    refine cx_block ?_
    refine cx_seq ?_
    refine cx_ops ?_
    refine ax_q (q_mov rfl) ?_
    refine ax_q (q_mov rfl) ?_
    refine ax_q (q_mov rfl) ?_
    refine ax_q (q_ixo rfl rfl h1x) ?_
    first | refine ax_q (q_fadr_ptr rfl) ?_ | refine ax_q (q_fadr_rptr rfl) ?_ | refine ax_q (q_fadr_ip rfl) ?_
    refine ax_e (e_str (q := [.int .i64 ((k0 + 5 * k : Nat) : Int), .int .i64 xs[k].N, .int .i64 xs[k].V.Kind, .int .i64 xs[k].V.N, .str xs[k].V.T]) rfl rfl rfl rfl rfl rfl (markL_at h1x) rfl rfl (rfl)) ?_
    refine ax_nil ?_
    refine cx_keep rfl rfl ?_
    refine cx_seq ?_
    refine cx_ops ?_
    refine ax_q (q_mov rfl) ?_
    refine ax_qe (r' := int ((k0 + 5 * k + 1 : Nat) : Int)) (q_ibin rfl rfl rfl) (by rw [wi (by omega) (by omega)]; rfl) ?_
    refine ax_q (q_mov rfl) ?_
    refine ax_nil ?_
    refine cx_keep rfl rfl ?_
    refine cx_seq ?_
    refine cx_ops ?_
    refine ax_q (q_mov rfl) ?_
    refine ax_q (q_mov rfl) ?_
    refine ax_q (q_mov rfl) ?_
    refine ax_q (q_ixo rfl rfl h1x) ?_
    first | refine ax_q (q_fadr_ptr rfl) ?_ | refine ax_q (q_fadr_rptr rfl) ?_ | refine ax_q (q_fadr_ip rfl) ?_
    refine ax_e (e_str (q := [.int .i64 ((k0 + 5 * k : Nat) : Int), .int .i64 ((k0 + 5 * k + 1 : Nat) : Int), .int .i64 xs[k].V.Kind, .int .i64 xs[k].V.N, .str xs[k].V.T]) rfl rfl rfl rfl rfl rfl (setAt h1l) rfl rfl (set_set' rfl)) ?_
    refine ax_nil ?_
    refine cx_keep rfl rfl ?_
    refine cx_seq ?_
    refine cx_ops ?_
    refine ax_q (q_mov rfl) ?_
    refine ax_qe (r' := int ((k0 + 5 * k + 2 : Nat) : Int)) (q_ibin rfl rfl rfl) (by rw [wi (by omega) (by omega)]; rfl) ?_
    refine ax_q (q_mov rfl) ?_
    refine ax_nil ?_
    refine cx_keep rfl rfl ?_
    refine cx_seq ?_
    refine cx_ops ?_
    refine ax_q (q_mov rfl) ?_
    refine ax_q (q_mov rfl) ?_
    refine ax_q (q_mov rfl) ?_
    refine ax_q (q_ixo rfl rfl h1x) ?_
    first | refine ax_q (q_fadr_ptr rfl) ?_ | refine ax_q (q_fadr_rptr rfl) ?_ | refine ax_q (q_fadr_ip rfl) ?_
    first | refine ax_q (q_fadr_ptr rfl) ?_ | refine ax_q (q_fadr_rptr rfl) ?_ | refine ax_q (q_fadr_ip rfl) ?_
    refine ax_e (e_str (q := [.int .i64 ((k0 + 5 * k : Nat) : Int), .int .i64 ((k0 + 5 * k + 1 : Nat) : Int), .int .i64 ((k0 + 5 * k + 2 : Nat) : Int), .int .i64 xs[k].V.N, .str xs[k].V.T]) rfl rfl rfl rfl rfl rfl (setAt h1l) rfl rfl (set_set' rfl)) ?_
    refine ax_nil ?_
    refine cx_keep rfl rfl ?_
    refine cx_seq ?_
    refine cx_ops ?_
    refine ax_q (q_mov rfl) ?_
    refine ax_qe (r' := int ((k0 + 5 * k + 3 : Nat) : Int)) (q_ibin rfl rfl rfl) (by rw [wi (by omega) (by omega)]; rfl) ?_
    refine ax_q (q_mov rfl) ?_
    refine ax_nil ?_
    refine cx_keep rfl rfl ?_
    refine cx_seq ?_
    refine cx_ops ?_
    refine ax_q (q_mov rfl) ?_
    refine ax_q (q_mov rfl) ?_
    refine ax_q (q_mov rfl) ?_
    refine ax_q (q_ixo rfl rfl h1x) ?_
    first | refine ax_q (q_fadr_ptr rfl) ?_ | refine ax_q (q_fadr_rptr rfl) ?_ | refine ax_q (q_fadr_ip rfl) ?_
    first | refine ax_q (q_fadr_ptr rfl) ?_ | refine ax_q (q_fadr_rptr rfl) ?_ | refine ax_q (q_fadr_ip rfl) ?_
    refine ax_e (e_str (q := [.int .i64 ((k0 + 5 * k : Nat) : Int), .int .i64 ((k0 + 5 * k + 1 : Nat) : Int), .int .i64 ((k0 + 5 * k + 2 : Nat) : Int), .int .i64 ((k0 + 5 * k + 3 : Nat) : Int), .str xs[k].V.T]) rfl rfl rfl rfl rfl rfl (setAt h1l) rfl rfl (set_set' rfl)) ?_
    refine ax_nil ?_
    refine cx_keep rfl rfl ?_
    refine cx_seq ?_
    refine cx_ops ?_
    refine ax_q (q_mov rfl) ?_
    refine ax_qe (r' := int ((k0 + 5 * k + 4 : Nat) : Int)) (q_ibin rfl rfl rfl) (by rw [wi (by omega) (by omega)]; rfl) ?_
    refine ax_q (q_mov rfl) ?_
    refine ax_nil ?_
    refine cx_keep rfl rfl ?_
    refine cx_seq ?_
    refine cx_ops ?_
    refine ax_q (q_mov rfl) ?_
    refine ax_q (q_mov rfl) ?_
    refine ax_q (q_mov rfl) ?_
    refine ax_call rfl (vc_pure0 (c_markText (by omega)) hP rfl rfl ?_)
    refine ax_q (q_ixo rfl rfl h1x) ?_
    first | refine ax_q (q_fadr_ptr rfl) ?_ | refine ax_q (q_fadr_rptr rfl) ?_ | refine ax_q (q_fadr_ip rfl) ?_
    first | refine ax_q (q_fadr_ptr rfl) ?_ | refine ax_q (q_fadr_rptr rfl) ?_ | refine ax_q (q_fadr_ip rfl) ?_
    refine ax_e (e_str (q := GIns.row (GIns.mk1 (k0 + 5 * k) xs[k])) rfl rfl rfl rfl rfl rfl (setAt h1l) rfl rfl (set_set' (markL_set h1x))) ?_
    refine ax_nil ?_
    refine cx_keep rfl rfl ?_
    refine cx_ops ?_
    refine ax_q (q_mov rfl) ?_
    refine ax_qe (r' := int ((k0 + 5 * k + 5 : Nat) : Int)) (q_ibin rfl rfl rfl) (by rw [wi (by omega) (by omega)]; rfl) ?_
    refine ax_q (q_mov rfl) ?_
    refine ax_nil ?_
    refine cx_keep rfl rfl ?_
    refine cx_ops ?_
    refine ax_q (q_mov rfl) ?_
    refine ax_qe (r' := int ((k + 1 : Nat) : Int)) (q_ibin rfl rfl rfl) (by rw [wi (by omega) (by omega)]; rfl) ?_
    refine ax_q (q_mov rfl) ?_
    refine ax_nil ?_
    exact ⟨_, k + 1, by omega, ⟨by omega, rfl⟩, by repeat (first | exact trivial | refine ⟨rfl, ?_⟩ | refine ⟨?_, ?_⟩)⟩
  · have h0 := dF h0
    refine cx_exit rfl ?_
    refine cx_keep rfl rfl ?_
    refine cx_seq ?_
    refine cx_ops ?_
    refine ax_q (q_mov rfl) ?_
    refine ax_q (q_mov rfl) ?_
    refine ax_nil ?_
    refine cx_keep rfl rfl ?_
    have hk2 : k = xs.length := by omega
    subst hk2
    refine cx_ret (retN id [1000] rfl rfl rfl rfl rfl ?_)
    exact ⟨rfl, by rw [markL_full]; rfl⟩


/- loop.example/g00332/laws.heldInsS -/
def k_c_heldInsS : XCode :=
  .seq (.ops [.op (some 4) (.mov (.k (.int .i64 0)))])
  (.keep [0, 1] (.seq (.seq (.ops [.op (some 5) (.mov (.k (.int .i64 0)))])
   (.keep [0, 1, 5] (.block 0 (.loop (.seq (.seq (.ops [.op (some 6) (.mov (.t 5)),
         .op (some 7) (.mov (.t 0)),
         .op (some 8) (.lenS (.t 7)),
         .op (some 9) (.bin .lss (.t 6) (.t 8))])
      (.keep [0, 1, 5, 9] (.cond (.t 9)
       (.skip)
       (.exit 0))))
     (.keep [0, 1, 5] (.seq (.block 1 (.seq (.seq (.ops [.op (some 12) (.mov (.t 0)),
           .op (some 13) (.mov (.t 5)),
           .op (some 14) (.iadr 5 (.t 12) (.t 13)),
           .op (some 15) (.fadr (.t 14) 0),
           .op (some 16) (.load1 (.t 15)),
           .op (some 17) (.mov (.t 1)),
           .op (some 18) (.bin .neq (.t 16) (.t 17))])
        (.keep [0, 1, 5, 18] (.cond (.t 18)
         (.seq (.ops [.op (some 4) (.mov (.k (.int .i64 (-1))))])
          (.keep [4] (.ret)))
         (.skip))))
       (.keep [0, 1, 5] (.seq (.ops [.op (some 19) (.mov (.t 1)),
          .op (some 20) (.bin .add (.t 19) (.k (.int .i64 1))),
          .op (some 1) (.mov (.t 20))])
       (.keep [0, 1, 5] (.seq (.seq (.ops [.op (some 21) (.mov (.t 0)),
           .op (some 22) (.mov (.t 5)),
           .op (some 23) (.iadr 5 (.t 21) (.t 22)),
           .op (some 24) (.fadr (.t 23) 1),
           .op (some 25) (.load1 (.t 24)),
           .op (some 26) (.mov (.t 1)),
           .op (some 27) (.bin .neq (.t 25) (.t 26))])
        (.keep [0, 1, 5, 27] (.cond (.t 27)
         (.seq (.ops [.op (some 4) (.mov (.k (.int .i64 (-1))))])
          (.keep [4] (.ret)))
         (.skip))))
       (.keep [0, 1, 5] (.seq (.ops [.op (some 28) (.mov (.t 1)),
          .op (some 29) (.bin .add (.t 28) (.k (.int .i64 1))),
          .op (some 1) (.mov (.t 29))])
       (.keep [0, 1, 5] (.seq (.seq (.ops [.op (some 30) (.mov (.t 0)),
           .op (some 31) (.mov (.t 5)),
           .op (some 32) (.iadr 5 (.t 30) (.t 31)),
           .op (some 33) (.fadr (.t 32) 2),
           .op (some 34) (.fadr (.t 33) 0),
           .op (some 35) (.load1 (.t 34)),
           .op (some 36) (.mov (.t 1)),
           .op (some 37) (.bin .neq (.t 35) (.t 36))])
        (.keep [0, 1, 5, 37] (.cond (.t 37)
         (.seq (.ops [.op (some 4) (.mov (.k (.int .i64 (-1))))])
          (.keep [4] (.ret)))
         (.skip))))
       (.keep [0, 1, 5] (.seq (.ops [.op (some 38) (.mov (.t 1)),
          .op (some 39) (.bin .add (.t 38) (.k (.int .i64 1))),
          .op (some 1) (.mov (.t 39))])
       (.keep [0, 1, 5] (.seq (.seq (.ops [.op (some 40) (.mov (.t 0)),
           .op (some 41) (.mov (.t 5)),
           .op (some 42) (.iadr 5 (.t 40) (.t 41)),
           .op (some 43) (.fadr (.t 42) 2),
           .op (some 44) (.fadr (.t 43) 1),
           .op (some 45) (.load1 (.t 44)),
           .op (some 46) (.mov (.t 1)),
           .op (some 47) (.bin .neq (.t 45) (.t 46))])
        (.keep [0, 1, 5, 47] (.cond (.t 47)
         (.seq (.ops [.op (some 4) (.mov (.k (.int .i64 (-1))))])
          (.keep [4] (.ret)))
         (.skip))))
       (.keep [0, 1, 5] (.seq (.ops [.op (some 48) (.mov (.t 1)),
          .op (some 49) (.bin .add (.t 48) (.k (.int .i64 1))),
          .op (some 1) (.mov (.t 49))])
       (.keep [0, 1, 5] (.seq (.seq (.draw [.op (some 50) (.mov (.t 0)),
           .op (some 51) (.mov (.t 5)),
           .op (some 52) (.iadr 5 (.t 50) (.t 51)),
           .op (some 53) (.fadr (.t 52) 2),
           .op (some 54) (.fadr (.t 53) 2),
           .op (some 55) (.load1 (.t 54)),
           .op (some 56) (.mov (.t 1)),
           .call (some 57) 62 [.t 56],
           .op (some 58) (.bin .neq (.t 55) (.t 57))])
        (.keep [0, 1, 5, 58] (.cond (.t 58)
         (.seq (.ops [.op (some 4) (.mov (.k (.int .i64 (-1))))])
          (.keep [4] (.ret)))
         (.skip))))
       (.keep [0, 1, 5] (.ops [.op (some 59) (.mov (.t 1)),
         .op (some 60) (.bin .add (.t 59) (.k (.int .i64 1))),
         .op (some 1) (.mov (.t 60))]))))))))))))))))))))
     (.keep [0, 1, 5] (.ops [.op (some 10) (.mov (.t 5)),
       .op (some 11) (.bin .add (.t 10) (.k (.int .i64 1))),
       .op (some 5) (.mov (.t 11))])))))))))
  (.keep [1] (.seq (.ops [.op (some 61) (.mov (.t 1)),
     .op (some 4) (.mov (.t 61))])
  (.keep [4] (.ret))))))
theorem k_c_heldInsS_fits : fitsF Try.prog 29 ⟨62, k_c_heldInsS, [.t 4]⟩ = true := by kernel_rfl
theorem c_heldInsS {xs : List GIns} {k0 : Nat} (hw : k0 + 5 * xs.length ≤ 1000000000000000000) : Con Try.prog noMv 29 [.d (.sl 5 ((markL GIns.mk1 5 k0 xs).map GIns.row)), int k0] [] (fun r h => r = int ((k0 + 5 * xs.length : Nat) : Int) ∧ h = []) := by
  refine con_of2 k_c_heldInsS_fits rfl fun C hP hmv => ?_
  unfold k_c_heldInsS
  refine cx_seq ?_
  refine cx_ops ?_
  refine ax_q (q_mov rfl) ?_
  refine ax_nil ?_
  refine cx_keep rfl rfl ?_
  refine cx_seq ?_
  refine cx_seq ?_
  refine cx_ops ?_
  refine ax_q (q_mov rfl) ?_
  refine ax_nil ?_
  refine cx_keep rfl rfl ?_
  refine cx_block ?_
  refine cx_loopU (fun m k => k ≤ xs.length ∧ m = xs.length - k) (fun k : Nat => [(1, int ((k0 + 5 * k : Nat) : Int)), (5, int k)]) (fun k => []) ⟨_, 0, ⟨Nat.zero_le _, rfl⟩, by repeat (first | exact trivial | refine ⟨rfl, ?_⟩ | refine ⟨?_, ?_⟩)⟩ ?_
  rintro m k ⟨hk, rfl⟩
  refine cx_seq ?_
  refine cx_seq ?_
  refine cx_ops ?_
  refine ax_q (q_mov rfl) ?_
  refine ax_q (q_mov rfl) ?_
  first | refine ax_q (q_lenS_map rfl) ?_ | refine ax_q (q_lenS_osl rfl) ?_ | refine ax_q (q_lenS_zs rfl) ?_ | refine ax_q (q_lenS rfl) ?_
  refine ax_q (q_ibin rfl rfl rfl) ?_
  refine ax_nil ?_
  refine cx_keep rfl rfl ?_
  refine cx_cond rfl (fun h0 => ?_) (fun h0 => ?_)
  · have h0 := dT h0; rw [markL_len] at h0; have h1x : k < xs.length := by omega
    refine cx_skip ?_
    refine cx_keep rfl rfl ?_
    refine cx_seq ?_
    refine cx_block ?_
    refine cx_seq ?_
    refine cx_seq ?_
    refine cx_ops ?_
    refine ax_q (q_mov rfl) ?_
    refine ax_q (q_mov rfl) ?_
    refine ax_q (q_ix rfl rfl (heldAt h1x)) ?_
    first | refine ax_q (q_fadr_ptr rfl) ?_ | refine ax_q (q_fadr_rptr rfl) ?_ | refine ax_q (q_fadr_ip rfl) ?_
    first | refine ax_q (q_load1_ptr rfl rfl rfl) ?_ | refine ax_q (q_load1_ip rfl) ?_ | refine ax_q (q_load1_rptr rfl rfl rfl rfl) ?_ | refine ax_q (q_load1_rptr rfl rfl (by assumption) rfl) ?_ | refine ax_q (q_load1_rptr rfl rfl (mapAt (by first | assumption | omega)) rfl) ?_
    refine ax_q (q_mov rfl) ?_
    refine ax_q (q_ibin rfl rfl rfl) ?_
    refine ax_nil ?_
    refine cx_keep rfl rfl ?_
    refine cx_cond rfl (fun h1 => ?_) (fun h1 => ?_)
    · have h1 := nT h1
      exact absurd rfl h1
    · have h1 := nF h1
      refine cx_skip ?_
      refine cx_keep rfl rfl ?_
      refine cx_seq ?_
      refine cx_ops ?_
      refine ax_q (q_mov rfl) ?_
      refine ax_qe (r' := int ((k0 + 5 * k + 1 : Nat) : Int)) (q_ibin rfl rfl rfl) (by rw [wi (by omega) (by omega)]; rfl) ?_
      refine ax_q (q_mov rfl) ?_
      refine ax_nil ?_
      refine cx_keep rfl rfl ?_
      refine cx_seq ?_
      refine cx_seq ?_
      refine cx_ops ?_
      refine ax_q (q_mov rfl) ?_
      refine ax_q (q_mov rfl) ?_
      refine ax_q (q_ix rfl rfl (heldAt h1x)) ?_
      first | refine ax_q (q_fadr_ptr rfl) ?_ | refine ax_q (q_fadr_rptr rfl) ?_ | refine ax_q (q_fadr_ip rfl) ?_
      first | refine ax_q (q_load1_ptr rfl rfl rfl) ?_ | refine ax_q (q_load1_ip rfl) ?_ | refine ax_q (q_load1_rptr rfl rfl rfl rfl) ?_ | refine ax_q (q_load1_rptr rfl rfl (by assumption) rfl) ?_ | refine ax_q (q_load1_rptr rfl rfl (mapAt (by first | assumption | omega)) rfl) ?_
      refine ax_q (q_mov rfl) ?_
      refine ax_q (q_ibin rfl rfl rfl) ?_
      refine ax_nil ?_
      refine cx_keep rfl rfl ?_
      refine cx_cond rfl (fun h2 => ?_) (fun h2 => ?_)
      · have h2 := nT h2
        exact absurd rfl h2
      · have h2 := nF h2
        refine cx_skip ?_
        refine cx_keep rfl rfl ?_
        refine cx_seq ?_
        refine cx_ops ?_
        refine ax_q (q_mov rfl) ?_
        refine ax_qe (r' := int ((k0 + 5 * k + 2 : Nat) : Int)) (q_ibin rfl rfl rfl) (by rw [wi (by omega) (by omega)]; rfl) ?_
        refine ax_q (q_mov rfl) ?_
        refine ax_nil ?_
        refine cx_keep rfl rfl ?_
        refine cx_seq ?_
        refine cx_seq ?_
        refine cx_ops ?_
        refine ax_q (q_mov rfl) ?_
        refine ax_q (q_mov rfl) ?_
        refine ax_q (q_ix rfl rfl (heldAt h1x)) ?_
        first | refine ax_q (q_fadr_ptr rfl) ?_ | refine ax_q (q_fadr_rptr rfl) ?_ | refine ax_q (q_fadr_ip rfl) ?_
        first | refine ax_q (q_fadr_ptr rfl) ?_ | refine ax_q (q_fadr_rptr rfl) ?_ | refine ax_q (q_fadr_ip rfl) ?_
        first | refine ax_q (q_load1_ptr rfl rfl rfl) ?_ | refine ax_q (q_load1_ip rfl) ?_ | refine ax_q (q_load1_rptr rfl rfl rfl rfl) ?_ | refine ax_q (q_load1_rptr rfl rfl (by assumption) rfl) ?_ | refine ax_q (q_load1_rptr rfl rfl (mapAt (by first | assumption | omega)) rfl) ?_
        refine ax_q (q_mov rfl) ?_
        refine ax_q (q_ibin rfl rfl rfl) ?_
        refine ax_nil ?_
        refine cx_keep rfl rfl ?_
        refine cx_cond rfl (fun h3 => ?_) (fun h3 => ?_)
        · have h3 := nT h3
          exact absurd rfl h3
        · have h3 := nF h3
          refine cx_skip ?_
          refine cx_keep rfl rfl ?_
          refine cx_seq ?_
          refine cx_ops ?_
          refine ax_q (q_mov rfl) ?_
          refine ax_qe (r' := int ((k0 + 5 * k + 3 : Nat) : Int)) (q_ibin rfl rfl rfl) (by rw [wi (by omega) (by omega)]; rfl) ?_
          refine ax_q (q_mov rfl) ?_
          refine ax_nil ?_
          refine cx_keep rfl rfl ?_
          refine cx_seq ?_
          refine cx_seq ?_
          refine cx_ops ?_
          refine ax_q (q_mov rfl) ?_
          refine ax_q (q_mov rfl) ?_
          refine ax_q (q_ix rfl rfl (heldAt h1x)) ?_
          first | refine ax_q (q_fadr_ptr rfl) ?_ | refine ax_q (q_fadr_rptr rfl) ?_ | refine ax_q (q_fadr_ip rfl) ?_
          first | refine ax_q (q_fadr_ptr rfl) ?_ | refine ax_q (q_fadr_rptr rfl) ?_ | refine ax_q (q_fadr_ip rfl) ?_
          first | refine ax_q (q_load1_ptr rfl rfl rfl) ?_ | refine ax_q (q_load1_ip rfl) ?_ | refine ax_q (q_load1_rptr rfl rfl rfl rfl) ?_ | refine ax_q (q_load1_rptr rfl rfl (by assumption) rfl) ?_ | refine ax_q (q_load1_rptr rfl rfl (mapAt (by first | assumption | omega)) rfl) ?_
          refine ax_q (q_mov rfl) ?_
          refine ax_q (q_ibin rfl rfl rfl) ?_
          refine ax_nil ?_
          refine cx_keep rfl rfl ?_
          refine cx_cond rfl (fun h4 => ?_) (fun h4 => ?_)
          · have h4 := nT h4
            exact absurd rfl h4
          · have h4 := nF h4
            refine cx_skip ?_
            refine cx_keep rfl rfl ?_
            refine cx_seq ?_
            refine cx_ops ?_
            refine ax_q (q_mov rfl) ?_
            refine ax_qe (r' := int ((k0 + 5 * k + 4 : Nat) : Int)) (q_ibin rfl rfl rfl) (by rw [wi (by omega) (by omega)]; rfl) ?_
            refine ax_q (q_mov rfl) ?_
            refine ax_nil ?_
            refine cx_keep rfl rfl ?_
            refine cx_seq ?_
            refine cx_seq ?_
            refine cx_draw ?_
            refine ax_q (q_mov rfl) ?_
            refine ax_q (q_mov rfl) ?_
            refine ax_q (q_ix rfl rfl (heldAt h1x)) ?_
            first | refine ax_q (q_fadr_ptr rfl) ?_ | refine ax_q (q_fadr_rptr rfl) ?_ | refine ax_q (q_fadr_ip rfl) ?_
            first | refine ax_q (q_fadr_ptr rfl) ?_ | refine ax_q (q_fadr_rptr rfl) ?_ | refine ax_q (q_fadr_ip rfl) ?_
            first | refine ax_q (q_load1_ptr rfl rfl rfl) ?_ | refine ax_q (q_load1_ip rfl) ?_ | refine ax_q (q_load1_rptr rfl rfl rfl rfl) ?_ | refine ax_q (q_load1_rptr rfl rfl (by assumption) rfl) ?_ | refine ax_q (q_load1_rptr rfl rfl (mapAt (by first | assumption | omega)) rfl) ?_
            refine ax_q (q_mov rfl) ?_
            refine ax_callq rfl (c_markText (by omega)) hP (lal_id _ rfl) rfl ?_
            refine ax_q (q_sbin rfl rfl rfl) ?_
            refine ax_nil ?_
            refine cx_keep rfl rfl ?_
            refine cx_cond rfl (fun h5 => ?_) (fun h5 => ?_)
            · have h5 := nT h5
              exact absurd rfl h5
            · have h5 := nF h5
              refine cx_skip ?_
              refine cx_keep rfl rfl ?_
              refine cx_ops ?_
              refine ax_q (q_mov rfl) ?_
              refine ax_qe (r' := int ((k0 + 5 * k + 5 : Nat) : Int)) (q_ibin rfl rfl rfl) (by rw [wi (by omega) (by omega)]; rfl) ?_
              refine ax_q (q_mov rfl) ?_
              refine ax_nil ?_
              refine cx_keep rfl rfl ?_
              refine cx_ops ?_
              refine ax_q (q_mov rfl) ?_
              refine ax_qe (r' := int ((k + 1 : Nat) : Int)) (q_ibin rfl rfl rfl) (by rw [wi (by omega) (by omega)]; rfl) ?_
              refine ax_q (q_mov rfl) ?_
              refine ax_nil ?_
              exact ⟨_, k + 1, by omega, ⟨by omega, rfl⟩, by repeat (first | exact trivial | refine ⟨rfl, ?_⟩ | refine ⟨?_, ?_⟩)⟩
  · have h0 := dF h0; rw [markL_len] at h0; have h1x : k = xs.length := by omega
    refine cx_exit rfl ?_
    refine cx_keep rfl rfl ?_
    refine cx_seq ?_
    refine cx_ops ?_
    refine ax_q (q_mov rfl) ?_
    refine ax_q (q_mov rfl) ?_
    refine ax_nil ?_
    refine cx_keep rfl rfl ?_
    refine cx_ret (ret0 rfl rfl ?_)
    exact ⟨by rw [h1x]; rfl, rfl⟩

end Go.Proofs.Ytalnddcijlkklaa
