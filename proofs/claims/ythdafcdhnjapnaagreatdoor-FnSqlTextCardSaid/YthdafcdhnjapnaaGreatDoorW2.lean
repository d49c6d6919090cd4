/- The walks: what each function computes, as a contract without a world (part 2). -/
import Derived.Test.YthdafcdhnjapnaaGreatDoorProg
import Derived.Test.YthdafcdhnjapnaaGreatDoorW1
namespace Go.Proofs.YthdafcdhnjapnaaGreatDoor
open Go Go.AM
set_option maxRecDepth 10000
set_option linter.unusedVariables false
set_option linter.unusedSimpArgs false
theorem prs_rc : ∀ f : Nat, RC Tryz.prog 56 (prs f 0) ∧ RC Tryz.prog 88 (prs f 1) ∧ RC Tryz.prog 104 (prs f 2) ∧ RC Tryz.prog 115 (prs f 3) ∧ RC Tryz.prog 122 (prs f 4) ∧ RC Tryz.prog 135 (prs f 5) ∧ RC Tryz.prog 150 (prs f 6) ∧ RC Tryz.prog 157 (prs f 7)
 | 0 => ⟨(fun _ _ _ _ h => (by cases h)), (fun _ _ _ _ h => (by cases h)), (fun _ _ _ _ h => (by cases h)), (fun _ _ _ _ h => (by cases h)), (fun _ _ _ _ h => (by cases h)), (fun _ _ _ _ h => (by cases h)), (fun _ _ _ _ h => (by cases h)), (fun _ _ _ _ h => (by cases h))⟩
 | f + 1 => by
  obtain ⟨h0, h1, h2, h3, h4, h5, h6, h7⟩ := prs_rc f
  exact ⟨fun _ _ _ hs h => c_por h1 hs h, fun _ _ _ hs h => c_pand h2 hs h, fun _ _ _ hs h => c_pnot h2 h3 hs h, fun _ _ _ hs h => c_pcmp h4 hs h, fun _ _ _ hs h => c_psum h5 hs h, fun _ _ _ hs h => c_pprod h6 hs h, fun _ _ _ hs h => c_pahead h6 h7 hs h, fun _ _ _ hs h => c_pprim h0 hs h⟩

/- (ptr loop.example/g00332/impl.parser).expr -/
def k_c_pexpr : XCode :=
 .seq (.ops [.op (some 2) (.alloc [.nils 7])])
 (.keep [0, 2] (.seq (.ops [.op (some 3) (.mov (.t 0)),
   .op (some 4) (.nilck (.t 3)),
   .op (some 5) (.fadr (.t 4) 1),
   .op none (.store 1 (.t 5) (.k (.nils 7)))])
 (.keep [0, 2] (.seq (.ops [.op (some 6) (.mov (.t 0)),
   .call (some 7) 56 [.t 6]])
 (.keep [0, 2] (.seq (.seq (.ops [.op (some 8) (.mov (.t 0)),
   .op (some 9) (.nilck (.t 8)),
   .op (some 10) (.fadr (.t 9) 1),
   .op (some 11) (.load1 (.t 10)),
   .call (some 12) 35 [.t 11],
   .op (some 13) (.bin .gtr (.t 12) (.k (.int .i64 12)))])
  (.keep [0, 2, 13] (.cond (.t 13)
  (.ops [.call (some 14) 57 [.k (.int .i64 16)]])
  (.skip))))
 (.keep [0, 2] (.seq (.ops [.op (some 15) (.mov (.t 0)),
   .op (some 16) (.nilck (.t 15)),
   .op (some 17) (.fadr (.t 16) 1),
   .op (some 18) (.load1 (.t 17)),
   .op (some 19) (.build [.nils 7] [(0, 1, .t 18)]),
   .op none (.store 1 (.t 2) (.t 19))])
 (.keep [2] (.ret))))))))))
theorem k_c_pexpr_fits : fitsF Tryz.prog 30 ⟨20, k_c_pexpr, [.cN 2 1]⟩ = true := by kernel_rfl
theorem c_pexpr {f : Nat} {tk : List Str} {op : Nat} {s' : PS} {k : Int} (hs : PS.ok ⟨tk, [], op⟩) (h : prs f 0 ⟨tk, [], op⟩ = some (s', k)) (hd : depthF s'.ns ≤ 12) (hv : ∀ x ∈ s'.ns, x.V.T.length ≤ 1048576) : Con Tryz.prog noMv 30 [.ptr 1000 0] [(1000, .box [.d (.sl 1 (tk.map strRow)), .zs 7, int (op : Int)])] (fun r h => r = .agg [.osl 0 7 0 s'.ns.length] ∧ h = [(1000, .box [.d (.sl 1 (s'.tk.map strRow)), .osl 0 7 0 s'.ns.length, int (s'.op : Int)]), (0, .rows 7 (s'.ns.map GExprNode.row))]) := by
 refine con_of2 k_c_pexpr_fits rfl fun C hP hmv => ?_
 unfold k_c_pexpr
 have hso := (prs_ro f 0 _ _ _ hs h).1
 have hsm := hso.m
 refine cx_seq (cx_ops ?_)
 refine ax_e (e_alloc (by decide) rfl rfl) ?_
 refine ax_nil (cx_keep rfl rfl (cx_seq (cx_ops ?_)))
 refine ax_q (q_mov rfl) ?_
 refine ax_q (q_nilck_ptr rfl) ?_
 refine ax_q (q_fadr_ptr rfl) ?_
 refine ax_e (e_st rfl rfl rfl rfl rfl rfl rfl) ?_
 refine ax_nil (cx_keep rfl rfl (cx_seq (cx_ops ?_)))
 skip
 refine ax_q (q_mov rfl) ?_
 refine ax_wk (wk_virt 901 7 rfl rfl rfl) ?_
 refine ax_wk (wk_zsb 1000 901 1 rfl rfl rfl) ?_
 refine ax_call rfl (vcall_own ((prs_rc f).1 ⟨tk, [], op⟩ s' k hs h) hP hmv false (fun e => bif Nat.beq e 1000 then 1000 else 901) [1000, 1001] ⟨rfl, rfl, rfl, rfl, ⟨rfl, rfl, trivial⟩, rfl, rfl, rfl⟩ (.pass rfl rfl .nil) ?_)
 rintro r h ⟨rfl, rfl⟩
 refine ⟨(fun e => bif Nat.beq e 1000 then 1000 else 901), [], ⟨rfl, rfl, rfl, rfl, mem2 rfl rfl, rfl, rfl, fun h => absurd h Bool.false_ne_true⟩, ?_⟩
 refine ax_nil (cx_keep rfl rfl (cx_seq (cx_seq (cx_ops ?_))))
 refine ax_q (q_mov rfl) ?_
 refine ax_q (q_nilck_ptr rfl) ?_
 refine ax_q (q_fadr_ptr rfl) ?_
 refine ax_q (q_load1_ptr rfl rfl rfl) ?_
 first | refine ax_call rfl (vc_pure0 (c_depthOf (ns := s'.ns) ?_ ?_) hP rfl rfl ?_) | refine ax_call rfl (vc_lend0 (c_depthOf (ns := s'.ns) ?_ ?_) hP (by repeat (first | exact lal_id _ rfl | exact LAL.nil | refine LAL.cons ?_ ?_ | exact la_id _ rfl | exact LA.lend (lend_whole rfl (by first | (simp; done) | (rw [List.length_map]; rfl))) | refine LA.agg ?_ | refine LA.fn ?_ | refine LA.lend ?_ | exact Lend.d _ | exact Lend.zs _ | exact lend_whole rfl (by first | (simp; done) | (rw [List.length_map]; rfl)) | refine Lend.ptr rfl ?_ | refine Lend.fn ?_ | exact LendL.nil | refine LendL.cons ?_ ?_)) rfl rfl ?_)
 ·
  first | assumption | omega
 ·
  assumption
 refine ax_q (q_ibin rfl rfl rfl) ?_
 refine ax_nil (cx_keep rfl rfl ?_)
 refine cx_cond rfl (fun h0 => ?_) (fun h0 => ?_)
 ·
  have h0 := dT h0
  exfalso; omega
 ·
  have h0 := dF h0
  refine cx_skip ?_
  refine cx_keep rfl rfl (cx_seq (cx_ops ?_))
  refine ax_q (q_mov rfl) ?_
  refine ax_q (q_nilck_ptr rfl) ?_
  refine ax_q (q_fadr_ptr rfl) ?_
  refine ax_q (q_load1_ptr rfl rfl rfl) ?_
  refine ax_q (q_build rfl) ?_
  refine ax_e (e_st rfl rfl rfl rfl rfl rfl rfl) ?_
  refine ax_nil (cx_keep rfl rfl ?_)
  refine cx_ret (retN (fun e => bif Nat.beq e 1000 then 1000 else 0) [1000, 901] rfl rfl rfl rfl rfl ?_)
  exact ⟨rfl, rfl⟩


/- (ptr loop.example/g00332/impl.parser).table -/
def k_c_table : XCode :=
 .seq (.ops [.op (some 2) (.mov (.k (.int .i64 0)))])
 (.keep [0] (.seq (.ops [.op (some 6) (.mov (.t 0)),
   .call (some 7) 99 [.t 6],
   .op (some 5) (.mov (.t 7)),
   .op (some 8) (.ext (.t 5) 0),
   .op (some 9) (.ext (.t 5) 1),
   .op (some 3) (.mov (.t 8)),
   .op (some 4) (.mov (.t 9))])
 (.keep [0, 3, 4] (.seq (.seq (.ops [.op (some 10) (.mov (.t 4)),
   .op (some 11) (.not (.t 10)),
   .op (some 12) (.mov (.t 11)),
   .andor 16 false 2 12 [.op (some 13) (.mov (.t 3)), .call (some 14) 44 [.t 13], .op (some 15) (.not (.t 14))] (.t 15)])
  (.keep [0, 3, 16] (.cond (.t 16)
  (.ops [.call (some 17) 57 [.k (.int .i64 3)]])
  (.skip))))
 (.keep [0, 3] (.seq (.ops [.op (some 18) (.mov (.t 0)),
   .call (some 19) 78 [.t 18]])
 (.keep [3] (.seq (.ops [.op (some 20) (.mov (.t 3)),
   .op (some 2) (.mov (.t 20))])
 (.keep [2] (.ret))))))))))
theorem k_c_table_fits : fitsF Tryz.prog 79 ⟨21, k_c_table, [.t 2]⟩ = true := by kernel_rfl
theorem c_table {s s' : PS} {n : Int} (hs : s.ok) (h : taF s = some (n, s')) : Con Tryz.prog noMv 79 [.ptr 1000 0] [(1000, .box [.d (.sl 1 (s.tk.map strRow)), .osl 1001 7 0 s.ns.length, int (s.op : Int)]), (1001, .rows 7 (s.ns.map GExprNode.row))] (fun r h => r = int n ∧ h = [(1000, .box [.d (.sl 1 (s'.tk.map strRow)), .osl 1001 7 0 s'.ns.length, int (s'.op : Int)]), (1001, .rows 7 (s'.ns.map GExprNode.row))]) := by
 refine con_of2 k_c_table_fits rfl fun C hP hmv => ?_
 unfold k_c_table
 obtain ⟨h1, h2, rfl, rfl⟩ := taF_some h
 obtain ⟨t, r, ht⟩ := dg_cons h1
 refine cx_seq (cx_ops ?_)
 refine ax_q (q_mov rfl) ?_
 refine ax_nil (cx_keep rfl rfl (cx_seq (cx_ops ?_)))
 refine ax_q (q_mov rfl) ?_
 first | refine ax_call rfl (vc_pure0 (c_digits (s := s) ?_) hP rfl rfl ?_) | refine ax_call rfl (vc_lend0 (c_digits (s := s) ?_) hP (by repeat (first | exact lal_id _ rfl | exact LAL.nil | refine LAL.cons ?_ ?_ | exact la_id _ rfl | exact LA.lend (lend_whole rfl (by first | (simp; done) | (rw [List.length_map]; rfl))) | refine LA.agg ?_ | refine LA.fn ?_ | refine LA.lend ?_ | exact Lend.d _ | exact Lend.zs _ | exact lend_whole rfl (by first | (simp; done) | (rw [List.length_map]; rfl)) | refine Lend.ptr rfl ?_ | refine Lend.fn ?_ | exact LendL.nil | refine LendL.cons ?_ ?_)) rfl rfl ?_)
 ·
  assumption
 refine ax_q (q_mov rfl) ?_
 refine ax_q (q_ext rfl rfl) ?_
 refine ax_q (q_ext rfl rfl) ?_
 refine ax_q (q_mov rfl) ?_
 refine ax_q (q_mov rfl) ?_
 refine ax_nil (cx_keep rfl rfl (cx_seq (cx_seq (cx_ops ?_))))
 refine ax_q (q_mov rfl) ?_
 refine ax_q (q_not rfl) ?_
 refine ax_q (q_mov rfl) ?_
 apply ax_or rfl rfl
 ·
  intro g
  have g := bF g
  refine ax_q (q_mov rfl) ?_
  refine ax_call rfl (vc_pure0 (c_isTable (n := (dgP s.tk).1) ) hP rfl rfl ?_)
  refine ax_q (q_not rfl) ?_
  exact ax_nil ⟨rfl, by repeat constructor⟩
 refine ax_nil (cx_keep rfl rfl ?_)
 refine cx_cond rfl (fun h0 => ?_) (fun h0 => ?_)
 ·
  have h0 := (fun h => (or_T h).imp bT bT) h0
  exact h0.elim (fun g => by rw [h1] at g; cases g) (fun g => by rw [h2] at g; cases g)
 ·
  have h0 := (fun h => And.intro (bF (or_F h).1) (bF (or_F h).2)) h0
  refine cx_skip ?_
  refine cx_keep rfl rfl (cx_seq (cx_ops ?_))
  refine ax_q (q_mov rfl) ?_
  refine ax_call rfl (vcall_own (c_take hs ht) hP hmv false (fun e => bif Nat.beq e 1000 then 1000 else 1001) [1000, 1001] ⟨rfl, rfl, rfl, rfl, ⟨rfl, rfl, trivial⟩, rfl, rfl, rfl⟩ (.pass rfl rfl .nil) ?_)
  rintro r h ⟨rfl, rfl⟩
  refine ⟨(fun e => bif Nat.beq e 1000 then 1000 else 1001), [], ⟨rfl, rfl, rfl, rfl, mem2 rfl rfl, rfl, rfl, fun h => absurd h Bool.false_ne_true⟩, ?_⟩
  try dsimp only [dpP]
  refine ax_nil (cx_keep rfl rfl (cx_seq (cx_ops ?_)))
  refine ax_q (q_mov rfl) ?_
  refine ax_q (q_mov rfl) ?_
  refine ax_nil (cx_keep rfl rfl ?_)
  refine cx_ret (retN id [1000, 1001] rfl rfl rfl rfl rfl ?_)
  exact ⟨rfl, rfl⟩


/- loop.example/g00332/impl.isOther -/
def k_c_isOther : XCode :=
 .seq (.ops [.op (some 1) (.box (.t 0)),
   .op (some 2) (.mov (.k (.bool false)))])
 (.keep [1] (.seq (.ops [.op (some 3) (.fadr (.t 1) 0),
   .op (some 4) (.load1 (.t 3)),
   .op (some 5) (.bin .eql (.t 4) (.k (.int .i64 1))),
   .op (some 6) (.mov (.t 5)),
   .andor 10 true 3 6 [.op (some 7) (.fadr (.t 1) 1), .op (some 8) (.load1 (.t 7)), .op (some 9) (.bin .neq (.t 8) (.k (.int .i64 0)))] (.t 9),
   .op (some 2) (.mov (.t 10))])
 (.keep [2] (.ret))))
theorem k_c_isOther_fits : fitsF Tryz.prog 112 ⟨11, k_c_isOther, [.t 2]⟩ = true := by kernel_rfl
theorem c_isOther {v : GValue} : Con Tryz.prog noMv 112 [v.av] [] (fun r h => r = bool (isO v) ∧ h = []) := by
 refine con_of2 k_c_isOther_fits rfl fun C hP hmv => ?_
 unfold k_c_isOther
 refine cx_seq (cx_ops ?_)
 refine ax_e (e_box rfl rfl (by decide) rfl rfl rfl) ?_
 refine ax_q (q_mov rfl) ?_
 refine ax_nil (cx_keep rfl rfl (cx_seq (cx_ops ?_)))
 refine ax_q (q_fadr_ptr rfl) ?_
 refine ax_q (q_load1_ptr rfl rfl rfl) ?_
 refine ax_q (q_ibin rfl rfl rfl) ?_
 refine ax_q (q_mov rfl) ?_
 apply ax_and rfl rfl
 ·
  intro g
  have g := dT g
  refine ax_q (q_fadr_ptr rfl) ?_
  refine ax_q (q_load1_ptr rfl rfl rfl) ?_
  refine ax_q (q_ibin rfl rfl rfl) ?_
  exact ax_nil ⟨rfl, by repeat constructor⟩
 refine ax_q (q_mov rfl) ?_
 refine ax_nil (cx_keep rfl rfl ?_)
 refine cx_ret (ret0 rfl rfl ?_)
 exact ⟨rfl, rfl⟩


/- (ptr loop.example/g00332/impl.parser).cell -/
def k_c_cell : XCode :=
 .seq (.ops [.op (some 2) (.alloc [.int .i64 0, .int .i64 0, .str []])])
 (.keep [0, 2] (.seq (.ops [.op (some 6) (.mov (.t 0)),
   .op (some 7) (.bslice 1 [.k (.str [45])]),
   .call (some 8) 81 [.t 6, .t 7],
   .op (some 3) (.mov (.t 8))])
 (.keep [0, 2, 3] (.seq (.ops [.op (some 10) (.mov (.t 0)),
   .call (some 11) 111 [.t 10],
   .op (some 9) (.mov (.t 11)),
   .op (some 12) (.ext (.t 9) 0),
   .op (some 13) (.ext (.t 9) 1),
   .op (some 4) (.alloc [.int .i64 0, .int .i64 0, .str []]),
   .op none (.store 3 (.t 4) (.t 12)),
   .op (some 5) (.mov (.t 13))])
 (.keep [2, 3, 4, 5] (.seq (.seq (.ops [.op (some 14) (.mov (.t 5)),
   .op (some 15) (.not (.t 14)),
   .op (some 16) (.mov (.t 15)),
   .andor 23 false 2 16 [.op (some 17) (.mov (.t 3)), .op (some 18) (.mov (.t 17)), .andor 22 true 4 18 [.op (some 19) (.loadN 3 (.t 4)), .call (some 20) 112 [.t 19], .op (some 21) (.not (.t 20))] (.t 21)] (.t 22)])
  (.keep [2, 3, 4, 23] (.cond (.t 23)
  (.ops [.call (some 24) 57 [.k (.int .i64 3)]])
  (.skip))))
 (.keep [2, 3, 4] (.seq (.seq (.ops [.op (some 25) (.mov (.t 3))])
  (.keep [2, 4, 25] (.cond (.t 25)
  (.ops [.op (some 26) (.fadr (.t 4) 1),
    .op (some 27) (.load1 (.t 26)),
    .op (some 28) (.neg (.t 27)),
    .op (some 29) (.fadr (.t 4) 1),
    .op none (.store 1 (.t 29) (.t 28))])
  (.skip))))
 (.keep [2, 4] (.seq (.ops [.op (some 30) (.loadN 3 (.t 4)),
   .op none (.store 3 (.t 2) (.t 30))])
 (.keep [2] (.ret))))))))))))
theorem k_c_cell_fits : fitsF Tryz.prog 100 ⟨31, k_c_cell, [.cN 2 3]⟩ = true := by kernel_rfl
set_option maxHeartbeats 4000000 in
theorem c_cell {s s' : PS} {v : GValue} (hs : s.ok) (h : ceF s = some (v, s')) : Con Tryz.prog noMv 100 [.ptr 1000 0] [(1000, .box [.d (.sl 1 (s.tk.map strRow)), .osl 1001 7 0 s.ns.length, int (s.op : Int)]), (1001, .rows 7 (s.ns.map GExprNode.row))] (fun r h => r = v.av ∧ h = [(1000, .box [.d (.sl 1 (s'.tk.map strRow)), .osl 1001 7 0 s'.ns.length, int (s'.op : Int)]), (1001, .rows 7 (s'.ns.map GExprNode.row))]) := by
 refine con_of2 k_c_cell_fits rfl fun C hP hmv => ?_
 unfold k_c_cell
 obtain ⟨h1, h2, hv, rfl⟩ := ceF_some h
 obtain ⟨okq, opq⟩ := skP_ok (ts := [[45]]) hs
 have hvb := @vaP_b (skP s [[45]])
 refine cx_seq (cx_ops ?_)
 refine ax_e (e_alloc (by decide) rfl rfl) ?_
 refine ax_nil (cx_keep rfl rfl (cx_seq (cx_ops ?_)))
 refine ax_q (q_mov rfl) ?_
 refine ax_e (e_bsliceD (rows := [strRow [45]]) rfl) ?_
 refine ax_call rfl (vcall_own (c_skip (s := s) (ts := [[45]]) hs (by decide)) hP hmv false (fun e => bif Nat.beq e 1000 then 1000 else 1001) [1000, 1001] ⟨rfl, rfl, rfl, rfl, ⟨rfl, rfl, trivial⟩, rfl, rfl, rfl⟩ (.pass rfl rfl (.pass rfl rfl .nil)) ?_)
 rintro r h ⟨rfl, rfl⟩
 refine ⟨(fun e => bif Nat.beq e 1000 then 1000 else 1001), [], ⟨rfl, rfl, rfl, rfl, mem2 rfl rfl, rfl, rfl, fun h => absurd h Bool.false_ne_true⟩, ?_⟩
 refine ax_q (q_mov rfl) ?_
 refine ax_nil (cx_keep rfl rfl (cx_seq (cx_ops ?_)))
 refine ax_q (q_mov rfl) ?_
 refine ax_call rfl (vcall_own (c_pvalue okq) hP hmv false (fun e => bif Nat.beq e 1000 then 1000 else 1001) [1000, 1001] ⟨rfl, rfl, rfl, rfl, ⟨rfl, rfl, trivial⟩, rfl, rfl, rfl⟩ (.pass rfl rfl .nil) ?_)
 rintro r h ⟨rfl, rfl⟩
 refine ⟨(fun e => bif Nat.beq e 1000 then 1000 else 1001), [], ⟨rfl, rfl, rfl, rfl, mem2 rfl rfl, rfl, rfl, fun h => absurd h Bool.false_ne_true⟩, ?_⟩
 refine ax_q (q_mov rfl) ?_
 refine ax_q (q_ext rfl rfl) ?_
 refine ax_q (q_ext rfl rfl) ?_
 refine ax_e (e_alloc (by decide) rfl rfl) ?_
 refine ax_e (e_st rfl rfl rfl rfl rfl rfl rfl) ?_
 refine ax_q (q_mov rfl) ?_
 refine ax_nil (cx_keep rfl rfl (cx_seq (cx_seq (cx_ops ?_))))
 refine ax_q (q_mov rfl) ?_
 refine ax_q (q_not rfl) ?_
 refine ax_q (q_mov rfl) ?_
 apply ax_or rfl rfl
 ·
  intro g
  have g := bF g
  refine ax_q (q_mov rfl) ?_
  refine ax_q (q_mov rfl) ?_
  apply ax_and rfl rfl
  ·
   intro g
   refine ax_q (q_ldN rfl rfl rfl) ?_
   refine ax_call rfl (vc_pure0 (c_isOther (v := (vaP (skP s [[45]])).1.1) ) hP rfl rfl ?_)
   refine ax_q (q_not rfl) ?_
   exact ax_nil ⟨rfl, by repeat constructor⟩
  exact ax_nil ⟨rfl, by repeat constructor⟩
 refine ax_nil (cx_keep rfl rfl ?_)
 refine cx_cond rfl (fun h0 => ?_) (fun h0 => ?_)
 ·
  have h0 := (fun h => (or_T h).imp bT (fun h => And.intro (id (and_T h).1) (bT (and_T h).2))) h0
  exact h0.elim (fun g => by rw [h1] at g; cases g) (fun g => by rw [h2 g.1] at g; cases g.2)
 ·
  have h0 := (fun h => And.intro (bF (or_F h).1) ((fun h => (and_F h).imp id bF) (or_F h).2)) h0
  refine cx_skip ?_
  refine cx_keep rfl rfl (cx_seq (cx_seq (cx_ops ?_)))
  refine ax_q (q_mov rfl) ?_
  refine ax_nil (cx_keep rfl rfl ?_)
  refine cx_cond rfl (fun h1 => ?_) (fun h1 => ?_)
  ·
   have h1x : isP s.tk [[45]] = true := h1
   have hk := isO_k (h2 h1x)
   have hvb := hvb hk.1
   rw [if_pos h1x] at hv
   refine cx_ops ?_
   refine ax_q (q_fadr_ptr rfl) ?_
   refine ax_q (q_load1_ptr rfl rfl rfl) ?_
   refine ax_q (q_negI rfl (by omega)) ?_
   refine ax_q (q_fadr_ptr rfl) ?_
   refine ax_e (e_st rfl rfl rfl rfl rfl rfl rfl) ?_
   refine ax_nil (cx_keep rfl rfl (cx_seq (cx_ops ?_)))
   refine ax_q (q_ldN rfl rfl rfl) ?_
   refine ax_e (e_st rfl rfl rfl rfl rfl rfl rfl) ?_
   refine ax_nil (cx_keep rfl rfl ?_)
   refine cx_ret (retN id [1000, 1001] rfl rfl rfl rfl rfl ?_)
   rw [hv]; exact ⟨rfl, rfl⟩
  ·
   have h1x : isP s.tk [[45]] = false := h1
   rw [if_neg (by rw [h1x]; decide)] at hv
   refine cx_skip ?_
   refine cx_keep rfl rfl (cx_seq (cx_ops ?_))
   refine ax_q (q_ldN rfl rfl rfl) ?_
   refine ax_e (e_st rfl rfl rfl rfl rfl rfl rfl) ?_
   refine ax_nil (cx_keep rfl rfl ?_)
   refine cx_ret (retN id [1000, 1001] rfl rfl rfl rfl rfl ?_)
   rw [hv]; exact ⟨rfl, rfl⟩


/- (ptr loop.example/g00332/impl.parser).row -/
def k_c_prow : XCode :=
 .seq (.ops [.op (some 2) (.alloc [.int .i64 0, .int .i64 0, .int .i64 0, .str [], .int .i64 0, .int .i64 0, .str []])])
 (.keep [0, 2] (.seq (.ops [.op (some 7) (.mov (.t 0)),
   .call (some 8) 100 [.t 7],
   .op (some 9) (.mov (.t 0)),
   .call (some 10) 100 [.t 9],
   .op (some 11) (.mov (.t 0)),
   .call (some 12) 100 [.t 11],
   .op (some 3) (.alloc [.int .i64 0, .int .i64 0, .str []]),
   .op (some 4) (.alloc [.int .i64 0, .int .i64 0, .str []]),
   .op (some 5) (.alloc [.int .i64 0, .int .i64 0, .str []]),
   .op none (.store 3 (.t 3) (.t 8)),
   .op none (.store 3 (.t 4) (.t 10)),
   .op none (.store 3 (.t 5) (.t 12))])
 (.keep [2, 3, 4, 5] (.seq (.ops [.op (some 13) (.fadr (.t 3) 1),
   .op (some 14) (.load1 (.t 13)),
   .op (some 15) (.loadN 3 (.t 4)),
   .op (some 16) (.loadN 3 (.t 5)),
   .op (some 17) (.build [.int .i64 0, .int .i64 0, .int .i64 0, .str [], .int .i64 0, .int .i64 0, .str []] [(0, 1, .t 14), (1, 3, .t 15), (4, 3, .t 16)]),
   .op (some 6) (.alloc [.int .i64 0, .int .i64 0, .int .i64 0, .str [], .int .i64 0, .int .i64 0, .str []]),
   .op none (.store 7 (.t 6) (.t 17))])
 (.keep [2, 3, 6] (.seq (.seq (.ops [.op (some 18) (.fadr (.t 3) 0),
   .op (some 19) (.load1 (.t 18)),
   .op (some 20) (.bin .neq (.t 19) (.k (.int .i64 1))),
   .op (some 21) (.mov (.t 20)),
   .andor 25 false 3 21 [.op (some 22) (.loadN 7 (.t 6)), .call (some 23) 46 [.t 22], .op (some 24) (.not (.t 23))] (.t 24)])
  (.keep [2, 6, 25] (.cond (.t 25)
  (.ops [.call (some 26) 57 [.k (.int .i64 3)]])
  (.skip))))
 (.keep [2, 6] (.seq (.ops [.op (some 27) (.loadN 7 (.t 6)),
   .op none (.store 7 (.t 2) (.t 27))])
 (.keep [2] (.ret))))))))))
theorem k_c_prow_fits : fitsF Tryz.prog 80 ⟨28, k_c_prow, [.cN 2 7]⟩ = true := by kernel_rfl
set_option maxHeartbeats 4000000 in
theorem c_prow {s s' : PS} {x : GRow} (hs : s.ok) (h : roF s = some (x, s')) : Con Tryz.prog noMv 80 [.ptr 1000 0] [(1000, .box [.d (.sl 1 (s.tk.map strRow)), .osl 1001 7 0 s.ns.length, int (s.op : Int)]), (1001, .rows 7 (s.ns.map GExprNode.row))] (fun r h => r = x.av ∧ h = [(1000, .box [.d (.sl 1 (s'.tk.map strRow)), .osl 1001 7 0 s'.ns.length, int (s'.op : Int)]), (1001, .rows 7 (s'.ns.map GExprNode.row))]) := by
 refine con_of2 k_c_prow_fits rfl fun C hP hmv => ?_
 unfold k_c_prow
 obtain ⟨a, b, c, s1, s2, e1, e2, e3, h1, h2, rfl⟩ := roF_some h
 obtain ⟨ok1, op1⟩ := ceF_ok hs e1
 obtain ⟨ok2, op2⟩ := ceF_ok ok1 e2
 obtain ⟨hr1, hr2, hr3⟩ := rowOK_p h2
 have hb1 := vOK_t hr2
 have hb2 := vOK_t hr3
 have hb1 : b.T.length ≤ 10 := hb1
 have hb2 : c.T.length ≤ 10 := hb2
 refine cx_seq (cx_ops ?_)
 refine ax_e (e_alloc (by decide) rfl rfl) ?_
 refine ax_nil (cx_keep rfl rfl (cx_seq (cx_ops ?_)))
 refine ax_q (q_mov rfl) ?_
 refine ax_call rfl (vcall_own (c_cell hs e1) hP hmv false (fun e => bif Nat.beq e 1000 then 1000 else 1001) [1000, 1001] ⟨rfl, rfl, rfl, rfl, ⟨rfl, rfl, trivial⟩, rfl, rfl, rfl⟩ (.pass rfl rfl .nil) ?_)
 rintro r h ⟨rfl, rfl⟩
 refine ⟨(fun e => bif Nat.beq e 1000 then 1000 else 1001), [], ⟨rfl, rfl, rfl, rfl, mem2 rfl rfl, rfl, rfl, fun h => absurd h Bool.false_ne_true⟩, ?_⟩
 try dsimp only [dpP]
 refine ax_q (q_mov rfl) ?_
 refine ax_call rfl (vcall_own (c_cell ok1 e2) hP hmv false (fun e => bif Nat.beq e 1000 then 1000 else 1001) [1000, 1001] ⟨rfl, rfl, rfl, rfl, ⟨rfl, rfl, trivial⟩, rfl, rfl, rfl⟩ (.pass rfl rfl .nil) ?_)
 rintro r h ⟨rfl, rfl⟩
 refine ⟨(fun e => bif Nat.beq e 1000 then 1000 else 1001), [], ⟨rfl, rfl, rfl, rfl, mem2 rfl rfl, rfl, rfl, fun h => absurd h Bool.false_ne_true⟩, ?_⟩
 try dsimp only [dpP]
 refine ax_q (q_mov rfl) ?_
 refine ax_call rfl (vcall_own (c_cell ok2 e3) hP hmv false (fun e => bif Nat.beq e 1000 then 1000 else 1001) [1000, 1001] ⟨rfl, rfl, rfl, rfl, ⟨rfl, rfl, trivial⟩, rfl, rfl, rfl⟩ (.pass rfl rfl .nil) ?_)
 rintro r h ⟨rfl, rfl⟩
 refine ⟨(fun e => bif Nat.beq e 1000 then 1000 else 1001), [], ⟨rfl, rfl, rfl, rfl, mem2 rfl rfl, rfl, rfl, fun h => absurd h Bool.false_ne_true⟩, ?_⟩
 try dsimp only [dpP]
 refine ax_e (e_alloc (by decide) rfl rfl) ?_
 refine ax_e (e_alloc (by decide) rfl rfl) ?_
 refine ax_e (e_alloc (by decide) rfl rfl) ?_
 refine ax_e (e_st rfl rfl rfl rfl rfl rfl rfl) ?_
 refine ax_e (e_st rfl rfl rfl rfl rfl rfl rfl) ?_
 refine ax_e (e_st rfl rfl rfl rfl rfl rfl rfl) ?_
 refine ax_nil (cx_keep rfl rfl (cx_seq (cx_ops ?_)))
 refine ax_q (q_fadr_ptr rfl) ?_
 refine ax_q (q_load1_ptr rfl rfl rfl) ?_
 refine ax_q (q_ldN rfl rfl rfl) ?_
 refine ax_q (q_ldN rfl rfl rfl) ?_
 refine ax_q (q_build rfl) ?_
 refine ax_e (e_alloc (by decide) rfl rfl) ?_
 refine ax_e (e_st rfl rfl rfl rfl rfl rfl rfl) ?_
 refine ax_nil (cx_keep rfl rfl (cx_seq (cx_seq (cx_ops ?_))))
 refine ax_q (q_fadr_ptr rfl) ?_
 refine ax_q (q_load1_ptr rfl rfl rfl) ?_
 refine ax_q (q_ibin rfl rfl rfl) ?_
 refine ax_q (q_mov rfl) ?_
 apply ax_or rfl rfl
 ·
  intro g
  have g := nF g
  refine ax_q (q_ldN rfl rfl rfl) ?_
  refine ax_call rfl (vc_pure0 (c_rowOK (a := ⟨a.N, b, c⟩) ?_ ?_) hP rfl rfl ?_)
  ·
   first | assumption | omega
  ·
   first | assumption | omega
  refine ax_q (q_not rfl) ?_
  exact ax_nil ⟨rfl, by repeat constructor⟩
 refine ax_nil (cx_keep rfl rfl ?_)
 refine cx_cond rfl (fun h0 => ?_) (fun h0 => ?_)
 ·
  have h0 := (fun h => (or_T h).imp nT bT) h0
  exact h0.elim (fun g => absurd h1 g) (fun g => by rw [h2] at g; cases g)
 ·
  have h0 := (fun h => And.intro (nF (or_F h).1) (bF (or_F h).2)) h0
  refine cx_skip ?_
  refine cx_keep rfl rfl (cx_seq (cx_ops ?_))
  refine ax_q (q_ldN rfl rfl rfl) ?_
  refine ax_e (e_st rfl rfl rfl rfl rfl rfl rfl) ?_
  refine ax_nil (cx_keep rfl rfl ?_)
  refine cx_ret (retN id [1000, 1001] rfl rfl rfl rfl rfl ?_)
  exact ⟨rfl, rfl⟩


/- (ptr loop.example/g00332/impl.parser).column -/
def k_c_column : XCode :=
 .seq (.ops [.op (some 4) (.mov (.k (.int .i64 0)))])
 (.keep [0, 1] (.seq (.seq (.ops [.op (some 6) (.mov (.t 0)),
   .op (some 7) (.nilck (.t 6)),
   .op (some 8) (.fadr (.t 7) 0),
   .op (some 9) (.load1 (.t 8)),
   .op (some 10) (.lenS (.t 9)),
   .op (some 11) (.bin .eql (.t 10) (.k (.int .i64 0)))])
  (.keep [0, 1, 11] (.cond (.t 11)
  (.ops [.call (some 12) 57 [.k (.int .i64 18)]])
  (.skip))))
 (.keep [0, 1] (.seq (.drawE [[], [], [1], [0, 1, 2], [0, 1, 2, 3]] [.op (some 13) (.slcA 1 3 (.g 0)),
   .op (some 14) (.mov (.t 0)),
   .call (some 15) 78 [.t 14]]
  [.call (some 16) 102 [.t 13, .t 15],
   .op (some 5) (.mov (.t 16))])
 (.keep [1, 5] (.seq (.seq (.ops [.op (some 17) (.mov (.t 5)),
   .op (some 18) (.mov (.t 1)),
   .op (some 19) (.bin .lss (.t 17) (.t 18))])
  (.keep [5, 19] (.cond (.t 19)
  (.ops [.call (some 20) 57 [.k (.int .i64 18)]])
  (.skip))))
 (.keep [5] (.seq (.ops [.op (some 21) (.mov (.t 5)),
   .op (some 4) (.mov (.t 21))])
 (.keep [4] (.ret))))))))))
theorem k_c_column_fits : fitsF Tryz.prog 82 ⟨22, k_c_column, [.t 4]⟩ = true := by kernel_rfl
theorem c_column {s s' : PS} {l c : Int} (hs : s.ok) (h : coF l s = some (c, s')) : Con Tryz.prog noMv 82 [.ptr 1000 0, int l] [(1000, .box [.d (.sl 1 (s.tk.map strRow)), .osl 1001 7 0 s.ns.length, int (s.op : Int)]), (1001, .rows 7 (s.ns.map GExprNode.row))] (fun r h => r = int c ∧ h = [(1000, .box [.d (.sl 1 (s'.tk.map strRow)), .osl 1001 7 0 s'.ns.length, int (s'.op : Int)]), (1001, .rows 7 (s'.ns.map GExprNode.row))]) := by
 refine con_of2 k_c_column_fits rfl fun C hP hmv => ?_
 unfold k_c_column
 obtain ⟨t, r, ht, hc, rfl, rfl⟩ := coF_some h
 have hl1 : s.tk.length = r.length + 1 := by rw [ht]; rfl
 refine cx_seq (cx_ops ?_)
 refine ax_q (q_mov rfl) ?_
 refine ax_nil (cx_keep rfl rfl (cx_seq (cx_seq (cx_ops ?_))))
 refine ax_q (q_mov rfl) ?_
 refine ax_q (q_nilck_ptr rfl) ?_
 refine ax_q (q_fadr_ptr rfl) ?_
 refine ax_q (q_load1_ptr rfl rfl rfl) ?_
 refine ax_q (q_lenS_map rfl) ?_
 refine ax_q (q_ibin rfl rfl rfl) ?_
 refine ax_nil (cx_keep rfl rfl ?_)
 refine cx_cond rfl (fun h0 => ?_) (fun h0 => ?_)
 ·
  have h0 := dT h0
  exfalso; omega
 ·
  have h0 := dF h0
  refine cx_skip ?_
  refine cx_keep rfl rfl (cx_seq ?_)
  refine cx_drawL 2 15 (fun _ => false) (fun _ => true) [] ([(1000, .box [.d (.sl 1 ((dpP s 1).tk.map strRow)), .osl 1001 7 0 (dpP s 1).ns.length, int ((dpP s 1).op : Int)]), (1001, .rows 7 ((dpP s 1).ns.map GExprNode.row))]) [[], [0], [14]] [[1000, 1001], [], [1000, 1001]] rfl ?_
  first | refine ⟨_, .inr ⟨rfl, _, rfl, .inr ⟨rfl, rfl, .inr rfl, rfl, rfl⟩, loc_q (q_slcG colsL gtab_cols (by rw [hP]; kernel_rfl) rfl rfl)⟩, ?_⟩
  first | refine ⟨_, .inr ⟨rfl, _, rfl, .inl rfl, loc_q (q_mov rfl)⟩, ?_⟩
  refine ⟨⟨15, _, []⟩, .inl ⟨rfl, rfl, rfl, locl_call (fun e => bif Nat.beq e 1000 then 1000 else 1001) [1000, 1001] (fun e => bif Nat.beq e 1000 then 1000 else 1001) [] rfl (c_take hs ht) hP hmv rfl rfl rfl rfl ⟨rfl, rfl, trivial⟩ rfl rfl rfl (.pass rfl rfl .nil) rfl rfl rfl rfl (mem2 rfl rfl) rfl⟩, ?_⟩
  refine ⟨rfl, ?_⟩
  refine ax_call rfl (vc_pure0 (c_Index_Str (xs := colsL) (v := t) ?_) hP rfl rfl ?_)
  ·
   decide
  rw [colP_idx]
  refine ax_q (q_mov rfl) ?_
  refine ax_nil (cx_keep rfl rfl (cx_seq (cx_seq (cx_ops ?_))))
  refine ax_q (q_mov rfl) ?_
  refine ax_q (q_mov rfl) ?_
  refine ax_q (q_ibin rfl rfl rfl) ?_
  refine ax_nil (cx_keep rfl rfl ?_)
  refine cx_cond rfl (fun h1 => ?_) (fun h1 => ?_)
  ·
   have h1 := dT h1
   exfalso; omega
  ·
   have h1 := dF h1
   refine cx_skip ?_
   refine cx_keep rfl rfl (cx_seq (cx_ops ?_))
   refine ax_q (q_mov rfl) ?_
   refine ax_q (q_mov rfl) ?_
   refine ax_nil (cx_keep rfl rfl ?_)
   refine cx_ret (retN id [1000, 1001] rfl rfl rfl rfl rfl ?_)
   exact ⟨rfl, rfl⟩


/- (ptr loop.example/g00332/impl.parser).expr -/
def k_c_pexpr2 : XCode :=
 .seq (.ops [.op (some 2) (.alloc [.nils 7])])
 (.keep [0, 2] (.seq (.ops [.op (some 3) (.mov (.t 0)),
   .op (some 4) (.nilck (.t 3)),
   .op (some 5) (.fadr (.t 4) 1),
   .op none (.store 1 (.t 5) (.k (.nils 7)))])
 (.keep [0, 2] (.seq (.ops [.op (some 6) (.mov (.t 0)),
   .call (some 7) 56 [.t 6]])
 (.keep [0, 2] (.seq (.seq (.ops [.op (some 8) (.mov (.t 0)),
   .op (some 9) (.nilck (.t 8)),
   .op (some 10) (.fadr (.t 9) 1),
   .op (some 11) (.load1 (.t 10)),
   .call (some 12) 35 [.t 11],
   .op (some 13) (.bin .gtr (.t 12) (.k (.int .i64 12)))])
  (.keep [0, 2, 13] (.cond (.t 13)
  (.ops [.call (some 14) 57 [.k (.int .i64 16)]])
  (.skip))))
 (.keep [0, 2] (.seq (.ops [.op (some 15) (.mov (.t 0)),
   .op (some 16) (.nilck (.t 15)),
   .op (some 17) (.fadr (.t 16) 1),
   .op (some 18) (.load1 (.t 17)),
   .op (some 19) (.build [.nils 7] [(0, 1, .t 18)]),
   .op none (.store 1 (.t 2) (.t 19))])
 (.keep [2] (.ret))))))))))
theorem k_c_pexpr2_fits : fitsF Tryz.prog 30 ⟨20, k_c_pexpr2, [.cN 2 1]⟩ = true := by kernel_rfl
theorem c_pexpr2 {f : Nat} {tk : List Str} {ns0 : List GExprNode} {s' : PS} {k : Int} (hs : PS.ok ⟨tk, [], 0⟩) (h : prs f 0 ⟨tk, [], 0⟩ = some (s', k)) (hd : depthF s'.ns ≤ 12) (hv : ∀ x ∈ s'.ns, x.V.T.length ≤ 1048576) : Con Tryz.prog noMv 30 [.ptr 1000 0] [(1000, .box [.d (.sl 1 (tk.map strRow)), .osl 1001 7 0 ns0.length, int ((0 : Nat) : Int)]), (1001, .rows 7 (ns0.map GExprNode.row))] (fun r h => r = .agg [.osl 0 7 0 s'.ns.length] ∧ h = [(1000, .box [.d (.sl 1 (s'.tk.map strRow)), .osl 0 7 0 s'.ns.length, int (s'.op : Int)]), (0, .rows 7 (s'.ns.map GExprNode.row)), (1001, .rows 7 (ns0.map GExprNode.row))]) := by
 refine con_of2 k_c_pexpr2_fits rfl fun C hP hmv => ?_
 unfold k_c_pexpr2
 have hso := (prs_ro f 0 _ _ _ hs h).1
 have hsm := hso.m
 refine cx_seq (cx_ops ?_)
 refine ax_e (e_alloc (by decide) rfl rfl) ?_
 refine ax_nil (cx_keep rfl rfl (cx_seq (cx_ops ?_)))
 refine ax_q (q_mov rfl) ?_
 refine ax_q (q_nilck_ptr rfl) ?_
 refine ax_q (q_fadr_ptr rfl) ?_
 refine ax_e (e_st rfl rfl rfl rfl rfl rfl rfl) ?_
 refine ax_nil (cx_keep rfl rfl (cx_seq (cx_ops ?_)))
 refine ax_q (q_mov rfl) ?_
 refine ax_wk (wk_virt 901 7 rfl rfl rfl) ?_
 refine ax_wk (wk_zsb 1000 901 1 rfl rfl rfl) ?_
 refine ax_call rfl (vcall_own ((prs_rc f).1 ⟨tk, [], 0⟩ s' k hs h) hP hmv false (fun e => bif Nat.beq e 1000 then 1000 else 901) [1000, 1001] ⟨rfl, rfl, rfl, rfl, ⟨rfl, rfl, trivial⟩, rfl, rfl, rfl⟩ (.pass rfl rfl .nil) ?_)
 rintro r h ⟨rfl, rfl⟩
 refine ⟨(fun e => bif Nat.beq e 1000 then 1000 else 901), [], ⟨rfl, rfl, rfl, rfl, mem2 rfl rfl, rfl, rfl, fun h => absurd h Bool.false_ne_true⟩, ?_⟩
 refine ax_nil (cx_keep rfl rfl (cx_seq (cx_seq (cx_ops ?_))))
 refine ax_q (q_mov rfl) ?_
 refine ax_q (q_nilck_ptr rfl) ?_
 refine ax_q (q_fadr_ptr rfl) ?_
 refine ax_q (q_load1_ptr rfl rfl rfl) ?_
 first | refine ax_call rfl (vc_pure0 (c_depthOf (ns := s'.ns) ?_ ?_) hP rfl rfl ?_) | refine ax_call rfl (vc_lend0 (c_depthOf (ns := s'.ns) ?_ ?_) hP (by repeat (first | exact lal_id _ rfl | exact LAL.nil | refine LAL.cons ?_ ?_ | exact la_id _ rfl | exact LA.lend (lend_whole rfl (by first | (simp; done) | (rw [List.length_map]; rfl))) | refine LA.agg ?_ | refine LA.fn ?_ | refine LA.lend ?_ | exact Lend.d _ | exact Lend.zs _ | exact lend_whole rfl (by first | (simp; done) | (rw [List.length_map]; rfl)) | refine Lend.ptr rfl ?_ | refine Lend.fn ?_ | exact LendL.nil | refine LendL.cons ?_ ?_)) rfl rfl ?_)
 ·
  first | assumption | omega
 ·
  assumption
 refine ax_q (q_ibin rfl rfl rfl) ?_
 refine ax_nil (cx_keep rfl rfl ?_)
 refine cx_cond rfl (fun h0 => ?_) (fun h0 => ?_)
 ·
  have h0 := dT h0
  exfalso; omega
 ·
  have h0 := dF h0
  refine cx_skip ?_
  refine cx_keep rfl rfl (cx_seq (cx_ops ?_))
  refine ax_q (q_mov rfl) ?_
  refine ax_q (q_nilck_ptr rfl) ?_
  refine ax_q (q_fadr_ptr rfl) ?_
  refine ax_q (q_load1_ptr rfl rfl rfl) ?_
  refine ax_q (q_build rfl) ?_
  refine ax_e (e_st rfl rfl rfl rfl rfl rfl rfl) ?_
  refine ax_nil (cx_keep rfl rfl ?_)
  refine cx_ret (retN (fun e => bif Nat.beq e 901 then 0 else e) [1000, 901, 1001] rfl rfl rfl rfl rfl ?_)
  exact ⟨rfl, rfl⟩

/- (ptr loop.example/g00332/impl.parser).stmt -/
def k_c_stmt : XCode :=
 .seq (.ops [.op (some 2) (.alloc [.int .i64 0, .int .i64 0, .int .i64 0, .int .i64 0, .int .i64 0, .str [], .int .i64 0, .int .i64 0, .str [], .int .i64 0, .nils 7, .nils 7, .int .i64 0, .bool false])])
 (.keep [0, 2] (.seq (.ops [.op (some 4) (.build [.int .i64 0, .int .i64 0, .int .i64 0, .int .i64 0, .int .i64 0, .str [], .int .i64 0, .int .i64 0, .str [], .int .i64 0, .nils 7, .nils 7, .int .i64 0, .bool false] []),
   .op (some 3) (.alloc [.int .i64 0, .int .i64 0, .int .i64 0, .int .i64 0, .int .i64 0, .str [], .int .i64 0, .int .i64 0, .str [], .int .i64 0, .nils 7, .nils 7, .int .i64 0, .bool false]),
   .op none (.store 14 (.t 3) (.t 4))])
 (.keep [0, 2, 3] (.seq (.seq (.ops [.op (some 5) (.mov (.t 0)),
   .call (some 6) 78 [.t 5]])
  (.keep [0, 2, 3, 6] (.block 0 (.seq (.ops [.op (some 9) (.bin .eql (.t 6) (.k (.str [115, 101, 108, 101, 99, 116]))),
    .op (some 8) (.mov (.t 9))])
  (.keep [0, 2, 3, 6, 8] (.cond (.t 8)
   (.ops [.op (some 10) (.fadr (.t 3) 0),
    .op none (.store 1 (.t 10) (.k (.int .i64 1)))])
   (.seq (.ops [.op (some 12) (.bin .eql (.t 6) (.k (.str [105, 110, 115, 101, 114, 116]))),
     .op (some 11) (.mov (.t 12))])
   (.keep [0, 2, 3, 6, 11] (.cond (.t 11)
    (.ops [.op (some 13) (.fadr (.t 3) 0),
     .op none (.store 1 (.t 13) (.k (.int .i64 2)))])
    (.seq (.ops [.op (some 15) (.bin .eql (.t 6) (.k (.str [117, 112, 100, 97, 116, 101]))),
      .op (some 14) (.mov (.t 15))])
    (.keep [0, 2, 3, 6, 14] (.cond (.t 14)
     (.ops [.op (some 16) (.fadr (.t 3) 0),
      .op none (.store 1 (.t 16) (.k (.int .i64 3)))])
     (.seq (.ops [.op (some 18) (.bin .eql (.t 6) (.k (.str [100, 101, 108, 101, 116, 101]))),
       .op (some 17) (.mov (.t 18))])
     (.keep [0, 2, 3, 17] (.cond (.t 17)
      (.ops [.op (some 19) (.fadr (.t 3) 0),
       .op none (.store 1 (.t 19) (.k (.int .i64 4)))])
      (.ops [.call (some 7) 57 [.k (.int .i64 3)]]))))))))))))))))
 (.keep [0, 2, 3] (.seq (.ops [.op (some 20) (.mov (.t 0)),
   .call (some 21) 79 [.t 20],
   .op (some 22) (.fadr (.t 3) 1),
   .op none (.store 1 (.t 22) (.t 21))])
 (.keep [0, 2, 3] (.seq (.seq (.ops [.op (some 23) (.fadr (.t 3) 0),
   .op (some 24) (.load1 (.t 23))])
  (.keep [0, 2, 3, 24] (.block 1 (.seq (.ops [.op (some 26) (.bin .eql (.t 24) (.k (.int .i64 2))),
    .op (some 25) (.mov (.t 26))])
  (.keep [0, 2, 3, 24, 25] (.cond (.t 25)
   (.seq (.ops [.op (some 27) (.mov (.t 0)),
     .call (some 28) 80 [.t 27],
     .op (some 29) (.fadr (.t 3) 2),
     .op none (.store 7 (.t 29) (.t 28))])
   (.keep [2, 3] (.seq (.ops [.op (some 30) (.loadN 14 (.t 3)),
     .op none (.store 14 (.t 2) (.t 30))])
   (.keep [2] (.ret)))))
   (.seq (.ops [.op (some 32) (.bin .eql (.t 24) (.k (.int .i64 3))),
     .op (some 31) (.mov (.t 32))])
   (.keep [0, 2, 3, 31] (.cond (.t 31)
    (.seq (.seq (.ops [.op (some 33) (.mov (.t 0)),
      .op (some 34) (.bslice 1 [.k (.str [115, 101, 116])]),
      .call (some 35) 81 [.t 33, .t 34],
      .op (some 36) (.not (.t 35))])
     (.keep [0, 2, 3, 36] (.cond (.t 36)
     (.ops [.call (some 37) 57 [.k (.int .i64 3)]])
     (.skip))))
    (.keep [0, 2, 3] (.seq (.ops [.op (some 38) (.mov (.t 0)),
      .call (some 39) 82 [.t 38, .k (.int .i64 1)],
      .op (some 40) (.fadr (.t 3) 9),
      .op none (.store 1 (.t 40) (.t 39))])
    (.keep [0, 2, 3] (.seq (.seq (.ops [.op (some 41) (.mov (.t 0)),
      .op (some 42) (.bslice 1 [.k (.str [61])]),
      .call (some 43) 81 [.t 41, .t 42],
      .op (some 44) (.not (.t 43))])
     (.keep [0, 2, 3, 44] (.cond (.t 44)
     (.ops [.call (some 45) 57 [.k (.int .i64 3)]])
     (.skip))))
    (.keep [0, 2, 3] (.ops [.op (some 46) (.mov (.t 0)),
     .call (some 47) 30 [.t 46],
     .op (some 48) (.fadr (.t 3) 10),
     .op none (.store 1 (.t 48) (.t 47))])))))))
    (.skip))))))))))
 (.keep [0, 2, 3] (.seq (.seq (.ops [.op (some 49) (.mov (.t 0)),
   .op (some 50) (.bslice 1 [.k (.str [119, 104, 101, 114, 101])]),
   .call (some 51) 81 [.t 49, .t 50]])
  (.keep [0, 2, 3, 51] (.cond (.t 51)
  (.ops [.op (some 52) (.mov (.t 0)),
    .call (some 53) 30 [.t 52],
    .op (some 54) (.fadr (.t 3) 11),
    .op none (.store 1 (.t 54) (.t 53))])
  (.skip))))
 (.keep [0, 2, 3] (.seq (.seq (.ops [.op (some 55) (.fadr (.t 3) 0),
   .op (some 56) (.load1 (.t 55)),
   .op (some 57) (.bin .eql (.t 56) (.k (.int .i64 1)))])
  (.keep [0, 2, 3, 57] (.cond (.t 57)
  (.seq (.ops [.op (some 58) (.mov (.t 0)),
    .op (some 59) (.bslice 1 [.k (.str [111, 114, 100, 101, 114])]),
    .call (some 60) 81 [.t 58, .t 59]])
   (.keep [0, 2, 3, 60] (.cond (.t 60)
   (.seq (.ops [.op (some 61) (.mov (.t 0)),
     .call (some 62) 82 [.t 61, .k (.int .i64 0)],
     .op (some 63) (.fadr (.t 3) 12),
     .op none (.store 1 (.t 63) (.t 62))])
    (.keep [0, 2, 3] (.ops [.op (some 64) (.mov (.t 0)),
     .op (some 65) (.bslice 1 [.k (.str [100, 101, 115, 99])]),
     .call (some 66) 81 [.t 64, .t 65],
     .op (some 67) (.fadr (.t 3) 13),
     .op none (.store 1 (.t 67) (.t 66))])))
   (.skip))))
  (.skip))))
 (.keep [2, 3] (.seq (.ops [.op (some 68) (.loadN 14 (.t 3)),
   .op none (.store 14 (.t 2) (.t 68))])
 (.keep [2] (.ret))))))))))))))))
theorem k_c_stmt_fits : fitsF Tryz.prog 42 ⟨69, k_c_stmt, [.cN 2 14]⟩ = true := by kernel_rfl
set_option maxHeartbeats 16000000 in
theorem c_stmt {F : Nat} {tk : List Str} {x : GStmt} {rest : List Str} (hs : PS.ok ⟨tk, [], 0⟩) (h : stF F ⟨tk, [], 0⟩ = some (x, rest)) : Con Tryz.prog noMv 42 [.ptr 1000 0] [(1000, .box [.d (.sl 1 (tk.map strRow)), .zs 7, int ((0 : Nat) : Int)])] (fun r h => r = x.av ∧ h = [(1000, .box [.d (.sl 1 (rest.map strRow)), .dead, int ((0 : Nat) : Int)])]) := by
 refine con_of2 k_c_stmt_fits rfl fun C hP hmv => ?_
 unfold k_c_stmt
 refine cx_wk (wk_virt 900 7 rfl rfl rfl) ?_
 refine cx_wk (wk_zsb 1000 900 1 rfl rfl rfl) ?_
 obtain ⟨w, r, hw, n, s1, hta, hcase⟩ := stF_w h
 obtain ⟨g1, g2, rfl, rfl⟩ := taF_some hta
 have ok1 : PS.ok (dpP (dpP (⟨tk, [], 0⟩ : PS) 1) 1) := (hs.dp 1).dp 1
 refine cx_seq (cx_ops ?_)
 refine ax_e (e_alloc (by decide) rfl rfl) ?_
 refine ax_nil (cx_keep rfl rfl (cx_seq (cx_ops ?_)))
 refine ax_q (q_build rfl) ?_
 refine ax_e (e_alloc (by decide) rfl rfl) ?_
 refine ax_e (e_st rfl rfl rfl rfl rfl rfl rfl) ?_
 refine ax_nil (cx_keep rfl rfl (cx_seq (cx_seq (cx_ops ?_))))
 refine ax_q (q_mov rfl) ?_
 refine ax_call rfl (vcall_own (c_take hs hw) hP hmv false (fun e => bif Nat.beq e 1000 then 1000 else 900) [1000, 1001] ⟨rfl, rfl, rfl, rfl, ⟨rfl, rfl, trivial⟩, rfl, rfl, rfl⟩ (.pass rfl rfl .nil) ?_)
 rintro r h ⟨rfl, rfl⟩
 refine ⟨(fun e => bif Nat.beq e 1000 then 1000 else 900), [], ⟨rfl, rfl, rfl, rfl, mem2 rfl rfl, rfl, rfl, fun h => absurd h Bool.false_ne_true⟩, ?_⟩
 try dsimp only [dpP]
 refine ax_nil (cx_keep rfl rfl (cx_block (cx_seq (cx_ops ?_))))
 refine ax_q (q_sbin rfl rfl rfl) ?_
 refine ax_q (q_mov rfl) ?_
 refine ax_nil (cx_keep rfl rfl ?_)
 refine cx_cond rfl (fun h0 => ?_) (fun h0 => ?_)
 ·
  have h0 := dT h0
  obtain ⟨e, t2, c, d, hwh, hor, rfl⟩ := st_p1 hcase h0
  refine cx_ops ?_
  refine ax_q (q_fadr_ptr rfl) ?_
  refine ax_e (e_st rfl rfl rfl rfl rfl rfl rfl) ?_
  refine ax_nil (cx_keep rfl rfl (cx_seq (cx_ops ?_)))
  refine ax_q (q_mov rfl) ?_
  refine ax_call rfl (vcall_own (c_table (s := dpP (⟨tk, [], 0⟩ : PS) 1) (hs.dp 1) hta) hP hmv false (fun e => bif Nat.beq e 1000 then 1000 else 900) [1000, 1001] ⟨rfl, rfl, rfl, rfl, ⟨rfl, rfl, trivial⟩, rfl, rfl, rfl⟩ (.pass rfl rfl .nil) ?_)
  rintro r h ⟨rfl, rfl⟩
  refine ⟨(fun e => bif Nat.beq e 1000 then 1000 else 900), [], ⟨rfl, rfl, rfl, rfl, mem2 rfl rfl, rfl, rfl, fun h => absurd h Bool.false_ne_true⟩, ?_⟩
  try dsimp only [dpP]
  refine ax_q (q_fadr_ptr rfl) ?_
  refine ax_e (e_st rfl rfl rfl rfl rfl rfl rfl) ?_
  refine ax_nil (cx_keep rfl rfl (cx_seq (cx_seq (cx_ops ?_))))
  refine ax_q (q_fadr_ptr rfl) ?_
  refine ax_q (q_load1_ptr rfl rfl rfl) ?_
  refine ax_nil (cx_keep rfl rfl (cx_block (cx_seq (cx_ops ?_))))
  refine ax_q (q_ibin rfl rfl rfl) ?_
  refine ax_q (q_mov rfl) ?_
  refine ax_nil (cx_keep rfl rfl ?_)
  refine cx_cond rfl (fun h4 => ?_) (fun h4 => ?_)
  ·
   have h4 := dT h4
   exact absurd h4 (by decide)
  ·
   have h4 := dF h4
   refine cx_seq (cx_ops ?_)
   refine ax_q (q_ibin rfl rfl rfl) ?_
   refine ax_q (q_mov rfl) ?_
   refine ax_nil (cx_keep rfl rfl ?_)
   refine cx_cond rfl (fun h5 => ?_) (fun h5 => ?_)
   ·
    have h5 := dT h5
    exact absurd h5 (by decide)
   ·
    have h5 := dF h5
    refine cx_skip ?_
    refine cx_keep rfl rfl (cx_seq (cx_seq (cx_ops ?_)))
    refine ax_q (q_mov rfl) ?_
    refine ax_e (e_bsliceD (rows := [strRow wWh]) rfl) ?_
    refine ax_call rfl (vcall_own (c_skip (s := (dpP (dpP (⟨tk, [], 0⟩ : PS) 1) 1)) (ts := [wWh]) ok1 (by decide)) hP hmv false (fun e => bif Nat.beq e 1000 then 1000 else 900) [1000, 1001] ⟨rfl, rfl, rfl, rfl, ⟨rfl, rfl, trivial⟩, rfl, rfl, rfl⟩ (.pass rfl rfl (.pass rfl rfl .nil)) ?_)
    rintro r h ⟨rfl, rfl⟩
    refine ⟨(fun e => bif Nat.beq e 1000 then 1000 else 900), [], ⟨rfl, rfl, rfl, rfl, mem2 rfl rfl, rfl, rfl, fun h => absurd h Bool.false_ne_true⟩, ?_⟩
    try dsimp only [dpP]
    refine ax_nil (cx_keep rfl rfl ?_)
    refine cx_cond rfl (fun h8 => ?_) (fun h8 => ?_)
    ·
     skip
     have hex := whF_t hwh h8
     obtain ⟨⟨tk', ns', op'⟩, k, hp, hd, hv, rfl, rfl⟩ := exF_some hex
     have hsx : PS.ok ⟨(dpP (dpP (dpP (⟨tk, [], 0⟩ : PS) 1) 1) 1).tk, [], 0⟩ := ⟨(ok1.dp 1).t, (ok1.dp 1).n, Nat.zero_le _, Nat.zero_le _⟩
     obtain ⟨okx, opx⟩ := prs_ro F 0 _ _ _ hsx hp
     obtain rfl : op' = 0 := opx
     rw [skP_t h8]
     refine cx_ops ?_
     refine ax_q (q_mov rfl) ?_
     refine ax_call rfl (vcall_own (c_pexpr2 hsx hp hd hv) hP hmv false (fun e => bif Nat.beq e 1000 then 1000 else 900) [1000, 1001] ⟨rfl, rfl, rfl, rfl, ⟨rfl, rfl, trivial⟩, rfl, rfl, rfl⟩ (.pass rfl rfl .nil) ?_)
     rintro r h ⟨rfl, rfl⟩
     refine ⟨(fun e => bif Nat.beq e 1000 then 1000 else bif Nat.beq e 1001 then 900 else 53), [0], ⟨rfl, rfl, rfl, rfl, mem2 rfl rfl, rfl, rfl, fun h => absurd h Bool.false_ne_true⟩, ?_⟩
     refine ax_q (q_fadr_ptr rfl) ?_
     refine ax_e (e_st rfl rfl rfl rfl rfl rfl rfl) ?_
     refine ax_nil (cx_keep rfl rfl (cx_seq (cx_seq (cx_ops ?_))))
     refine ax_q (q_fadr_ptr rfl) ?_
     refine ax_q (q_load1_ptr rfl rfl rfl) ?_
     refine ax_q (q_ibin rfl rfl rfl) ?_
     refine ax_nil (cx_keep rfl rfl ?_)
     refine cx_cond rfl (fun h9 => ?_) (fun h9 => ?_)
     ·
      have h9 := dT h9
      refine cx_seq (cx_ops ?_)
      refine ax_q (q_mov rfl) ?_
      refine ax_e (e_bsliceD (rows := [strRow wOr]) rfl) ?_
      refine ax_call rfl (vcall_own (c_skip (s := (⟨t2, ns', 0⟩ : PS)) (ts := [wOr]) okx (by decide)) hP hmv false (fun e => bif Nat.beq e 1000 then 1000 else 53) [1000, 1001] ⟨rfl, rfl, rfl, rfl, ⟨rfl, rfl, trivial⟩, rfl, rfl, rfl⟩ (.pass rfl rfl (.pass rfl rfl .nil)) ?_)
      rintro r h ⟨rfl, rfl⟩
      refine ⟨(fun e => bif Nat.beq e 1000 then 1000 else 53), [], ⟨rfl, rfl, rfl, rfl, mem2 rfl rfl, rfl, rfl, fun h => absurd h Bool.false_ne_true⟩, ?_⟩
      try dsimp only [dpP]
      refine ax_nil (cx_keep rfl rfl ?_)
      refine cx_cond rfl (fun h10 => ?_) (fun h10 => ?_)
      ·
       skip
       obtain ⟨t', r', ht', hc', rfl, rfl, rfl⟩ := odF_t hor h10
       obtain rfl : r' = List.drop 1 (List.drop 1 (t2)) := (congrArg (List.drop 1) ht').symm
       rw [skP_t h10]
       refine cx_seq (cx_ops ?_)
       refine ax_q (q_mov rfl) ?_
       refine ax_call rfl (vcall_own (c_column (s := dpP (⟨t2, ns', 0⟩ : PS) 1) (l := 0) (okx.dp 1) (coF_mk ht' hc')) hP hmv false (fun e => bif Nat.beq e 1000 then 1000 else 53) [1000, 1001] ⟨rfl, rfl, rfl, rfl, ⟨rfl, rfl, trivial⟩, rfl, rfl, rfl⟩ (.pass rfl rfl (.pass rfl rfl .nil)) ?_)
       rintro r h ⟨rfl, rfl⟩
       refine ⟨(fun e => bif Nat.beq e 1000 then 1000 else 53), [], ⟨rfl, rfl, rfl, rfl, mem2 rfl rfl, rfl, rfl, fun h => absurd h Bool.false_ne_true⟩, ?_⟩
       try dsimp only [dpP]
       refine ax_q (q_fadr_ptr rfl) ?_
       refine ax_e (e_st rfl rfl rfl rfl rfl rfl rfl) ?_
       refine ax_nil (cx_keep rfl rfl (cx_ops ?_))
       refine ax_q (q_mov rfl) ?_
       refine ax_e (e_bsliceD (rows := [strRow wDe]) rfl) ?_
       refine ax_call rfl (vcall_own (c_skip (s := dpP (dpP (⟨t2, ns', 0⟩ : PS) 1) 1) (ts := [wDe]) ((okx.dp 1).dp 1) (by decide)) hP hmv false (fun e => bif Nat.beq e 1000 then 1000 else 53) [1000, 1001] ⟨rfl, rfl, rfl, rfl, ⟨rfl, rfl, trivial⟩, rfl, rfl, rfl⟩ (.pass rfl rfl (.pass rfl rfl .nil)) ?_)
       rintro r h ⟨rfl, rfl⟩
       refine ⟨(fun e => bif Nat.beq e 1000 then 1000 else 53), [], ⟨rfl, rfl, rfl, rfl, mem2 rfl rfl, rfl, rfl, fun h => absurd h Bool.false_ne_true⟩, ?_⟩
       try dsimp only [dpP]
       rw [skP_eq]
       dsimp only
       refine ax_q (q_fadr_ptr rfl) ?_
       refine ax_e (e_st rfl rfl rfl rfl rfl rfl rfl) ?_
       refine ax_nil (cx_keep rfl rfl (cx_seq (cx_ops ?_)))
       refine ax_q (q_ldN rfl rfl rfl) ?_
       refine ax_wk (wk_virt 960 7 rfl rfl rfl) ?_
       refine ax_wk (wk_zs 68 960 [10] rfl rfl) ?_
       refine ax_wk (wk_frz 68 960 rfl rfl (.agg (.cons (.same rfl) (.cons (.same rfl) (.cons (.same rfl) (.cons (.same rfl) (.cons (.same rfl) (.cons (.same rfl) (.cons (.same rfl) (.cons (.same rfl) (.cons (.same rfl) (.cons (.same rfl) (.cons (.whole rfl) (.cons (.same rfl) (.cons (.same rfl) (.cons (.same rfl) .nil))))))))))))))) rfl) ?_
       refine ax_wk (wk_frz 68 53 rfl rfl (.agg (.cons (.same rfl) (.cons (.same rfl) (.cons (.same rfl) (.cons (.same rfl) (.cons (.same rfl) (.cons (.same rfl) (.cons (.same rfl) (.cons (.same rfl) (.cons (.same rfl) (.cons (.same rfl) (.cons (.same rfl) (.cons (.whole (List.length_map _).symm) (.cons (.same rfl) (.cons (.same rfl) .nil))))))))))))))) rfl) ?_
       refine ax_wk (wk_frz 68 900 rfl rfl (.same rfl) rfl) ?_
       refine ax_e (e_st rfl rfl rfl rfl rfl rfl rfl) ?_
       refine ax_nil (cx_keep rfl rfl ?_)
       refine cx_ret (retN id [1000] rfl rfl rfl rfl rfl ?_)
       exact ⟨rfl, rfl⟩
      ·
       skip
       obtain ⟨rfl, rfl, rfl⟩ := odF_f hor h10
       rw [skP_f h10]
       refine cx_skip ?_
       refine cx_keep rfl rfl (cx_seq (cx_ops ?_))
       refine ax_q (q_ldN rfl rfl rfl) ?_
       refine ax_wk (wk_virt 960 7 rfl rfl rfl) ?_
       refine ax_wk (wk_zs 68 960 [10] rfl rfl) ?_
       refine ax_wk (wk_frz 68 960 rfl rfl (.agg (.cons (.same rfl) (.cons (.same rfl) (.cons (.same rfl) (.cons (.same rfl) (.cons (.same rfl) (.cons (.same rfl) (.cons (.same rfl) (.cons (.same rfl) (.cons (.same rfl) (.cons (.same rfl) (.cons (.whole rfl) (.cons (.same rfl) (.cons (.same rfl) (.cons (.same rfl) .nil))))))))))))))) rfl) ?_
       refine ax_wk (wk_frz 68 53 rfl rfl (.agg (.cons (.same rfl) (.cons (.same rfl) (.cons (.same rfl) (.cons (.same rfl) (.cons (.same rfl) (.cons (.same rfl) (.cons (.same rfl) (.cons (.same rfl) (.cons (.same rfl) (.cons (.same rfl) (.cons (.same rfl) (.cons (.whole (List.length_map _).symm) (.cons (.same rfl) (.cons (.same rfl) .nil))))))))))))))) rfl) ?_
       refine ax_wk (wk_frz 68 900 rfl rfl (.same rfl) rfl) ?_
       refine ax_e (e_st rfl rfl rfl rfl rfl rfl rfl) ?_
       refine ax_nil (cx_keep rfl rfl ?_)
       refine cx_ret (retN id [1000] rfl rfl rfl rfl rfl ?_)
       exact ⟨rfl, rfl⟩
     ·
      have h9 := dF h9
      exact absurd (by decide) h9
    ·
     skip
     obtain ⟨rfl, rfl⟩ := whF_f hwh h8
     rw [skP_f h8]
     refine cx_skip ?_
     refine cx_keep rfl rfl (cx_seq (cx_seq (cx_ops ?_)))
     refine ax_q (q_fadr_ptr rfl) ?_
     refine ax_q (q_load1_ptr rfl rfl rfl) ?_
     refine ax_q (q_ibin rfl rfl rfl) ?_
     refine ax_nil (cx_keep rfl rfl ?_)
     refine cx_cond rfl (fun h9 => ?_) (fun h9 => ?_)
     ·
      have h9 := dT h9
      refine cx_seq (cx_ops ?_)
      refine ax_q (q_mov rfl) ?_
      refine ax_e (e_bsliceD (rows := [strRow wOr]) rfl) ?_
      refine ax_call rfl (vcall_own (c_skip (s := (dpP (dpP (⟨tk, [], 0⟩ : PS) 1) 1)) (ts := [wOr]) ok1 (by decide)) hP hmv false (fun e => bif Nat.beq e 1000 then 1000 else 900) [1000, 1001] ⟨rfl, rfl, rfl, rfl, ⟨rfl, rfl, trivial⟩, rfl, rfl, rfl⟩ (.pass rfl rfl (.pass rfl rfl .nil)) ?_)
      rintro r h ⟨rfl, rfl⟩
      refine ⟨(fun e => bif Nat.beq e 1000 then 1000 else 900), [], ⟨rfl, rfl, rfl, rfl, mem2 rfl rfl, rfl, rfl, fun h => absurd h Bool.false_ne_true⟩, ?_⟩
      try dsimp only [dpP]
      refine ax_nil (cx_keep rfl rfl ?_)
      refine cx_cond rfl (fun h10 => ?_) (fun h10 => ?_)
      ·
       skip
       obtain ⟨t', r', ht', hc', rfl, rfl, rfl⟩ := odF_t hor h10
       obtain rfl : r' = List.drop 1 (List.drop 1 (List.drop 1 (List.drop 1 tk))) := (congrArg (List.drop 1) ht').symm
       rw [skP_t h10]
       refine cx_seq (cx_ops ?_)
       refine ax_q (q_mov rfl) ?_
       refine ax_call rfl (vcall_own (c_column (s := dpP (dpP (dpP (⟨tk, [], 0⟩ : PS) 1) 1) 1) (l := 0) (ok1.dp 1) (coF_mk ht' hc')) hP hmv false (fun e => bif Nat.beq e 1000 then 1000 else 900) [1000, 1001] ⟨rfl, rfl, rfl, rfl, ⟨rfl, rfl, trivial⟩, rfl, rfl, rfl⟩ (.pass rfl rfl (.pass rfl rfl .nil)) ?_)
       rintro r h ⟨rfl, rfl⟩
       refine ⟨(fun e => bif Nat.beq e 1000 then 1000 else 900), [], ⟨rfl, rfl, rfl, rfl, mem2 rfl rfl, rfl, rfl, fun h => absurd h Bool.false_ne_true⟩, ?_⟩
       try dsimp only [dpP]
       refine ax_q (q_fadr_ptr rfl) ?_
       refine ax_e (e_st rfl rfl rfl rfl rfl rfl rfl) ?_
       refine ax_nil (cx_keep rfl rfl (cx_ops ?_))
       refine ax_q (q_mov rfl) ?_
       refine ax_e (e_bsliceD (rows := [strRow wDe]) rfl) ?_
       refine ax_call rfl (vcall_own (c_skip (s := dpP (dpP (dpP (dpP (⟨tk, [], 0⟩ : PS) 1) 1) 1) 1) (ts := [wDe]) ((ok1.dp 1).dp 1) (by decide)) hP hmv false (fun e => bif Nat.beq e 1000 then 1000 else 900) [1000, 1001] ⟨rfl, rfl, rfl, rfl, ⟨rfl, rfl, trivial⟩, rfl, rfl, rfl⟩ (.pass rfl rfl (.pass rfl rfl .nil)) ?_)
       rintro r h ⟨rfl, rfl⟩
       refine ⟨(fun e => bif Nat.beq e 1000 then 1000 else 900), [], ⟨rfl, rfl, rfl, rfl, mem2 rfl rfl, rfl, rfl, fun h => absurd h Bool.false_ne_true⟩, ?_⟩
       try dsimp only [dpP]
       rw [skP_eq]
       dsimp only
       refine ax_q (q_fadr_ptr rfl) ?_
       refine ax_e (e_st rfl rfl rfl rfl rfl rfl rfl) ?_
       refine ax_nil (cx_keep rfl rfl (cx_seq (cx_ops ?_)))
       refine ax_q (q_ldN rfl rfl rfl) ?_
       refine ax_wk (wk_virt 960 7 rfl rfl rfl) ?_
       refine ax_wk (wk_zs 68 960 [10] rfl rfl) ?_
       refine ax_wk (wk_frz 68 960 rfl rfl (.agg (.cons (.same rfl) (.cons (.same rfl) (.cons (.same rfl) (.cons (.same rfl) (.cons (.same rfl) (.cons (.same rfl) (.cons (.same rfl) (.cons (.same rfl) (.cons (.same rfl) (.cons (.same rfl) (.cons (.whole rfl) (.cons (.same rfl) (.cons (.same rfl) (.cons (.same rfl) .nil))))))))))))))) rfl) ?_
       refine ax_wk (wk_virt 961 7 rfl rfl rfl) ?_
       refine ax_wk (wk_zs 68 961 [11] rfl rfl) ?_
       refine ax_wk (wk_frz 68 961 rfl rfl (.agg (.cons (.same rfl) (.cons (.same rfl) (.cons (.same rfl) (.cons (.same rfl) (.cons (.same rfl) (.cons (.same rfl) (.cons (.same rfl) (.cons (.same rfl) (.cons (.same rfl) (.cons (.same rfl) (.cons (.same rfl) (.cons (.whole rfl) (.cons (.same rfl) (.cons (.same rfl) .nil))))))))))))))) rfl) ?_
       refine ax_wk (wk_frz 68 900 rfl rfl (.same rfl) rfl) ?_
       refine ax_e (e_st rfl rfl rfl rfl rfl rfl rfl) ?_
       refine ax_nil (cx_keep rfl rfl ?_)
       refine cx_ret (retN id [1000] rfl rfl rfl rfl rfl ?_)
       exact ⟨rfl, rfl⟩
      ·
       skip
       obtain ⟨rfl, rfl, rfl⟩ := odF_f hor h10
       rw [skP_f h10]
       refine cx_skip ?_
       refine cx_keep rfl rfl (cx_seq (cx_ops ?_))
       refine ax_q (q_ldN rfl rfl rfl) ?_
       refine ax_wk (wk_virt 960 7 rfl rfl rfl) ?_
       refine ax_wk (wk_zs 68 960 [10] rfl rfl) ?_
       refine ax_wk (wk_frz 68 960 rfl rfl (.agg (.cons (.same rfl) (.cons (.same rfl) (.cons (.same rfl) (.cons (.same rfl) (.cons (.same rfl) (.cons (.same rfl) (.cons (.same rfl) (.cons (.same rfl) (.cons (.same rfl) (.cons (.same rfl) (.cons (.whole rfl) (.cons (.same rfl) (.cons (.same rfl) (.cons (.same rfl) .nil))))))))))))))) rfl) ?_
       refine ax_wk (wk_virt 961 7 rfl rfl rfl) ?_
       refine ax_wk (wk_zs 68 961 [11] rfl rfl) ?_
       refine ax_wk (wk_frz 68 961 rfl rfl (.agg (.cons (.same rfl) (.cons (.same rfl) (.cons (.same rfl) (.cons (.same rfl) (.cons (.same rfl) (.cons (.same rfl) (.cons (.same rfl) (.cons (.same rfl) (.cons (.same rfl) (.cons (.same rfl) (.cons (.same rfl) (.cons (.whole rfl) (.cons (.same rfl) (.cons (.same rfl) .nil))))))))))))))) rfl) ?_
       refine ax_wk (wk_frz 68 900 rfl rfl (.same rfl) rfl) ?_
       refine ax_e (e_st rfl rfl rfl rfl rfl rfl rfl) ?_
       refine ax_nil (cx_keep rfl rfl ?_)
       refine cx_ret (retN id [1000] rfl rfl rfl rfl rfl ?_)
       exact ⟨rfl, rfl⟩
     ·
      have h9 := dF h9
      exact absurd (by decide) h9
 ·
  have h0 := dF h0
  refine cx_seq (cx_ops ?_)
  refine ax_q (q_sbin rfl rfl rfl) ?_
  refine ax_q (q_mov rfl) ?_
  refine ax_nil (cx_keep rfl rfl ?_)
  refine cx_cond rfl (fun h1 => ?_) (fun h1 => ?_)
  ·
   have h1 := dT h1
   obtain ⟨y, ⟨tk2, ns2, op2⟩, hro, rfl, rfl⟩ := st_p2 hcase h1
   obtain rfl : op2 = 0 := (roF_ok ok1 hro).2
   refine cx_ops ?_
   refine ax_q (q_fadr_ptr rfl) ?_
   refine ax_e (e_st rfl rfl rfl rfl rfl rfl rfl) ?_
   refine ax_nil (cx_keep rfl rfl (cx_seq (cx_ops ?_)))
   refine ax_q (q_mov rfl) ?_
   refine ax_call rfl (vcall_own (c_table (s := dpP (⟨tk, [], 0⟩ : PS) 1) (hs.dp 1) hta) hP hmv false (fun e => bif Nat.beq e 1000 then 1000 else 900) [1000, 1001] ⟨rfl, rfl, rfl, rfl, ⟨rfl, rfl, trivial⟩, rfl, rfl, rfl⟩ (.pass rfl rfl .nil) ?_)
   rintro r h ⟨rfl, rfl⟩
   refine ⟨(fun e => bif Nat.beq e 1000 then 1000 else 900), [], ⟨rfl, rfl, rfl, rfl, mem2 rfl rfl, rfl, rfl, fun h => absurd h Bool.false_ne_true⟩, ?_⟩
   try dsimp only [dpP]
   refine ax_q (q_fadr_ptr rfl) ?_
   refine ax_e (e_st rfl rfl rfl rfl rfl rfl rfl) ?_
   refine ax_nil (cx_keep rfl rfl (cx_seq (cx_seq (cx_ops ?_))))
   refine ax_q (q_fadr_ptr rfl) ?_
   refine ax_q (q_load1_ptr rfl rfl rfl) ?_
   refine ax_nil (cx_keep rfl rfl (cx_block (cx_seq (cx_ops ?_))))
   refine ax_q (q_ibin rfl rfl rfl) ?_
   refine ax_q (q_mov rfl) ?_
   refine ax_nil (cx_keep rfl rfl ?_)
   refine cx_cond rfl (fun h4 => ?_) (fun h4 => ?_)
   ·
    have h4 := dT h4
    refine cx_seq (cx_ops ?_)
    refine ax_q (q_mov rfl) ?_
    refine ax_call rfl (vcall_own (c_prow ok1 hro) hP hmv false (fun e => bif Nat.beq e 1000 then 1000 else 900) [1000, 1001] ⟨rfl, rfl, rfl, rfl, ⟨rfl, rfl, trivial⟩, rfl, rfl, rfl⟩ (.pass rfl rfl .nil) ?_)
    rintro r h ⟨rfl, rfl⟩
    refine ⟨(fun e => bif Nat.beq e 1000 then 1000 else 900), [], ⟨rfl, rfl, rfl, rfl, mem2 rfl rfl, rfl, rfl, fun h => absurd h Bool.false_ne_true⟩, ?_⟩
    try dsimp only [dpP]
    refine ax_q (q_fadr_ptr rfl) ?_
    refine ax_e (e_st rfl rfl rfl rfl rfl rfl rfl) ?_
    refine ax_nil (cx_keep rfl rfl (cx_seq (cx_ops ?_)))
    refine ax_q (q_ldN rfl rfl rfl) ?_
    refine ax_wk (wk_virt 960 7 rfl rfl rfl) ?_
    refine ax_wk (wk_zs 30 960 [10] rfl rfl) ?_
    refine ax_wk (wk_frz 30 960 rfl rfl (.agg (.cons (.same rfl) (.cons (.same rfl) (.cons (.same rfl) (.cons (.same rfl) (.cons (.same rfl) (.cons (.same rfl) (.cons (.same rfl) (.cons (.same rfl) (.cons (.same rfl) (.cons (.same rfl) (.cons (.whole rfl) (.cons (.same rfl) (.cons (.same rfl) (.cons (.same rfl) .nil))))))))))))))) rfl) ?_
    refine ax_wk (wk_virt 961 7 rfl rfl rfl) ?_
    refine ax_wk (wk_zs 30 961 [11] rfl rfl) ?_
    refine ax_wk (wk_frz 30 961 rfl rfl (.agg (.cons (.same rfl) (.cons (.same rfl) (.cons (.same rfl) (.cons (.same rfl) (.cons (.same rfl) (.cons (.same rfl) (.cons (.same rfl) (.cons (.same rfl) (.cons (.same rfl) (.cons (.same rfl) (.cons (.same rfl) (.cons (.whole rfl) (.cons (.same rfl) (.cons (.same rfl) .nil))))))))))))))) rfl) ?_
    refine ax_wk (wk_frz 30 900 rfl rfl (.same rfl) rfl) ?_
    refine ax_e (e_st rfl rfl rfl rfl rfl rfl rfl) ?_
    refine ax_nil (cx_keep rfl rfl ?_)
    refine cx_ret (retN id [1000] rfl rfl rfl rfl rfl ?_)
    exact ⟨rfl, rfl⟩
   ·
    have h4 := dF h4
    exact absurd (by decide) h4
  ·
   have h1 := dF h1
   refine cx_seq (cx_ops ?_)
   refine ax_q (q_sbin rfl rfl rfl) ?_
   refine ax_q (q_mov rfl) ?_
   refine ax_nil (cx_keep rfl rfl ?_)
   refine cx_cond rfl (fun h2 => ?_) (fun h2 => ?_)
   ·
    have h2 := dT h2
    obtain ⟨c, s2, e, t3, e2, hse, hco, heq, hex, hwh, rfl⟩ := st_p3 hcase h2
    obtain ⟨t', r', ht', hc', rfl, rfl⟩ := coF_some hco
    refine cx_ops ?_
    refine ax_q (q_fadr_ptr rfl) ?_
    refine ax_e (e_st rfl rfl rfl rfl rfl rfl rfl) ?_
    refine ax_nil (cx_keep rfl rfl (cx_seq (cx_ops ?_)))
    refine ax_q (q_mov rfl) ?_
    refine ax_call rfl (vcall_own (c_table (s := dpP (⟨tk, [], 0⟩ : PS) 1) (hs.dp 1) hta) hP hmv false (fun e => bif Nat.beq e 1000 then 1000 else 900) [1000, 1001] ⟨rfl, rfl, rfl, rfl, ⟨rfl, rfl, trivial⟩, rfl, rfl, rfl⟩ (.pass rfl rfl .nil) ?_)
    rintro r h ⟨rfl, rfl⟩
    refine ⟨(fun e => bif Nat.beq e 1000 then 1000 else 900), [], ⟨rfl, rfl, rfl, rfl, mem2 rfl rfl, rfl, rfl, fun h => absurd h Bool.false_ne_true⟩, ?_⟩
    try dsimp only [dpP]
    refine ax_q (q_fadr_ptr rfl) ?_
    refine ax_e (e_st rfl rfl rfl rfl rfl rfl rfl) ?_
    refine ax_nil (cx_keep rfl rfl (cx_seq (cx_seq (cx_ops ?_))))
    refine ax_q (q_fadr_ptr rfl) ?_
    refine ax_q (q_load1_ptr rfl rfl rfl) ?_
    refine ax_nil (cx_keep rfl rfl (cx_block (cx_seq (cx_ops ?_))))
    refine ax_q (q_ibin rfl rfl rfl) ?_
    refine ax_q (q_mov rfl) ?_
    refine ax_nil (cx_keep rfl rfl ?_)
    refine cx_cond rfl (fun h4 => ?_) (fun h4 => ?_)
    ·
     have h4 := dT h4
     exact absurd h4 (by decide)
    ·
     have h4 := dF h4
     refine cx_seq (cx_ops ?_)
     refine ax_q (q_ibin rfl rfl rfl) ?_
     refine ax_q (q_mov rfl) ?_
     refine ax_nil (cx_keep rfl rfl ?_)
     refine cx_cond rfl (fun h5 => ?_) (fun h5 => ?_)
     ·
      have h5 := dT h5
      refine cx_seq (cx_seq (cx_ops ?_))
      refine ax_q (q_mov rfl) ?_
      refine ax_e (e_bsliceD (rows := [strRow wSe]) rfl) ?_
      refine ax_call rfl (vcall_own (c_skip (s := (dpP (dpP (⟨tk, [], 0⟩ : PS) 1) 1)) (ts := [wSe]) ok1 (by decide)) hP hmv false (fun e => bif Nat.beq e 1000 then 1000 else 900) [1000, 1001] ⟨rfl, rfl, rfl, rfl, ⟨rfl, rfl, trivial⟩, rfl, rfl, rfl⟩ (.pass rfl rfl (.pass rfl rfl .nil)) ?_)
      rintro r h ⟨rfl, rfl⟩
      refine ⟨(fun e => bif Nat.beq e 1000 then 1000 else 900), [], ⟨rfl, rfl, rfl, rfl, mem2 rfl rfl, rfl, rfl, fun h => absurd h Bool.false_ne_true⟩, ?_⟩
      try dsimp only [dpP]
      refine ax_q (q_not rfl) ?_
      refine ax_nil (cx_keep rfl rfl ?_)
      refine cx_cond rfl (fun h6 => ?_) (fun h6 => ?_)
      ·
       have h6 := bT h6
       exact absurd (h6.symm.trans hse) Bool.false_ne_true
      ·
       have h6 := bF h6
       rw [skP_t (s := ⟨List.drop 1 (List.drop 1 tk), [], 0⟩) hse]
       refine cx_skip ?_
       refine cx_keep rfl rfl (cx_seq (cx_ops ?_))
       refine ax_q (q_mov rfl) ?_
       refine ax_call rfl (vcall_own (c_column (s := dpP (dpP (dpP (⟨tk, [], 0⟩ : PS) 1) 1) 1) (l := 1) (ok1.dp 1) hco) hP hmv false (fun e => bif Nat.beq e 1000 then 1000 else 900) [1000, 1001] ⟨rfl, rfl, rfl, rfl, ⟨rfl, rfl, trivial⟩, rfl, rfl, rfl⟩ (.pass rfl rfl (.pass rfl rfl .nil)) ?_)
       rintro r h ⟨rfl, rfl⟩
       refine ⟨(fun e => bif Nat.beq e 1000 then 1000 else 900), [], ⟨rfl, rfl, rfl, rfl, mem2 rfl rfl, rfl, rfl, fun h => absurd h Bool.false_ne_true⟩, ?_⟩
       try dsimp only [dpP]
       refine ax_q (q_fadr_ptr rfl) ?_
       refine ax_e (e_st rfl rfl rfl rfl rfl rfl rfl) ?_
       refine ax_nil (cx_keep rfl rfl (cx_seq (cx_seq (cx_ops ?_))))
       refine ax_q (q_mov rfl) ?_
       refine ax_e (e_bsliceD (rows := [strRow [61]]) rfl) ?_
       refine ax_call rfl (vcall_own (c_skip (s := (dpP (dpP (dpP (dpP (⟨tk, [], 0⟩ : PS) 1) 1) 1) 1)) (ts := [[61]]) ((ok1.dp 1).dp 1) (by decide)) hP hmv false (fun e => bif Nat.beq e 1000 then 1000 else 900) [1000, 1001] ⟨rfl, rfl, rfl, rfl, ⟨rfl, rfl, trivial⟩, rfl, rfl, rfl⟩ (.pass rfl rfl (.pass rfl rfl .nil)) ?_)
       rintro r h ⟨rfl, rfl⟩
       refine ⟨(fun e => bif Nat.beq e 1000 then 1000 else 900), [], ⟨rfl, rfl, rfl, rfl, mem2 rfl rfl, rfl, rfl, fun h => absurd h Bool.false_ne_true⟩, ?_⟩
       try dsimp only [dpP]
       refine ax_q (q_not rfl) ?_
       refine ax_nil (cx_keep rfl rfl ?_)
       refine cx_cond rfl (fun h7 => ?_) (fun h7 => ?_)
       ·
        have h7 := bT h7
        exact absurd (h7.symm.trans heq) Bool.false_ne_true
       ·
        have h7 := bF h7
        rw [skP_t (s := ⟨List.drop 1 (List.drop 1 (List.drop 1 (List.drop 1 tk))), [], 0⟩) heq]
        obtain ⟨⟨tk', ns', op'⟩, k, hp, hd, hv, rfl, rfl⟩ := exF_some hex
        have hsx : PS.ok ⟨(dpP (dpP (dpP (dpP (dpP (⟨tk, [], 0⟩ : PS) 1) 1) 1) 1) 1).tk, [], 0⟩ := ⟨(((ok1.dp 1).dp 1).dp 1).t, (((ok1.dp 1).dp 1).dp 1).n, Nat.zero_le _, Nat.zero_le _⟩
        obtain ⟨okx, opx⟩ := prs_ro F 0 _ _ _ hsx hp
        obtain rfl : op' = 0 := opx
        refine cx_skip ?_
        refine cx_keep rfl rfl (cx_ops ?_)
        refine ax_q (q_mov rfl) ?_
        refine ax_call rfl (vcall_own (c_pexpr2 hsx hp hd hv) hP hmv false (fun e => bif Nat.beq e 1000 then 1000 else 900) [1000, 1001] ⟨rfl, rfl, rfl, rfl, ⟨rfl, rfl, trivial⟩, rfl, rfl, rfl⟩ (.pass rfl rfl .nil) ?_)
        rintro r h ⟨rfl, rfl⟩
        refine ⟨(fun e => bif Nat.beq e 1000 then 1000 else bif Nat.beq e 1001 then 900 else 47), [0], ⟨rfl, rfl, rfl, rfl, mem2 rfl rfl, rfl, rfl, fun h => absurd h Bool.false_ne_true⟩, ?_⟩
        refine ax_q (q_fadr_ptr rfl) ?_
        refine ax_e (e_st rfl rfl rfl rfl rfl rfl rfl) ?_
        refine ax_nil (cx_keep rfl rfl (cx_seq (cx_seq (cx_ops ?_))))
        refine ax_q (q_mov rfl) ?_
        refine ax_e (e_bsliceD (rows := [strRow wWh]) rfl) ?_
        refine ax_call rfl (vcall_own (c_skip (s := (⟨t3, ns', 0⟩ : PS)) (ts := [wWh]) okx (by decide)) hP hmv false (fun e => bif Nat.beq e 1000 then 1000 else 47) [1000, 1001] ⟨rfl, rfl, rfl, rfl, ⟨rfl, rfl, trivial⟩, rfl, rfl, rfl⟩ (.pass rfl rfl (.pass rfl rfl .nil)) ?_)
        rintro r h ⟨rfl, rfl⟩
        refine ⟨(fun e => bif Nat.beq e 1000 then 1000 else 47), [], ⟨rfl, rfl, rfl, rfl, mem2 rfl rfl, rfl, rfl, fun h => absurd h Bool.false_ne_true⟩, ?_⟩
        try dsimp only [dpP]
        refine ax_nil (cx_keep rfl rfl ?_)
        refine cx_cond rfl (fun h8 => ?_) (fun h8 => ?_)
        ·
         skip
         have hex := whF_t hwh h8
         obtain ⟨⟨tk2, ns2, op2⟩, k2, hp, hd, hv, rfl, rfl⟩ := exF_some hex
         have hsx : PS.ok ⟨(dpP (⟨t3, ns', 0⟩ : PS) 1).tk, [], 0⟩ := ⟨(okx.dp 1).t, (okx.dp 1).n, Nat.zero_le _, Nat.zero_le _⟩
         obtain ⟨oky, opy⟩ := prs_ro F 0 _ _ _ hsx hp
         obtain rfl : op2 = 0 := opy
         rw [skP_t h8]
         refine cx_ops ?_
         refine ax_q (q_mov rfl) ?_
         refine ax_call rfl (vcall_own (c_pexpr2 hsx hp hd hv) hP hmv false (fun e => bif Nat.beq e 1000 then 1000 else 47) [1000, 1001] ⟨rfl, rfl, rfl, rfl, ⟨rfl, rfl, trivial⟩, rfl, rfl, rfl⟩ (.pass rfl rfl .nil) ?_)
         rintro r h ⟨rfl, rfl⟩
         refine ⟨(fun e => bif Nat.beq e 1000 then 1000 else bif Nat.beq e 1001 then 47 else 53), [0], ⟨rfl, rfl, rfl, rfl, mem2 rfl rfl, rfl, rfl, fun h => absurd h Bool.false_ne_true⟩, ?_⟩
         refine ax_q (q_fadr_ptr rfl) ?_
         refine ax_e (e_st rfl rfl rfl rfl rfl rfl rfl) ?_
         refine ax_nil (cx_keep rfl rfl (cx_seq (cx_seq (cx_ops ?_))))
         refine ax_q (q_fadr_ptr rfl) ?_
         refine ax_q (q_load1_ptr rfl rfl rfl) ?_
         refine ax_q (q_ibin rfl rfl rfl) ?_
         refine ax_nil (cx_keep rfl rfl ?_)
         refine cx_cond rfl (fun h9 => ?_) (fun h9 => ?_)
         ·
          have h9 := dT h9
          exact absurd h9 (by decide)
         ·
          have h9 := dF h9
          refine cx_skip ?_
          refine cx_keep rfl rfl (cx_seq (cx_ops ?_))
          refine ax_q (q_ldN rfl rfl rfl) ?_
          refine ax_wk (wk_frz 68 47 rfl rfl (.agg (.cons (.same rfl) (.cons (.same rfl) (.cons (.same rfl) (.cons (.same rfl) (.cons (.same rfl) (.cons (.same rfl) (.cons (.same rfl) (.cons (.same rfl) (.cons (.same rfl) (.cons (.same rfl) (.cons (.whole (List.length_map _).symm) (.cons (.same rfl) (.cons (.same rfl) (.cons (.same rfl) .nil))))))))))))))) rfl) ?_
          refine ax_wk (wk_frz 68 53 rfl rfl (.agg (.cons (.same rfl) (.cons (.same rfl) (.cons (.same rfl) (.cons (.same rfl) (.cons (.same rfl) (.cons (.same rfl) (.cons (.same rfl) (.cons (.same rfl) (.cons (.same rfl) (.cons (.same rfl) (.cons (.same rfl) (.cons (.whole (List.length_map _).symm) (.cons (.same rfl) (.cons (.same rfl) .nil))))))))))))))) rfl) ?_
          refine ax_wk (wk_frz 68 900 rfl rfl (.same rfl) rfl) ?_
          refine ax_e (e_st rfl rfl rfl rfl rfl rfl rfl) ?_
          refine ax_nil (cx_keep rfl rfl ?_)
          refine cx_ret (retN id [1000] rfl rfl rfl rfl rfl ?_)
          exact ⟨rfl, rfl⟩
        ·
         skip
         obtain ⟨rfl, rfl⟩ := whF_f hwh h8
         rw [skP_f h8]
         refine cx_skip ?_
         refine cx_keep rfl rfl (cx_seq (cx_seq (cx_ops ?_)))
         refine ax_q (q_fadr_ptr rfl) ?_
         refine ax_q (q_load1_ptr rfl rfl rfl) ?_
         refine ax_q (q_ibin rfl rfl rfl) ?_
         refine ax_nil (cx_keep rfl rfl ?_)
         refine cx_cond rfl (fun h9 => ?_) (fun h9 => ?_)
         ·
          have h9 := dT h9
          exact absurd h9 (by decide)
         ·
          have h9 := dF h9
          refine cx_skip ?_
          refine cx_keep rfl rfl (cx_seq (cx_ops ?_))
          refine ax_q (q_ldN rfl rfl rfl) ?_
          refine ax_wk (wk_frz 68 47 rfl rfl (.agg (.cons (.same rfl) (.cons (.same rfl) (.cons (.same rfl) (.cons (.same rfl) (.cons (.same rfl) (.cons (.same rfl) (.cons (.same rfl) (.cons (.same rfl) (.cons (.same rfl) (.cons (.same rfl) (.cons (.whole (List.length_map _).symm) (.cons (.same rfl) (.cons (.same rfl) (.cons (.same rfl) .nil))))))))))))))) rfl) ?_
          refine ax_wk (wk_virt 961 7 rfl rfl rfl) ?_
          refine ax_wk (wk_zs 68 961 [11] rfl rfl) ?_
          refine ax_wk (wk_frz 68 961 rfl rfl (.agg (.cons (.same rfl) (.cons (.same rfl) (.cons (.same rfl) (.cons (.same rfl) (.cons (.same rfl) (.cons (.same rfl) (.cons (.same rfl) (.cons (.same rfl) (.cons (.same rfl) (.cons (.same rfl) (.cons (.same rfl) (.cons (.whole rfl) (.cons (.same rfl) (.cons (.same rfl) .nil))))))))))))))) rfl) ?_
          refine ax_wk (wk_frz 68 900 rfl rfl (.same rfl) rfl) ?_
          refine ax_e (e_st rfl rfl rfl rfl rfl rfl rfl) ?_
          refine ax_nil (cx_keep rfl rfl ?_)
          refine cx_ret (retN id [1000] rfl rfl rfl rfl rfl ?_)
          exact ⟨rfl, rfl⟩
     ·
      have h5 := dF h5
      exact absurd (by decide) h5
   ·
    have h2 := dF h2
    refine cx_seq (cx_ops ?_)
    refine ax_q (q_sbin rfl rfl rfl) ?_
    refine ax_q (q_mov rfl) ?_
    refine ax_nil (cx_keep rfl rfl ?_)
    refine cx_cond rfl (fun h3 => ?_) (fun h3 => ?_)
    ·
     have h3 := dT h3
     obtain ⟨e, hwh, rfl⟩ := st_p4 hcase h3
     refine cx_ops ?_
     refine ax_q (q_fadr_ptr rfl) ?_
     refine ax_e (e_st rfl rfl rfl rfl rfl rfl rfl) ?_
     refine ax_nil (cx_keep rfl rfl (cx_seq (cx_ops ?_)))
     refine ax_q (q_mov rfl) ?_
     refine ax_call rfl (vcall_own (c_table (s := dpP (⟨tk, [], 0⟩ : PS) 1) (hs.dp 1) hta) hP hmv false (fun e => bif Nat.beq e 1000 then 1000 else 900) [1000, 1001] ⟨rfl, rfl, rfl, rfl, ⟨rfl, rfl, trivial⟩, rfl, rfl, rfl⟩ (.pass rfl rfl .nil) ?_)
     rintro r h ⟨rfl, rfl⟩
     refine ⟨(fun e => bif Nat.beq e 1000 then 1000 else 900), [], ⟨rfl, rfl, rfl, rfl, mem2 rfl rfl, rfl, rfl, fun h => absurd h Bool.false_ne_true⟩, ?_⟩
     try dsimp only [dpP]
     refine ax_q (q_fadr_ptr rfl) ?_
     refine ax_e (e_st rfl rfl rfl rfl rfl rfl rfl) ?_
     refine ax_nil (cx_keep rfl rfl (cx_seq (cx_seq (cx_ops ?_))))
     refine ax_q (q_fadr_ptr rfl) ?_
     refine ax_q (q_load1_ptr rfl rfl rfl) ?_
     refine ax_nil (cx_keep rfl rfl (cx_block (cx_seq (cx_ops ?_))))
     refine ax_q (q_ibin rfl rfl rfl) ?_
     refine ax_q (q_mov rfl) ?_
     refine ax_nil (cx_keep rfl rfl ?_)
     refine cx_cond rfl (fun h4 => ?_) (fun h4 => ?_)
     ·
      have h4 := dT h4
      exact absurd h4 (by decide)
     ·
      have h4 := dF h4
      refine cx_seq (cx_ops ?_)
      refine ax_q (q_ibin rfl rfl rfl) ?_
      refine ax_q (q_mov rfl) ?_
      refine ax_nil (cx_keep rfl rfl ?_)
      refine cx_cond rfl (fun h5 => ?_) (fun h5 => ?_)
      ·
       have h5 := dT h5
       exact absurd h5 (by decide)
      ·
       have h5 := dF h5
       refine cx_skip ?_
       refine cx_keep rfl rfl (cx_seq (cx_seq (cx_ops ?_)))
       refine ax_q (q_mov rfl) ?_
       refine ax_e (e_bsliceD (rows := [strRow wWh]) rfl) ?_
       refine ax_call rfl (vcall_own (c_skip (s := (dpP (dpP (⟨tk, [], 0⟩ : PS) 1) 1)) (ts := [wWh]) ok1 (by decide)) hP hmv false (fun e => bif Nat.beq e 1000 then 1000 else 900) [1000, 1001] ⟨rfl, rfl, rfl, rfl, ⟨rfl, rfl, trivial⟩, rfl, rfl, rfl⟩ (.pass rfl rfl (.pass rfl rfl .nil)) ?_)
       rintro r h ⟨rfl, rfl⟩
       refine ⟨(fun e => bif Nat.beq e 1000 then 1000 else 900), [], ⟨rfl, rfl, rfl, rfl, mem2 rfl rfl, rfl, rfl, fun h => absurd h Bool.false_ne_true⟩, ?_⟩
       try dsimp only [dpP]
       refine ax_nil (cx_keep rfl rfl ?_)
       refine cx_cond rfl (fun h8 => ?_) (fun h8 => ?_)
       ·
        skip
        have hex := whF_t hwh h8
        obtain ⟨⟨tk', ns', op'⟩, k, hp, hd, hv, rfl, rfl⟩ := exF_some hex
        have hsx : PS.ok ⟨(dpP (dpP (dpP (⟨tk, [], 0⟩ : PS) 1) 1) 1).tk, [], 0⟩ := ⟨(ok1.dp 1).t, (ok1.dp 1).n, Nat.zero_le _, Nat.zero_le _⟩
        obtain ⟨okx, opx⟩ := prs_ro F 0 _ _ _ hsx hp
        obtain rfl : op' = 0 := opx
        rw [skP_t h8]
        refine cx_ops ?_
        refine ax_q (q_mov rfl) ?_
        refine ax_call rfl (vcall_own (c_pexpr2 hsx hp hd hv) hP hmv false (fun e => bif Nat.beq e 1000 then 1000 else 900) [1000, 1001] ⟨rfl, rfl, rfl, rfl, ⟨rfl, rfl, trivial⟩, rfl, rfl, rfl⟩ (.pass rfl rfl .nil) ?_)
        rintro r h ⟨rfl, rfl⟩
        refine ⟨(fun e => bif Nat.beq e 1000 then 1000 else bif Nat.beq e 1001 then 900 else 53), [0], ⟨rfl, rfl, rfl, rfl, mem2 rfl rfl, rfl, rfl, fun h => absurd h Bool.false_ne_true⟩, ?_⟩
        refine ax_q (q_fadr_ptr rfl) ?_
        refine ax_e (e_st rfl rfl rfl rfl rfl rfl rfl) ?_
        refine ax_nil (cx_keep rfl rfl (cx_seq (cx_seq (cx_ops ?_))))
        refine ax_q (q_fadr_ptr rfl) ?_
        refine ax_q (q_load1_ptr rfl rfl rfl) ?_
        refine ax_q (q_ibin rfl rfl rfl) ?_
        refine ax_nil (cx_keep rfl rfl ?_)
        refine cx_cond rfl (fun h9 => ?_) (fun h9 => ?_)
        ·
         have h9 := dT h9
         exact absurd h9 (by decide)
        ·
         have h9 := dF h9
         refine cx_skip ?_
         refine cx_keep rfl rfl (cx_seq (cx_ops ?_))
         refine ax_q (q_ldN rfl rfl rfl) ?_
         refine ax_wk (wk_virt 960 7 rfl rfl rfl) ?_
         refine ax_wk (wk_zs 68 960 [10] rfl rfl) ?_
         refine ax_wk (wk_frz 68 960 rfl rfl (.agg (.cons (.same rfl) (.cons (.same rfl) (.cons (.same rfl) (.cons (.same rfl) (.cons (.same rfl) (.cons (.same rfl) (.cons (.same rfl) (.cons (.same rfl) (.cons (.same rfl) (.cons (.same rfl) (.cons (.whole rfl) (.cons (.same rfl) (.cons (.same rfl) (.cons (.same rfl) .nil))))))))))))))) rfl) ?_
         refine ax_wk (wk_frz 68 53 rfl rfl (.agg (.cons (.same rfl) (.cons (.same rfl) (.cons (.same rfl) (.cons (.same rfl) (.cons (.same rfl) (.cons (.same rfl) (.cons (.same rfl) (.cons (.same rfl) (.cons (.same rfl) (.cons (.same rfl) (.cons (.same rfl) (.cons (.whole (List.length_map _).symm) (.cons (.same rfl) (.cons (.same rfl) .nil))))))))))))))) rfl) ?_
         refine ax_wk (wk_frz 68 900 rfl rfl (.same rfl) rfl) ?_
         refine ax_e (e_st rfl rfl rfl rfl rfl rfl rfl) ?_
         refine ax_nil (cx_keep rfl rfl ?_)
         refine cx_ret (retN id [1000] rfl rfl rfl rfl rfl ?_)
         exact ⟨rfl, rfl⟩
       ·
        skip
        obtain ⟨rfl, rfl⟩ := whF_f hwh h8
        rw [skP_f h8]
        refine cx_skip ?_
        refine cx_keep rfl rfl (cx_seq (cx_seq (cx_ops ?_)))
        refine ax_q (q_fadr_ptr rfl) ?_
        refine ax_q (q_load1_ptr rfl rfl rfl) ?_
        refine ax_q (q_ibin rfl rfl rfl) ?_
        refine ax_nil (cx_keep rfl rfl ?_)
        refine cx_cond rfl (fun h9 => ?_) (fun h9 => ?_)
        ·
         have h9 := dT h9
         exact absurd h9 (by decide)
        ·
         have h9 := dF h9
         refine cx_skip ?_
         refine cx_keep rfl rfl (cx_seq (cx_ops ?_))
         refine ax_q (q_ldN rfl rfl rfl) ?_
         refine ax_wk (wk_virt 960 7 rfl rfl rfl) ?_
         refine ax_wk (wk_zs 68 960 [10] rfl rfl) ?_
         refine ax_wk (wk_frz 68 960 rfl rfl (.agg (.cons (.same rfl) (.cons (.same rfl) (.cons (.same rfl) (.cons (.same rfl) (.cons (.same rfl) (.cons (.same rfl) (.cons (.same rfl) (.cons (.same rfl) (.cons (.same rfl) (.cons (.same rfl) (.cons (.whole rfl) (.cons (.same rfl) (.cons (.same rfl) (.cons (.same rfl) .nil))))))))))))))) rfl) ?_
         refine ax_wk (wk_virt 961 7 rfl rfl rfl) ?_
         refine ax_wk (wk_zs 68 961 [11] rfl rfl) ?_
         refine ax_wk (wk_frz 68 961 rfl rfl (.agg (.cons (.same rfl) (.cons (.same rfl) (.cons (.same rfl) (.cons (.same rfl) (.cons (.same rfl) (.cons (.same rfl) (.cons (.same rfl) (.cons (.same rfl) (.cons (.same rfl) (.cons (.same rfl) (.cons (.same rfl) (.cons (.whole rfl) (.cons (.same rfl) (.cons (.same rfl) .nil))))))))))))))) rfl) ?_
         refine ax_wk (wk_frz 68 900 rfl rfl (.same rfl) rfl) ?_
         refine ax_e (e_st rfl rfl rfl rfl rfl rfl rfl) ?_
         refine ax_nil (cx_keep rfl rfl ?_)
         refine cx_ret (retN id [1000] rfl rfl rfl rfl rfl ?_)
         exact ⟨rfl, rfl⟩
    ·
     have h3 := dF h3
     exact (st_p0 hcase h0 h1 h2 h3).elim


/- loop.example/g00332/impl.ParseSql$1 -/
def k_c_ParseSql1 : XCode :=
 .ops [.op (some 2) (.load1 (.t 0)),
  .call (some 3) 42 [.t 2],
  .op none (.store 14 (.t 1) (.t 3))]
theorem k_c_ParseSql1_fits : fitsF Tryz.prog 41 ⟨4, k_c_ParseSql1, []⟩ = true := by kernel_rfl
theorem c_ParseSql1 {F : Nat} {tk : List Str} {x : GStmt} {rest : List Str} (hs : PS.ok ⟨tk, [], 0⟩) (h : stF F ⟨tk, [], 0⟩ = some (x, rest)) : Con Tryz.prog noMv 41 [.ptr 1000 0, .ptr 1001 0] [(1000, .box [.ptr 1002 0]), (1001, .box [.d (.int .i64 0), .d (.int .i64 0), .d (.int .i64 0), .d (.int .i64 0), .d (.int .i64 0), .d (.str []), .d (.int .i64 0), .d (.int .i64 0), .d (.str []), .d (.int .i64 0), .zs 7, .zs 7, .d (.int .i64 0), .d (.bool false)]), (1002, .box [.d (.sl 1 (tk.map strRow)), .zs 7, int ((0 : Nat) : Int)])] (fun r h => r = .tup [] ∧ h = [(1000, .box [.ptr 1002 0]), (1001, .box [.d (.int .i64 x.Kind), .d (.int .i64 x.Table), .d (.int .i64 x.Row.Id), .d (.int .i64 x.Row.N.Kind), .d (.int .i64 x.Row.N.N), .d (.str x.Row.N.T), .d (.int .i64 x.Row.Name.Kind), .d (.int .i64 x.Row.Name.N), .d (.str x.Row.Name.T), .d (.int .i64 x.Column), .d (.sl 7 (x.Set.Nodes.map GExprNode.row)), .d (.sl 7 (x.Where.Nodes.map GExprNode.row)), .d (.int .i64 x.Order), .d (.bool x.Down)]), (1002, .box [.d (.sl 1 (rest.map strRow)), .dead, int ((0 : Nat) : Int)])]) := by
 refine con_of2 k_c_ParseSql1_fits rfl fun C hP hmv => ?_
 unfold k_c_ParseSql1
 refine cx_ops ?_
 refine ax_q (q_load1_ptr rfl rfl rfl) ?_
 refine ax_call rfl (vcall_own (c_stmt hs h) hP hmv false (fun _ => 1002) [1000] ⟨rfl, rfl, rfl, rfl, ⟨rfl, trivial⟩, rfl, rfl, rfl⟩ (.pass rfl rfl .nil) ?_)
 rintro r h ⟨rfl, rfl⟩
 refine ⟨(fun _ => 1002), [], ⟨rfl, rfl, rfl, rfl, mem1 rfl, rfl, rfl, fun h => absurd h Bool.false_ne_true⟩, ?_⟩
 refine ax_e (e_st rfl rfl rfl rfl rfl rfl rfl) ?_
 refine ax_nil ?_
 refine retN id [1000, 1001, 1002] rfl rfl rfl rfl rfl ?_
 exact ⟨rfl, rfl⟩


/- loop.example/g00332/impl.ParseSql -/
def k_c_ParseSql : XCode :=
 .seq (.ops [.op (some 2) (.alloc [.int .i64 0, .int .i64 0, .int .i64 0, .int .i64 0, .int .i64 0, .str [], .int .i64 0, .int .i64 0, .str [], .int .i64 0, .nils 7, .nils 7, .int .i64 0, .bool false]),
   .op (some 3) (.mov (.k (.int .i64 0)))])
 (.keep [0, 2] (.seq (.ops [.op (some 9) (.mov (.t 0)),
   .call (some 10) 10 [.t 9],
   .op (some 8) (.mov (.t 10)),
   .op (some 11) (.ext (.t 8) 0),
   .op (some 12) (.ext (.t 8) 1),
   .op (some 4) (.mov (.t 11)),
   .op (some 5) (.mov (.t 12))])
 (.keep [2, 4, 5] (.seq (.seq (.ops [.op (some 13) (.mov (.t 5)),
   .op (some 14) (.bin .neq (.t 13) (.k (.int .i64 0)))])
  (.keep [2, 4, 5, 14] (.cond (.t 14)
  (.seq (.ops [.op (some 15) (.build [.int .i64 0, .int .i64 0, .int .i64 0, .int .i64 0, .int .i64 0, .str [], .int .i64 0, .int .i64 0, .str [], .int .i64 0, .nils 7, .nils 7, .int .i64 0, .bool false] []),
    .op (some 16) (.mov (.t 5)),
    .op none (.store 14 (.t 2) (.t 15)),
    .op (some 3) (.mov (.t 16))])
   (.keep [2, 3] (.ret)))
  (.skip))))
 (.keep [2, 4] (.seq (.ops [.op (some 17) (.mov (.t 4)),
   .op (some 18) (.build [.nils 1, .nils 7, .int .i64 0] [(0, 1, .t 17)]),
   .op (some 19) (.box (.t 18)),
   .op (some 20) (.build [.int .i64 0, .int .i64 0, .int .i64 0, .int .i64 0, .int .i64 0, .str [], .int .i64 0, .int .i64 0, .str [], .int .i64 0, .nils 7, .nils 7, .int .i64 0, .bool false] []),
   .op (some 6) (.alloc [.nilp]),
   .op (some 7) (.alloc [.int .i64 0, .int .i64 0, .int .i64 0, .int .i64 0, .int .i64 0, .str [], .int .i64 0, .int .i64 0, .str [], .int .i64 0, .nils 7, .nils 7, .int .i64 0, .bool false]),
   .op none (.store 1 (.t 6) (.t 19)),
   .op none (.store 14 (.t 7) (.t 20))])
 (.keep [2, 6, 7] (.seq (.ops [.op (some 21) (.mkfn 41 [.t 6, .t 7]),
   .call (some 22) 28 [.t 21],
   .op (some 5) (.mov (.t 22))])
 (.keep [2, 5, 6, 7] (.seq (.seq (.ops [.op (some 23) (.mov (.t 5)),
   .op (some 24) (.bin .eql (.t 23) (.k (.int .i64 0))),
   .op (some 25) (.mov (.t 24)),
   .andor 32 true 2 25 [.op (some 26) (.load1 (.t 6)), .op (some 27) (.nilck (.t 26)), .op (some 28) (.fadr (.t 27) 0), .op (some 29) (.load1 (.t 28)), .op (some 30) (.lenS (.t 29)), .op (some 31) (.bin .gtr (.t 30) (.k (.int .i64 0)))] (.t 31)])
  (.keep [2, 5, 7, 32] (.cond (.t 32)
  (.ops [.op (some 5) (.mov (.k (.int .i64 3)))])
  (.skip))))
 (.keep [2, 5, 7] (.seq (.seq (.ops [.op (some 33) (.mov (.t 5)),
   .op (some 34) (.bin .neq (.t 33) (.k (.int .i64 0)))])
  (.keep [2, 5, 7, 34] (.cond (.t 34)
  (.seq (.ops [.op (some 35) (.build [.int .i64 0, .int .i64 0, .int .i64 0, .int .i64 0, .int .i64 0, .str [], .int .i64 0, .int .i64 0, .str [], .int .i64 0, .nils 7, .nils 7, .int .i64 0, .bool false] []),
    .op (some 36) (.mov (.t 5)),
    .op none (.store 14 (.t 2) (.t 35)),
    .op (some 3) (.mov (.t 36))])
   (.keep [2, 3] (.ret)))
  (.skip))))
 (.keep [2, 7] (.seq (.ops [.op (some 37) (.loadN 14 (.t 7)),
   .op none (.store 14 (.t 2) (.t 37)),
   .op (some 3) (.mov (.k (.int .i64 0)))])
 (.keep [2, 3] (.ret))))))))))))))))
theorem k_c_ParseSql_fits : fitsF Tryz.prog 20 ⟨38, k_c_ParseSql, [.cN 2 14, .t 3]⟩ = true := by kernel_rfl
set_option maxHeartbeats 4000000 in
theorem c_ParseSql {t : Str} {x : GStmt} (h : SQok t x) : Con Tryz.prog noMv 20 [str t] [] (fun r h => r = .tup [x.av, int 0] ∧ h = []) := by
 refine con_of2 k_c_ParseSql_fits rfl fun C hP hmv => ?_
 unfold k_c_ParseSql
 obtain ⟨hl, tk, F, hlx, htl, hok, hp⟩ := h
 have hs : PS.ok ⟨tk, [], 0⟩ := ⟨hok, htl, Nat.zero_le _, Nat.zero_le _⟩
 refine cx_seq (cx_ops ?_)
 refine ax_e (e_alloc (by decide) rfl rfl) ?_
 refine ax_q (q_mov rfl) ?_
 refine ax_nil (cx_keep rfl rfl (cx_seq (cx_ops ?_)))
 refine ax_q (q_mov rfl) ?_
 refine ax_call rfl (vc_pure (c_LexSql (t := t) (ts := tk) ?_ ?_ ?_) hP rfl ?_)
 ·
  assumption
 ·
  assumption
 ·
  assumption
 rintro r h ⟨rfl, rfl⟩
 refine ⟨fun i => 10 + 200 * i, [0], ⟨rfl, rfl, rfl, rfl, rfl, (by first | exact (fun h => absurd h Bool.false_ne_true) | exact (fun _ => ⟨rfl, (noisl_of (by repeat (first | exact trivial | refine ⟨noisl_map (fun _ => rfl), ?_⟩ | refine ⟨?_, ?_⟩)))⟩))⟩, ?_⟩
 skip
 refine ax_q (q_mov rfl) ?_
 refine ax_q (q_ext rfl rfl) ?_
 refine ax_q (q_ext rfl rfl) ?_
 refine ax_q (q_mov rfl) ?_
 refine ax_q (q_mov rfl) ?_
 refine ax_nil (cx_keep rfl rfl (cx_seq (cx_seq (cx_ops ?_))))
 refine ax_q (q_mov rfl) ?_
 refine ax_q (q_ibin rfl rfl rfl) ?_
 refine ax_nil (cx_keep rfl rfl ?_)
 refine cx_cond rfl (fun h0 => ?_) (fun h0 => ?_)
 ·
  have h0 := nT h0
  exact absurd rfl h0
 ·
  have h0 := nF h0
  refine cx_skip ?_
  refine cx_keep rfl rfl (cx_seq (cx_ops ?_))
  refine ax_q (q_mov rfl) ?_
  refine ax_wk (wk_frz 17 10 rfl rfl (.whole (List.length_map _).symm) rfl) ?_
  refine ax_q (q_build rfl) ?_
  refine ax_e (e_box rfl rfl (by decide) rfl rfl rfl) ?_
  refine ax_q (q_build rfl) ?_
  refine ax_e (e_alloc (by decide) rfl rfl) ?_
  refine ax_e (e_alloc (by decide) rfl rfl) ?_
  refine ax_e (e_st rfl rfl rfl rfl rfl rfl rfl) ?_
  refine ax_e (e_st rfl rfl rfl rfl rfl rfl rfl) ?_
  refine ax_nil (cx_keep rfl rfl (cx_seq (cx_ops ?_)))
  refine ax_q (q_mkfn rfl) ?_
  refine ax_call rfl (vcall_own (c_reading (g := 41) (caps := [.ptr 1000 0, .ptr 1001 0]) (by kernel_rfl) (c_ParseSql1 hs hp)) hP hmv false (fun e => bif Nat.beq e 1000 then 6 else bif Nat.beq e 1001 then 7 else 19) [1000, 1001, 1002] ⟨rfl, rfl, rfl, rfl, ⟨rfl, rfl, rfl, trivial⟩, rfl, rfl, rfl⟩ (.pass rfl rfl .nil) ?_)
  rintro r h ⟨rfl, rfl⟩
  refine ⟨(fun e => bif Nat.beq e 1000 then 6 else bif Nat.beq e 1001 then 7 else 19), [], ⟨rfl, rfl, rfl, rfl, mem3 rfl rfl rfl, rfl, rfl, fun h => absurd h Bool.false_ne_true⟩, ?_⟩
  refine ax_q (q_mov rfl) ?_
  refine ax_nil (cx_keep rfl rfl (cx_seq (cx_seq (cx_ops ?_))))
  refine ax_q (q_mov rfl) ?_
  refine ax_q (q_ibin rfl rfl rfl) ?_
  refine ax_q (q_mov rfl) ?_
  apply ax_and rfl rfl
  ·
   intro g
   have g := dT g
   refine ax_q (q_load1_ptr rfl rfl rfl) ?_
   refine ax_q (q_nilck_ptr rfl) ?_
   refine ax_q (q_fadr_ptr rfl) ?_
   refine ax_q (q_load1_ptr rfl rfl rfl) ?_
   refine ax_q (q_lenS_map rfl) ?_
   refine ax_q (q_ibin rfl rfl rfl) ?_
   exact ax_nil ⟨rfl, by repeat constructor⟩
  refine ax_nil (cx_keep rfl rfl ?_)
  refine cx_cond rfl (fun h1 => ?_) (fun h1 => ?_)
  ·
   have h1 := (fun h => And.intro (dT (and_T h).1) (dT (and_T h).2)) h1
   exfalso
   have := h1.2
   simp at this
  ·
   have h1 := (fun h => (and_F h).imp dF dF) h1
   refine cx_skip ?_
   refine cx_keep rfl rfl (cx_seq (cx_seq (cx_ops ?_)))
   refine ax_q (q_mov rfl) ?_
   refine ax_q (q_ibin rfl rfl rfl) ?_
   refine ax_nil (cx_keep rfl rfl ?_)
   refine cx_cond rfl (fun h2 => ?_) (fun h2 => ?_)
   ·
    have h2 := nT h2
    exact absurd rfl h2
   ·
    have h2 := nF h2
    refine cx_skip ?_
    refine cx_keep rfl rfl (cx_seq (cx_ops ?_))
    refine ax_q (q_ldN rfl rfl rfl) ?_
    refine ax_e (e_st rfl rfl rfl rfl rfl rfl rfl) ?_
    refine ax_q (q_mov rfl) ?_
    refine ax_nil (cx_keep rfl rfl ?_)
    refine cx_ret (ret0 rfl rfl ?_)
    exact ⟨rfl, rfl⟩


/- loop.example/g00332/laws.sameExpr -/
def k_c_sameExpr : XCode :=
 .seq (.ops [.op (some 2) (.box (.t 0)),
   .op (some 3) (.box (.t 1)),
   .op (some 4) (.mov (.k (.bool false)))])
 (.keep [2, 3] (.seq (.seq (.ops [.op (some 6) (.fadr (.t 2) 0),
   .op (some 7) (.load1 (.t 6)),
   .op (some 8) (.lenS (.t 7)),
   .op (some 9) (.fadr (.t 3) 0),
   .op (some 10) (.load1 (.t 9)),
   .op (some 11) (.lenS (.t 10)),
   .op (some 12) (.bin .neq (.t 8) (.t 11))])
  (.keep [2, 3, 12] (.cond (.t 12)
  (.seq (.ops [.op (some 4) (.mov (.k (.bool false)))])
   (.keep [4] (.ret)))
  (.skip))))
 (.keep [2, 3] (.seq (.seq (.ops [.op (some 5) (.mov (.k (.int .i64 0)))])
  (.keep [2, 3, 5] (.block 0 (.loop (.seq (.seq (.ops [.op (some 13) (.mov (.t 5)),
     .op (some 14) (.fadr (.t 2) 0),
     .op (some 15) (.load1 (.t 14)),
     .op (some 16) (.lenS (.t 15)),
     .op (some 17) (.bin .lss (.t 13) (.t 16))])
   (.keep [2, 3, 5, 17] (.cond (.t 17)
    (.skip)
    (.exit 0))))
   (.keep [2, 3, 5] (.seq (.block 1 (.seq (.draw [.op (some 20) (.fadr (.t 2) 0),
     .op (some 21) (.load1 (.t 20)),
     .op (some 22) (.mov (.t 5)),
     .op (some 23) (.iadr 7 (.t 21) (.t 22)),
     .op (some 24) (.loadN 7 (.t 23)),
     .op (some 25) (.fadr (.t 3) 0),
     .op (some 26) (.load1 (.t 25)),
     .op (some 27) (.mov (.t 5)),
     .op (some 28) (.iadr 7 (.t 26) (.t 27)),
     .op (some 29) (.loadN 7 (.t 28)),
     .op (some 30) (.eqs true [0, 0, 0, 0, 0, 0, 2] (.t 24) (.t 29))])
    (.keep [2, 3, 5, 30] (.cond (.t 30)
    (.seq (.ops [.op (some 4) (.mov (.k (.bool false)))])
     (.keep [4] (.ret)))
    (.skip)))))
   (.keep [2, 3, 5] (.ops [.op (some 18) (.mov (.t 5)),
    .op (some 19) (.bin .add (.t 18) (.k (.int .i64 1))),
    .op (some 5) (.mov (.t 19))])))))))))
 (.keep [] (.seq (.ops [.op (some 4) (.mov (.k (.bool true)))])
 (.keep [4] (.ret))))))))
theorem k_c_sameExpr_fits : fitsF Tryz.prog 12 ⟨31, k_c_sameExpr, [.t 4]⟩ = true := by kernel_rfl
theorem c_sameExpr {a b : GExpr} (ha : a.Nodes.length ≤ 1048576) (hb : b.Nodes.length ≤ 1048576) : Con Tryz.prog noMv 12 [a.av, b.av] [] (fun r h => r = bool (eqb a.Nodes b.Nodes) ∧ h = []) := by
 refine con_of2 k_c_sameExpr_fits rfl fun C hP hmv => ?_
 unfold k_c_sameExpr
 refine cx_seq (cx_ops ?_)
 refine ax_e (e_box rfl rfl (by decide) rfl rfl rfl) ?_
 refine ax_e (e_box rfl rfl (by decide) rfl rfl rfl) ?_
 refine ax_q (q_mov rfl) ?_
 refine ax_nil (cx_keep rfl rfl (cx_seq (cx_seq (cx_ops ?_))))
 refine ax_q (q_fadr_ptr rfl) ?_
 refine ax_q (q_load1_ptr rfl rfl rfl) ?_
 refine ax_q (q_lenS_map rfl) ?_
 refine ax_q (q_fadr_ptr rfl) ?_
 refine ax_q (q_load1_ptr rfl rfl rfl) ?_
 refine ax_q (q_lenS_map rfl) ?_
 refine ax_q (q_ibin rfl rfl rfl) ?_
 refine ax_nil (cx_keep rfl rfl ?_)
 refine cx_cond rfl (fun h0 => ?_) (fun h0 => ?_)
 ·
  have h0 := nT h0
  refine cx_seq (cx_ops ?_)
  refine ax_q (q_mov rfl) ?_
  refine ax_nil (cx_keep rfl rfl ?_)
  refine cx_ret (ret0 rfl rfl ?_)
  exact ⟨by rw [eqb_f (fun e => by rw [e] at h0; exact h0 rfl)]; rfl, rfl⟩
 ·
  have h0 := nF h0
  have hlen : a.Nodes.length = b.Nodes.length := by omega
  refine cx_skip ?_
  refine cx_keep rfl rfl (cx_seq (cx_seq (cx_ops ?_)))
  refine ax_q (q_mov rfl) ?_
  refine ax_nil (cx_keep rfl rfl (cx_block ?_))
  refine cx_loopU (fun n k => k ≤ a.Nodes.length ∧ n = a.Nodes.length - k ∧ ∀ i, i < k → a.Nodes[i]? = b.Nodes[i]?) (fun k : Nat => [(5, int k)]) (fun _ => [(2, .box [.d (.sl 7 (a.Nodes.map GExprNode.row))]), (3, .box [.d (.sl 7 (b.Nodes.map GExprNode.row))])]) ⟨_, 0, ⟨Nat.zero_le _, rfl, fun i hi => absurd hi (Nat.not_lt_zero _)⟩, by repeat constructor⟩ ?_
  rintro n k ⟨hk, rfl, hb⟩
  refine cx_seq (cx_seq (cx_ops ?_))
  refine ax_q (q_mov rfl) ?_
  refine ax_q (q_fadr_ptr rfl) ?_
  refine ax_q (q_load1_ptr rfl rfl rfl) ?_
  refine ax_q (q_lenS_map rfl) ?_
  refine ax_q (q_ibin rfl rfl rfl) ?_
  refine ax_nil (cx_keep rfl rfl ?_)
  refine cx_cond rfl (fun h1 => ?_) (fun h1 => ?_)
  ·
   have h1 := dT h1
   have h1x : k < a.Nodes.length := by omega
   have h1y : k < b.Nodes.length := by omega
   refine cx_skip ?_
   refine cx_keep rfl rfl (cx_seq (cx_block (cx_seq (cx_draw ?_))))
   refine ax_q (q_fadr_ptr rfl) ?_
   refine ax_q (q_load1_ptr rfl rfl rfl) ?_
   refine ax_q (q_mov rfl) ?_
   refine ax_q (q_ix rfl rfl (mapAt h1x)) ?_
   first | refine ax_q (q_ldN rfl rfl rfl) ?_ | refine ax_q (q_loadN_ip rfl (Nat.le_refl _)) ?_
   refine ax_q (q_fadr_ptr rfl) ?_
   refine ax_q (q_load1_ptr rfl rfl rfl) ?_
   refine ax_q (q_mov rfl) ?_
   refine ax_q (q_ix rfl rfl (mapAt h1y)) ?_
   first | refine ax_q (q_ldN rfl rfl rfl) ?_ | refine ax_q (q_loadN_ip rfl (Nat.le_refl _)) ?_
   refine ax_q (GExprNode.q_eqs rfl rfl) ?_
   refine ax_nil (cx_keep rfl rfl ?_)
   refine cx_cond rfl (fun h2 => ?_) (fun h2 => ?_)
   ·
    have h2 := bT h2
    refine cx_seq (cx_ops ?_)
    refine ax_q (q_mov rfl) ?_
    refine ax_nil (cx_keep rfl rfl ?_)
    refine cx_ret (ret0 rfl rfl ?_)
    exact ⟨by rw [eqb_f (fun e => eqn_no h1x h1y e (by rw [h2]; decide))]; rfl, rfl⟩
   ·
    have h2 := bF h2
    refine cx_skip ?_
    refine cx_keep rfl rfl (cx_ops ?_)
    refine ax_q (q_mov rfl) ?_
    refine ax_qe (r' := int ((k + 1 : Nat) : Int)) (q_ibin rfl rfl rfl) (by rw [wi (by omega) (by omega)]; rfl) ?_
    refine ax_q (q_mov rfl) ?_
    refine ax_nil ?_
    exact ⟨_, k + 1, by omega, ⟨by omega, rfl, eqn_step h1x h1y hb (eqb_iff.1 h2)⟩, by repeat constructor⟩
  ·
   have h1 := dF h1
   have h1x : k = a.Nodes.length := by omega
   refine cx_exit rfl ?_
   refine cx_keep rfl rfl (cx_seq (cx_ops ?_))
   refine ax_q (q_mov rfl) ?_
   refine ax_nil (cx_keep rfl rfl ?_)
   refine cx_ret (ret0 rfl rfl ?_)
   exact ⟨by rw [eqb_t (eqn_end hlen h1x hb)]; rfl, rfl⟩


/- loop.example/g00332/laws.sameStmt -/
def k_c_sameStmt : XCode :=
 .seq (.ops [.op (some 2) (.box (.t 0)),
   .op (some 3) (.box (.t 1)),
   .op (some 4) (.mov (.k (.bool false)))])
 (.keep [2, 3] (.seq (.ops [.op (some 5) (.fadr (.t 2) 0),
   .op (some 6) (.load1 (.t 5)),
   .op (some 7) (.fadr (.t 3) 0),
   .op (some 8) (.load1 (.t 7)),
   .op (some 9) (.bin .eql (.t 6) (.t 8)),
   .op (some 10) (.mov (.t 9)),
   .andor 16 true 5 10 [.op (some 11) (.fadr (.t 2) 1), .op (some 12) (.load1 (.t 11)), .op (some 13) (.fadr (.t 3) 1), .op (some 14) (.load1 (.t 13)), .op (some 15) (.bin .eql (.t 12) (.t 14))] (.t 15),
   .op (some 17) (.mov (.t 16)),
   .andor 23 true 12 17 [.op (some 18) (.fadr (.t 2) 2), .op (some 19) (.loadN 7 (.t 18)), .op (some 20) (.fadr (.t 3) 2), .op (some 21) (.loadN 7 (.t 20)), .op (some 22) (.eqs false [0, 0, 0, 2, 0, 0, 2] (.t 19) (.t 21))] (.t 22),
   .op (some 24) (.mov (.t 23)),
   .andor 30 true 19 24 [.op (some 25) (.fadr (.t 2) 9), .op (some 26) (.load1 (.t 25)), .op (some 27) (.fadr (.t 3) 9), .op (some 28) (.load1 (.t 27)), .op (some 29) (.bin .eql (.t 26) (.t 28))] (.t 29),
   .op (some 31) (.mov (.t 30)),
   .andor 37 true 26 31 [.op (some 32) (.fadr (.t 2) 10), .op (some 33) (.loadN 1 (.t 32)), .op (some 34) (.fadr (.t 3) 10), .op (some 35) (.loadN 1 (.t 34)), .call (some 36) 12 [.t 33, .t 35]] (.t 36),
   .op (some 38) (.mov (.t 37)),
   .andor 44 true 33 38 [.op (some 39) (.fadr (.t 2) 11), .op (some 40) (.loadN 1 (.t 39)), .op (some 41) (.fadr (.t 3) 11), .op (some 42) (.loadN 1 (.t 41)), .call (some 43) 12 [.t 40, .t 42]] (.t 43),
   .op (some 45) (.mov (.t 44)),
   .andor 51 true 40 45 [.op (some 46) (.fadr (.t 2) 12), .op (some 47) (.load1 (.t 46)), .op (some 48) (.fadr (.t 3) 12), .op (some 49) (.load1 (.t 48)), .op (some 50) (.bin .eql (.t 47) (.t 49))] (.t 50),
   .op (some 52) (.mov (.t 51)),
   .andor 58 true 47 52 [.op (some 53) (.fadr (.t 2) 13), .op (some 54) (.load1 (.t 53)), .op (some 55) (.fadr (.t 3) 13), .op (some 56) (.load1 (.t 55)), .op (some 57) (.eqb false (.t 54) (.t 56))] (.t 57),
   .op (some 4) (.mov (.t 58))])
 (.keep [4] (.ret))))
theorem k_c_sameStmt_fits : fitsF Tryz.prog 21 ⟨59, k_c_sameStmt, [.t 4]⟩ = true := by kernel_rfl
set_option maxHeartbeats 4000000 in
theorem c_sameStmt {s : GStmt} (h0 : s.Set.Nodes.length ≤ 1048576) (h1 : s.Where.Nodes.length ≤ 1048576) : Con Tryz.prog noMv 21 [s.av, s.av] [] (fun r h => r = bool true ∧ h = []) := by
 refine con_of2 k_c_sameStmt_fits rfl fun C hP hmv => ?_
 unfold k_c_sameStmt
 refine cx_seq (cx_ops ?_)
 refine ax_e (e_box rfl rfl (by decide) rfl rfl rfl) ?_
 refine ax_e (e_box rfl rfl (by decide) rfl rfl rfl) ?_
 refine ax_q (q_mov rfl) ?_
 refine ax_nil (cx_keep rfl rfl (cx_seq (cx_ops ?_)))
 refine ax_q (q_fadr_ptr rfl) ?_
 refine ax_q (q_load1_ptr rfl rfl rfl) ?_
 refine ax_q (q_fadr_ptr rfl) ?_
 refine ax_q (q_load1_ptr rfl rfl rfl) ?_
 refine ax_q (q_ibin rfl rfl rfl) ?_
 refine ax_q (q_mov rfl) ?_
 apply ax_and rfl rfl
 ·
  intro g
  have g := dT g
  refine ax_q (q_fadr_ptr rfl) ?_
  refine ax_q (q_load1_ptr rfl rfl rfl) ?_
  refine ax_q (q_fadr_ptr rfl) ?_
  refine ax_q (q_load1_ptr rfl rfl rfl) ?_
  refine ax_q (q_ibin rfl rfl rfl) ?_
  exact ax_nil ⟨rfl, by repeat constructor⟩
 refine ax_q (q_mov rfl) ?_
 apply ax_and rfl rfl
 ·
  intro g
  have g := (fun h => And.intro (dT (and_T h).1) (dT (and_T h).2)) g
  refine ax_q (q_fadr_ptr rfl) ?_
  refine ax_q (q_ldN rfl rfl rfl) ?_
  refine ax_q (q_fadr_ptr rfl) ?_
  refine ax_q (q_ldN rfl rfl rfl) ?_
  refine ax_q (GRow.q_eqs rfl rfl) ?_
  exact ax_nil ⟨rfl, by repeat constructor⟩
 refine ax_q (q_mov rfl) ?_
 apply ax_and rfl rfl
 ·
  intro g
  have g := (fun h => And.intro ((fun h => And.intro (dT (and_T h).1) (dT (and_T h).2)) (and_T h).1) (id (and_T h).2)) g
  refine ax_q (q_fadr_ptr rfl) ?_
  refine ax_q (q_load1_ptr rfl rfl rfl) ?_
  refine ax_q (q_fadr_ptr rfl) ?_
  refine ax_q (q_load1_ptr rfl rfl rfl) ?_
  refine ax_q (q_ibin rfl rfl rfl) ?_
  exact ax_nil ⟨rfl, by repeat constructor⟩
 refine ax_q (q_mov rfl) ?_
 apply ax_and rfl rfl
 ·
  intro g
  have g := (fun h => And.intro ((fun h => And.intro ((fun h => And.intro (dT (and_T h).1) (dT (and_T h).2)) (and_T h).1) (id (and_T h).2)) (and_T h).1) (dT (and_T h).2)) g
  refine ax_q (q_fadr_ptr rfl) ?_
  refine ax_q (q_ldN rfl rfl rfl) ?_
  refine ax_q (q_fadr_ptr rfl) ?_
  refine ax_q (q_ldN rfl rfl rfl) ?_
  refine ax_call rfl (vc_pure0 (c_sameExpr (a := s.Set) (b := s.Set) ?_ ?_) hP rfl rfl ?_)
  ·
   assumption
  ·
   assumption
  exact ax_nil ⟨rfl, by repeat constructor⟩
 refine ax_q (q_mov rfl) ?_
 apply ax_and rfl rfl
 ·
  intro g
  have g := (fun h => And.intro ((fun h => And.intro ((fun h => And.intro ((fun h => And.intro (dT (and_T h).1) (dT (and_T h).2)) (and_T h).1) (id (and_T h).2)) (and_T h).1) (dT (and_T h).2)) (and_T h).1) (id (and_T h).2)) g
  refine ax_q (q_fadr_ptr rfl) ?_
  refine ax_q (q_ldN rfl rfl rfl) ?_
  refine ax_q (q_fadr_ptr rfl) ?_
  refine ax_q (q_ldN rfl rfl rfl) ?_
  refine ax_call rfl (vc_pure0 (c_sameExpr (a := s.Where) (b := s.Where) ?_ ?_) hP rfl rfl ?_)
  ·
   assumption
  ·
   assumption
  exact ax_nil ⟨rfl, by repeat constructor⟩
 refine ax_q (q_mov rfl) ?_
 apply ax_and rfl rfl
 ·
  intro g
  have g := (fun h => And.intro ((fun h => And.intro ((fun h => And.intro ((fun h => And.intro ((fun h => And.intro (dT (and_T h).1) (dT (and_T h).2)) (and_T h).1) (id (and_T h).2)) (and_T h).1) (dT (and_T h).2)) (and_T h).1) (id (and_T h).2)) (and_T h).1) (id (and_T h).2)) g
  refine ax_q (q_fadr_ptr rfl) ?_
  refine ax_q (q_load1_ptr rfl rfl rfl) ?_
  refine ax_q (q_fadr_ptr rfl) ?_
  refine ax_q (q_load1_ptr rfl rfl rfl) ?_
  refine ax_q (q_ibin rfl rfl rfl) ?_
  exact ax_nil ⟨rfl, by repeat constructor⟩
 refine ax_q (q_mov rfl) ?_
 apply ax_and rfl rfl
 ·
  intro g
  have g := (fun h => And.intro ((fun h => And.intro ((fun h => And.intro ((fun h => And.intro ((fun h => And.intro ((fun h => And.intro (dT (and_T h).1) (dT (and_T h).2)) (and_T h).1) (id (and_T h).2)) (and_T h).1) (dT (and_T h).2)) (and_T h).1) (id (and_T h).2)) (and_T h).1) (id (and_T h).2)) (and_T h).1) (dT (and_T h).2)) g
  refine ax_q (q_fadr_ptr rfl) ?_
  refine ax_q (q_load1_ptr rfl rfl rfl) ?_
  refine ax_q (q_fadr_ptr rfl) ?_
  refine ax_q (q_load1_ptr rfl rfl rfl) ?_
  refine ax_q (q_eqb rfl rfl) ?_
  exact ax_nil ⟨rfl, by repeat constructor⟩
 refine ax_q (q_mov rfl) ?_
 refine ax_nil (cx_keep rfl rfl ?_)
 refine cx_ret (ret0 rfl rfl ?_)
 exact ⟨by simp [mkRes, AM.bool, eqb_t], rfl⟩

end Go.Proofs.YthdafcdhnjapnaaGreatDoor
