/- The walks: what each function computes, as a contract without a world (part 1). -/
import Derived.Test.YtcloaaakhojjgaaGreatProg
import Derived.Test.YtcloaaakhojjgaaGreatW0
namespace Go.Proofs.YtcloaaakhojjgaaGreat
open Go Go.AM
set_option maxRecDepth 10000
set_option linter.unusedVariables false
set_option linter.unusedSimpArgs false
/- loop.example/g00332/impl.DiskOK -/
def k_c_DiskOK : XCode :=
 .seq (.ops [.op (some 1) (.box (.t 0)),
   .op (some 2) (.mov (.k (.bool false)))])
 (.keep [1] (.seq (.seq (.ops [.op (some 3) (.fadr (.t 1) 0),
   .op (some 4) (.load1 (.t 3)),
   .op (some 5) (.lenS (.t 4)),
   .call (some 6) 26 [.t 5, .k (.int .i64 1), .k (.int .i64 100)],
   .op (some 7) (.not (.t 6)),
   .op (some 8) (.mov (.t 7)),
   .andor 13 false 5 8 [.op (some 9) (.fadr (.t 1) 1), .op (some 10) (.load1 (.t 9)), .op (some 11) (.lenS (.t 10)), .op (some 12) (.bin .gtr (.t 11) (.k (.int .i64 500)))] (.t 12),
   .op (some 14) (.mov (.t 13)),
   .andor 19 false 11 14 [.op (some 15) (.fadr (.t 1) 3), .op (some 16) (.load1 (.t 15)), .op (some 17) (.lenS (.t 16)), .op (some 18) (.bin .gtr (.t 17) (.k (.int .i64 500)))] (.t 18),
   .op (some 20) (.mov (.t 19)),
   .andor 30 false 17 20 [.op (some 21) (.fadr (.t 1) 2), .op (some 22) (.load1 (.t 21)), .op (some 23) (.not (.t 22)), .op (some 24) (.mov (.t 23)), .andor 29 true 21 24 [.op (some 25) (.fadr (.t 1) 3), .op (some 26) (.load1 (.t 25)), .op (some 27) (.lenS (.t 26)), .op (some 28) (.bin .gtr (.t 27) (.k (.int .i64 0)))] (.t 28)] (.t 29)])
  (.keep [1, 30] (.cond (.t 30)
  (.seq (.ops [.op (some 2) (.mov (.k (.bool false)))])
   (.keep [2] (.ret)))
  (.skip))))
 (.keep [1] (.seq (.ops [.op (some 31) (.fadr (.t 1) 0),
   .op (some 32) (.load1 (.t 31)),
   .call (some 33) 82 [.t 32, .f 83],
   .op (some 34) (.not (.t 33)),
   .op (some 35) (.mov (.t 34)),
   .andor 41 true 4 35 [.op (some 36) (.fadr (.t 1) 1), .op (some 37) (.load1 (.t 36)), .op (some 38) (.mkfn 85 [.t 1]), .call (some 39) 84 [.t 37, .t 38], .op (some 40) (.not (.t 39))] (.t 40),
   .op (some 2) (.mov (.t 41))])
 (.keep [2] (.ret))))))
theorem k_c_DiskOK_fits : fitsF Tryz.prog 36 ⟨42, k_c_DiskOK, [.t 2]⟩ = true := by kernel_rfl
theorem c_DiskOK {d : GDisk} (hw0 : d.Sectors.length ≤ 1048576) (hw1 : d.Cache.length ≤ 1048576) (hw2 : d.Keep.length ≤ 1048576) : Con Tryz.prog noMv 36 [d.av] [] (fun r h => r = bool (diskOK d) ∧ h = []) := by
 refine con_of2 k_c_DiskOK_fits rfl fun C hP hmv => ?_
 unfold k_c_DiskOK
 refine cx_seq (cx_ops ?_)
 refine ax_e (e_box rfl rfl (by decide) rfl rfl rfl) ?_
 refine ax_q (q_mov rfl) ?_
 refine ax_nil (cx_keep rfl rfl (cx_seq (cx_seq (cx_ops ?_))))
 refine ax_q (q_fadr_ptr rfl) ?_
 refine ax_q (q_load1_ptr rfl rfl rfl) ?_
 refine ax_q (q_lenS_map rfl) ?_
 refine ax_call rfl (vc_pure0 (c_inRange  ) hP rfl rfl ?_)
 refine ax_q (q_not rfl) ?_
 refine ax_q (q_mov rfl) ?_
 apply ax_or rfl rfl
 ·
  intro g
  have g := bF g
  refine ax_q (q_fadr_ptr rfl) ?_
  refine ax_q (q_load1_ptr rfl rfl rfl) ?_
  refine ax_q (q_lenS_map rfl) ?_
  refine ax_q (q_ibin rfl rfl rfl) ?_
  exact ax_nil ⟨rfl, by repeat constructor⟩
 refine ax_q (q_mov rfl) ?_
 apply ax_or rfl rfl
 ·
  intro g
  have g := (fun h => And.intro (bF (or_F h).1) (dF (or_F h).2)) g
  refine ax_q (q_fadr_ptr rfl) ?_
  refine ax_q (q_load1_ptr rfl rfl rfl) ?_
  refine ax_q (q_lenS_map rfl) ?_
  refine ax_q (q_ibin rfl rfl rfl) ?_
  exact ax_nil ⟨rfl, by repeat constructor⟩
 refine ax_q (q_mov rfl) ?_
 apply ax_or rfl rfl
 ·
  intro g
  have g := (fun h => And.intro ((fun h => And.intro (bF (or_F h).1) (dF (or_F h).2)) (or_F h).1) (dF (or_F h).2)) g
  refine ax_q (q_fadr_ptr rfl) ?_
  refine ax_q (q_load1_ptr rfl rfl rfl) ?_
  refine ax_q (q_not rfl) ?_
  refine ax_q (q_mov rfl) ?_
  apply ax_and rfl rfl
  ·
   intro g
   have g := bT g
   refine ax_q (q_fadr_ptr rfl) ?_
   refine ax_q (q_load1_ptr rfl rfl rfl) ?_
   refine ax_q (q_lenS_map rfl) ?_
   refine ax_q (q_ibin rfl rfl rfl) ?_
   exact ax_nil ⟨rfl, by repeat constructor⟩
  exact ax_nil ⟨rfl, by repeat constructor⟩
 refine ax_nil (cx_keep rfl rfl ?_)
 refine cx_cond rfl (fun h0 => ?_) (fun h0 => ?_)
 ·
  have h0 : badHead d = true := h0
  refine cx_seq (cx_ops ?_)
  refine ax_q (q_mov rfl) ?_
  refine ax_nil (cx_keep rfl rfl ?_)
  refine cx_ret (ret0 rfl rfl ?_)
  exact ⟨by unfold diskOK; rw [h0]; rfl, rfl⟩
 ·
  have h0 : badHead d = false := h0
  refine cx_skip ?_
  refine cx_keep rfl rfl (cx_seq (cx_ops ?_))
  refine ax_q (q_fadr_ptr rfl) ?_
  refine ax_q (q_load1_ptr rfl rfl rfl) ?_
  refine ax_call rfl (vc_lend0 (c_ContainsFunc_Str (xs := d.Sectors) (ds := []) long160 (by omega) (by kernel_rfl) (fun s _ => c_DiskOK1)) hP (by repeat (first | exact lal_id _ rfl | exact LAL.nil | refine LAL.cons ?_ ?_ | exact la_id _ rfl | exact LA.lend (lend_whole rfl (by first | (simp; done) | (rw [List.length_map]; rfl))) | refine LA.agg ?_ | refine LA.fn ?_ | refine LA.lend ?_ | exact Lend.d _ | exact Lend.zs _ | exact lend_whole rfl (by first | (simp; done) | (rw [List.length_map]; rfl)) | refine Lend.ptr rfl ?_ | refine Lend.fn ?_ | exact LendL.nil | refine LendL.cons ?_ ?_)) rfl rfl ?_)
  refine ax_q (q_not rfl) ?_
  refine ax_q (q_mov rfl) ?_
  apply ax_and rfl rfl
  ·
   intro g
   have g := bT g
   refine ax_q (q_fadr_ptr rfl) ?_
   refine ax_q (q_load1_ptr rfl rfl rfl) ?_
   refine ax_q (q_mkfn rfl) ?_
   refine ax_call rfl (vc_lend0 (c_ContainsFunc_Pending (xs := d.Cache) (ds := [.ip d.row]) (badAt d.Sectors.length) (by omega) (by kernel_rfl) (fun s _ => c_DiskOK2 hw0)) hP (by repeat (first | exact lal_id _ rfl | exact LAL.nil | refine LAL.cons ?_ ?_ | exact la_id _ rfl | exact LA.lend (lend_whole rfl (by first | (simp; done) | (rw [List.length_map]; rfl))) | refine LA.agg ?_ | refine LA.fn ?_ | refine LA.lend ?_ | exact Lend.d _ | exact Lend.zs _ | exact lend_whole rfl (by first | (simp; done) | (rw [List.length_map]; rfl)) | refine Lend.ptr rfl ?_ | refine Lend.fn ?_ | exact LendL.nil | refine LendL.cons ?_ ?_)) rfl rfl ?_)
   refine ax_q (q_not rfl) ?_
   exact ax_nil ⟨rfl, by repeat constructor⟩
  refine ax_q (q_mov rfl) ?_
  refine ax_nil (cx_keep rfl rfl ?_)
  refine cx_ret (ret0 rfl rfl ?_)
  exact ⟨by unfold diskOK; rw [h0]; rfl, rfl⟩


/- (ptr loop.example/g00332/impl.byteReader).isDone -/
def k_c_isDone : XCode :=
 .seq (.ops [.op (some 2) (.mov (.k (.bool false)))])
 (.keep [0] (.seq (.ops [.op (some 3) (.mov (.t 0)),
   .op (some 4) (.nilck (.t 3)),
   .op (some 5) (.fadr (.t 4) 1),
   .op (some 6) (.load1 (.t 5)),
   .op (some 7) (.not (.t 6)),
   .op (some 8) (.mov (.t 7)),
   .andor 15 true 5 8 [.op (some 9) (.mov (.t 0)), .op (some 10) (.nilck (.t 9)), .op (some 11) (.fadr (.t 10) 0), .op (some 12) (.load1 (.t 11)), .op (some 13) (.lenS (.t 12)), .op (some 14) (.bin .eql (.t 13) (.k (.int .i64 0)))] (.t 14),
   .op (some 2) (.mov (.t 15))])
 (.keep [2] (.ret))))
theorem k_c_isDone_fits : fitsF Tryz.prog 140 ⟨16, k_c_isDone, [.t 2]⟩ = true := by kernel_rfl
theorem c_isDone {r0 : Rd}  : Con Tryz.prog noMv 140 [.ptr 1000 0] [(1000, r0.box)] (fun r h => r = bool (doneF r0) ∧ h = [(1000, (r0).box)]) := by
 refine con_of2 k_c_isDone_fits rfl fun C hP hmv => ?_
 unfold k_c_isDone
 refine cx_seq (cx_ops ?_)
 refine ax_q (q_mov rfl) ?_
 refine ax_nil (cx_keep rfl rfl (cx_seq (cx_ops ?_)))
 refine ax_q (q_mov rfl) ?_
 refine ax_q (q_nilck_ptr rfl) ?_
 refine ax_q (q_fadr_ptr rfl) ?_
 refine ax_q (q_load1_ptr rfl rfl rfl) ?_
 refine ax_q (q_not rfl) ?_
 refine ax_q (q_mov rfl) ?_
 apply ax_and rfl rfl
 ·
  intro g
  have g := bT g
  refine ax_q (q_mov rfl) ?_
  refine ax_q (q_nilck_ptr rfl) ?_
  refine ax_q (q_fadr_ptr rfl) ?_
  refine ax_q (q_load1_ptr rfl rfl rfl) ?_
  refine ax_q (q_lenS_map rfl) ?_
  refine ax_q (q_ibin rfl rfl rfl) ?_
  exact ax_nil ⟨rfl, by repeat constructor⟩
 refine ax_q (q_mov rfl) ?_
 refine ax_nil (cx_keep rfl rfl ?_)
 refine cx_ret (retN id [1000] rfl rfl rfl rfl rfl ?_)
 exact ⟨rfl, rfl⟩


/- (ptr loop.example/g00332/impl.byteReader).take -/
def k_c_take : XCode :=
 .seq (.ops [.op (some 4) (.mov (.k (.nils 1)))])
 (.keep [0, 1] (.seq (.seq (.ops [.op (some 6) (.mov (.t 1)),
   .op (some 7) (.mov (.t 0)),
   .op (some 8) (.nilck (.t 7)),
   .op (some 9) (.fadr (.t 8) 0),
   .op (some 10) (.load1 (.t 9)),
   .op (some 11) (.lenS (.t 10)),
   .op (some 12) (.bin .gtr (.t 6) (.t 11))])
  (.keep [0, 1, 12] (.cond (.t 12)
  (.seq (.ops [.op (some 13) (.mov (.t 0)),
    .op (some 14) (.nilck (.t 13)),
    .op (some 15) (.fadr (.t 14) 1),
    .op none (.store 1 (.t 15) (.k (.bool true)))])
   (.keep [1] (.seq (.ops [.op (some 16) (.mov (.t 1)),
    .op (some 17) (.mkslice 1 1 [.int .u8 0] (.t 16) (.t 16)),
    .op (some 4) (.mov (.t 17))])
   (.keep [4] (.ret)))))
  (.skip))))
 (.keep [0, 1] (.seq (.ops [.op (some 18) (.mov (.t 0)),
   .op (some 19) (.nilck (.t 18)),
   .op (some 20) (.fadr (.t 19) 0),
   .op (some 21) (.load1 (.t 20)),
   .op (some 22) (.mov (.t 1)),
   .op (some 23) (.slc 1 (.t 21) none (some (.t 22)) none),
   .op (some 5) (.mov (.t 23))])
 (.keep [0, 1, 5] (.seq (.ops [.op (some 24) (.mov (.t 0)),
   .op (some 25) (.mov (.t 0)),
   .op (some 26) (.nilck (.t 25)),
   .op (some 27) (.fadr (.t 26) 0),
   .op (some 28) (.load1 (.t 27)),
   .op (some 29) (.mov (.t 1)),
   .op (some 30) (.slc 1 (.t 28) (some (.t 29)) none none),
   .op (some 31) (.nilck (.t 24)),
   .op (some 32) (.fadr (.t 31) 0),
   .op none (.store 1 (.t 32) (.t 30))])
 (.keep [5] (.seq (.ops [.op (some 33) (.mov (.t 5)),
   .op (some 4) (.mov (.t 33))])
 (.keep [4] (.ret))))))))))
theorem k_c_take_fits : fitsF Tryz.prog 137 ⟨34, k_c_take, [.t 4]⟩ = true := by kernel_rfl
theorem c_take {r0 : Rd} {n : Nat} (hn : n ≤ 1048576) (hl : r0.rest.length ≤ 1048576) : Con Tryz.prog noMv 137 [.ptr 1000 0, int n] [(1000, r0.box)] (fun r h => r = .d (.sl 1 ((takeF r0 n).1.map byteRow)) ∧ h = [(1000, ((takeF r0 n).2).box)]) := by
 refine con_of2 k_c_take_fits rfl fun C hP hmv => ?_
 unfold k_c_take
 refine cx_seq (cx_ops ?_)
 refine ax_q (q_mov rfl) ?_
 refine ax_nil (cx_keep rfl rfl (cx_seq (cx_seq (cx_ops ?_))))
 refine ax_q (q_mov rfl) ?_
 refine ax_q (q_mov rfl) ?_
 refine ax_q (q_nilck_ptr rfl) ?_
 refine ax_q (q_fadr_ptr rfl) ?_
 refine ax_q (q_load1_ptr rfl rfl rfl) ?_
 refine ax_q (q_lenS_map rfl) ?_
 refine ax_q (q_ibin rfl rfl rfl) ?_
 refine ax_nil (cx_keep rfl rfl ?_)
 refine cx_cond rfl (fun h0 => ?_) (fun h0 => ?_)
 ·
  have h0 := dT h0
  refine cx_seq (cx_ops ?_)
  refine ax_q (q_mov rfl) ?_
  refine ax_q (q_nilck_ptr rfl) ?_
  refine ax_q (q_fadr_ptr rfl) ?_
  refine ax_e (e_st rfl rfl rfl rfl rfl rfl rfl) ?_
  refine ax_nil (cx_keep rfl rfl (cx_seq (cx_ops ?_)))
  refine ax_q (q_mov rfl) ?_
  refine ax_ee (st'' := ⟨(17, .osl 17 1 0 n) :: _, (17, .rows 1 ((List.replicate n (0 : UInt8)).map byteRow)) :: _⟩) (e_mkslice rfl rfl rfl (by omega) (by omega) (by omega) (by decide) rfl rfl) (by rw [Int.toNat_natCast, List.map_replicate]; rfl) ?_
  refine ax_q (q_mov rfl) ?_
  refine ax_nil (cx_keep rfl rfl ?_)
  refine cx_wk (wk_frz 4 17 rfl rfl (.whole (by simp)) rfl) ?_
  refine cx_ret (retN id [1000] rfl rfl rfl rfl rfl ?_)
  rw [takeF_1 h0]; exact ⟨rfl, rfl⟩
 ·
  have h0 := dF h0
  refine cx_skip ?_
  refine cx_keep rfl rfl (cx_seq (cx_ops ?_))
  refine ax_q (q_mov rfl) ?_
  refine ax_q (q_nilck_ptr rfl) ?_
  refine ax_q (q_fadr_ptr rfl) ?_
  refine ax_q (q_load1_ptr rfl rfl rfl) ?_
  refine ax_q (q_mov rfl) ?_
  refine ax_qe (r' := .d (.sl 1 ((r0.rest.take n).map byteRow))) (q_slc rfl rfl rfl (by omega) (by omega) (by simp; omega)) (by simp [List.map_take]) ?_
  refine ax_q (q_mov rfl) ?_
  refine ax_nil (cx_keep rfl rfl (cx_seq (cx_ops ?_)))
  refine ax_q (q_mov rfl) ?_
  refine ax_q (q_mov rfl) ?_
  refine ax_q (q_nilck_ptr rfl) ?_
  refine ax_q (q_fadr_ptr rfl) ?_
  refine ax_q (q_load1_ptr rfl rfl rfl) ?_
  refine ax_q (q_mov rfl) ?_
  refine ax_qe (r' := .d (.sl 1 ((r0.rest.drop n).map byteRow))) (q_slc rfl rfl rfl (by omega) (by simp; omega) (by simp)) (slc_drop) ?_
  refine ax_q (q_nilck_ptr rfl) ?_
  refine ax_q (q_fadr_ptr rfl) ?_
  refine ax_e (e_st rfl rfl rfl rfl rfl rfl rfl) ?_
  refine ax_nil (cx_keep rfl rfl (cx_seq (cx_ops ?_)))
  refine ax_q (q_mov rfl) ?_
  refine ax_q (q_mov rfl) ?_
  refine ax_nil (cx_keep rfl rfl ?_)
  refine cx_ret (retN id [1000] rfl rfl rfl rfl rfl ?_)
  rw [takeF_2 h0]; exact ⟨rfl, rfl⟩


/- (ptr loop.example/g00332/impl.byteReader).num -/
def k_c_num : XCode :=
 .seq (.ops [.op (some 2) (.mov (.k (.int .i64 0)))])
 (.keep [0] (.seq (.ops [.op (some 3) (.mov (.t 0)),
   .call (some 4) 137 [.t 3, .k (.int .i64 1)],
   .op (some 5) (.iadr 1 (.t 4) (.k (.int .i64 0))),
   .op (some 6) (.load1 (.t 5)),
   .op (some 7) (.conv .i64 (.t 6)),
   .op (some 2) (.mov (.t 7))])
 (.keep [2] (.ret))))
theorem k_c_num_fits : fitsF Tryz.prog 144 ⟨8, k_c_num, [.t 2]⟩ = true := by kernel_rfl
theorem c_num {r0 : Rd} (hl : r0.rest.length ≤ 1048576) : Con Tryz.prog noMv 144 [.ptr 1000 0] [(1000, r0.box)] (fun r h => r = int (numF r0).1 ∧ h = [(1000, ((numF r0).2).box)]) := by
 refine con_of2 k_c_num_fits rfl fun C hP hmv => ?_
 unfold k_c_num
 refine cx_seq (cx_ops ?_)
 refine ax_q (q_mov rfl) ?_
 refine ax_nil (cx_keep rfl rfl (cx_seq (cx_ops ?_)))
 refine ax_q (q_mov rfl) ?_
 refine ax_call rfl (vcall_own (c_take (n := 1) ?_ ?_) hP hmv false (fun _ => 1000) [1000] ⟨rfl, rfl, rfl, rfl, ⟨rfl, trivial⟩, rfl, rfl, rfl⟩ (.pass rfl rfl (.pass rfl rfl .nil)) ?_)
 ·
  first | assumption | omega
 ·
  assumption
 rintro r h ⟨rfl, rfl⟩
 refine ⟨fun _ => 1000, [], ⟨rfl, rfl, rfl, rfl, mem1 rfl, rfl, rfl, fun h => absurd h Bool.false_ne_true⟩, ?_⟩
 have ht1 : (takeF r0 1).1.length = 1 := takeF_len.1
 refine ax_q (q_ixI rfl rfl (by omega) (mapAt (by omega))) ?_
 first | refine ax_q (q_load1_ptr rfl rfl rfl) ?_ | refine ax_q (q_load1_ip rfl) ?_
 refine ax_q (q_convB rfl) ?_
 refine ax_q (q_mov rfl) ?_
 refine ax_nil (cx_keep rfl rfl ?_)
 refine cx_ret (retN id [1000] rfl rfl rfl rfl rfl ?_)
 unfold numF; rw [getD_at (by omega)]; exact ⟨rfl, rfl⟩


/- (ptr loop.example/g00332/impl.byteReader).checkList -/
def k_c_checkList : XCode :=
 .seq (.ops [.op (some 10) (.mov (.k (.bool false)))])
 (.keep [0, 1, 2, 3, 4] (.seq (.ops [.op (some 16) (.mov (.t 0)),
   .call (some 17) 144 [.t 16],
   .op (some 11) (.mov (.t 17))])
 (.keep [0, 1, 2, 3, 4, 11] (.seq (.ops [.op (some 18) (.mov (.t 11)),
   .op (some 19) (.mov (.t 1)),
   .op (some 20) (.bin .leq (.t 18) (.t 19)),
   .op (some 21) (.mov (.t 2)),
   .op (some 22) (.bin .sub (.t 21) (.k (.int .i64 1))),
   .op (some 12) (.mov (.t 20)),
   .op (some 13) (.mov (.t 22))])
 (.keep [0, 3, 4, 11, 12, 13] (.seq (.seq (.ops [.op (some 23) (.mov (.t 11)),
   .op (some 24) (.mov (.k (.int .i64 0)))])
  (.keep [0, 3, 4, 12, 13, 23, 24] (.block 0 (.loop (.seq (.ops [.op (some 25) (.bin .lss (.t 24) (.t 23))])
   (.keep [0, 3, 4, 12, 13, 23, 24, 25] (.seq (.cond (.t 25)
    (.skip)
    (.exit 0))
   (.keep [0, 3, 4, 12, 13, 23, 24] (.seq (.block 1 (.seq (.ops [.op (some 26) (.mov (.t 0)),
     .call (some 27) 144 [.t 26],
     .op (some 28) (.mov (.t 0)),
     .call (some 29) 144 [.t 28],
     .op (some 14) (.mov (.t 27)),
     .op (some 15) (.mov (.t 29))])
    (.keep [0, 3, 4, 12, 13, 14, 15, 23, 24] (.seq (.ops [.op (some 30) (.mov (.t 12)),
     .op (some 31) (.mov (.t 30)),
     .andor 37 true 1 31 [.op (some 32) (.mov (.t 14)), .op (some 33) (.mov (.t 13)), .op (some 34) (.bin .add (.t 33) (.k (.int .i64 1))), .op (some 35) (.mov (.t 3)), .call (some 36) 26 [.t 32, .t 34, .t 35]] (.t 36),
     .op (some 38) (.mov (.t 37)),
     .andor 43 true 8 38 [.op (some 39) (.mov (.t 15)), .op (some 40) (.mov (.t 4)), .op (some 41) (.bin .sub (.t 40) (.k (.int .i64 1))), .call (some 42) 26 [.t 39, .k (.int .i64 1), .t 41]] (.t 42),
     .op (some 12) (.mov (.t 43))])
    (.keep [0, 3, 4, 12, 14, 23, 24] (.ops [.op (some 44) (.mov (.t 14)),
     .op (some 13) (.mov (.t 44))]))))))
   (.keep [0, 3, 4, 12, 13, 23, 24] (.ops [.op (some 45) (.bin .add (.t 24) (.k (.int .i64 1))),
    .op (some 24) (.mov (.t 45))])))))))))))
 (.keep [0, 12] (.seq (.ops [.op (some 46) (.mov (.t 12)),
   .op (some 47) (.mov (.t 46)),
   .andor 53 true 1 47 [.op (some 48) (.mov (.t 0)), .op (some 49) (.nilck (.t 48)), .op (some 50) (.fadr (.t 49) 1), .op (some 51) (.load1 (.t 50)), .op (some 52) (.not (.t 51))] (.t 52),
   .op (some 10) (.mov (.t 53))])
 (.keep [10] (.ret))))))))))
theorem k_c_checkList_fits : fitsF Tryz.prog 171 ⟨54, k_c_checkList, [.t 10]⟩ = true := by kernel_rfl
theorem c_checkList {r0 : Rd} {most low high lsn : Int} (hl : r0.rest.length ≤ 1048576) (hlo : 0 ≤ low ∧ low ≤ 1) (hhi : 0 ≤ high ∧ high ≤ 100) (hm : 1 ≤ lsn ∧ lsn ≤ 60) : Con Tryz.prog noMv 171 [.ptr 1000 0, int most, int low, int high, int lsn] [(1000, r0.box)] (fun r h => r = bool (chkF most low high lsn r0).1 ∧ h = [(1000, ((chkF most low high lsn r0).2).box)]) := by
 refine con_of2 k_c_checkList_fits rfl fun C hP hmv => ?_
 unfold k_c_checkList
 refine cx_seq (cx_ops ?_)
 refine ax_q (q_mov rfl) ?_
 refine ax_nil (cx_keep rfl rfl (cx_seq (cx_ops ?_)))
 refine ax_q (q_mov rfl) ?_
 refine ax_call rfl (vcall_own (c_num  ?_) hP hmv false (fun _ => 1000) [1000] ⟨rfl, rfl, rfl, rfl, ⟨rfl, trivial⟩, rfl, rfl, rfl⟩ (.pass rfl rfl .nil) ?_)
 ·
  assumption
 rintro r h ⟨rfl, rfl⟩
 refine ⟨fun _ => 1000, [], ⟨rfl, rfl, rfl, rfl, mem1 rfl, rfl, rfl, fun h => absurd h Bool.false_ne_true⟩, ?_⟩
 obtain ⟨q1, q2⟩ := @numF_lt r0
 obtain ⟨T, hT⟩ : ∃ T, chkL high lsn (numF r0).1 (numF r0).2 (decide (((numF r0).1 : Int) ≤ most)) (low - 1) = T := ⟨_, rfl⟩
 refine ax_q (q_mov rfl) ?_
 refine ax_nil (cx_keep rfl rfl (cx_seq (cx_ops ?_)))
 refine ax_q (q_mov rfl) ?_
 refine ax_q (q_mov rfl) ?_
 refine ax_q (q_ibin rfl rfl rfl) ?_
 refine ax_q (q_mov rfl) ?_
 refine ax_qe (r' := int (low - 1)) (q_ibin rfl rfl rfl) (by rw [wi (by omega) (by omega)]) ?_
 refine ax_q (q_mov rfl) ?_
 refine ax_q (q_mov rfl) ?_
 refine ax_nil (cx_keep rfl rfl (cx_seq (cx_seq (cx_ops ?_))))
 refine ax_q (q_mov rfl) ?_
 refine ax_q (q_mov rfl) ?_
 refine ax_nil (cx_keep rfl rfl (cx_block ?_))
 refine cx_loopU (fun m (p : Nat × Rd × Bool × Int) => p.1 ≤ (numF r0).1 ∧ m = p.1 ∧ p.2.1.rest.length ≤ 1048576 ∧ -1 ≤ p.2.2.2 ∧ p.2.2.2 ≤ 256 ∧ chkL high lsn p.1 p.2.1 p.2.2.1 p.2.2.2 = T) (fun p => [(24, int (((numF r0).1 - p.1 : Nat) : Int)), (12, bool p.2.2.1), (13, int p.2.2.2)]) (fun p => [(1000, p.2.1.box)])
  ⟨_, ((numF r0).1, (numF r0).2, decide (((numF r0).1 : Int) ≤ most), low - 1), ⟨Nat.le_refl _, rfl, by simp only; omega, by simp only; omega, by simp only; omega, hT⟩, by simp only [Nat.sub_self]; exact (by repeat constructor)⟩ ?_
 rintro m ⟨n, u, ok, b⟩ ⟨hn, hmn, hu, hb0, hb1, hc⟩
 simp only at hn hmn hu hb0 hb1 hc ⊢
 refine cx_seq (cx_ops ?_)
 refine ax_q (q_ibin rfl rfl rfl) ?_
 refine ax_nil (cx_keep rfl rfl (cx_seq ?_))
 refine cx_cond rfl (fun h0 => ?_) (fun h0 => ?_)
 ·
  have h0 := dT h0
  obtain ⟨n, rfl⟩ : ∃ n2, n = n2 + 1 := ⟨n - 1, by omega⟩
  rw [chkL] at hc
  obtain ⟨k1, k2⟩ := @numF_lt u
  obtain ⟨k3, k4⟩ := @numF_lt (numF u).2
  refine cx_skip ?_
  refine cx_keep rfl rfl (cx_seq (cx_block (cx_seq (cx_ops ?_))))
  refine ax_q (q_mov rfl) ?_
  refine ax_call rfl (vcall_own (c_num  ?_) hP hmv false (fun _ => 1000) [1000] ⟨rfl, rfl, rfl, rfl, ⟨rfl, trivial⟩, rfl, rfl, rfl⟩ (.pass rfl rfl .nil) ?_)
  ·
   assumption
  rintro r h ⟨rfl, rfl⟩
  refine ⟨fun _ => 1000, [], ⟨rfl, rfl, rfl, rfl, mem1 rfl, rfl, rfl, fun h => absurd h Bool.false_ne_true⟩, ?_⟩
  refine ax_q (q_mov rfl) ?_
  refine ax_call rfl (vcall_own (c_num  ?_) hP hmv false (fun _ => 1000) [1000] ⟨rfl, rfl, rfl, rfl, ⟨rfl, trivial⟩, rfl, rfl, rfl⟩ (.pass rfl rfl .nil) ?_)
  ·
   first | assumption | omega
  rintro r h ⟨rfl, rfl⟩
  refine ⟨fun _ => 1000, [], ⟨rfl, rfl, rfl, rfl, mem1 rfl, rfl, rfl, fun h => absurd h Bool.false_ne_true⟩, ?_⟩
  refine ax_q (q_mov rfl) ?_
  refine ax_q (q_mov rfl) ?_
  refine ax_nil (cx_keep rfl rfl (cx_seq (cx_ops ?_)))
  refine ax_q (q_mov rfl) ?_
  refine ax_q (q_mov rfl) ?_
  apply ax_and rfl rfl
  ·
   intro g
   refine ax_q (q_mov rfl) ?_
   refine ax_q (q_mov rfl) ?_
   refine ax_q (q_add rfl rfl (by omega)) ?_
   refine ax_q (q_mov rfl) ?_
   refine ax_call rfl (vc_pure0 (c_inRange  ) hP rfl rfl ?_)
   exact ax_nil ⟨rfl, by repeat constructor⟩
  refine ax_q (q_mov rfl) ?_
  apply ax_and rfl rfl
  ·
   intro g
   have g := (fun h => And.intro (id (and_T h).1) (id (and_T h).2)) g
   refine ax_q (q_mov rfl) ?_
   refine ax_q (q_mov rfl) ?_
   refine ax_q (q_sub rfl rfl (by omega)) ?_
   refine ax_call rfl (vc_pure0 (c_inRange  ) hP rfl rfl ?_)
   exact ax_nil ⟨rfl, by repeat constructor⟩
  refine ax_q (q_mov rfl) ?_
  refine ax_nil (cx_keep rfl rfl (cx_ops ?_))
  refine ax_q (q_mov rfl) ?_
  refine ax_q (q_mov rfl) ?_
  refine ax_nil (cx_keep rfl rfl (cx_ops ?_))
  refine ax_qe (r' := int (((numF r0).1 - n : Nat) : Int)) (q_ibin rfl rfl rfl) (by rw [wi (by omega) (by omega)]; exact congrArg AM.int (by omega)) ?_
  refine ax_q (q_mov rfl) ?_
  refine ax_nil ?_
  exact ⟨_, (n, (numF (numF u).2).2, (ok && inR (numF u).1 (b + 1) high) && inR (numF (numF u).2).1 1 (lsn - 1), ((numF u).1 : Int)), by omega, ⟨by simp only; omega, rfl, by simp only; omega, by simp only; omega, by simp only; omega, hc⟩, by simp only; exact (by repeat constructor)⟩
 ·
  have h0 := dF h0
  obtain rfl : n = 0 := by omega
  subst hc
  refine cx_exit rfl ?_
  refine cx_keep rfl rfl (cx_seq (cx_ops ?_))
  refine ax_q (q_mov rfl) ?_
  refine ax_q (q_mov rfl) ?_
  apply ax_and rfl rfl
  ·
   intro g
   refine ax_q (q_mov rfl) ?_
   refine ax_q (q_nilck_ptr rfl) ?_
   refine ax_q (q_fadr_ptr rfl) ?_
   refine ax_q (q_load1_ptr rfl rfl rfl) ?_
   refine ax_q (q_not rfl) ?_
   exact ax_nil ⟨rfl, by repeat constructor⟩
  refine ax_q (q_mov rfl) ?_
  refine ax_nil (cx_keep rfl rfl ?_)
  refine cx_ret (retN id [1000] rfl rfl rfl rfl rfl ?_)
  have e : chkF most low high lsn r0 = (ok && !u.fail, u) := by unfold chkF; simp only; rw [hT]; rfl
  rw [e]; exact ⟨rfl, rfl⟩


/- loop.example/g00332/impl.isCheck -/
def k_c_isCheck : XCode :=
 .seq (.ops [.op (some 4) (.mov (.k (.bool false)))])
 (.keep [0, 1] (.seq (.ops [.op (some 8) (.mov (.t 0)),
   .op (some 9) (.s2b (.t 8)),
   .op (some 10) (.build [.nils 1, .bool false] [(0, 1, .t 9)]),
   .op (some 11) (.box (.t 10)),
   .op (some 5) (.mov (.t 11))])
 (.keep [1, 5] (.seq (.ops [.op (some 12) (.mov (.t 5)),
   .op (some 13) (.mov (.t 1)),
   .call (some 14) 171 [.t 12, .k (.int .i64 8), .k (.int .i64 0), .k (.int .i64 7), .t 13],
   .op (some 6) (.mov (.t 14))])
 (.keep [1, 5, 6] (.seq (.ops [.op (some 15) (.mov (.t 5)),
   .op (some 16) (.mov (.t 1)),
   .call (some 17) 171 [.t 15, .k (.int .i64 10), .k (.int .i64 1), .k (.int .i64 60), .t 16],
   .op (some 7) (.mov (.t 17))])
 (.keep [5, 6, 7] (.seq (.ops [.op (some 18) (.mov (.t 6)),
   .op (some 19) (.mov (.t 18)),
   .andor 21 true 1 19 [.op (some 20) (.mov (.t 7))] (.t 20),
   .op (some 22) (.mov (.t 21)),
   .andor 25 true 4 22 [.op (some 23) (.mov (.t 5)), .call (some 24) 140 [.t 23]] (.t 24),
   .op (some 4) (.mov (.t 25))])
 (.keep [4] (.ret))))))))))
theorem k_c_isCheck_fits : fitsF Tryz.prog 133 ⟨26, k_c_isCheck, [.t 4]⟩ = true := by kernel_rfl
theorem c_isCheck {t : Str} {lsn : Int} (hl : t.length ≤ 1048576) (hm : 1 ≤ lsn ∧ lsn ≤ 60) : Con Tryz.prog noMv 133 [str t, int lsn] [] (fun r h => r = bool (isCheckF t lsn) ∧ h = []) := by
 refine con_of2 k_c_isCheck_fits rfl fun C hP hmv => ?_
 unfold k_c_isCheck
 refine cx_seq (cx_ops ?_)
 refine ax_q (q_mov rfl) ?_
 refine ax_nil (cx_keep rfl rfl (cx_seq (cx_ops ?_)))
 refine ax_q (q_mov rfl) ?_
 refine ax_e (e_s2b rfl (by decide) rfl rfl) ?_
 refine ax_wk (wk_frz 9 9 rfl rfl (.whole (by simp)) rfl) ?_
 refine ax_q (q_build rfl) ?_
 refine ax_e (e_box rfl rfl (by decide) rfl rfl rfl) ?_
 refine ax_q (q_mov rfl) ?_
 refine ax_nil (cx_keep rfl rfl (cx_seq (cx_ops ?_)))
 refine ax_q (q_mov rfl) ?_
 refine ax_q (q_mov rfl) ?_
 refine ax_call rfl (vcall_own (c_checkList (r0 := ⟨t, false⟩) (most := 8) (low := 0) (high := 7) (lsn := lsn) hl (by omega) (by omega) hm) hP hmv false (fun _ => 11) [1000] ⟨rfl, rfl, rfl, rfl, ⟨rfl, trivial⟩, rfl, rfl, rfl⟩ (.pass rfl rfl (.pass rfl rfl (.pass rfl rfl (.pass rfl rfl (.pass rfl rfl .nil))))) ?_)
 rintro r h ⟨rfl, rfl⟩
 refine ⟨fun _ => 11, [], ⟨rfl, rfl, rfl, rfl, mem1 rfl, rfl, rfl, fun h => absurd h Bool.false_ne_true⟩, ?_⟩
 have hl2 := @chkF_len 8 0 7 lsn ⟨t, false⟩
 simp only at hl2
 refine ax_q (q_mov rfl) ?_
 refine ax_nil (cx_keep rfl rfl (cx_seq (cx_ops ?_)))
 refine ax_q (q_mov rfl) ?_
 refine ax_q (q_mov rfl) ?_
 refine ax_call rfl (vcall_own (c_checkList (r0 := (chkF 8 0 7 lsn ⟨t, false⟩).2) (most := 10) (low := 1) (high := 60) (lsn := lsn) (by omega) (by omega) (by omega) hm) hP hmv false (fun _ => 11) [1000] ⟨rfl, rfl, rfl, rfl, ⟨rfl, trivial⟩, rfl, rfl, rfl⟩ (.pass rfl rfl (.pass rfl rfl (.pass rfl rfl (.pass rfl rfl (.pass rfl rfl .nil))))) ?_)
 rintro r h ⟨rfl, rfl⟩
 refine ⟨fun _ => 11, [], ⟨rfl, rfl, rfl, rfl, mem1 rfl, rfl, rfl, fun h => absurd h Bool.false_ne_true⟩, ?_⟩
 refine ax_q (q_mov rfl) ?_
 refine ax_nil (cx_keep rfl rfl (cx_seq (cx_ops ?_)))
 refine ax_q (q_mov rfl) ?_
 refine ax_q (q_mov rfl) ?_
 apply ax_and rfl rfl
 ·
  intro g
  refine ax_q (q_mov rfl) ?_
  exact ax_nil ⟨rfl, by repeat constructor⟩
 refine ax_q (q_mov rfl) ?_
 apply ax_and rfl rfl
 ·
  intro g
  have g := (fun h => And.intro (id (and_T h).1) (id (and_T h).2)) g
  refine ax_q (q_mov rfl) ?_
  refine ax_call rfl (vcall_own (c_isDone (r0 := (chkF 10 1 60 lsn (chkF 8 0 7 lsn ⟨t, false⟩).2).2)) hP hmv false (fun _ => 11) [1000] ⟨rfl, rfl, rfl, rfl, ⟨rfl, trivial⟩, rfl, rfl, rfl⟩ (.pass rfl rfl .nil) ?_)
  rintro r h ⟨rfl, rfl⟩
  refine ⟨fun _ => 11, [], ⟨rfl, rfl, rfl, rfl, mem1 rfl, rfl, rfl, fun h => absurd h Bool.false_ne_true⟩, ?_⟩
  exact ax_nil ⟨rfl, by repeat constructor⟩
 refine ax_q (q_mov rfl) ?_
 refine ax_nil (cx_keep rfl rfl ?_)
 refine cx_ret (ret0 rfl rfl ?_)
 exact ⟨rfl, rfl⟩


/- loop.example/g00332/impl.RecordOK -/
def k_c_RecordOK : XCode :=
 .seq (.ops [.op (some 1) (.box (.t 0)),
   .op (some 2) (.mov (.k (.bool false)))])
 (.keep [1] (.seq (.seq (.ops [.op (some 5) (.fadr (.t 1) 0),
   .op (some 6) (.load1 (.t 5)),
   .call (some 7) 26 [.t 6, .k (.int .i64 1), .k (.int .i64 60)],
   .op (some 8) (.not (.t 7)),
   .op (some 9) (.mov (.t 8)),
   .andor 14 false 4 9 [.op (some 10) (.fadr (.t 1) 1), .op (some 11) (.load1 (.t 10)), .call (some 12) 26 [.t 11, .k (.int .i64 1), .k (.int .i64 60)], .op (some 13) (.not (.t 12))] (.t 13)])
  (.keep [1, 14] (.cond (.t 14)
  (.seq (.ops [.op (some 2) (.mov (.k (.bool false)))])
   (.keep [2] (.ret)))
  (.skip))))
 (.keep [1] (.seq (.ops [.op (some 15) (.loadN 10 (.t 1)),
   .op (some 3) (.alloc [.int .i64 0, .int .i64 0, .int .i64 0, .int .i64 0, .int .i64 0, .int .i64 0, .int .i64 0, .int .i64 0, .str [], .str []]),
   .op none (.store 10 (.t 3) (.t 15))])
 (.keep [1, 3] (.seq (.ops [.op (some 16) (.fadr (.t 3) 0),
   .op none (.store 1 (.t 16) (.k (.int .i64 0))),
   .op (some 17) (.fadr (.t 3) 1),
   .op none (.store 1 (.t 17) (.k (.int .i64 0))),
   .op (some 18) (.fadr (.t 3) 2),
   .op none (.store 1 (.t 18) (.k (.int .i64 0))),
   .op (some 19) (.fadr (.t 3) 3),
   .op none (.store 1 (.t 19) (.k (.int .i64 0))),
   .op (some 20) (.fadr (.t 3) 4),
   .op none (.store 1 (.t 20) (.k (.int .i64 0)))])
 (.keep [1, 3] (.seq (.seq (.ops [.op (some 21) (.fadr (.t 1) 3),
   .op (some 22) (.load1 (.t 21))])
  (.keep [1, 3, 22] (.block 0 (.seq (.ops [.op (some 24) (.bin .eql (.t 22) (.k (.int .i64 6))),
    .op (some 23) (.mov (.t 24))])
  (.keep [1, 3, 22, 23] (.cond (.t 23)
   (.seq (.ops [.op (some 25) (.fadr (.t 3) 9),
     .op none (.store 1 (.t 25) (.k (.str [])))])
   (.keep [1, 3] (.seq (.ops [.op (some 26) (.fadr (.t 1) 2),
     .op (some 27) (.load1 (.t 26)),
     .op (some 28) (.bin .eql (.t 27) (.k (.int .i64 0))),
     .op (some 29) (.mov (.t 28)),
     .andor 33 true 3 29 [.op (some 30) (.fadr (.t 1) 4), .op (some 31) (.load1 (.t 30)), .op (some 32) (.bin .eql (.t 31) (.k (.int .i64 0)))] (.t 32),
     .op (some 34) (.mov (.t 33)),
     .andor 38 true 8 34 [.op (some 35) (.loadN 10 (.t 3)), .op (some 36) (.build [.int .i64 0, .int .i64 0, .int .i64 0, .int .i64 0, .int .i64 0, .int .i64 0, .int .i64 0, .int .i64 0, .str [], .str []] []), .op (some 37) (.eqs false [0, 0, 0, 0, 0, 0, 0, 0, 2, 2] (.t 35) (.t 36))] (.t 37),
     .op (some 39) (.mov (.t 38)),
     .andor 45 true 13 39 [.op (some 40) (.fadr (.t 1) 9), .op (some 41) (.load1 (.t 40)), .op (some 42) (.fadr (.t 1) 1), .op (some 43) (.load1 (.t 42)), .call (some 44) 133 [.t 41, .t 43]] (.t 44),
     .op (some 2) (.mov (.t 45))])
   (.keep [2] (.ret)))))
   (.seq (.seq (.ops [.op (some 47) (.bin .eql (.t 22) (.k (.int .i64 2))),
     .op (some 46) (.mov (.t 47))])
    (.keep [1, 3, 22, 46] (.cond (.t 46)
    (.skip)
    (.ops [.op (some 48) (.bin .eql (.t 22) (.k (.int .i64 3))),
      .op (some 46) (.mov (.t 48))]))))
   (.keep [1, 3, 46] (.cond (.t 46)
    (.seq (.ops [.op (some 49) (.fadr (.t 1) 6),
      .op (some 50) (.load1 (.t 49)),
      .call (some 51) 40 [.t 50, .k (.int .i64 8)],
      .op (some 52) (.mov (.t 51)),
      .andor 56 true 3 52 [.op (some 53) (.fadr (.t 1) 7), .op (some 54) (.load1 (.t 53)), .call (some 55) 40 [.t 54, .k (.int .i64 4)]] (.t 55),
      .op (some 4) (.mov (.t 56))])
    (.keep [1, 3, 4] (.seq (.seq (.ops [.op (some 57) (.mov (.t 4)),
      .op (some 58) (.not (.t 57)),
      .op (some 59) (.mov (.t 58)),
      .andor 64 false 2 59 [.op (some 60) (.fadr (.t 1) 8), .op (some 61) (.load1 (.t 60)), .op (some 62) (.lenT (.t 61)), .op (some 63) (.bin .gtr (.t 62) (.k (.int .i64 30)))] (.t 63),
      .op (some 65) (.mov (.t 64)),
      .andor 70 false 8 65 [.op (some 66) (.fadr (.t 1) 9), .op (some 67) (.load1 (.t 66)), .op (some 68) (.lenT (.t 67)), .op (some 69) (.bin .gtr (.t 68) (.k (.int .i64 30)))] (.t 69),
      .op (some 71) (.mov (.t 70)),
      .andor 84 false 14 71 [.op (some 72) (.fadr (.t 1) 3), .op (some 73) (.load1 (.t 72)), .op (some 74) (.bin .eql (.t 73) (.k (.int .i64 3))), .op (some 75) (.mov (.t 74)), .andor 83 true 18 75 [.op (some 76) (.fadr (.t 1) 5), .op (some 77) (.load1 (.t 76)), .op (some 78) (.fadr (.t 1) 1), .op (some 79) (.load1 (.t 78)), .op (some 80) (.bin .sub (.t 79) (.k (.int .i64 1))), .call (some 81) 26 [.t 77, .k (.int .i64 0), .t 80], .op (some 82) (.not (.t 81))] (.t 82)] (.t 83)])
     (.keep [1, 3, 84] (.cond (.t 84)
     (.seq (.ops [.op (some 2) (.mov (.k (.bool false)))])
      (.keep [2] (.ret)))
     (.skip))))
    (.keep [1, 3] (.seq (.ops [.op (some 85) (.fadr (.t 3) 6),
      .op none (.store 1 (.t 85) (.k (.int .i64 0))),
      .op (some 86) (.fadr (.t 3) 7),
      .op none (.store 1 (.t 86) (.k (.int .i64 0))),
      .op (some 87) (.fadr (.t 3) 9),
      .op none (.store 1 (.t 87) (.k (.str [])))])
    (.keep [1, 3] (.seq (.ops [.op (some 88) (.fadr (.t 1) 3),
      .op (some 89) (.load1 (.t 88)),
      .op (some 90) (.bin .eql (.t 89) (.k (.int .i64 2)))])
    (.keep [1, 3, 90] (.cond (.t 90)
     (.ops [.op (some 91) (.fadr (.t 3) 8),
      .op none (.store 1 (.t 91) (.k (.str [])))])
     (.ops [.op (some 92) (.fadr (.t 3) 5),
      .op none (.store 1 (.t 92) (.k (.int .i64 0)))]))))))))))
    (.skip))))))))))
 (.keep [1, 3] (.seq (.ops [.op (some 93) (.fadr (.t 1) 3),
   .op (some 94) (.load1 (.t 93)),
   .call (some 95) 26 [.t 94, .k (.int .i64 1), .k (.int .i64 5)],
   .op (some 96) (.mov (.t 95)),
   .andor 100 true 3 96 [.op (some 97) (.loadN 10 (.t 3)), .op (some 98) (.build [.int .i64 0, .int .i64 0, .int .i64 0, .int .i64 0, .int .i64 0, .int .i64 0, .int .i64 0, .int .i64 0, .str [], .str []] []), .op (some 99) (.eqs false [0, 0, 0, 0, 0, 0, 0, 0, 2, 2] (.t 97) (.t 98))] (.t 99),
   .op (some 101) (.mov (.t 100)),
   .andor 105 true 8 101 [.op (some 102) (.fadr (.t 1) 2), .op (some 103) (.load1 (.t 102)), .call (some 104) 26 [.t 103, .k (.int .i64 1), .k (.int .i64 60)]] (.t 104),
   .op (some 106) (.mov (.t 105)),
   .andor 113 true 13 106 [.op (some 107) (.fadr (.t 1) 4), .op (some 108) (.load1 (.t 107)), .op (some 109) (.fadr (.t 1) 1), .op (some 110) (.load1 (.t 109)), .op (some 111) (.bin .sub (.t 110) (.k (.int .i64 1))), .call (some 112) 26 [.t 108, .k (.int .i64 0), .t 111]] (.t 112),
   .op (some 114) (.mov (.t 113)),
   .andor 122 true 21 114 [.op (some 115) (.fadr (.t 1) 4), .op (some 116) (.load1 (.t 115)), .op (some 117) (.bin .eql (.t 116) (.k (.int .i64 0))), .op (some 118) (.fadr (.t 1) 3), .op (some 119) (.load1 (.t 118)), .op (some 120) (.bin .eql (.t 119) (.k (.int .i64 1))), .op (some 121) (.eqb false (.t 117) (.t 120))] (.t 121),
   .op (some 2) (.mov (.t 122))])
 (.keep [2] (.ret))))))))))))
theorem k_c_RecordOK_fits : fitsF Tryz.prog 86 ⟨123, k_c_RecordOK, [.t 2]⟩ = true := by kernel_rfl
set_option maxHeartbeats 4000000 in
theorem c_RecordOK {x : GLogRecord} (hl : x.After.length ≤ 1048576) : Con Tryz.prog noMv 86 [x.av] [] (fun r h => r = bool (recOK x) ∧ h = []) := by
 refine con_of2 k_c_RecordOK_fits rfl fun C hP hmv => ?_
 unfold k_c_RecordOK
 refine cx_seq (cx_ops ?_)
 refine ax_e (e_box rfl rfl (by decide) rfl rfl rfl) ?_
 refine ax_q (q_mov rfl) ?_
 refine ax_nil (cx_keep rfl rfl (cx_seq (cx_seq (cx_ops ?_))))
 refine ax_q (q_fadr_ptr rfl) ?_
 refine ax_q (q_load1_ptr rfl rfl rfl) ?_
 refine ax_call rfl (vc_pure0 (c_inRange  ) hP rfl rfl ?_)
 refine ax_q (q_not rfl) ?_
 refine ax_q (q_mov rfl) ?_
 apply ax_or rfl rfl
 ·
  intro g
  have g := bF g
  refine ax_q (q_fadr_ptr rfl) ?_
  refine ax_q (q_load1_ptr rfl rfl rfl) ?_
  refine ax_call rfl (vc_pure0 (c_inRange  ) hP rfl rfl ?_)
  refine ax_q (q_not rfl) ?_
  exact ax_nil ⟨rfl, by repeat constructor⟩
 refine ax_nil (cx_keep rfl rfl ?_)
 refine cx_cond rfl (fun h0 => ?_) (fun h0 => ?_)
 ·
  have h0 : (!inR x.Epoch 1 60 || !inR x.Lsn 1 60) = true := h0
  have e0 : recOK x = false := hd_in (by
   rw [Bool.or_eq_true, Bool.not_eq_true', Bool.not_eq_true'] at h0
   exact h0.imp (fun q => fun c => by rw [inR_iff.2 c] at q; cases q) (fun q => fun c => by rw [inR_iff.2 c] at q; cases q))
  refine cx_seq (cx_ops ?_)
  refine ax_q (q_mov rfl) ?_
  refine ax_nil (cx_keep rfl rfl ?_)
  refine cx_ret (ret0 rfl rfl ?_)
  exact ⟨by rw [e0]; rfl, rfl⟩
 ·
  have h0 : (!inR x.Epoch 1 60 || !inR x.Lsn 1 60) = false := h0
  have hi : (1 ≤ x.Epoch ∧ x.Epoch ≤ 60) ∧ (1 ≤ x.Lsn ∧ x.Lsn ≤ 60) := by
   rw [Bool.or_eq_false_iff, Bool.not_eq_false', Bool.not_eq_false', inR_iff, inR_iff] at h0
   exact h0
  refine cx_skip ?_
  refine cx_keep rfl rfl (cx_seq (cx_ops ?_))
  refine ax_q (q_ldN rfl rfl rfl) ?_
  refine ax_e (e_alloc (by decide) rfl rfl) ?_
  refine ax_e (e_st rfl rfl rfl rfl rfl rfl rfl) ?_
  refine ax_nil (cx_keep rfl rfl (cx_seq (cx_ops ?_)))
  refine ax_q (q_fadr_ptr rfl) ?_
  refine ax_e (e_st rfl rfl rfl rfl rfl rfl rfl) ?_
  refine ax_q (q_fadr_ptr rfl) ?_
  refine ax_e (e_st rfl rfl rfl rfl rfl rfl rfl) ?_
  refine ax_q (q_fadr_ptr rfl) ?_
  refine ax_e (e_st rfl rfl rfl rfl rfl rfl rfl) ?_
  refine ax_q (q_fadr_ptr rfl) ?_
  refine ax_e (e_st rfl rfl rfl rfl rfl rfl rfl) ?_
  refine ax_q (q_fadr_ptr rfl) ?_
  refine ax_e (e_st rfl rfl rfl rfl rfl rfl rfl) ?_
  refine ax_nil (cx_keep rfl rfl (cx_seq (cx_seq (cx_ops ?_))))
  refine ax_q (q_fadr_ptr rfl) ?_
  refine ax_q (q_load1_ptr rfl rfl rfl) ?_
  refine ax_nil (cx_keep rfl rfl (cx_block (cx_seq (cx_ops ?_))))
  refine ax_q (q_ibin rfl rfl rfl) ?_
  refine ax_q (q_mov rfl) ?_
  refine ax_nil (cx_keep rfl rfl ?_)
  refine cx_cond rfl (fun h1 => ?_) (fun h1 => ?_)
  ·
   have h1 := dT h1
   refine cx_seq (cx_ops ?_)
   refine ax_q (q_fadr_ptr rfl) ?_
   refine ax_e (e_st rfl rfl rfl rfl rfl rfl rfl) ?_
   refine ax_nil (cx_keep rfl rfl (cx_seq (cx_ops ?_)))
   refine ax_q (q_fadr_ptr rfl) ?_
   refine ax_q (q_load1_ptr rfl rfl rfl) ?_
   refine ax_q (q_ibin rfl rfl rfl) ?_
   refine ax_q (q_mov rfl) ?_
   apply ax_and rfl rfl
   ·
    intro g
    have g := dT g
    refine ax_q (q_fadr_ptr rfl) ?_
    refine ax_q (q_load1_ptr rfl rfl rfl) ?_
    refine ax_q (q_ibin rfl rfl rfl) ?_
    exact ax_nil ⟨rfl, by repeat constructor⟩
   refine ax_q (q_mov rfl) ?_
   apply ax_and rfl rfl
   ·
    intro g
    have g := (fun h => And.intro (dT (and_T h).1) (dT (and_T h).2)) g
    refine ax_q (q_ldN rfl rfl rfl) ?_
    refine ax_q (q_build rfl) ?_
    refine ax_q (GLogRecord.q_eqs (a := rest6 x) (b := .zero) rfl rfl) ?_
    exact ax_nil ⟨rfl, by repeat constructor⟩
   refine ax_q (q_mov rfl) ?_
   apply ax_and rfl rfl
   ·
    intro g
    have g := (fun h => And.intro ((fun h => And.intro (dT (and_T h).1) (dT (and_T h).2)) (and_T h).1) (id (and_T h).2)) g
    refine ax_q (q_fadr_ptr rfl) ?_
    refine ax_q (q_load1_ptr rfl rfl rfl) ?_
    refine ax_q (q_fadr_ptr rfl) ?_
    refine ax_q (q_load1_ptr rfl rfl rfl) ?_
    refine ax_call rfl (vc_pure0 (c_isCheck (t := x.After) (lsn := x.Lsn) ?_ ?_) hP rfl rfl ?_)
    ·
     assumption
    ·
     first | assumption | omega
    exact ax_nil ⟨rfl, by repeat constructor⟩
   refine ax_q (q_mov rfl) ?_
   refine ax_nil (cx_keep rfl rfl ?_)
   refine cx_ret (ret0 rfl rfl ?_)
   exact ⟨congrArg AM.bool (recI_6 hi h1), rfl⟩
  ·
   have h1 := dF h1
   refine cx_seq (cx_seq (cx_ops ?_))
   refine ax_q (q_ibin rfl rfl rfl) ?_
   refine ax_q (q_mov rfl) ?_
   refine ax_nil (cx_keep rfl rfl ?_)
   refine cx_cond rfl (fun h2 => ?_) (fun h2 => ?_)
   ·
    have h2 := dT h2
    refine cx_skip ?_
    refine cx_keep rfl rfl ?_
    refine cx_cond rfl (fun h3 => ?_) (fun h3 => ?_)
    ·
     have h3 := dT h3
     skip
     refine cx_seq (cx_ops ?_)
     refine ax_q (q_fadr_ptr rfl) ?_
     refine ax_q (q_load1_ptr rfl rfl rfl) ?_
     refine ax_call rfl (vc_pure0 (c_isPlace (n := x.Page) (k := 8) ?_) hP rfl rfl ?_)
     ·
      first | assumption | omega
     refine ax_q (q_mov rfl) ?_
     apply ax_and rfl rfl
     ·
      intro g
      refine ax_q (q_fadr_ptr rfl) ?_
      refine ax_q (q_load1_ptr rfl rfl rfl) ?_
      refine ax_call rfl (vc_pure0 (c_isPlace (n := x.Slot) (k := 4) ?_) hP rfl rfl ?_)
      ·
       first | assumption | omega
      exact ax_nil ⟨rfl, by repeat constructor⟩
     refine ax_q (q_mov rfl) ?_
     refine ax_nil (cx_keep rfl rfl (cx_seq (cx_seq (cx_ops ?_))))
     refine ax_q (q_mov rfl) ?_
     refine ax_q (q_not rfl) ?_
     refine ax_q (q_mov rfl) ?_
     apply ax_or rfl rfl
     ·
      intro g
      have g := (fun h => (fun h => And.intro (id (and_T h).1) (id (and_T h).2)) (bF h)) g
      refine ax_q (q_fadr_ptr rfl) ?_
      refine ax_q (q_load1_ptr rfl rfl rfl) ?_
      refine ax_q (q_lenT rfl) ?_
      refine ax_q (q_ibin rfl rfl rfl) ?_
      exact ax_nil ⟨rfl, by repeat constructor⟩
     refine ax_q (q_mov rfl) ?_
     apply ax_or rfl rfl
     ·
      intro g
      have g := (fun h => And.intro ((fun h => (fun h => And.intro (id (and_T h).1) (id (and_T h).2)) (bF h)) (or_F h).1) (dF (or_F h).2)) g
      refine ax_q (q_fadr_ptr rfl) ?_
      refine ax_q (q_load1_ptr rfl rfl rfl) ?_
      refine ax_q (q_lenT rfl) ?_
      refine ax_q (q_ibin rfl rfl rfl) ?_
      exact ax_nil ⟨rfl, by repeat constructor⟩
     refine ax_q (q_mov rfl) ?_
     apply ax_or rfl rfl
     ·
      intro g
      have g := (fun h => And.intro ((fun h => And.intro ((fun h => (fun h => And.intro (id (and_T h).1) (id (and_T h).2)) (bF h)) (or_F h).1) (dF (or_F h).2)) (or_F h).1) (dF (or_F h).2)) g
      refine ax_q (q_fadr_ptr rfl) ?_
      refine ax_q (q_load1_ptr rfl rfl rfl) ?_
      refine ax_q (q_ibin rfl rfl rfl) ?_
      refine ax_q (q_mov rfl) ?_
      apply ax_and rfl rfl
      ·
       intro g
       have g := dT g
       refine ax_q (q_fadr_ptr rfl) ?_
       refine ax_q (q_load1_ptr rfl rfl rfl) ?_
       refine ax_q (q_fadr_ptr rfl) ?_
       refine ax_q (q_load1_ptr rfl rfl rfl) ?_
       refine ax_q (q_sub rfl rfl (by omega)) ?_
       refine ax_call rfl (vc_pure0 (c_inRange  ) hP rfl rfl ?_)
       refine ax_q (q_not rfl) ?_
       exact ax_nil ⟨rfl, by repeat constructor⟩
      exact ax_nil ⟨rfl, by repeat constructor⟩
     refine ax_nil (cx_keep rfl rfl ?_)
     refine cx_cond rfl (fun h4 => ?_) (fun h4 => ?_)
     ·
      have h4 : badU x = true := h4
      refine cx_seq (cx_ops ?_)
      refine ax_q (q_mov rfl) ?_
      refine ax_nil (cx_keep rfl rfl ?_)
      refine cx_ret (ret0 rfl rfl ?_)
      exact ⟨by rw [recI_bad (.inl h2) h4]; rfl, rfl⟩
     ·
      have h4 : badU x = false := h4
      refine cx_skip ?_
      refine cx_keep rfl rfl (cx_seq (cx_ops ?_))
      refine ax_q (q_fadr_ptr rfl) ?_
      refine ax_e (e_st rfl rfl rfl rfl rfl rfl rfl) ?_
      refine ax_q (q_fadr_ptr rfl) ?_
      refine ax_e (e_st rfl rfl rfl rfl rfl rfl rfl) ?_
      refine ax_q (q_fadr_ptr rfl) ?_
      refine ax_e (e_st rfl rfl rfl rfl rfl rfl rfl) ?_
      refine ax_nil (cx_keep rfl rfl (cx_seq (cx_ops ?_)))
      refine ax_q (q_fadr_ptr rfl) ?_
      refine ax_q (q_load1_ptr rfl rfl rfl) ?_
      refine ax_q (q_ibin rfl rfl rfl) ?_
      refine ax_nil (cx_keep rfl rfl ?_)
      refine cx_cond rfl (fun h5 => ?_) (fun h5 => ?_)
      ·
       have h5 := dT h5
       refine cx_ops ?_
       refine ax_q (q_fadr_ptr rfl) ?_
       refine ax_e (e_st rfl rfl rfl rfl rfl rfl rfl) ?_
       refine ax_nil (cx_keep rfl rfl (cx_seq (cx_ops ?_)))
       refine ax_q (q_fadr_ptr rfl) ?_
       refine ax_q (q_load1_ptr rfl rfl rfl) ?_
       refine ax_call rfl (vc_pure0 (c_inRange  ) hP rfl rfl ?_)
       refine ax_q (q_mov rfl) ?_
       apply ax_and rfl rfl
       ·
        intro g
        refine ax_q (q_ldN rfl rfl rfl) ?_
        refine ax_q (q_build rfl) ?_
        refine ax_q (GLogRecord.q_eqs (a := rest2 x) (b := .zero) rfl rfl) ?_
        exact ax_nil ⟨rfl, by repeat constructor⟩
       refine ax_q (q_mov rfl) ?_
       apply ax_and rfl rfl
       ·
        intro g
        have g := (fun h => And.intro (id (and_T h).1) (id (and_T h).2)) g
        refine ax_q (q_fadr_ptr rfl) ?_
        refine ax_q (q_load1_ptr rfl rfl rfl) ?_
        refine ax_call rfl (vc_pure0 (c_inRange  ) hP rfl rfl ?_)
        exact ax_nil ⟨rfl, by repeat constructor⟩
       refine ax_q (q_mov rfl) ?_
       apply ax_and rfl rfl
       ·
        intro g
        have g := (fun h => And.intro ((fun h => And.intro (id (and_T h).1) (id (and_T h).2)) (and_T h).1) (id (and_T h).2)) g
        refine ax_q (q_fadr_ptr rfl) ?_
        refine ax_q (q_load1_ptr rfl rfl rfl) ?_
        refine ax_q (q_fadr_ptr rfl) ?_
        refine ax_q (q_load1_ptr rfl rfl rfl) ?_
        refine ax_q (q_sub rfl rfl (by omega)) ?_
        refine ax_call rfl (vc_pure0 (c_inRange  ) hP rfl rfl ?_)
        exact ax_nil ⟨rfl, by repeat constructor⟩
       refine ax_q (q_mov rfl) ?_
       apply ax_and rfl rfl
       ·
        intro g
        have g := (fun h => And.intro ((fun h => And.intro ((fun h => And.intro (id (and_T h).1) (id (and_T h).2)) (and_T h).1) (id (and_T h).2)) (and_T h).1) (id (and_T h).2)) g
        refine ax_q (q_fadr_ptr rfl) ?_
        refine ax_q (q_load1_ptr rfl rfl rfl) ?_
        refine ax_q (q_ibin rfl rfl rfl) ?_
        refine ax_q (q_fadr_ptr rfl) ?_
        refine ax_q (q_load1_ptr rfl rfl rfl) ?_
        refine ax_q (q_ibin rfl rfl rfl) ?_
        refine ax_q (q_eqb rfl rfl) ?_
        exact ax_nil ⟨rfl, by repeat constructor⟩
       refine ax_q (q_mov rfl) ?_
       refine ax_nil (cx_keep rfl rfl ?_)
       refine cx_ret (ret0 rfl rfl ?_)
       exact ⟨congrArg AM.bool (recI_2 hi h2 h4), rfl⟩
      ·
       have h5 := dF h5
       exact absurd h2 h5
    ·
     have h3 := dF h3
     exact absurd h2 h3
   ·
    have h2 := dF h2
    refine cx_ops ?_
    refine ax_q (q_ibin rfl rfl rfl) ?_
    refine ax_q (q_mov rfl) ?_
    refine ax_nil (cx_keep rfl rfl ?_)
    refine cx_cond rfl (fun h3 => ?_) (fun h3 => ?_)
    ·
     have h3 := dT h3
     refine cx_seq (cx_ops ?_)
     refine ax_q (q_fadr_ptr rfl) ?_
     refine ax_q (q_load1_ptr rfl rfl rfl) ?_
     refine ax_call rfl (vc_pure0 (c_isPlace (n := x.Page) (k := 8) ?_) hP rfl rfl ?_)
     ·
      first | assumption | omega
     refine ax_q (q_mov rfl) ?_
     apply ax_and rfl rfl
     ·
      intro g
      refine ax_q (q_fadr_ptr rfl) ?_
      refine ax_q (q_load1_ptr rfl rfl rfl) ?_
      refine ax_call rfl (vc_pure0 (c_isPlace (n := x.Slot) (k := 4) ?_) hP rfl rfl ?_)
      ·
       first | assumption | omega
      exact ax_nil ⟨rfl, by repeat constructor⟩
     refine ax_q (q_mov rfl) ?_
     refine ax_nil (cx_keep rfl rfl (cx_seq (cx_seq (cx_ops ?_))))
     refine ax_q (q_mov rfl) ?_
     refine ax_q (q_not rfl) ?_
     refine ax_q (q_mov rfl) ?_
     apply ax_or rfl rfl
     ·
      intro g
      have g := (fun h => (fun h => And.intro (id (and_T h).1) (id (and_T h).2)) (bF h)) g
      refine ax_q (q_fadr_ptr rfl) ?_
      refine ax_q (q_load1_ptr rfl rfl rfl) ?_
      refine ax_q (q_lenT rfl) ?_
      refine ax_q (q_ibin rfl rfl rfl) ?_
      exact ax_nil ⟨rfl, by repeat constructor⟩
     refine ax_q (q_mov rfl) ?_
     apply ax_or rfl rfl
     ·
      intro g
      have g := (fun h => And.intro ((fun h => (fun h => And.intro (id (and_T h).1) (id (and_T h).2)) (bF h)) (or_F h).1) (dF (or_F h).2)) g
      refine ax_q (q_fadr_ptr rfl) ?_
      refine ax_q (q_load1_ptr rfl rfl rfl) ?_
      refine ax_q (q_lenT rfl) ?_
      refine ax_q (q_ibin rfl rfl rfl) ?_
      exact ax_nil ⟨rfl, by repeat constructor⟩
     refine ax_q (q_mov rfl) ?_
     apply ax_or rfl rfl
     ·
      intro g
      have g := (fun h => And.intro ((fun h => And.intro ((fun h => (fun h => And.intro (id (and_T h).1) (id (and_T h).2)) (bF h)) (or_F h).1) (dF (or_F h).2)) (or_F h).1) (dF (or_F h).2)) g
      refine ax_q (q_fadr_ptr rfl) ?_
      refine ax_q (q_load1_ptr rfl rfl rfl) ?_
      refine ax_q (q_ibin rfl rfl rfl) ?_
      refine ax_q (q_mov rfl) ?_
      apply ax_and rfl rfl
      ·
       intro g
       have g := dT g
       refine ax_q (q_fadr_ptr rfl) ?_
       refine ax_q (q_load1_ptr rfl rfl rfl) ?_
       refine ax_q (q_fadr_ptr rfl) ?_
       refine ax_q (q_load1_ptr rfl rfl rfl) ?_
       refine ax_q (q_sub rfl rfl (by omega)) ?_
       refine ax_call rfl (vc_pure0 (c_inRange  ) hP rfl rfl ?_)
       refine ax_q (q_not rfl) ?_
       exact ax_nil ⟨rfl, by repeat constructor⟩
      exact ax_nil ⟨rfl, by repeat constructor⟩
     refine ax_nil (cx_keep rfl rfl ?_)
     refine cx_cond rfl (fun h4 => ?_) (fun h4 => ?_)
     ·
      have h4 : badU x = true := h4
      refine cx_seq (cx_ops ?_)
      refine ax_q (q_mov rfl) ?_
      refine ax_nil (cx_keep rfl rfl ?_)
      refine cx_ret (ret0 rfl rfl ?_)
      exact ⟨by rw [recI_bad (.inr h3) h4]; rfl, rfl⟩
     ·
      have h4 : badU x = false := h4
      refine cx_skip ?_
      refine cx_keep rfl rfl (cx_seq (cx_ops ?_))
      refine ax_q (q_fadr_ptr rfl) ?_
      refine ax_e (e_st rfl rfl rfl rfl rfl rfl rfl) ?_
      refine ax_q (q_fadr_ptr rfl) ?_
      refine ax_e (e_st rfl rfl rfl rfl rfl rfl rfl) ?_
      refine ax_q (q_fadr_ptr rfl) ?_
      refine ax_e (e_st rfl rfl rfl rfl rfl rfl rfl) ?_
      refine ax_nil (cx_keep rfl rfl (cx_seq (cx_ops ?_)))
      refine ax_q (q_fadr_ptr rfl) ?_
      refine ax_q (q_load1_ptr rfl rfl rfl) ?_
      refine ax_q (q_ibin rfl rfl rfl) ?_
      refine ax_nil (cx_keep rfl rfl ?_)
      refine cx_cond rfl (fun h5 => ?_) (fun h5 => ?_)
      ·
       have h5 := dT h5
       exact absurd h5 h2
      ·
       have h5 := dF h5
       refine cx_ops ?_
       refine ax_q (q_fadr_ptr rfl) ?_
       refine ax_e (e_st rfl rfl rfl rfl rfl rfl rfl) ?_
       refine ax_nil (cx_keep rfl rfl (cx_seq (cx_ops ?_)))
       refine ax_q (q_fadr_ptr rfl) ?_
       refine ax_q (q_load1_ptr rfl rfl rfl) ?_
       refine ax_call rfl (vc_pure0 (c_inRange  ) hP rfl rfl ?_)
       refine ax_q (q_mov rfl) ?_
       apply ax_and rfl rfl
       ·
        intro g
        refine ax_q (q_ldN rfl rfl rfl) ?_
        refine ax_q (q_build rfl) ?_
        refine ax_q (GLogRecord.q_eqs (a := rest3 x) (b := .zero) rfl rfl) ?_
        exact ax_nil ⟨rfl, by repeat constructor⟩
       refine ax_q (q_mov rfl) ?_
       apply ax_and rfl rfl
       ·
        intro g
        have g := (fun h => And.intro (id (and_T h).1) (id (and_T h).2)) g
        refine ax_q (q_fadr_ptr rfl) ?_
        refine ax_q (q_load1_ptr rfl rfl rfl) ?_
        refine ax_call rfl (vc_pure0 (c_inRange  ) hP rfl rfl ?_)
        exact ax_nil ⟨rfl, by repeat constructor⟩
       refine ax_q (q_mov rfl) ?_
       apply ax_and rfl rfl
       ·
        intro g
        have g := (fun h => And.intro ((fun h => And.intro (id (and_T h).1) (id (and_T h).2)) (and_T h).1) (id (and_T h).2)) g
        refine ax_q (q_fadr_ptr rfl) ?_
        refine ax_q (q_load1_ptr rfl rfl rfl) ?_
        refine ax_q (q_fadr_ptr rfl) ?_
        refine ax_q (q_load1_ptr rfl rfl rfl) ?_
        refine ax_q (q_sub rfl rfl (by omega)) ?_
        refine ax_call rfl (vc_pure0 (c_inRange  ) hP rfl rfl ?_)
        exact ax_nil ⟨rfl, by repeat constructor⟩
       refine ax_q (q_mov rfl) ?_
       apply ax_and rfl rfl
       ·
        intro g
        have g := (fun h => And.intro ((fun h => And.intro ((fun h => And.intro (id (and_T h).1) (id (and_T h).2)) (and_T h).1) (id (and_T h).2)) (and_T h).1) (id (and_T h).2)) g
        refine ax_q (q_fadr_ptr rfl) ?_
        refine ax_q (q_load1_ptr rfl rfl rfl) ?_
        refine ax_q (q_ibin rfl rfl rfl) ?_
        refine ax_q (q_fadr_ptr rfl) ?_
        refine ax_q (q_load1_ptr rfl rfl rfl) ?_
        refine ax_q (q_ibin rfl rfl rfl) ?_
        refine ax_q (q_eqb rfl rfl) ?_
        exact ax_nil ⟨rfl, by repeat constructor⟩
       refine ax_q (q_mov rfl) ?_
       refine ax_nil (cx_keep rfl rfl ?_)
       refine cx_ret (ret0 rfl rfl ?_)
       exact ⟨congrArg AM.bool (recI_3 hi h3 h4), rfl⟩
    ·
     have h3 := dF h3
     refine cx_skip ?_
     refine cx_keep rfl rfl (cx_seq (cx_ops ?_))
     refine ax_q (q_fadr_ptr rfl) ?_
     refine ax_q (q_load1_ptr rfl rfl rfl) ?_
     refine ax_call rfl (vc_pure0 (c_inRange  ) hP rfl rfl ?_)
     refine ax_q (q_mov rfl) ?_
     apply ax_and rfl rfl
     ·
      intro g
      refine ax_q (q_ldN rfl rfl rfl) ?_
      refine ax_q (q_build rfl) ?_
      refine ax_q (GLogRecord.q_eqs (a := restO x) (b := .zero) rfl rfl) ?_
      exact ax_nil ⟨rfl, by repeat constructor⟩
     refine ax_q (q_mov rfl) ?_
     apply ax_and rfl rfl
     ·
      intro g
      have g := (fun h => And.intro (id (and_T h).1) (id (and_T h).2)) g
      refine ax_q (q_fadr_ptr rfl) ?_
      refine ax_q (q_load1_ptr rfl rfl rfl) ?_
      refine ax_call rfl (vc_pure0 (c_inRange  ) hP rfl rfl ?_)
      exact ax_nil ⟨rfl, by repeat constructor⟩
     refine ax_q (q_mov rfl) ?_
     apply ax_and rfl rfl
     ·
      intro g
      have g := (fun h => And.intro ((fun h => And.intro (id (and_T h).1) (id (and_T h).2)) (and_T h).1) (id (and_T h).2)) g
      refine ax_q (q_fadr_ptr rfl) ?_
      refine ax_q (q_load1_ptr rfl rfl rfl) ?_
      refine ax_q (q_fadr_ptr rfl) ?_
      refine ax_q (q_load1_ptr rfl rfl rfl) ?_
      refine ax_q (q_sub rfl rfl (by omega)) ?_
      refine ax_call rfl (vc_pure0 (c_inRange  ) hP rfl rfl ?_)
      exact ax_nil ⟨rfl, by repeat constructor⟩
     refine ax_q (q_mov rfl) ?_
     apply ax_and rfl rfl
     ·
      intro g
      have g := (fun h => And.intro ((fun h => And.intro ((fun h => And.intro (id (and_T h).1) (id (and_T h).2)) (and_T h).1) (id (and_T h).2)) (and_T h).1) (id (and_T h).2)) g
      refine ax_q (q_fadr_ptr rfl) ?_
      refine ax_q (q_load1_ptr rfl rfl rfl) ?_
      refine ax_q (q_ibin rfl rfl rfl) ?_
      refine ax_q (q_fadr_ptr rfl) ?_
      refine ax_q (q_load1_ptr rfl rfl rfl) ?_
      refine ax_q (q_ibin rfl rfl rfl) ?_
      refine ax_q (q_eqb rfl rfl) ?_
      exact ax_nil ⟨rfl, by repeat constructor⟩
     refine ax_q (q_mov rfl) ?_
     refine ax_nil (cx_keep rfl rfl ?_)
     refine cx_ret (ret0 rfl rfl ?_)
     exact ⟨congrArg AM.bool (recI_o hi h1 h2 h3), rfl⟩


/- slices.IndexFunc[[]loop.example/g00332/impl.LogRecord,loop.example/g00332/impl.LogRecord] -/
def k_c_IndexFunc_LogRecord : XCode :=
 .seq (.ops [.op (some 4) (.mov (.k (.int .i64 0)))])
 (.keep [0, 1] (.seq (.seq (.ops [.op (some 6) (.mov (.t 0)),
   .op (some 7) (.lenS (.t 6)),
   .op (some 8) (.mov (.k (.int .i64 0)))])
  (.keep [0, 1, 7, 8] (.block 0 (.loop (.seq (.ops [.op (some 9) (.bin .lss (.t 8) (.t 7))])
   (.keep [0, 1, 7, 8, 9] (.seq (.cond (.t 9)
    (.skip)
    (.exit 0))
   (.keep [0, 1, 7, 8] (.seq (.block 1 (.seq (.ops [.op (some 10) (.mov (.t 8)),
     .op (some 5) (.mov (.t 10))])
    (.keep [0, 1, 5, 7, 8] (.seq (.ops [.op (some 11) (.mov (.t 1)),
     .op (some 12) (.mov (.t 0)),
     .op (some 13) (.mov (.t 5)),
     .op (some 14) (.iadr 10 (.t 12) (.t 13)),
     .op (some 15) (.loadN 10 (.t 14)),
     .callv (some 16) (.t 11) [.t 15]])
    (.keep [0, 1, 5, 7, 8, 16] (.cond (.t 16)
    (.seq (.ops [.op (some 17) (.mov (.t 5)),
      .op (some 4) (.mov (.t 17))])
     (.keep [4] (.ret)))
    (.skip)))))))
   (.keep [0, 1, 7, 8] (.ops [.op (some 18) (.bin .add (.t 8) (.k (.int .i64 1))),
    .op (some 8) (.mov (.t 18))])))))))))))
 (.keep [] (.seq (.ops [.op (some 4) (.mov (.k (.int .i64 (-1))))])
 (.keep [4] (.ret))))))
theorem k_c_IndexFunc_LogRecord_fits : fitsF Tryz.prog 134 ⟨19, k_c_IndexFunc_LogRecord, [.t 4]⟩ = true := by kernel_rfl
theorem c_IndexFunc_LogRecord {xs : List GLogRecord} {f : Nat} {ds : List D} (p : GLogRecord → Bool) (hw : xs.length ≤ 9223372036854775807) (hb : hasBody Tryz.prog f = true) (hf : ∀ s ∈ xs, Con Tryz.prog noMv f (s.av :: ds.map AV.d) [] (fun r h => r = bool (p s) ∧ h = [])) : Con Tryz.prog noMv 134 [.d (.sl 10 (xs.map GLogRecord.row)), .d (.fn (.func f) ds)] [] (fun r h => r = int (idxOf p xs 0) ∧ h = []) := by
 refine con_of2 k_c_IndexFunc_LogRecord_fits rfl fun C hP hmv => ?_
 unfold k_c_IndexFunc_LogRecord
 refine cx_seq (cx_ops ?_)
 refine ax_q (q_mov rfl) ?_
 refine ax_nil (cx_keep rfl rfl (cx_seq (cx_seq (cx_ops ?_))))
 refine ax_q (q_mov rfl) ?_
 refine ax_q (q_lenS_map rfl) ?_
 refine ax_q (q_mov rfl) ?_
 refine ax_nil (cx_keep rfl rfl (cx_block ?_))
 refine cx_loopU (fun n k => k ≤ xs.length ∧ n = xs.length - k ∧ ∀ i, i < k → ∀ x, xs[i]? = some x → p x = false) (fun k : Nat => [(8, int k)]) (fun _ => []) ⟨_, 0, ⟨by omega, rfl, fun i hi => by omega⟩, by repeat constructor⟩ ?_
 rintro n k ⟨hk, rfl, ht⟩
 refine cx_seq (cx_ops ?_)
 refine ax_q (q_ibin rfl rfl rfl) ?_
 refine ax_nil (cx_keep rfl rfl (cx_seq ?_))
 refine cx_cond rfl (fun h0 => ?_) (fun h0 => ?_)
 ·
  have h0 := dT h0
  have h0x : k < xs.length := by omega
  refine cx_skip ?_
  refine cx_keep rfl rfl (cx_seq (cx_block (cx_seq (cx_ops ?_))))
  refine ax_q (q_mov rfl) ?_
  refine ax_q (q_mov rfl) ?_
  refine ax_nil (cx_keep rfl rfl (cx_seq (cx_ops ?_)))
  refine ax_q (q_mov rfl) ?_
  refine ax_q (q_mov rfl) ?_
  refine ax_q (q_mov rfl) ?_
  refine ax_q (q_ix rfl rfl (mapAt h0x)) ?_
  first | refine ax_q (q_ldN rfl rfl rfl) ?_ | refine ax_q (q_loadN_ip rfl (Nat.le_refl _)) ?_
  refine ax_callvD rfl (by rw [hP]; exact hb) rfl (vc_pure0 (hf _ (List.getElem_mem h0x)) hP (refs_cons rfl ds) rfl ?_)
  refine ax_nil (cx_keep rfl rfl ?_)
  refine cx_cond rfl (fun h1 => ?_) (fun h1 => ?_)
  ·
   skip
   refine cx_seq (cx_ops ?_)
   refine ax_q (q_mov rfl) ?_
   refine ax_q (q_mov rfl) ?_
   refine ax_nil (cx_keep rfl rfl ?_)
   refine cx_ret (ret0 rfl rfl ?_)
   exact ⟨by rw [idxOf_hit h0x ht h1]; rfl, rfl⟩
  ·
   skip
   refine cx_skip ?_
   refine cx_keep rfl rfl (cx_ops ?_)
   refine ax_qe (r' := int ((k + 1 : Nat) : Int)) (q_ibin rfl rfl rfl) (by rw [wi (by omega) (by omega)]; rfl) ?_
   refine ax_q (q_mov rfl) ?_
   refine ax_nil ?_
   exact ⟨_, k + 1, by omega, ⟨by omega, rfl, before_step h0x ht h1⟩, by repeat constructor⟩
 ·
  have h0 := dF h0
  have h0x : k = xs.length := by omega
  refine cx_exit rfl ?_
  refine cx_keep rfl rfl (cx_seq (cx_ops ?_))
  refine ax_q (q_mov rfl) ?_
  refine ax_nil (cx_keep rfl rfl ?_)
  refine cx_ret (ret0 rfl rfl ?_)
  exact ⟨by rw [idxOf_none (fun i hi => ht i (by omega))]; rfl, rfl⟩


/- slices.ContainsFunc[[]loop.example/g00332/impl.LogRecord,loop.example/g00332/impl.LogRecord] -/
def k_c_ContainsFunc_LogRecord : XCode :=
 .seq (.ops [.op (some 4) (.mov (.k (.bool false)))])
 (.keep [0, 1] (.seq (.ops [.op (some 5) (.mov (.t 0)),
   .op (some 6) (.mov (.t 1)),
   .call (some 7) 134 [.t 5, .t 6],
   .op (some 8) (.bin .geq (.t 7) (.k (.int .i64 0))),
   .op (some 4) (.mov (.t 8))])
 (.keep [4] (.ret))))
theorem k_c_ContainsFunc_LogRecord_fits : fitsF Tryz.prog 87 ⟨9, k_c_ContainsFunc_LogRecord, [.t 4]⟩ = true := by kernel_rfl
theorem c_ContainsFunc_LogRecord {xs : List GLogRecord} {f : Nat} {ds : List D} (p : GLogRecord → Bool) (hw : xs.length ≤ 9223372036854775807) (hb : hasBody Tryz.prog f = true) (hf : ∀ s ∈ xs, Con Tryz.prog noMv f (s.av :: ds.map AV.d) [] (fun r h => r = bool (p s) ∧ h = [])) : Con Tryz.prog noMv 87 [.d (.sl 10 (xs.map GLogRecord.row)), .d (.fn (.func f) ds)] [] (fun r h => r = bool (xs.any p) ∧ h = []) := by
 refine con_of2 k_c_ContainsFunc_LogRecord_fits rfl fun C hP hmv => ?_
 unfold k_c_ContainsFunc_LogRecord
 refine cx_seq (cx_ops ?_)
 refine ax_q (q_mov rfl) ?_
 refine ax_nil (cx_keep rfl rfl (cx_seq (cx_ops ?_)))
 refine ax_q (q_mov rfl) ?_
 refine ax_q (q_mov rfl) ?_
 refine ax_call rfl (vc_pure0 (c_IndexFunc_LogRecord p hw hb hf) hP rfl rfl ?_)
 refine ax_qe (r' := bool (xs.any p)) (q_ibin rfl rfl rfl) (congrArg AM.bool any_idxOf) ?_
 refine ax_q (q_mov rfl) ?_
 refine ax_nil (cx_keep rfl rfl ?_)
 refine cx_ret (ret0 rfl rfl ?_)
 exact ⟨rfl, rfl⟩


/- loop.example/g00332/impl.areRecords$1 -/
def k_c_areRecords1 : XCode :=
 .seq (.ops [.op (some 1) (.box (.t 0)),
   .op (some 2) (.mov (.k (.bool false)))])
 (.keep [1] (.seq (.ops [.op (some 3) (.fadr (.t 1) 1),
   .op (some 4) (.load1 (.t 3)),
   .op (some 5) (.bin .gtr (.t 4) (.k (.int .i64 60))),
   .op (some 2) (.mov (.t 5))])
 (.keep [2] (.ret))))
theorem k_c_areRecords1_fits : fitsF Tryz.prog 88 ⟨6, k_c_areRecords1, [.t 2]⟩ = true := by kernel_rfl
theorem c_areRecords1 {a : GLogRecord} : Con Tryz.prog noMv 88 [a.av] [] (fun r h => r = bool (decide ((60 : Int) < a.Lsn)) ∧ h = []) := by
 refine con_of2 k_c_areRecords1_fits rfl fun C hP hmv => ?_
 unfold k_c_areRecords1
 refine cx_seq (cx_ops ?_)
 refine ax_e (e_box rfl rfl (by decide) rfl rfl rfl) ?_
 refine ax_q (q_mov rfl) ?_
 refine ax_nil (cx_keep rfl rfl (cx_seq (cx_ops ?_)))
 refine ax_q (q_fadr_ptr rfl) ?_
 refine ax_q (q_load1_ptr rfl rfl rfl) ?_
 refine ax_q (q_ibin rfl rfl rfl) ?_
 refine ax_q (q_mov rfl) ?_
 refine ax_nil (cx_keep rfl rfl ?_)
 refine cx_ret (ret0 rfl rfl ?_)
 exact ⟨rfl, rfl⟩


/- loop.example/g00332/impl.areRecords -/
def k_c_areRecords : XCode :=
 .seq (.ops [.op (some 2) (.mov (.k (.bool false)))])
 (.keep [0] (.seq (.seq (.ops [.op (some 5) (.mov (.t 0)),
   .op (some 6) (.lenS (.t 5)),
   .op (some 7) (.mov (.k (.int .i64 0)))])
  (.keep [0, 5, 6, 7] (.block 0 (.loop (.seq (.ops [.op (some 8) (.bin .lss (.t 7) (.t 6))])
   (.keep [0, 5, 6, 7, 8] (.seq (.cond (.t 8)
    (.skip)
    (.exit 0))
   (.keep [0, 5, 6, 7] (.seq (.block 1 (.seq (.ops [.op (some 9) (.mov (.t 7)),
     .op (some 10) (.iadr 10 (.t 5) (.t 7)),
     .op (some 11) (.loadN 10 (.t 10)),
     .op (some 4) (.alloc [.int .i64 0, .int .i64 0, .int .i64 0, .int .i64 0, .int .i64 0, .int .i64 0, .int .i64 0, .int .i64 0, .str [], .str []]),
     .op (some 3) (.mov (.t 9)),
     .op none (.store 10 (.t 4) (.t 11))])
    (.keep [0, 3, 4, 5, 6, 7] (.seq (.ops [.op (some 12) (.loadN 10 (.t 4)),
     .call (some 13) 86 [.t 12],
     .op (some 14) (.not (.t 13)),
     .op (some 15) (.mov (.t 14)),
     .andor 21 false 3 15 [.op (some 16) (.fadr (.t 4) 1), .op (some 17) (.load1 (.t 16)), .op (some 18) (.mov (.t 3)), .op (some 19) (.bin .add (.t 18) (.k (.int .i64 1))), .op (some 20) (.bin .neq (.t 17) (.t 19))] (.t 20)])
    (.keep [0, 5, 6, 7, 21] (.cond (.t 21)
    (.seq (.ops [.op (some 2) (.mov (.k (.bool false)))])
     (.keep [2] (.ret)))
    (.skip)))))))
   (.keep [0, 5, 6, 7] (.ops [.op (some 22) (.bin .add (.t 7) (.k (.int .i64 1))),
    .op (some 7) (.mov (.t 22))])))))))))))
 (.keep [0] (.seq (.ops [.op (some 23) (.mov (.t 0)),
   .call (some 24) 87 [.t 23, .f 88],
   .op (some 25) (.not (.t 24)),
   .op (some 2) (.mov (.t 25))])
 (.keep [2] (.ret))))))
theorem k_c_areRecords_fits : fitsF Tryz.prog 37 ⟨26, k_c_areRecords, [.t 2]⟩ = true := by kernel_rfl
theorem c_areRecords {log : List GLogRecord} (hl : log.length ≤ 60) (hv : ∀ i (h : i < log.length), log[i].After.length ≤ 1048576) : Con Tryz.prog noMv 37 [.d (.sl 10 (log.map GLogRecord.row))] [] (fun r h => r = bool (goodA log) ∧ h = []) := by
 refine con_of2 k_c_areRecords_fits rfl fun C hP hmv => ?_
 unfold k_c_areRecords
 refine cx_seq (cx_ops ?_)
 refine ax_q (q_mov rfl) ?_
 refine ax_nil (cx_keep rfl rfl (cx_seq (cx_seq (cx_ops ?_))))
 refine ax_q (q_mov rfl) ?_
 refine ax_q (q_lenS_map rfl) ?_
 refine ax_q (q_mov rfl) ?_
 refine ax_nil (cx_keep rfl rfl (cx_block ?_))
 refine cx_loopU (fun m k => k ≤ log.length ∧ m = log.length - k ∧ ∀ i (h : i < log.length), i < k → recOK log[i] = true ∧ log[i].Lsn = ((i + 1 : Nat) : Int)) (fun k : Nat => [(7, int k)]) (fun _ => []) ⟨_, 0, ⟨Nat.zero_le _, rfl, fun i h hi => by omega⟩, by repeat constructor⟩ ?_
 rintro m k ⟨hk, rfl, hb⟩
 refine cx_seq (cx_ops ?_)
 refine ax_q (q_ibin rfl rfl rfl) ?_
 refine ax_nil (cx_keep rfl rfl (cx_seq ?_))
 refine cx_cond rfl (fun h0 => ?_) (fun h0 => ?_)
 ·
  have h0 := dT h0
  have hkx : k < log.length := by omega
  refine cx_skip ?_
  refine cx_keep rfl rfl (cx_seq (cx_block (cx_seq (cx_ops ?_))))
  refine ax_q (q_mov rfl) ?_
  refine ax_q (q_ix rfl rfl (mapAt hkx)) ?_
  first | refine ax_q (q_ldN rfl rfl rfl) ?_ | refine ax_q (q_loadN_ip rfl (Nat.le_refl _)) ?_
  refine ax_e (e_alloc (by decide) rfl rfl) ?_
  refine ax_q (q_mov rfl) ?_
  refine ax_e (e_st rfl rfl rfl rfl rfl rfl rfl) ?_
  refine ax_nil (cx_keep rfl rfl (cx_seq (cx_ops ?_)))
  refine ax_q (q_ldN rfl rfl rfl) ?_
  refine ax_call rfl (vc_pure0 (c_RecordOK (x := log[k]) ?_) hP rfl rfl ?_)
  ·
   exact hv k hkx
  refine ax_q (q_not rfl) ?_
  refine ax_q (q_mov rfl) ?_
  apply ax_or rfl rfl
  ·
   intro g
   have g := bF g
   refine ax_q (q_fadr_ptr rfl) ?_
   refine ax_q (q_load1_ptr rfl rfl rfl) ?_
   refine ax_q (q_mov rfl) ?_
   refine ax_qe (r' := int ((k + 1 : Nat) : Int)) (q_ibin rfl rfl rfl) (by rw [wi (by omega) (by omega)]; rfl) ?_
   refine ax_q (q_ibin rfl rfl rfl) ?_
   exact ax_nil ⟨rfl, by repeat constructor⟩
  refine ax_nil (cx_keep rfl rfl ?_)
  refine cx_cond rfl (fun h1 => ?_) (fun h1 => ?_)
  ·
   have h1 := (fun h => (or_T h).imp bT nT) h1
   refine cx_seq (cx_ops ?_)
   refine ax_q (q_mov rfl) ?_
   refine ax_nil (cx_keep rfl rfl ?_)
   refine cx_ret (ret0 rfl rfl ?_)
   have e : goodA log = false := goodA_no hkx (by
    rintro ⟨a, b⟩
    rcases h1 with h | h
    ·
     rw [a] at h; cases h
    ·
     exact h b)
   exact ⟨by rw [e]; rfl, rfl⟩
  ·
   have h1 := (fun h => And.intro (bF (or_F h).1) (nF (or_F h).2)) h1
   refine cx_skip ?_
   refine cx_keep rfl rfl (cx_ops ?_)
   refine ax_qe (r' := int ((k + 1 : Nat) : Int)) (q_ibin rfl rfl rfl) (by rw [wi (by omega) (by omega)]; rfl) ?_
   refine ax_q (q_mov rfl) ?_
   refine ax_nil ?_
   exact ⟨_, k + 1, by omega, ⟨by omega, rfl, fun i h hi => by
    rcases Nat.lt_succ_iff_lt_or_eq.1 hi with q | rfl
    ·
     exact hb i h q
    ·
     exact h1⟩, by repeat constructor⟩
 ·
  have h0 := dF h0
  obtain rfl : k = log.length := by omega
  refine cx_exit rfl ?_
  refine cx_keep rfl rfl (cx_seq (cx_ops ?_))
  refine ax_q (q_mov rfl) ?_
  refine ax_call rfl (vc_lend0 (c_ContainsFunc_LogRecord (xs := log) (ds := []) (fun r => decide ((60 : Int) < r.Lsn)) (by omega) (by kernel_rfl) (fun s _ => c_areRecords1)) hP (by repeat (first | exact lal_id _ rfl | exact LAL.nil | refine LAL.cons ?_ ?_ | exact la_id _ rfl | exact LA.lend (lend_whole rfl (by first | (simp; done) | (rw [List.length_map]; rfl))) | refine LA.agg ?_ | refine LA.fn ?_ | refine LA.lend ?_ | exact Lend.d _ | exact Lend.zs _ | exact lend_whole rfl (by first | (simp; done) | (rw [List.length_map]; rfl)) | refine Lend.ptr rfl ?_ | refine Lend.fn ?_ | exact LendL.nil | refine LendL.cons ?_ ?_)) rfl rfl ?_)
  refine ax_q (q_not rfl) ?_
  refine ax_q (q_mov rfl) ?_
  refine ax_nil (cx_keep rfl rfl ?_)
  refine cx_ret (ret0 rfl rfl ?_)
  have e := goodA_iff.2 (fun i h => hb i h h)
  exact ⟨by rw [goodA_lsn e, e]; rfl, rfl⟩


/- loop.example/g00332/impl.NewPage -/
def k_c_NewPage : XCode :=
 .seq (.ops [.op (some 0) (.alloc [.int .i64 0, .nils 1])])
 (.keep [0] (.seq (.ops [.op (some 1) (.mkslice 1 16 [.str []] (.k (.int .i64 4)) (.k (.int .i64 4))),
   .op (some 2) (.build [.int .i64 0, .nils 1] [(1, 1, .t 1)]),
   .op none (.store 2 (.t 0) (.t 2))])
 (.keep [0] (.ret))))
theorem k_c_NewPage_fits : fitsF Tryz.prog 90 ⟨3, k_c_NewPage, [.cN 0 2]⟩ = true := by kernel_rfl
theorem c_NewPage  : Con Tryz.prog noMv 90 [] [] (fun r h => r = (⟨0, [[], [], [], []]⟩ : Page).avO 0 ∧ h = (⟨0, [[], [], [], []]⟩ : Page).hO 0) := by
 refine con_of2 k_c_NewPage_fits rfl fun C hP hmv => ?_
 unfold k_c_NewPage
 refine cx_seq (cx_ops ?_)
 refine ax_e (e_alloc (by decide) rfl rfl) ?_
 refine ax_nil (cx_keep rfl rfl (cx_seq (cx_ops ?_)))
 refine ax_e (e_mkslice rfl rfl rfl (by omega) (by omega) (by omega) (by decide) rfl rfl) ?_
 refine ax_q (q_build rfl) ?_
 refine ax_e (e_st rfl rfl rfl rfl rfl rfl rfl) ?_
 refine ax_nil (cx_keep rfl rfl ?_)
 refine cx_ret (retN (fun _ => 0) [1] rfl rfl rfl rfl rfl ?_)
 exact ⟨rfl, rfl⟩


/- loop.example/g00332/impl.PageOK$1 -/
def k_c_PageOK1 : XCode :=
 .seq (.ops [.op (some 2) (.mov (.k (.bool false)))])
 (.keep [0] (.seq (.ops [.op (some 3) (.mov (.t 0)),
   .op (some 4) (.lenT (.t 3)),
   .op (some 5) (.bin .gtr (.t 4) (.k (.int .i64 30))),
   .op (some 2) (.mov (.t 5))])
 (.keep [2] (.ret))))
theorem k_c_PageOK1_fits : fitsF Tryz.prog 143 ⟨6, k_c_PageOK1, [.t 2]⟩ = true := by kernel_rfl
theorem c_PageOK1 {s : Str} : Con Tryz.prog noMv 143 [str s] [] (fun r h => r = bool (decide ((30 : Int) < (s.length : Int))) ∧ h = []) := by
 refine con_of2 k_c_PageOK1_fits rfl fun C hP hmv => ?_
 unfold k_c_PageOK1
 refine cx_seq (cx_ops ?_)
 refine ax_q (q_mov rfl) ?_
 refine ax_nil (cx_keep rfl rfl (cx_seq (cx_ops ?_)))
 refine ax_q (q_mov rfl) ?_
 refine ax_q (q_lenT rfl) ?_
 refine ax_q (q_ibin rfl rfl rfl) ?_
 refine ax_q (q_mov rfl) ?_
 refine ax_nil (cx_keep rfl rfl ?_)
 refine cx_ret (ret0 rfl rfl ?_)
 exact ⟨rfl, rfl⟩


/- loop.example/g00332/impl.PageOK -/
def k_c_PageOK : XCode :=
 .seq (.ops [.op (some 1) (.box (.t 0)),
   .op (some 2) (.mov (.k (.bool false)))])
 (.keep [1] (.seq (.ops [.op (some 3) (.fadr (.t 1) 0),
   .op (some 4) (.load1 (.t 3)),
   .call (some 5) 26 [.t 4, .k (.int .i64 0), .k (.int .i64 1000)],
   .op (some 6) (.mov (.t 5)),
   .andor 11 true 3 6 [.op (some 7) (.fadr (.t 1) 1), .op (some 8) (.load1 (.t 7)), .op (some 9) (.lenS (.t 8)), .op (some 10) (.bin .eql (.t 9) (.k (.int .i64 4)))] (.t 10),
   .op (some 12) (.mov (.t 11)),
   .andor 17 true 9 12 [.op (some 13) (.fadr (.t 1) 1), .op (some 14) (.load1 (.t 13)), .call (some 15) 82 [.t 14, .f 143], .op (some 16) (.not (.t 15))] (.t 16),
   .op (some 2) (.mov (.t 17))])
 (.keep [2] (.ret))))
theorem k_c_PageOK_fits : fitsF Tryz.prog 93 ⟨18, k_c_PageOK, [.t 2]⟩ = true := by kernel_rfl
theorem c_PageOK {p : Page} (hl : p.slots.length ≤ 1048576) : Con Tryz.prog noMv 93 [p.av] [] (fun r h => r = bool (pageOK p) ∧ h = []) := by
 refine con_of2 k_c_PageOK_fits rfl fun C hP hmv => ?_
 unfold k_c_PageOK
 refine cx_seq (cx_ops ?_)
 refine ax_e (e_box rfl rfl (by decide) rfl rfl rfl) ?_
 refine ax_q (q_mov rfl) ?_
 refine ax_nil (cx_keep rfl rfl (cx_seq (cx_ops ?_)))
 refine ax_q (q_fadr_ptr rfl) ?_
 refine ax_q (q_load1_ptr rfl rfl rfl) ?_
 refine ax_call rfl (vc_pure0 (c_inRange  ) hP rfl rfl ?_)
 refine ax_q (q_mov rfl) ?_
 apply ax_and rfl rfl
 ·
  intro g
  refine ax_q (q_fadr_ptr rfl) ?_
  refine ax_q (q_load1_ptr rfl rfl rfl) ?_
  refine ax_q (q_lenS_map rfl) ?_
  refine ax_q (q_ibin rfl rfl rfl) ?_
  exact ax_nil ⟨rfl, by repeat constructor⟩
 refine ax_q (q_mov rfl) ?_
 apply ax_and rfl rfl
 ·
  intro g
  have g := (fun h => And.intro (id (and_T h).1) (dT (and_T h).2)) g
  refine ax_q (q_fadr_ptr rfl) ?_
  refine ax_q (q_load1_ptr rfl rfl rfl) ?_
  refine ax_call rfl (vc_lend0 (c_ContainsFunc_Str (xs := p.slots) (ds := []) (fun s => decide ((30 : Int) < (s.length : Int))) (by omega) (by kernel_rfl) (fun s _ => c_PageOK1)) hP (by repeat (first | exact lal_id _ rfl | exact LAL.nil | refine LAL.cons ?_ ?_ | exact la_id _ rfl | exact LA.lend (lend_whole rfl (by first | (simp; done) | (rw [List.length_map]; rfl))) | refine LA.agg ?_ | refine LA.fn ?_ | refine LA.lend ?_ | exact Lend.d _ | exact Lend.zs _ | exact lend_whole rfl (by first | (simp; done) | (rw [List.length_map]; rfl)) | refine Lend.ptr rfl ?_ | refine Lend.fn ?_ | exact LendL.nil | refine LendL.cons ?_ ?_)) rfl rfl ?_)
  refine ax_q (q_not rfl) ?_
  exact ax_nil ⟨rfl, by repeat constructor⟩
 refine ax_q (q_mov rfl) ?_
 refine ax_nil (cx_keep rfl rfl ?_)
 refine cx_ret (ret0 rfl rfl ?_)
 exact ⟨congrArg bool (by rw [pageOK_int]), rfl⟩


/- loop.example/g00332/impl.big -/
def k_c_big : XCode :=
 .seq (.ops [.op (some 2) (.mov (.k (.int .i64 0)))])
 (.keep [0] (.seq (.ops [.op (some 3) (.mov (.k (.int .i64 0)))])
 (.keep [0, 3] (.seq (.seq (.ops [.op (some 6) (.mov (.t 0)),
   .op (some 7) (.lenS (.t 6)),
   .op (some 8) (.mov (.k (.int .i64 0)))])
  (.keep [3, 6, 7, 8] (.block 0 (.loop (.seq (.ops [.op (some 9) (.bin .lss (.t 8) (.t 7))])
   (.keep [3, 6, 7, 8, 9] (.seq (.cond (.t 9)
    (.skip)
    (.exit 0))
   (.keep [3, 6, 7, 8] (.seq (.block 1 (.seq (.ops [.op (some 10) (.iadr 1 (.t 6) (.t 8)),
     .op (some 11) (.load1 (.t 10)),
     .op (some 5) (.mov (.t 11))])
    (.keep [3, 5, 6, 7, 8] (.ops [.op (some 12) (.mov (.t 3)),
     .op (some 13) (.bin .shl (.t 12) (.k (.int .u64 8))),
     .op (some 14) (.mov (.t 5)),
     .op (some 15) (.conv .i64 (.t 14)),
     .op (some 16) (.bin .or (.t 13) (.t 15)),
     .op (some 3) (.mov (.t 16))]))))
   (.keep [3, 6, 7, 8] (.ops [.op (some 17) (.bin .add (.t 8) (.k (.int .i64 1))),
    .op (some 8) (.mov (.t 17))])))))))))))
 (.keep [3] (.seq (.ops [.op (some 18) (.mov (.t 3)),
   .op (some 2) (.mov (.t 18))])
 (.keep [2] (.ret))))))))
theorem k_c_big_fits : fitsF Tryz.prog 138 ⟨19, k_c_big, [.t 2]⟩ = true := by kernel_rfl
theorem c_big {l : Str} (hl : l.length ≤ 4) : Con Tryz.prog noMv 138 [.d (.sl 1 (l.map byteRow))] [] (fun r h => r = int (bigN l) ∧ h = []) := by
 refine con_of2 k_c_big_fits rfl fun C hP hmv => ?_
 unfold k_c_big
 refine cx_seq (cx_ops ?_)
 refine ax_q (q_mov rfl) ?_
 refine ax_nil (cx_keep rfl rfl (cx_seq (cx_ops ?_)))
 refine ax_q (q_mov rfl) ?_
 refine ax_nil (cx_keep rfl rfl (cx_seq (cx_seq (cx_ops ?_))))
 refine ax_q (q_mov rfl) ?_
 refine ax_q (q_lenS_map rfl) ?_
 refine ax_q (q_mov rfl) ?_
 refine ax_nil (cx_keep rfl rfl (cx_block ?_))
 refine cx_loopU (fun n k => k ≤ l.length ∧ n = l.length - k) (fun k : Nat => [(3, int (bigN (l.take k))), (8, int k)]) (fun _ => []) ⟨_, 0, ⟨Nat.zero_le _, rfl⟩, by repeat constructor⟩ ?_
 rintro n k ⟨hk, rfl⟩
 refine cx_seq (cx_ops ?_)
 refine ax_q (q_ibin rfl rfl rfl) ?_
 refine ax_nil (cx_keep rfl rfl (cx_seq ?_))
 refine cx_cond rfl (fun h0 => ?_) (fun h0 => ?_)
 ·
  have h0 := dT h0
  have h0x : k < l.length := by omega
  have hlt := bigN_lt3 hl h0x
  refine cx_skip ?_
  refine cx_keep rfl rfl (cx_seq (cx_block (cx_seq (cx_ops ?_))))
  refine ax_q (q_ix rfl rfl (mapAt h0x)) ?_
  first | refine ax_q (q_load1_ptr rfl rfl rfl) ?_ | refine ax_q (q_load1_ip rfl) ?_
  refine ax_q (q_mov rfl) ?_
  refine ax_nil (cx_keep rfl rfl (cx_ops ?_))
  refine ax_q (q_mov rfl) ?_
  refine ax_qe (r' := int ((bigN (l.take k) * 256 : Nat) : Int)) (q_ishf rfl rfl rfl (by omega)) (by exact congrArg AM.int (shlW hlt)) ?_
  refine ax_q (q_mov rfl) ?_
  refine ax_q (q_convB rfl) ?_
  refine ax_qe (r' := int ((bigN (l.take k) * 256 + l[k].toNat : Nat) : Int)) (q_ibit rfl rfl rfl) (congrArg AM.int (orW hlt)) ?_
  refine ax_q (q_mov rfl) ?_
  refine ax_nil (cx_keep rfl rfl (cx_ops ?_))
  refine ax_qe (r' := int ((k + 1 : Nat) : Int)) (q_ibin rfl rfl rfl) (by rw [wi (by omega) (by omega)]; rfl) ?_
  refine ax_q (q_mov rfl) ?_
  refine ax_nil ?_
  exact ⟨_, k + 1, by omega, ⟨by omega, rfl⟩, by rw [bigN_succ h0x]; exact (by repeat constructor)⟩
 ·
  have h0 := dF h0
  obtain rfl : k = l.length := by omega
  rw [List.take_length]
  refine cx_exit rfl ?_
  refine cx_keep rfl rfl (cx_seq (cx_ops ?_))
  refine ax_q (q_mov rfl) ?_
  refine ax_q (q_mov rfl) ?_
  refine ax_nil (cx_keep rfl rfl ?_)
  refine cx_ret (ret0 rfl rfl ?_)
  exact ⟨rfl, rfl⟩


/- loop.example/g00332/impl.check32 -/
def k_c_check32 : XCode :=
 .seq (.ops [.op (some 2) (.mov (.k (.int .u32 0)))])
 (.keep [0] (.seq (.ops [.op (some 3) (.mov (.k (.int .u32 4294967295)))])
 (.keep [0, 3] (.seq (.seq (.ops [.op (some 6) (.mov (.t 0)),
   .op (some 7) (.lenS (.t 6)),
   .op (some 8) (.mov (.k (.int .i64 0)))])
  (.keep [3, 6, 7, 8] (.block 0 (.loop (.seq (.ops [.op (some 9) (.bin .lss (.t 8) (.t 7))])
   (.keep [3, 6, 7, 8, 9] (.seq (.cond (.t 9)
    (.skip)
    (.exit 0))
   (.keep [3, 6, 7, 8] (.seq (.block 1 (.seq (.ops [.op (some 10) (.iadr 1 (.t 6) (.t 8)),
     .op (some 11) (.load1 (.t 10)),
     .op (some 5) (.mov (.t 11))])
    (.keep [3, 5, 6, 7, 8] (.seq (.ops [.op (some 12) (.mov (.t 3)),
     .op (some 13) (.mov (.t 5)),
     .op (some 14) (.conv .u32 (.t 13)),
     .op (some 15) (.bin .xor (.t 12) (.t 14)),
     .op (some 3) (.mov (.t 15))])
    (.keep [3, 6, 7, 8] (.seq (.ops [.op (some 16) (.mov (.k (.int .i64 0)))])
    (.keep [3, 6, 7, 8, 16] (.block 2 (.loop (.seq (.ops [.op (some 17) (.bin .lss (.t 16) (.k (.int .i64 8)))])
     (.keep [3, 6, 7, 8, 16, 17] (.seq (.cond (.t 17)
      (.skip)
      (.exit 2))
     (.keep [3, 6, 7, 8, 16] (.seq (.block 3 (.seq (.ops [.op (some 18) (.mov (.t 3)),
       .op (some 19) (.bin .and (.t 18) (.k (.int .u32 1))),
       .op (some 20) (.bin .eql (.t 19) (.k (.int .u32 1)))])
      (.keep [3, 6, 7, 8, 16, 20] (.cond (.t 20)
      (.ops [.op (some 21) (.mov (.t 3)),
        .op (some 22) (.bin .shr (.t 21) (.k (.int .u64 1))),
        .op (some 23) (.bin .xor (.t 22) (.k (.int .u32 3988292384))),
        .op (some 3) (.mov (.t 23))])
      (.ops [.op (some 24) (.mov (.t 3)),
        .op (some 25) (.bin .shr (.t 24) (.k (.int .u64 1))),
        .op (some 3) (.mov (.t 25))])))))
     (.keep [3, 6, 7, 8, 16] (.ops [.op (some 26) (.bin .add (.t 16) (.k (.int .i64 1))),
      .op (some 16) (.mov (.t 26))]))))))))))))))))
   (.keep [3, 6, 7, 8] (.ops [.op (some 27) (.bin .add (.t 8) (.k (.int .i64 1))),
    .op (some 8) (.mov (.t 27))])))))))))))
 (.keep [3] (.seq (.ops [.op (some 28) (.mov (.t 3)),
   .op (some 29) (.bin .xor (.t 28) (.k (.int .u32 4294967295))),
   .op (some 2) (.mov (.t 29))])
 (.keep [2] (.ret))))))))
theorem k_c_check32_fits : fitsF Tryz.prog 164 ⟨30, k_c_check32, [.t 2]⟩ = true := by kernel_rfl
theorem c_check32 {l : Str} (hl : l.length ≤ 1048576) : Con Tryz.prog noMv 164 [.d (.sl 1 (l.map byteRow))] [] (fun r h => r = .d (.int .u32 (crcN l : Int)) ∧ h = []) := by
 refine con_of2 k_c_check32_fits rfl fun C hP hmv => ?_
 unfold k_c_check32
 refine cx_seq (cx_ops ?_)
 refine ax_q (q_mov rfl) ?_
 refine ax_nil (cx_keep rfl rfl (cx_seq (cx_ops ?_)))
 refine ax_q (q_mov rfl) ?_
 refine ax_nil (cx_keep rfl rfl (cx_seq (cx_seq (cx_ops ?_))))
 refine ax_q (q_mov rfl) ?_
 refine ax_q (q_lenS_map rfl) ?_
 refine ax_q (q_mov rfl) ?_
 refine ax_nil (cx_keep rfl rfl (cx_block ?_))
 refine cx_loopU (fun n k => k ≤ l.length ∧ n = l.length - k) (fun k : Nat => [(3, .d (.int .u32 (crcS (l.take k) : Int))), (8, int k)]) (fun _ => []) ⟨_, 0, ⟨Nat.zero_le _, rfl⟩, by repeat constructor⟩ ?_
 rintro n k ⟨hk, rfl⟩
 refine cx_seq (cx_ops ?_)
 refine ax_q (q_ibin rfl rfl rfl) ?_
 refine ax_nil (cx_keep rfl rfl (cx_seq ?_))
 refine cx_cond rfl (fun h0 => ?_) (fun h0 => ?_)
 ·
  have h0 := dT h0
  have h0x : k < l.length := by omega
  have hlt : crcS (l.take k) < 4294967296 := crcS_lt
  have hxb : (crcS (l.take k) ^^^ l[k].toNat) < 4294967296 := xb_lt hlt
  have hc := l[k].toNat_lt
  refine cx_skip ?_
  refine cx_keep rfl rfl (cx_seq (cx_block (cx_seq (cx_ops ?_))))
  refine ax_q (q_ix rfl rfl (mapAt h0x)) ?_
  first | refine ax_q (q_load1_ptr rfl rfl rfl) ?_ | refine ax_q (q_load1_ip rfl) ?_
  refine ax_q (q_mov rfl) ?_
  refine ax_nil (cx_keep rfl rfl (cx_seq (cx_ops ?_)))
  refine ax_q (q_mov rfl) ?_
  refine ax_q (q_mov rfl) ?_
  refine ax_qe (r' := .d (.int .u32 (l[k].toNat : Int))) (q_conv rfl) (by rw [wr_u32 (by omega) (by omega)]) ?_
  refine ax_qe (r' := .d (.int .u32 (((crcS (l.take k) ^^^ l[k].toNat : Nat)) : Int))) (q_ibit rfl rfl rfl) (by rw [x32 hlt (by omega)]) ?_
  refine ax_q (q_mov rfl) ?_
  refine ax_nil (cx_keep rfl rfl (cx_seq (cx_ops ?_)))
  refine ax_q (q_mov rfl) ?_
  refine ax_nil (cx_keep rfl rfl (cx_block ?_))
  refine cx_loopU (fun n j => j ≤ 8 ∧ n = 8 - j) (fun j : Nat => [(3, .d (.int .u32 (bitsN j (crcS (l.take k) ^^^ l[k].toNat) : Int))), (16, int j)]) (fun _ => []) ⟨_, 0, ⟨Nat.zero_le _, rfl⟩, by repeat constructor⟩ ?_
  rintro n j ⟨hj, rfl⟩
  refine cx_seq (cx_ops ?_)
  refine ax_q (q_ibin rfl rfl rfl) ?_
  refine ax_nil (cx_keep rfl rfl (cx_seq ?_))
  refine cx_cond rfl (fun h1 => ?_) (fun h1 => ?_)
  ·
   have h1 := dT h1
   have hbl : bitsN j (crcS (l.take k) ^^^ l[k].toNat) < 4294967296 := bitsN_lt hxb j
   refine cx_skip ?_
   refine cx_keep rfl rfl (cx_seq (cx_block (cx_seq (cx_ops ?_))))
   refine ax_q (q_mov rfl) ?_
   refine ax_qe (r' := .d (.int .u32 ((bitsN j (crcS (l.take k) ^^^ l[k].toNat) % 2 : Nat) : Int))) (q_ibit rfl rfl rfl) (by rw [a32 hbl]) ?_
   refine ax_q (q_ibin rfl rfl rfl) ?_
   refine ax_nil (cx_keep rfl rfl ?_)
   refine cx_cond rfl (fun h2 => ?_) (fun h2 => ?_)
   ·
    have h2 := dT h2
    refine cx_ops ?_
    refine ax_q (q_mov rfl) ?_
    refine ax_qe (r' := .d (.int .u32 ((bitsN j (crcS (l.take k) ^^^ l[k].toNat) / 2 : Nat) : Int))) (q_ishf rfl rfl rfl (by omega)) (congrArg (fun z => AV.d (.int .u32 z)) sh1) ?_
    refine ax_qe (r' := .d (.int .u32 (((bitsN j (crcS (l.take k) ^^^ l[k].toNat) / 2) ^^^ 3988292384 : Nat) : Int))) (q_ibit rfl rfl rfl) (congrArg (fun z => AV.d (.int .u32 z)) (x32 (b := 3988292384) (by omega) (by omega))) ?_
    refine ax_q (q_mov rfl) ?_
    refine ax_nil (cx_keep rfl rfl (cx_ops ?_))
    refine ax_qe (r' := int ((j + 1 : Nat) : Int)) (q_ibin rfl rfl rfl) (by rw [wi (by omega) (by omega)]; rfl) ?_
    refine ax_q (q_mov rfl) ?_
    refine ax_nil ?_
    exact ⟨_, j + 1, by omega, ⟨by omega, rfl⟩, by rw [show bitsN (j + 1) (crcS (l.take k) ^^^ l[k].toNat) = _ from bit1_t (s := bitsN j (crcS (l.take k) ^^^ l[k].toNat)) (by omega)]; exact (by repeat constructor)⟩
   ·
    have h2 := dF h2
    refine cx_ops ?_
    refine ax_q (q_mov rfl) ?_
    refine ax_qe (r' := .d (.int .u32 ((bitsN j (crcS (l.take k) ^^^ l[k].toNat) / 2 : Nat) : Int))) (q_ishf rfl rfl rfl (by omega)) (congrArg (fun z => AV.d (.int .u32 z)) sh1) ?_
    refine ax_q (q_mov rfl) ?_
    refine ax_nil (cx_keep rfl rfl (cx_ops ?_))
    refine ax_qe (r' := int ((j + 1 : Nat) : Int)) (q_ibin rfl rfl rfl) (by rw [wi (by omega) (by omega)]; rfl) ?_
    refine ax_q (q_mov rfl) ?_
    refine ax_nil ?_
    exact ⟨_, j + 1, by omega, ⟨by omega, rfl⟩, by rw [show bitsN (j + 1) (crcS (l.take k) ^^^ l[k].toNat) = _ from bit1_f (s := bitsN j (crcS (l.take k) ^^^ l[k].toNat)) (by omega)]; exact (by repeat constructor)⟩
  ·
   have h1 := dF h1
   obtain rfl : j = 8 := by omega
   refine cx_exit rfl ?_
   refine cx_keep rfl rfl (cx_ops ?_)
   refine ax_qe (r' := int ((k + 1 : Nat) : Int)) (q_ibin rfl rfl rfl) (by rw [wi (by omega) (by omega)]; rfl) ?_
   refine ax_q (q_mov rfl) ?_
   refine ax_nil ?_
   exact ⟨_, k + 1, by omega, ⟨by omega, rfl⟩, by rw [crcS_succ h0x]; exact (by repeat constructor)⟩
 ·
  have h0 := dF h0
  obtain rfl : k = l.length := by omega
  refine cx_exit rfl ?_
  refine cx_keep rfl rfl (cx_seq (cx_ops ?_))
  refine ax_q (q_mov rfl) ?_
  refine ax_qe (r' := .d (.int .u32 (crcN l : Int))) (q_ibit rfl rfl rfl) (by rw [List.take_length]; exact congrArg (fun z => AV.d (.int .u32 z)) (x32 (b := 4294967295) crcS_lt (by omega))) ?_
  refine ax_q (q_mov rfl) ?_
  refine ax_nil (cx_keep rfl rfl ?_)
  refine cx_ret (ret0 rfl rfl ?_)
  exact ⟨rfl, rfl⟩


/- loop.example/g00332/impl.unsealed -/
def k_c_unsealed : XCode :=
 .seq (.ops [.op (some 2) (.mov (.k (.nils 1))),
   .op (some 3) (.mov (.k (.bool false)))])
 (.keep [0] (.seq (.ops [.op (some 5) (.mov (.t 0)),
   .op (some 6) (.lenS (.t 5)),
   .op (some 7) (.bin .sub (.t 6) (.k (.int .i64 4))),
   .op (some 4) (.mov (.t 7))])
 (.keep [0, 4] (.seq (.seq (.draw [.op (some 8) (.mov (.t 4)),
   .op (some 9) (.bin .lss (.t 8) (.k (.int .i64 0))),
   .op (some 10) (.mov (.t 9)),
   .andor 21 false 2 10 [.op (some 11) (.mov (.t 0)), .op (some 12) (.mov (.t 4)), .op (some 13) (.slc 1 (.t 11) none (some (.t 12)) none), .call (some 14) 164 [.t 13], .op (some 15) (.conv .i64 (.t 14)), .op (some 16) (.mov (.t 0)), .op (some 17) (.mov (.t 4)), .op (some 18) (.slc 1 (.t 16) (some (.t 17)) none none), .call (some 19) 138 [.t 18], .op (some 20) (.bin .neq (.t 15) (.t 19))] (.t 20)])
  (.keep [0, 4, 21] (.cond (.t 21)
  (.seq (.ops [.op (some 2) (.mov (.k (.nils 1))),
    .op (some 3) (.mov (.k (.bool false)))])
   (.keep [2, 3] (.ret)))
  (.skip))))
 (.keep [0, 4] (.seq (.ops [.op (some 22) (.mov (.t 0)),
   .op (some 23) (.mov (.t 4)),
   .op (some 24) (.slc 1 (.t 22) none (some (.t 23)) none),
   .op (some 2) (.mov (.t 24)),
   .op (some 3) (.mov (.k (.bool true)))])
 (.keep [2, 3] (.ret))))))))
theorem k_c_unsealed_fits : fitsF Tryz.prog 136 ⟨25, k_c_unsealed, [.t 2, .t 3]⟩ = true := by kernel_rfl
theorem c_unsealed {l : Str} (hl : l.length ≤ 1048576) : Con Tryz.prog noMv 136 [.d (.sl 1 (l.map byteRow))] [] (fun r h => r = .tup [.d (.sl 1 ((unsealF l).1.map byteRow)), bool (unsealF l).2] ∧ h = []) := by
 refine con_of2 k_c_unsealed_fits rfl fun C hP hmv => ?_
 unfold k_c_unsealed
 refine cx_seq (cx_ops ?_)
 refine ax_q (q_mov rfl) ?_
 refine ax_q (q_mov rfl) ?_
 refine ax_nil (cx_keep rfl rfl (cx_seq (cx_ops ?_)))
 refine ax_q (q_mov rfl) ?_
 refine ax_q (q_lenS_map rfl) ?_
 have hcl := @crcN_lt (l.take (l.length - 4))
 refine ax_qe (r' := int ((l.length : Int) - 4)) (q_ibin rfl rfl rfl) (by rw [wi (by omega) (by omega)]) ?_
 refine ax_q (q_mov rfl) ?_
 refine ax_nil (cx_keep rfl rfl (cx_seq (cx_seq (cx_draw ?_))))
 refine ax_q (q_mov rfl) ?_
 refine ax_q (q_ibin rfl rfl rfl) ?_
 refine ax_q (q_mov rfl) ?_
 apply ax_or rfl rfl
 ·
  intro g
  have g := dF g
  refine ax_q (q_mov rfl) ?_
  refine ax_q (q_mov rfl) ?_
  refine ax_qe (r' := .d (.sl 1 ((l.take (l.length - 4)).map byteRow))) (q_slc rfl rfl rfl (by omega) (by omega) (by simp; omega)) (slc_take (by omega)) ?_
  refine ax_callq rfl (c_check32 (l := l.take (l.length - 4)) ?_) hP (lal_id _ rfl) rfl ?_
  ·
   simp; omega
  first | refine ax_q (q_convB rfl) ?_ | refine ax_q (q_convI rfl (by omega)) ?_
  refine ax_q (q_mov rfl) ?_
  refine ax_q (q_mov rfl) ?_
  refine ax_qe (r' := .d (.sl 1 ((l.drop (l.length - 4)).map byteRow))) (q_slc rfl rfl rfl (by omega) (by simp; omega) (by simp)) (slc_drop2 (by omega)) ?_
  refine ax_callq rfl (c_big (l := l.drop (l.length - 4)) ?_) hP (lal_id _ rfl) rfl ?_
  ·
   simp; omega
  refine ax_q (q_ibin rfl rfl rfl) ?_
  exact ax_nil ⟨rfl, by repeat constructor⟩
 refine ax_nil (cx_keep rfl rfl ?_)
 refine cx_cond rfl (fun h0 => ?_) (fun h0 => ?_)
 ·
  have h0 := (fun h => (or_T h).imp dT nT) h0
  refine cx_seq (cx_ops ?_)
  refine ax_q (q_mov rfl) ?_
  refine ax_q (q_mov rfl) ?_
  refine ax_nil (cx_keep rfl rfl ?_)
  refine cx_wk (wk_virt 900 1 rfl rfl rfl) ?_
  refine cx_wk (wk_zs 2 900 [] rfl rfl) ?_
  refine cx_wk (wk_frz 2 900 rfl rfl (.whole rfl) rfl) ?_
  refine cx_ret (retN id [] rfl rfl rfl rfl rfl ?_)
  rw [unseal_1 h0]; exact ⟨rfl, rfl⟩
 ·
  have h0 := (fun h => And.intro (dF (or_F h).1) (nF (or_F h).2)) h0
  refine cx_skip ?_
  refine cx_keep rfl rfl (cx_seq (cx_ops ?_))
  refine ax_q (q_mov rfl) ?_
  refine ax_q (q_mov rfl) ?_
  refine ax_qe (r' := .d (.sl 1 ((l.take (l.length - 4)).map byteRow))) (q_slc rfl rfl rfl (by omega) (by omega) (by simp; omega)) (slc_take (by omega)) ?_
  refine ax_q (q_mov rfl) ?_
  refine ax_q (q_mov rfl) ?_
  refine ax_nil (cx_keep rfl rfl ?_)
  refine cx_ret (ret0 rfl rfl ?_)
  exact ⟨by rw [unseal_2 (fun h => h.elim h0.1 (fun q => q h0.2))]; rfl, rfl⟩


/- (ptr loop.example/g00332/impl.byteReader).fields -/
def k_c_fields : XCode :=
 .seq (.ops [.op (some 2) (.mov (.k (.nils 1)))])
 (.keep [0] (.seq (.ops [.op (some 4) (.bslice 1 []),
   .op (some 3) (.mov (.t 4))])
 (.keep [0, 3] (.seq (.seq (.ops [.op (some 5) (.mov (.t 0)),
   .call (some 6) 144 [.t 5],
   .op (some 7) (.mov (.k (.int .i64 0)))])
  (.keep [0, 3, 6, 7] (.block 0 (.loop (.seq (.ops [.op (some 8) (.bin .lss (.t 7) (.t 6))])
   (.keep [0, 3, 6, 7, 8] (.seq (.cond (.t 8)
    (.skip)
    (.exit 0))
   (.keep [0, 3, 6, 7] (.seq (.block 1 (.ops [.op (some 9) (.mov (.t 3)),
     .op (some 10) (.mov (.t 0)),
     .op (some 11) (.mov (.t 0)),
     .call (some 12) 144 [.t 11],
     .call (some 13) 137 [.t 10, .t 12],
     .op (some 14) (.b2s (.t 13)),
     .op (some 15) (.bslice 1 [.t 14]),
     .op (some 16) (.app 1 16 [.str []] (.t 9) (.t 15)),
     .op (some 3) (.mov (.t 16))]))
   (.keep [0, 3, 6, 7] (.ops [.op (some 17) (.bin .add (.t 7) (.k (.int .i64 1))),
    .op (some 7) (.mov (.t 17))])))))))))))
 (.keep [3] (.seq (.ops [.op (some 18) (.mov (.t 3)),
   .op (some 2) (.mov (.t 18))])
 (.keep [2] (.ret))))))))
theorem k_c_fields_fits : fitsF Tryz.prog 139 ⟨19, k_c_fields, [.t 2]⟩ = true := by kernel_rfl
theorem c_fields {r0 : Rd} (hl : r0.rest.length ≤ 1048576) : Con Tryz.prog noMv 139 [.ptr 1000 0] [(1000, r0.box)] (fun r h => r = .osl 0 1 0 (fieldsF r0).1.length ∧ h = [(0, .rows 1 ((fieldsF r0).1.map strRow)), (1000, (fieldsF r0).2.box)]) := by
 refine con_of2 k_c_fields_fits rfl fun C hP hmv => ?_
 unfold k_c_fields
 refine cx_seq (cx_ops ?_)
 refine ax_q (q_mov rfl) ?_
 refine ax_nil (cx_keep rfl rfl (cx_seq (cx_ops ?_)))
 refine ax_e (e_bslice rfl (by decide) rfl rfl) ?_
 refine ax_q (q_mov rfl) ?_
 refine ax_nil (cx_keep rfl rfl (cx_seq (cx_seq (cx_ops ?_))))
 refine ax_q (q_mov rfl) ?_
 refine ax_call rfl (vcall_own (c_num  ?_) hP hmv false (fun _ => 1000) [1000] ⟨rfl, rfl, rfl, rfl, ⟨rfl, trivial⟩, rfl, rfl, rfl⟩ (.pass rfl rfl .nil) ?_)
 ·
  assumption
 rintro r h ⟨rfl, rfl⟩
 refine ⟨fun _ => 1000, [], ⟨rfl, rfl, rfl, rfl, mem1 rfl, rfl, rfl, fun h => absurd h Bool.false_ne_true⟩, ?_⟩
 obtain ⟨q1, q2⟩ := @numF_lt r0
 refine ax_q (q_mov rfl) ?_
 refine ax_nil (cx_keep rfl rfl (cx_block ?_))
 refine cx_loopU (fun n1 (p : Nat × Nat × Rd × List Str) => n1 = p.1 ∧ p.1 + p.2.1 = (numF r0).1 ∧ p.2.2.2.length = p.2.1 ∧ p.2.2.1.rest.length ≤ 1048576 ∧ fldL p.1 p.2.2.1 p.2.2.2 = fieldsF r0) (fun p => [(3, .osl 4 1 0 p.2.2.2.length), (7, int p.2.1)]) (fun p => [(1000, p.2.2.1.box), (4, .rows 1 (p.2.2.2.map strRow))])
  ⟨_, ((numF r0).1, 0, (numF r0).2, []), ⟨rfl, rfl, rfl, by simp only; omega, rfl⟩, by repeat constructor⟩ ?_
 rintro n1 ⟨m, k, u, l⟩ ⟨rfl, hm, hk, hu, he⟩
 simp only at hm hk hu he ⊢
 refine cx_seq (cx_ops ?_)
 refine ax_q (q_ibin rfl rfl rfl) ?_
 refine ax_nil (cx_keep rfl rfl (cx_seq ?_))
 refine cx_cond rfl (fun h0 => ?_) (fun h0 => ?_)
 ·
  have h0 := dT h0
  obtain ⟨m, rfl⟩ : ∃ m2, n1 = m2 + 1 := ⟨n1 - 1, by omega⟩
  obtain ⟨k1, k2⟩ := @numF_lt u
  obtain ⟨k3, k4⟩ := @takeF_len (numF u).2 (numF u).1
  refine cx_skip ?_
  refine cx_keep rfl rfl (cx_seq (cx_block (cx_ops ?_)))
  refine ax_q (q_mov rfl) ?_
  refine ax_q (q_mov rfl) ?_
  refine ax_q (q_mov rfl) ?_
  refine ax_call rfl (vcall_own (c_num  ?_) hP hmv false (fun _ => 1000) [1000] ⟨rfl, rfl, rfl, rfl, ⟨rfl, trivial⟩, rfl, rfl, rfl⟩ (.pass rfl rfl .nil) ?_)
  ·
   assumption
  rintro r h ⟨rfl, rfl⟩
  refine ⟨fun _ => 1000, [], ⟨rfl, rfl, rfl, rfl, mem1 rfl, rfl, rfl, fun h => absurd h Bool.false_ne_true⟩, ?_⟩
  refine ax_call rfl (vcall_own (c_take (n := (numF u).1) ?_ ?_) hP hmv false (fun _ => 1000) [1000] ⟨rfl, rfl, rfl, rfl, ⟨rfl, trivial⟩, rfl, rfl, rfl⟩ (.pass rfl rfl (.pass rfl rfl .nil)) ?_)
  ·
   first | assumption | omega
  ·
   first | assumption | omega
  rintro r h ⟨rfl, rfl⟩
  refine ⟨fun _ => 1000, [], ⟨rfl, rfl, rfl, rfl, mem1 rfl, rfl, rfl, fun h => absurd h Bool.false_ne_true⟩, ?_⟩
  refine ax_qe (r' := .d (.str (takeF (numF u).2 (numF u).1).1)) (q_b2s rfl (src_sl 1 _) rfl ⟨0, 1, 0, 0, .inr (.inr rfl)⟩) (rfl) ?_
  refine ax_e (e_bslice rfl (by decide) rfl rfl) ?_
  refine ax_e (e_appn (n' := (l ++ [(takeF (numF u).2 (numF u).1).1]).length) (rs' := (l ++ [(takeF (numF u).2 (numF u).1).1]).map strRow) rfl rfl (by simp) rfl (src_osl rfl (by simp)) (.inl (by decide)) (hbnd (by omega) (by simp) (by decide)) (by simp) (app1 rfl)) ?_
  refine ax_q (q_mov rfl) ?_
  refine ax_nil (cx_keep rfl rfl (cx_ops ?_))
  refine ax_qe (r' := int ((k + 1 : Nat) : Int)) (q_ibin rfl rfl rfl) (by rw [wi (by omega) (by omega)]; rfl) ?_
  refine ax_q (q_mov rfl) ?_
  refine ax_nil ?_
  exact ⟨_, (m, k + 1, (takeF (numF u).2 (numF u).1).2, l ++ [(takeF (numF u).2 (numF u).1).1]), by omega, ⟨rfl, by simp only; omega, by simp [hk], by simp only; omega, by rw [← he]; rfl⟩, by repeat constructor⟩
 ·
  have h0 := dF h0
  obtain rfl : n1 = 0 := by omega
  have he2 : fieldsF r0 = (l, u) := he.symm
  refine cx_exit rfl ?_
  refine cx_keep rfl rfl (cx_seq (cx_ops ?_))
  refine ax_q (q_mov rfl) ?_
  refine ax_q (q_mov rfl) ?_
  refine ax_nil (cx_keep rfl rfl ?_)
  refine cx_ret (retN (fun e => bif Nat.beq e 4 then 0 else e) [4, 1000] rfl rfl rfl rfl rfl ?_)
  rw [he2]; exact ⟨rfl, rfl⟩


/- loop.example/g00332/impl.ReadPage -/
def k_c_ReadPage : XCode :=
 .seq (.ops [.op (some 4) (.alloc [.int .i64 0, .nils 1]),
   .op (some 5) (.mov (.k (.int .i64 0)))])
 (.keep [0, 1, 4] (.seq (.seq (.ops [.op (some 11) (.mov (.t 1)),
   .op (some 12) (.lenS (.t 11)),
   .op (some 13) (.bin .gtr (.t 12) (.k (.int .i64 65536)))])
  (.keep [0, 1, 4, 13] (.cond (.t 13)
  (.seq (.ops [.op (some 14) (.build [.int .i64 0, .nils 1] []),
    .op none (.store 2 (.t 4) (.t 14)),
    .op (some 5) (.mov (.k (.int .i64 2)))])
   (.keep [4, 5] (.ret)))
  (.skip))))
 (.keep [0, 1, 4] (.seq (.ops [.op (some 16) (.mov (.t 1)),
   .call (some 17) 136 [.t 16],
   .op (some 15) (.mov (.t 17)),
   .op (some 18) (.ext (.t 15) 0),
   .op (some 19) (.ext (.t 15) 1),
   .op (some 6) (.mov (.t 18)),
   .op (some 7) (.mov (.t 19))])
 (.keep [0, 4, 6, 7] (.seq (.seq (.ops [.op (some 20) (.mov (.t 7)),
   .op (some 21) (.not (.t 20))])
  (.keep [0, 4, 6, 21] (.cond (.t 21)
  (.seq (.ops [.op (some 22) (.build [.int .i64 0, .nils 1] []),
    .op none (.store 2 (.t 4) (.t 22)),
    .op (some 5) (.mov (.k (.int .i64 8)))])
   (.keep [4, 5] (.ret)))
  (.skip))))
 (.keep [0, 4, 6] (.seq (.ops [.op (some 23) (.mov (.t 6)),
   .op (some 24) (.build [.nils 1, .bool false] [(0, 1, .t 23)]),
   .op (some 25) (.box (.t 24)),
   .op (some 8) (.mov (.t 25))])
 (.keep [0, 4, 8] (.seq (.ops [.op (some 26) (.mov (.t 8)),
   .call (some 27) 137 [.t 26, .k (.int .i64 4)],
   .op (some 9) (.mov (.t 27))])
 (.keep [0, 4, 8, 9] (.seq (.ops [.op (some 28) (.mov (.t 9)),
   .op (some 29) (.slc 1 (.t 28) (some (.k (.int .i64 2))) none none),
   .call (some 30) 138 [.t 29],
   .op (some 31) (.mov (.t 8)),
   .call (some 32) 139 [.t 31],
   .op (some 33) (.build [.int .i64 0, .nils 1] [(0, 1, .t 30), (1, 1, .t 32)]),
   .op (some 10) (.alloc [.int .i64 0, .nils 1]),
   .op none (.store 2 (.t 10) (.t 33))])
 (.keep [0, 4, 8, 9, 10] (.seq (.seq (.ops [.op (some 34) (.mov (.t 8)),
   .call (some 35) 140 [.t 34],
   .op (some 36) (.not (.t 35)),
   .op (some 37) (.mov (.t 36)),
   .andor 42 false 3 37 [.op (some 38) (.mov (.t 9)), .op (some 39) (.iadr 1 (.t 38) (.k (.int .i64 0))), .op (some 40) (.load1 (.t 39)), .op (some 41) (.bin .neq (.t 40) (.k (.int .u8 112)))] (.t 41),
   .op (some 43) (.mov (.t 42)),
   .andor 50 false 9 43 [.op (some 44) (.mov (.t 9)), .op (some 45) (.iadr 1 (.t 44) (.k (.int .i64 1))), .op (some 46) (.load1 (.t 45)), .op (some 47) (.conv .i64 (.t 46)), .op (some 48) (.mov (.t 0)), .op (some 49) (.bin .neq (.t 47) (.t 48))] (.t 49),
   .op (some 51) (.mov (.t 50)),
   .andor 55 false 17 51 [.op (some 52) (.loadN 2 (.t 10)), .call (some 53) 93 [.t 52], .op (some 54) (.not (.t 53))] (.t 54)])
  (.keep [4, 10, 55] (.cond (.t 55)
  (.seq (.ops [.op (some 56) (.build [.int .i64 0, .nils 1] []),
    .op none (.store 2 (.t 4) (.t 56)),
    .op (some 5) (.mov (.k (.int .i64 3)))])
   (.keep [4, 5] (.ret)))
  (.skip))))
 (.keep [4, 10] (.seq (.ops [.op (some 57) (.loadN 2 (.t 10)),
   .op none (.store 2 (.t 4) (.t 57)),
   .op (some 5) (.mov (.k (.int .i64 0)))])
 (.keep [4, 5] (.ret))))))))))))))))))
theorem k_c_ReadPage_fits : fitsF Tryz.prog 91 ⟨58, k_c_ReadPage, [.cN 4 2, .t 5]⟩ = true := by kernel_rfl
set_option maxHeartbeats 2000000 in
theorem c_ReadPage {no : Int} {b : Str} (hl : b.length ≤ 1048576) : Con Tryz.prog noMv 91 [int no, .d (.sl 1 (b.map byteRow))] [] (fun r h => r = .tup [(rpF no b).1.avO 0, int (rpF no b).2] ∧ h = (rpF no b).1.hO 0) := by
 refine con_of2 k_c_ReadPage_fits rfl fun C hP hmv => ?_
 unfold k_c_ReadPage
 refine cx_seq (cx_ops ?_)
 refine ax_e (e_alloc (by decide) rfl rfl) ?_
 refine ax_q (q_mov rfl) ?_
 refine ax_nil (cx_keep rfl rfl (cx_seq (cx_seq (cx_ops ?_))))
 refine ax_q (q_mov rfl) ?_
 refine ax_q (q_lenS_map rfl) ?_
 refine ax_q (q_ibin rfl rfl rfl) ?_
 refine ax_nil (cx_keep rfl rfl ?_)
 refine cx_cond rfl (fun h0 => ?_) (fun h0 => ?_)
 ·
  have h0 := dT h0
  refine cx_seq (cx_ops ?_)
  refine ax_q (q_build rfl) ?_
  refine ax_e (e_st rfl rfl rfl rfl rfl rfl rfl) ?_
  refine ax_q (q_mov rfl) ?_
  refine ax_nil (cx_keep rfl rfl ?_)
  have e : rpF no b = (.zero, 2) := rpF_1 h0
  refine cx_wk (wk_virt 900 1 rfl rfl rfl) ?_
  refine cx_wk (wk_zsb 4 900 1 rfl rfl rfl) ?_
  refine cx_ret (retN (fun _ => 0) [900] rfl rfl rfl rfl rfl ?_)
  rw [e]; exact ⟨rfl, rfl⟩
 ·
  have h0 := dF h0
  refine cx_skip ?_
  refine cx_keep rfl rfl (cx_seq (cx_ops ?_))
  refine ax_q (q_mov rfl) ?_
  have hul := @unseal_len b
  refine ax_call rfl (vc_pure0 (c_unsealed (l := b) ?_) hP rfl rfl ?_)
  ·
   assumption
  refine ax_q (q_mov rfl) ?_
  refine ax_q (q_ext rfl rfl) ?_
  refine ax_q (q_ext rfl rfl) ?_
  refine ax_q (q_mov rfl) ?_
  refine ax_q (q_mov rfl) ?_
  refine ax_nil (cx_keep rfl rfl (cx_seq (cx_seq (cx_ops ?_))))
  refine ax_q (q_mov rfl) ?_
  refine ax_q (q_not rfl) ?_
  refine ax_nil (cx_keep rfl rfl ?_)
  refine cx_cond rfl (fun h1 => ?_) (fun h1 => ?_)
  ·
   have h1 := bT h1
   refine cx_seq (cx_ops ?_)
   refine ax_q (q_build rfl) ?_
   refine ax_e (e_st rfl rfl rfl rfl rfl rfl rfl) ?_
   refine ax_q (q_mov rfl) ?_
   refine ax_nil (cx_keep rfl rfl ?_)
   have e : rpF no b = (.zero, 8) := rpF_2 h0 h1
   refine cx_wk (wk_virt 900 1 rfl rfl rfl) ?_
   refine cx_wk (wk_zsb 4 900 1 rfl rfl rfl) ?_
   refine cx_ret (retN (fun _ => 0) [900] rfl rfl rfl rfl rfl ?_)
   rw [e]; exact ⟨rfl, rfl⟩
  ·
   have h1 := bF h1
   refine cx_skip ?_
   refine cx_keep rfl rfl (cx_seq (cx_ops ?_))
   refine ax_q (q_mov rfl) ?_
   refine ax_q (q_build rfl) ?_
   refine ax_e (e_box rfl rfl (by decide) rfl rfl rfl) ?_
   refine ax_q (q_mov rfl) ?_
   refine ax_nil (cx_keep rfl rfl (cx_seq (cx_ops ?_)))
   refine ax_q (q_mov rfl) ?_
   refine ax_call rfl (vcall_own (c_take (r0 := ⟨(unsealF b).1, false⟩) (n := 4) ?_ ?_) hP hmv false (fun _ => 25) [1000] ⟨rfl, rfl, rfl, rfl, ⟨rfl, trivial⟩, rfl, rfl, rfl⟩ (.pass rfl rfl (.pass rfl rfl .nil)) ?_)
   ·
    first | assumption | omega
   ·
    first | assumption | omega | (simp; done) | (simp; omega)
   rintro r h ⟨rfl, rfl⟩
   refine ⟨fun _ => 25, [], ⟨rfl, rfl, rfl, rfl, mem1 rfl, rfl, rfl, fun h => absurd h Bool.false_ne_true⟩, ?_⟩
   obtain ⟨t1, t2⟩ := @takeF_len ⟨(unsealF b).1, false⟩ 4
   have hh := @hdF_len (unsealF b).1
   obtain ⟨f1, f2⟩ := @fields_len (takeF ⟨(unsealF b).1, false⟩ 4).2
   refine ax_q (q_mov rfl) ?_
   refine ax_nil (cx_keep rfl rfl (cx_seq (cx_ops ?_)))
   refine ax_q (q_mov rfl) ?_
   refine ax_qe (r' := .d (.sl 1 (((hdF (unsealF b).1).drop 2).map byteRow))) (q_slc rfl rfl rfl (by omega) (by simp; omega) (by simp)) (slc_drop) ?_
   refine ax_call rfl (vc_pure0 (c_big (l := (hdF (unsealF b).1).drop 2) ?_) hP rfl rfl ?_)
   ·
    rw [List.length_drop]; omega
   refine ax_q (q_mov rfl) ?_
   refine ax_call rfl (vcall_own (c_fields (r0 := (takeF ⟨(unsealF b).1, false⟩ 4).2) (by simp only at t2; omega)) hP hmv false (fun _ => 25) [1000] ⟨rfl, rfl, rfl, rfl, ⟨rfl, trivial⟩, rfl, rfl, rfl⟩ (.pass rfl rfl .nil) ?_)
   rintro r h ⟨rfl, rfl⟩
   refine ⟨fun e => bif Nat.beq e 1000 then 25 else 32, [0], ⟨rfl, rfl, rfl, rfl, mem1 rfl, rfl, rfl, fun h => absurd h Bool.false_ne_true⟩, ?_⟩
   refine ax_q (q_build rfl) ?_
   refine ax_e (e_alloc (by decide) rfl rfl) ?_
   refine ax_e (e_st rfl rfl rfl rfl rfl rfl rfl) ?_
   refine ax_nil (cx_keep rfl rfl (cx_seq (cx_seq (cx_ops ?_))))
   refine ax_q (q_mov rfl) ?_
   refine ax_call rfl (vcall_own (c_isDone (r0 := rdE (unsealF b).1) ) hP hmv false (fun _ => 25) [1000] ⟨rfl, rfl, rfl, rfl, ⟨rfl, trivial⟩, rfl, rfl, rfl⟩ (.pass rfl rfl .nil) ?_)
   rintro r h ⟨rfl, rfl⟩
   refine ⟨fun _ => 25, [], ⟨rfl, rfl, rfl, rfl, mem1 rfl, rfl, rfl, fun h => absurd h Bool.false_ne_true⟩, ?_⟩
   refine ax_q (q_not rfl) ?_
   refine ax_q (q_mov rfl) ?_
   apply ax_or rfl rfl
   ·
    intro g
    have g := bF g
    refine ax_q (q_mov rfl) ?_
    refine ax_q (q_ixI rfl rfl (by omega) (mapAt (by show 0 < (hdF _).length; omega))) ?_
    refine ax_qe (r' := .d (.int .u8 (((hdF (unsealF b).1).getD 0 0).toNat : Int))) (q_load1_ip rfl) (by rw [getD_at (by omega)]; rfl) ?_
    refine ax_q (q_ibin rfl rfl rfl) ?_
    exact ax_nil ⟨rfl, by repeat constructor⟩
   refine ax_q (q_mov rfl) ?_
   apply ax_or rfl rfl
   ·
    intro g
    have g := (fun h => And.intro (bF (or_F h).1) (nF (or_F h).2)) g
    refine ax_q (q_mov rfl) ?_
    refine ax_q (q_ixI rfl rfl (by omega) (mapAt (by show 1 < (hdF _).length; omega))) ?_
    refine ax_qe (r' := .d (.int .u8 (((hdF (unsealF b).1).getD 1 0).toNat : Int))) (q_load1_ip rfl) (by rw [getD_at (by omega)]; rfl) ?_
    refine ax_q (q_convB rfl) ?_
    refine ax_q (q_mov rfl) ?_
    refine ax_q (q_ibin rfl rfl rfl) ?_
    exact ax_nil ⟨rfl, by repeat constructor⟩
   refine ax_q (q_mov rfl) ?_
   apply ax_or rfl rfl
   ·
    intro g
    have g := (fun h => And.intro ((fun h => And.intro (bF (or_F h).1) (nF (or_F h).2)) (or_F h).1) (nF (or_F h).2)) g
    refine ax_q (q_ldN rfl rfl rfl) ?_
    first | refine ax_call rfl (vc_pure0 (c_PageOK (p := rdP (unsealF b).1) ?_) hP rfl rfl ?_) | refine ax_call rfl (vc_lend0 (c_PageOK (p := rdP (unsealF b).1) ?_) hP (by repeat (first | exact lal_id _ rfl | exact LAL.nil | refine LAL.cons ?_ ?_ | exact la_id _ rfl | exact LA.lend (lend_whole rfl (by first | (simp; done) | (rw [List.length_map]; rfl))) | refine LA.agg ?_ | refine LA.fn ?_ | refine LA.lend ?_ | exact Lend.d _ | exact Lend.zs _ | exact lend_whole rfl (by first | (simp; done) | (rw [List.length_map]; rfl)) | refine Lend.ptr rfl ?_ | refine Lend.fn ?_ | exact LendL.nil | refine LendL.cons ?_ ?_)) rfl rfl ?_)
    ·
     show (fieldsF _).1.length ≤ _; omega
    refine ax_q (q_not rfl) ?_
    exact ax_nil ⟨rfl, by repeat constructor⟩
   refine ax_nil (cx_keep rfl rfl ?_)
   refine cx_cond rfl (fun h2 => ?_) (fun h2 => ?_)
   ·
    have h2 : badP no (unsealF b).1 = true := h2
    refine cx_seq (cx_ops ?_)
    refine ax_q (q_build rfl) ?_
    refine ax_e (e_st rfl rfl rfl rfl rfl rfl rfl) ?_
    refine ax_q (q_mov rfl) ?_
    refine ax_nil (cx_keep rfl rfl ?_)
    have e : rpF no b = (.zero, 3) := rpF_3 h0 h1 h2
    refine cx_wk (wk_virt 900 1 rfl rfl rfl) ?_
    refine cx_wk (wk_zsb 4 900 1 rfl rfl rfl) ?_
    refine cx_ret (retN (fun _ => 0) [900] rfl rfl rfl rfl rfl ?_)
    rw [e]; exact ⟨rfl, rfl⟩
   ·
    have h2 : badP no (unsealF b).1 = false := h2
    refine cx_skip ?_
    refine cx_keep rfl rfl (cx_seq (cx_ops ?_))
    refine ax_q (q_ldN rfl rfl rfl) ?_
    refine ax_e (e_st rfl rfl rfl rfl rfl rfl rfl) ?_
    refine ax_q (q_mov rfl) ?_
    refine ax_nil (cx_keep rfl rfl ?_)
    have e : rpF no b = (rdP (unsealF b).1, 0) := rpF_4 h0 h1 h2
    refine cx_ret (retN (fun _ => 0) [32] rfl rfl rfl rfl rfl ?_)
    rw [e]; exact ⟨rfl, rfl⟩


/- (ptr loop.example/g00332/impl.Store).diskPage -/
def k_c_diskPage : XCode :=
 .seq (.ops [.op (some 4) (.alloc [.int .i64 0, .nils 1]),
   .op (some 5) (.mov (.k (.bool false)))])
 (.keep [0, 1, 4] (.seq (.ops [.op (some 9) (.mov (.t 0)),
   .op (some 10) (.nilck (.t 9)),
   .op (some 11) (.fadr (.t 10) 0),
   .op (some 12) (.loadN 4 (.t 11)),
   .op (some 13) (.mov (.t 1)),
   .op (some 14) (.bin .add (.k (.int .i64 1)) (.t 13)),
   .call (some 15) 89 [.t 12, .t 14],
   .op (some 6) (.mov (.t 15))])
 (.keep [1, 4, 6] (.seq (.seq (.ops [.op (some 16) (.mov (.t 6)),
   .op (some 17) (.bin .eql (.t 16) (.k (.str [])))])
  (.keep [1, 4, 6, 17] (.cond (.t 17)
  (.seq (.ops [.call (some 18) 90 [],
    .op none (.store 2 (.t 4) (.t 18)),
    .op (some 5) (.mov (.k (.bool true)))])
   (.keep [4, 5] (.ret)))
  (.skip))))
 (.keep [1, 4, 6] (.seq (.ops [.op (some 20) (.mov (.t 1)),
   .op (some 21) (.mov (.t 6)),
   .op (some 22) (.s2b (.t 21)),
   .call (some 23) 91 [.t 20, .t 22],
   .op (some 19) (.mov (.t 23)),
   .op (some 24) (.ext (.t 19) 0),
   .op (some 25) (.ext (.t 19) 1),
   .op (some 7) (.alloc [.int .i64 0, .nils 1]),
   .op none (.store 2 (.t 7) (.t 24)),
   .op (some 8) (.mov (.t 25))])
 (.keep [4, 7, 8] (.seq (.ops [.op (some 26) (.loadN 2 (.t 7)),
   .op (some 27) (.mov (.t 8)),
   .op (some 28) (.bin .eql (.t 27) (.k (.int .i64 0))),
   .op none (.store 2 (.t 4) (.t 26)),
   .op (some 5) (.mov (.t 28))])
 (.keep [4, 5] (.ret))))))))))
theorem k_c_diskPage_fits : fitsF Tryz.prog 38 ⟨29, k_c_diskPage, [.cN 4 2, .t 5]⟩ = true := by kernel_rfl
theorem c_diskPage {s : GStore} {no : Nat} (hd : diskOK s.Disk = true) (hs : s.Disk.Sectors.length = 69) (hn : no < 8) : Con Tryz.prog noMv 38 [.ptr 1000 0, int (no : Nat)] [(1000, .box (s.row.map .d))] (fun r h => h = [(1000, .box (s.row.map .d))] ∧ ∃ p ok, r = .tup [Page.av p, bool ok] ∧ ok = (pageD s.Disk no).2 ∧ (ok = true → p = (pageD s.Disk no).1)) := by
 refine con_of2 k_c_diskPage_fits rfl fun C hP hmv => ?_
 unfold k_c_diskPage
 obtain ⟨q1, q2, q3⟩ := diskOK_head hd
 have htl := diskOK_txt hd (1 + no)
 refine cx_seq (cx_ops ?_)
 refine ax_e (e_alloc (by decide) rfl rfl) ?_
 refine ax_q (q_mov rfl) ?_
 refine ax_nil (cx_keep rfl rfl (cx_seq (cx_ops ?_)))
 refine ax_q (q_mov rfl) ?_
 refine ax_q (q_nilck_ptr rfl) ?_
 refine ax_q (q_fadr_ptr rfl) ?_
 refine ax_q (q_ldN rfl rfl rfl) ?_
 refine ax_q (q_mov rfl) ?_
 refine ax_qe (r' := int ((1 + no : Nat) : Int)) (q_ibin rfl rfl rfl) (by rw [wi (by omega) (by omega)]; rfl) ?_
 refine ax_call rfl (vc_pure0 (c_read (d := s.Disk) (i := 1 + no) ?_ ?_) hP rfl rfl ?_)
 ·
  first | assumption | omega
 ·
  first | assumption | omega
 show AXI _ _ _ _ ⟨(15, str (txtD s.Disk (1 + no))) :: _, _⟩ _
 refine ax_q (q_mov rfl) ?_
 refine ax_nil (cx_keep rfl rfl (cx_seq (cx_seq (cx_ops ?_))))
 refine ax_q (q_mov rfl) ?_
 refine ax_q (q_sbin rfl rfl rfl) ?_
 refine ax_nil (cx_keep rfl rfl ?_)
 refine cx_cond rfl (fun h0 => ?_) (fun h0 => ?_)
 ·
  have h0 := dT h0
  have h0 : txtD s.Disk (1 + no) = [] := h0
  refine cx_seq (cx_ops ?_)
  refine ax_call rfl (vc_pure (c_NewPage  ) hP rfl ?_)
  rintro r h ⟨rfl, rfl⟩
  refine ⟨fun i => 18 + 200 * i, [0], ⟨rfl, rfl, rfl, rfl, rfl, (by first | exact (fun h => absurd h Bool.false_ne_true) | exact (fun _ => ⟨rfl, (noisl_of (by repeat (first | exact trivial | refine ⟨noisl_map (fun _ => rfl), ?_⟩ | refine ⟨?_, ?_⟩)))⟩))⟩, ?_⟩
  skip
  refine ax_wk (wk_frz 18 18 rfl rfl (.agg (.cons (.same rfl) (.cons (.whole rfl) .nil))) rfl) ?_
  refine ax_e (e_st rfl rfl rfl rfl rfl rfl rfl) ?_
  refine ax_q (q_mov rfl) ?_
  refine ax_nil (cx_keep rfl rfl ?_)
  refine cx_ret (retN id [1000] rfl rfl rfl rfl rfl ?_)
  exact ⟨rfl, _, true, rfl, by rw [show pageD s.Disk no = _ from pageT_0 h0], fun _ => by rw [show pageD s.Disk no = _ from pageT_0 h0]; rfl⟩
 ·
  have h0 := dF h0
  have h0 : ¬ txtD s.Disk (1 + no) = [] := h0
  obtain ⟨e1, e2⟩ := @pg_same no (txtD s.Disk (1 + no)) (by omega)
  refine cx_skip ?_
  refine cx_keep rfl rfl (cx_seq (cx_ops ?_))
  refine ax_q (q_mov rfl) ?_
  refine ax_q (q_mov rfl) ?_
  refine ax_e (e_s2b rfl (by decide) rfl rfl) ?_
  first | refine ax_call rfl (vc_pure (c_ReadPage (no := (no : Int)) (b := txtD s.Disk (1 + no)) ?_) hP rfl ?_) | refine ax_call rfl (vc_lend (c_ReadPage (no := (no : Int)) (b := txtD s.Disk (1 + no)) ?_) hP (by repeat (first | exact lal_id _ rfl | exact LAL.nil | refine LAL.cons ?_ ?_ | exact la_id _ rfl | exact LA.lend (lend_whole rfl (by first | (simp; done) | (rw [List.length_map]; rfl))) | refine LA.agg ?_ | refine LA.fn ?_ | refine LA.lend ?_ | exact Lend.d _ | exact Lend.zs _ | exact lend_whole rfl (by first | (simp; done) | (rw [List.length_map]; rfl)) | refine Lend.ptr rfl ?_ | refine Lend.fn ?_ | exact LendL.nil | refine LendL.cons ?_ ?_)) ?_)
  ·
   first | assumption | omega
  rintro r h ⟨rfl, rfl⟩
  refine ⟨fun i => 23 + 200 * i, [0], ⟨rfl, rfl, rfl, rfl, rfl, (by first | exact (fun h => absurd h Bool.false_ne_true) | exact (fun _ => ⟨rfl, (noisl_of (by repeat (first | exact trivial | refine ⟨noisl_map (fun _ => rfl), ?_⟩ | refine ⟨?_, ?_⟩)))⟩))⟩, ?_⟩
  skip
  refine ax_wk (wk_frz 23 23 rfl rfl (.tup (.cons (.agg (.cons (.same rfl) (.cons (.whole (List.length_map _).symm) .nil))) (.cons (.same rfl) .nil))) rfl) ?_
  refine ax_q (q_mov rfl) ?_
  refine ax_q (q_ext rfl rfl) ?_
  refine ax_q (q_ext rfl rfl) ?_
  refine ax_e (e_alloc (by decide) rfl rfl) ?_
  refine ax_e (e_st rfl rfl rfl rfl rfl rfl rfl) ?_
  refine ax_q (q_mov rfl) ?_
  refine ax_nil (cx_keep rfl rfl (cx_seq (cx_ops ?_)))
  refine ax_q (q_ldN rfl rfl rfl) ?_
  refine ax_q (q_mov rfl) ?_
  refine ax_q (q_ibin rfl rfl rfl) ?_
  refine ax_e (e_st rfl rfl rfl rfl rfl rfl rfl) ?_
  refine ax_q (q_mov rfl) ?_
  refine ax_nil (cx_keep rfl rfl ?_)
  refine cx_ret (retN id [1000] rfl rfl rfl rfl rfl ?_)
  exact ⟨rfl, (rpF no (txtD s.Disk (1 + no))).1, _, rfl, by rw [show pageD s.Disk no = _ from pageT_1 h0, Bool.eq_iff_iff, ← e1, decide_eq_true_eq], fun h => by rw [show pageD s.Disk no = _ from pageT_1 h0]; exact e2 (e1.1 (of_decide_eq_true h))⟩


/- slices.IndexFunc[[]loop.example/g00332/impl.Frame,loop.example/g00332/impl.Frame] -/
def k_c_IndexFunc_Frame : XCode :=
 .seq (.ops [.op (some 4) (.mov (.k (.int .i64 0)))])
 (.keep [0, 1] (.seq (.seq (.ops [.op (some 6) (.mov (.t 0)),
   .op (some 7) (.lenS (.t 6)),
   .op (some 8) (.mov (.k (.int .i64 0)))])
  (.keep [0, 1, 7, 8] (.block 0 (.loop (.seq (.ops [.op (some 9) (.bin .lss (.t 8) (.t 7))])
   (.keep [0, 1, 7, 8, 9] (.seq (.cond (.t 9)
    (.skip)
    (.exit 0))
   (.keep [0, 1, 7, 8] (.seq (.block 1 (.seq (.ops [.op (some 10) (.mov (.t 8)),
     .op (some 5) (.mov (.t 10))])
    (.keep [0, 1, 5, 7, 8] (.seq (.ops [.op (some 11) (.mov (.t 1)),
     .op (some 12) (.mov (.t 0)),
     .op (some 13) (.mov (.t 5)),
     .op (some 14) (.iadr 5 (.t 12) (.t 13)),
     .op (some 15) (.loadN 5 (.t 14)),
     .callv (some 16) (.t 11) [.t 15]])
    (.keep [0, 1, 5, 7, 8, 16] (.cond (.t 16)
    (.seq (.ops [.op (some 17) (.mov (.t 5)),
      .op (some 4) (.mov (.t 17))])
     (.keep [4] (.ret)))
    (.skip)))))))
   (.keep [0, 1, 7, 8] (.ops [.op (some 18) (.bin .add (.t 8) (.k (.int .i64 1))),
    .op (some 8) (.mov (.t 18))])))))))))))
 (.keep [] (.seq (.ops [.op (some 4) (.mov (.k (.int .i64 (-1))))])
 (.keep [4] (.ret))))))
theorem k_c_IndexFunc_Frame_fits : fitsF Tryz.prog 141 ⟨19, k_c_IndexFunc_Frame, [.t 4]⟩ = true := by kernel_rfl
theorem c_IndexFunc_Frame {xs : List GFrame} {f : Nat} {ds : List D} (p : GFrame → Bool) (hw : xs.length ≤ 9223372036854775807) (hb : hasBody Tryz.prog f = true) (hf : ∀ s ∈ xs, Con Tryz.prog noMv f (s.av :: ds.map AV.d) [] (fun r h => r = bool (p s) ∧ h = [])) : Con Tryz.prog noMv 141 [.d (.sl 5 (xs.map GFrame.row)), .d (.fn (.func f) ds)] [] (fun r h => r = int (idxOf p xs 0) ∧ h = []) := by
 refine con_of2 k_c_IndexFunc_Frame_fits rfl fun C hP hmv => ?_
 unfold k_c_IndexFunc_Frame
 refine cx_seq (cx_ops ?_)
 refine ax_q (q_mov rfl) ?_
 refine ax_nil (cx_keep rfl rfl (cx_seq (cx_seq (cx_ops ?_))))
 refine ax_q (q_mov rfl) ?_
 refine ax_q (q_lenS_map rfl) ?_
 refine ax_q (q_mov rfl) ?_
 refine ax_nil (cx_keep rfl rfl (cx_block ?_))
 refine cx_loopU (fun n k => k ≤ xs.length ∧ n = xs.length - k ∧ ∀ i, i < k → ∀ x, xs[i]? = some x → p x = false) (fun k : Nat => [(8, int k)]) (fun _ => []) ⟨_, 0, ⟨by omega, rfl, fun i hi => by omega⟩, by repeat constructor⟩ ?_
 rintro n k ⟨hk, rfl, ht⟩
 refine cx_seq (cx_ops ?_)
 refine ax_q (q_ibin rfl rfl rfl) ?_
 refine ax_nil (cx_keep rfl rfl (cx_seq ?_))
 refine cx_cond rfl (fun h0 => ?_) (fun h0 => ?_)
 ·
  have h0 := dT h0
  have h0x : k < xs.length := by omega
  refine cx_skip ?_
  refine cx_keep rfl rfl (cx_seq (cx_block (cx_seq (cx_ops ?_))))
  refine ax_q (q_mov rfl) ?_
  refine ax_q (q_mov rfl) ?_
  refine ax_nil (cx_keep rfl rfl (cx_seq (cx_ops ?_)))
  refine ax_q (q_mov rfl) ?_
  refine ax_q (q_mov rfl) ?_
  refine ax_q (q_mov rfl) ?_
  refine ax_q (q_ix rfl rfl (mapAt h0x)) ?_
  first | refine ax_q (q_ldN rfl rfl rfl) ?_ | refine ax_q (q_loadN_ip rfl (Nat.le_refl _)) ?_
  refine ax_callvD rfl (by rw [hP]; exact hb) rfl (vc_pure0 (hf _ (List.getElem_mem h0x)) hP (refs_cons rfl ds) rfl ?_)
  refine ax_nil (cx_keep rfl rfl ?_)
  refine cx_cond rfl (fun h1 => ?_) (fun h1 => ?_)
  ·
   skip
   refine cx_seq (cx_ops ?_)
   refine ax_q (q_mov rfl) ?_
   refine ax_q (q_mov rfl) ?_
   refine ax_nil (cx_keep rfl rfl ?_)
   refine cx_ret (ret0 rfl rfl ?_)
   exact ⟨by rw [idxOf_hit h0x ht h1]; rfl, rfl⟩
  ·
   skip
   refine cx_skip ?_
   refine cx_keep rfl rfl (cx_ops ?_)
   refine ax_qe (r' := int ((k + 1 : Nat) : Int)) (q_ibin rfl rfl rfl) (by rw [wi (by omega) (by omega)]; rfl) ?_
   refine ax_q (q_mov rfl) ?_
   refine ax_nil ?_
   exact ⟨_, k + 1, by omega, ⟨by omega, rfl, before_step h0x ht h1⟩, by repeat constructor⟩
 ·
  have h0 := dF h0
  have h0x : k = xs.length := by omega
  refine cx_exit rfl ?_
  refine cx_keep rfl rfl (cx_seq (cx_ops ?_))
  refine ax_q (q_mov rfl) ?_
  refine ax_nil (cx_keep rfl rfl ?_)
  refine cx_ret (ret0 rfl rfl ?_)
  exact ⟨by rw [idxOf_none (fun i hi => ht i (by omega))]; rfl, rfl⟩


/- (ptr loop.example/g00332/impl.Store).frameAt$1 -/
def k_c_frameAt1 : XCode :=
 .seq (.ops [.op (some 2) (.box (.t 0)),
   .op (some 3) (.mov (.k (.bool false)))])
 (.keep [1, 2] (.seq (.ops [.op (some 4) (.fadr (.t 2) 0),
   .op (some 5) (.load1 (.t 4)),
   .op (some 6) (.load1 (.t 1)),
   .op (some 7) (.bin .eql (.t 5) (.t 6)),
   .op (some 3) (.mov (.t 7))])
 (.keep [3] (.ret))))
theorem k_c_frameAt1_fits : fitsF Tryz.prog 142 ⟨8, k_c_frameAt1, [.t 3]⟩ = true := by kernel_rfl
theorem c_frameAt1 {a : GFrame} {no : Int} : Con Tryz.prog noMv 142 [a.av, .d (.ip [.int .i64 no])] [] (fun r h => r = bool (decide (a.No = no)) ∧ h = []) := by
 refine con_of2 k_c_frameAt1_fits rfl fun C hP hmv => ?_
 unfold k_c_frameAt1
 refine cx_seq (cx_ops ?_)
 refine ax_e (e_box rfl rfl (by decide) rfl rfl rfl) ?_
 refine ax_q (q_mov rfl) ?_
 refine ax_nil (cx_keep rfl rfl (cx_seq (cx_ops ?_)))
 refine ax_q (q_fadr_ptr rfl) ?_
 refine ax_q (q_load1_ptr rfl rfl rfl) ?_
 first | refine ax_q (q_load1_ptr rfl rfl rfl) ?_ | refine ax_q (q_load1_ip rfl) ?_
 refine ax_q (q_ibin rfl rfl rfl) ?_
 refine ax_q (q_mov rfl) ?_
 refine ax_nil (cx_keep rfl rfl ?_)
 refine cx_ret (ret0 rfl rfl ?_)
 exact ⟨rfl, rfl⟩


/- (ptr loop.example/g00332/impl.Store).frameAt -/
def k_c_frameAt : XCode :=
 .seq (.ops [.op (some 3) (.box (.t 1)),
   .op (some 4) (.mov (.k (.int .i64 0)))])
 (.keep [0, 3] (.seq (.ops [.op (some 5) (.mov (.t 0)),
   .op (some 6) (.nilck (.t 5)),
   .op (some 7) (.fadr (.t 6) 7),
   .op (some 8) (.load1 (.t 7)),
   .op (some 9) (.mkfn 142 [.t 3]),
   .call (some 10) 141 [.t 8, .t 9],
   .op (some 4) (.mov (.t 10))])
 (.keep [4] (.ret))))
theorem k_c_frameAt_fits : fitsF Tryz.prog 92 ⟨11, k_c_frameAt, [.t 4]⟩ = true := by kernel_rfl
theorem c_frameAt {s : GStore} {no : Int} (hf : s.Frames.length ≤ 1048576) : Con Tryz.prog noMv 92 [.d (.ip s.row), int no] [] (fun r h => r = int (frameAt s no) ∧ h = []) := by
 refine con_of2 k_c_frameAt_fits rfl fun C hP hmv => ?_
 unfold k_c_frameAt
 refine cx_seq (cx_ops ?_)
 refine ax_e (e_box rfl rfl (by decide) rfl rfl rfl) ?_
 refine ax_q (q_mov rfl) ?_
 refine ax_nil (cx_keep rfl rfl (cx_seq (cx_ops ?_)))
 refine ax_q (q_mov rfl) ?_
 first | refine ax_q (q_nilck_ptr rfl) ?_ | refine ax_q (q_nilck_rptr rfl) ?_ | refine ax_q (q_nilck_ip rfl) ?_
 first | refine ax_q (q_fadr_ptr rfl) ?_ | refine ax_q (q_fadr_rptr rfl) ?_ | refine ax_q (q_fadr_ip rfl) ?_
 first | refine ax_q (q_load1_ptr rfl rfl rfl) ?_ | refine ax_q (q_load1_ip rfl) ?_
 refine ax_q (q_mkfn rfl) ?_
 refine ax_call rfl (vc_lend0 (c_IndexFunc_Frame (xs := s.Frames) (ds := [.ip [.int .i64 no]]) (fun f => decide (f.No = no)) (by omega) (by kernel_rfl) (fun f _ => c_frameAt1)) hP (by repeat (first | exact lal_id _ rfl | exact LAL.nil | refine LAL.cons ?_ ?_ | exact la_id _ rfl | exact LA.lend (lend_whole rfl (by first | (simp; done) | (rw [List.length_map]; rfl))) | refine LA.agg ?_ | refine LA.fn ?_ | refine LA.lend ?_ | exact Lend.d _ | exact Lend.zs _ | exact lend_whole rfl (by first | (simp; done) | (rw [List.length_map]; rfl)) | refine Lend.ptr rfl ?_ | refine Lend.fn ?_ | exact LendL.nil | refine LendL.cons ?_ ?_)) rfl rfl ?_)
 refine ax_q (q_mov rfl) ?_
 refine ax_nil (cx_keep rfl rfl ?_)
 refine cx_ret (ret0 rfl rfl ?_)
 exact ⟨rfl, rfl⟩


/- (ptr loop.example/g00332/impl.Store).framesOK -/
def k_c_framesOK : XCode :=
 .seq (.ops [.op (some 2) (.mov (.k (.bool false)))])
 (.keep [0] (.seq (.seq (.ops [.op (some 5) (.mov (.t 0)),
   .op (some 6) (.nilck (.t 5)),
   .op (some 7) (.fadr (.t 6) 7),
   .op (some 8) (.load1 (.t 7)),
   .op (some 9) (.lenS (.t 8)),
   .op (some 10) (.mov (.k (.int .i64 0)))])
  (.keep [0, 8, 9, 10] (.block 0 (.loop (.seq (.ops [.op (some 11) (.bin .lss (.t 10) (.t 9))])
   (.keep [0, 8, 9, 10, 11] (.seq (.cond (.t 11)
    (.skip)
    (.exit 0))
   (.keep [0, 8, 9, 10] (.seq (.block 1 (.seq (.ops [.op (some 12) (.mov (.t 10)),
     .op (some 13) (.iadr 5 (.t 8) (.t 10)),
     .op (some 14) (.loadN 5 (.t 13)),
     .op (some 4) (.alloc [.int .i64 0, .int .i64 0, .nils 1, .bool false, .int .i64 0]),
     .op (some 3) (.mov (.t 12)),
     .op none (.store 5 (.t 4) (.t 14))])
    (.keep [0, 3, 4, 8, 9, 10] (.seq (.draw [.op (some 15) (.fadr (.t 4) 0),
     .op (some 16) (.load1 (.t 15)),
     .call (some 17) 40 [.t 16, .k (.int .i64 8)],
     .op (some 18) (.not (.t 17)),
     .op (some 19) (.mov (.t 18)),
     .andor 26 false 4 19 [.op (some 20) (.mov (.t 0)), .op (some 21) (.fadr (.t 4) 0), .op (some 22) (.load1 (.t 21)), .call (some 23) 92 [.t 20, .t 22], .op (some 24) (.mov (.t 3)), .op (some 25) (.bin .neq (.t 23) (.t 24))] (.t 25),
     .op (some 27) (.mov (.t 26)),
     .andor 32 false 12 27 [.op (some 28) (.fadr (.t 4) 1), .op (some 29) (.loadN 2 (.t 28)), .call (some 30) 93 [.t 29], .op (some 31) (.not (.t 30))] (.t 31),
     .op (some 33) (.mov (.t 32)),
     .andor 43 false 18 33 [.op (some 34) (.fadr (.t 4) 1), .op (some 35) (.fadr (.t 34) 0), .op (some 36) (.load1 (.t 35)), .op (some 37) (.mov (.t 0)), .op (some 38) (.nilck (.t 37)), .op (some 39) (.fadr (.t 38) 5), .op (some 40) (.load1 (.t 39)), .op (some 41) (.lenS (.t 40)), .op (some 42) (.bin .gtr (.t 36) (.t 41))] (.t 42),
     .op (some 44) (.mov (.t 43)),
     .andor 54 false 29 44 [.op (some 45) (.fadr (.t 4) 4), .op (some 46) (.load1 (.t 45)), .op (some 47) (.mov (.t 0)), .op (some 48) (.nilck (.t 47)), .op (some 49) (.fadr (.t 48) 5), .op (some 50) (.load1 (.t 49)), .op (some 51) (.lenS (.t 50)), .call (some 52) 26 [.t 46, .k (.int .i64 0), .t 51], .op (some 53) (.not (.t 52))] (.t 53),
     .op (some 55) (.mov (.t 54)),
     .andor 62 false 40 55 [.op (some 56) (.fadr (.t 4) 4), .op (some 57) (.load1 (.t 56)), .op (some 58) (.bin .gtr (.t 57) (.k (.int .i64 0))), .op (some 59) (.fadr (.t 4) 3), .op (some 60) (.load1 (.t 59)), .op (some 61) (.eqb true (.t 58) (.t 60))] (.t 61)])
    (.keep [0, 8, 9, 10, 62] (.cond (.t 62)
    (.seq (.ops [.op (some 2) (.mov (.k (.bool false)))])
     (.keep [2] (.ret)))
    (.skip)))))))
   (.keep [0, 8, 9, 10] (.ops [.op (some 63) (.bin .add (.t 10) (.k (.int .i64 1))),
    .op (some 10) (.mov (.t 63))])))))))))))
 (.keep [0] (.seq (.ops [.op (some 64) (.mov (.t 0)),
   .op (some 65) (.nilck (.t 64)),
   .op (some 66) (.fadr (.t 65) 7),
   .op (some 67) (.load1 (.t 66)),
   .op (some 68) (.lenS (.t 67)),
   .op (some 69) (.bin .leq (.t 68) (.k (.int .i64 3))),
   .op (some 2) (.mov (.t 69))])
 (.keep [2] (.ret))))))
theorem k_c_framesOK_fits : fitsF Tryz.prog 39 ⟨70, k_c_framesOK, [.t 2]⟩ = true := by kernel_rfl
set_option maxHeartbeats 4000000 in
theorem c_framesOK {s : GStore} (hb0 : StB s) : Con Tryz.prog noMv 39 [.d (.ip s.row)] [] (fun r h => r = bool (framesOK s && decide ((s.Frames.length : Int) ≤ 3)) ∧ h = []) := by
 refine con_of2 k_c_framesOK_fits rfl fun C hP hmv => ?_
 unfold k_c_framesOK
 have hfl := hb0.fr
 have hll := hb0.lo
 refine cx_seq (cx_ops ?_)
 refine ax_q (q_mov rfl) ?_
 refine ax_nil (cx_keep rfl rfl (cx_seq (cx_seq (cx_ops ?_))))
 refine ax_q (q_mov rfl) ?_
 first | refine ax_q (q_nilck_ptr rfl) ?_ | refine ax_q (q_nilck_rptr rfl) ?_ | refine ax_q (q_nilck_ip rfl) ?_
 first | refine ax_q (q_fadr_ptr rfl) ?_ | refine ax_q (q_fadr_rptr rfl) ?_ | refine ax_q (q_fadr_ip rfl) ?_
 first | refine ax_q (q_load1_ptr rfl rfl rfl) ?_ | refine ax_q (q_load1_ip rfl) ?_
 refine ax_q (q_lenS_map rfl) ?_
 refine ax_q (q_mov rfl) ?_
 refine ax_nil (cx_keep rfl rfl (cx_block ?_))
 refine cx_loopU (fun n k => k ≤ s.Frames.length ∧ n = s.Frames.length - k ∧ ∀ j (hj : j < s.Frames.length), j < k → frameBad s j s.Frames[j] = false) (fun k : Nat => [(10, int k)]) (fun _ => []) ⟨_, 0, ⟨Nat.zero_le _, rfl, fun j _ hj => by omega⟩, by repeat constructor⟩ ?_
 rintro n k ⟨hk, rfl, hb⟩
 refine cx_seq (cx_ops ?_)
 refine ax_q (q_ibin rfl rfl rfl) ?_
 refine ax_nil (cx_keep rfl rfl (cx_seq ?_))
 refine cx_cond rfl (fun h0 => ?_) (fun h0 => ?_)
 ·
  have h0 := dT h0
  have h0x : k < s.Frames.length := by omega
  have hwk := hb0.sw _ (List.getElem_mem h0x)
  have hsk := hb0.sl _ (List.getElem_mem h0x)
  refine cx_skip ?_
  refine cx_keep rfl rfl (cx_seq (cx_block (cx_seq (cx_ops ?_))))
  refine ax_q (q_mov rfl) ?_
  refine ax_q (q_ix rfl rfl (mapAt h0x)) ?_
  first | refine ax_q (q_ldN rfl rfl rfl) ?_ | refine ax_q (q_loadN_ip rfl (Nat.le_refl _)) ?_
  refine ax_e (e_alloc (by decide) rfl rfl) ?_
  refine ax_q (q_mov rfl) ?_
  refine ax_e (e_st rfl rfl rfl rfl rfl rfl rfl) ?_
  refine ax_nil (cx_keep rfl rfl (cx_seq (cx_draw ?_)))
  refine ax_q (q_fadr_ptr rfl) ?_
  refine ax_q (q_load1_ptr rfl rfl rfl) ?_
  refine ax_callq rfl (c_isPlace  ?_) hP (lal_id _ rfl) rfl ?_
  ·
   first | assumption | omega
  refine ax_q (q_not rfl) ?_
  refine ax_q (q_mov rfl) ?_
  apply ax_or rfl rfl
  ·
   intro g
   have g := bF g
   refine ax_q (q_mov rfl) ?_
   refine ax_q (q_fadr_ptr rfl) ?_
   refine ax_q (q_load1_ptr rfl rfl rfl) ?_
   refine ax_callq rfl (c_frameAt (s := s) (no := s.Frames[k].No) ?_) hP (lal_id _ rfl) rfl ?_
   ·
    assumption
   refine ax_q (q_mov rfl) ?_
   refine ax_q (q_ibin rfl rfl rfl) ?_
   exact ax_nil ⟨rfl, by repeat constructor⟩
  refine ax_q (q_mov rfl) ?_
  apply ax_or rfl rfl
  ·
   intro g
   have g := (fun h => And.intro (bF (or_F h).1) (nF (or_F h).2)) g
   refine ax_q (q_fadr_ptr rfl) ?_
   refine ax_q (q_ldN rfl rfl rfl) ?_
   refine ax_callq rfl (c_PageOK (p := s.Frames[k].Page) ?_) hP (lal_id _ rfl) rfl ?_
   ·
    assumption
   refine ax_q (q_not rfl) ?_
   exact ax_nil ⟨rfl, by repeat constructor⟩
  refine ax_q (q_mov rfl) ?_
  apply ax_or rfl rfl
  ·
   intro g
   have g := (fun h => And.intro ((fun h => And.intro (bF (or_F h).1) (nF (or_F h).2)) (or_F h).1) (bF (or_F h).2)) g
   refine ax_q (q_fadr_ptr rfl) ?_
   refine ax_q (q_fadr_ptr rfl) ?_
   refine ax_q (q_load1_ptr rfl rfl rfl) ?_
   refine ax_q (q_mov rfl) ?_
   first | refine ax_q (q_nilck_ptr rfl) ?_ | refine ax_q (q_nilck_rptr rfl) ?_ | refine ax_q (q_nilck_ip rfl) ?_
   first | refine ax_q (q_fadr_ptr rfl) ?_ | refine ax_q (q_fadr_rptr rfl) ?_ | refine ax_q (q_fadr_ip rfl) ?_
   first | refine ax_q (q_load1_ptr rfl rfl rfl) ?_ | refine ax_q (q_load1_ip rfl) ?_
   refine ax_q (q_lenS_map rfl) ?_
   refine ax_q (q_ibin rfl rfl rfl) ?_
   exact ax_nil ⟨rfl, by repeat constructor⟩
  refine ax_q (q_mov rfl) ?_
  apply ax_or rfl rfl
  ·
   intro g
   have g := (fun h => And.intro ((fun h => And.intro ((fun h => And.intro (bF (or_F h).1) (nF (or_F h).2)) (or_F h).1) (bF (or_F h).2)) (or_F h).1) (dF (or_F h).2)) g
   refine ax_q (q_fadr_ptr rfl) ?_
   refine ax_q (q_load1_ptr rfl rfl rfl) ?_
   refine ax_q (q_mov rfl) ?_
   first | refine ax_q (q_nilck_ptr rfl) ?_ | refine ax_q (q_nilck_rptr rfl) ?_ | refine ax_q (q_nilck_ip rfl) ?_
   first | refine ax_q (q_fadr_ptr rfl) ?_ | refine ax_q (q_fadr_rptr rfl) ?_ | refine ax_q (q_fadr_ip rfl) ?_
   first | refine ax_q (q_load1_ptr rfl rfl rfl) ?_ | refine ax_q (q_load1_ip rfl) ?_
   refine ax_q (q_lenS_map rfl) ?_
   refine ax_callq rfl (c_inRange  ) hP (lal_id _ rfl) rfl ?_
   refine ax_q (q_not rfl) ?_
   exact ax_nil ⟨rfl, by repeat constructor⟩
  refine ax_q (q_mov rfl) ?_
  apply ax_or rfl rfl
  ·
   intro g
   have g := (fun h => And.intro ((fun h => And.intro ((fun h => And.intro ((fun h => And.intro (bF (or_F h).1) (nF (or_F h).2)) (or_F h).1) (bF (or_F h).2)) (or_F h).1) (dF (or_F h).2)) (or_F h).1) (bF (or_F h).2)) g
   refine ax_q (q_fadr_ptr rfl) ?_
   refine ax_q (q_load1_ptr rfl rfl rfl) ?_
   refine ax_q (q_ibin rfl rfl rfl) ?_
   refine ax_q (q_fadr_ptr rfl) ?_
   refine ax_q (q_load1_ptr rfl rfl rfl) ?_
   refine ax_q (q_eqb rfl rfl) ?_
   exact ax_nil ⟨rfl, by repeat constructor⟩
  refine ax_nil (cx_keep rfl rfl ?_)
  refine cx_cond rfl (fun h1 => ?_) (fun h1 => ?_)
  ·
   have h1 : frameBad s k s.Frames[k] = true := h1
   refine cx_seq (cx_ops ?_)
   refine ax_q (q_mov rfl) ?_
   refine ax_nil (cx_keep rfl rfl ?_)
   refine cx_ret (ret0 rfl rfl ?_)
   exact ⟨by rw [frames_no h0x h1]; rfl, rfl⟩
  ·
   have hbk : frameBad s k s.Frames[k] = false := h1
   refine cx_skip ?_
   refine cx_keep rfl rfl (cx_ops ?_)
   refine ax_qe (r' := int ((k + 1 : Nat) : Int)) (q_ibin rfl rfl rfl) (by rw [wi (by omega) (by omega)]; rfl) ?_
   refine ax_q (q_mov rfl) ?_
   refine ax_nil ?_
   exact ⟨_, k + 1, by omega, ⟨by omega, rfl, fun j hj hjk => by
    rcases Nat.lt_succ_iff_lt_or_eq.1 hjk with q | rfl
    ·
     exact hb j hj q
    ·
     exact hbk⟩, by repeat constructor⟩
 ·
  have h0 := dF h0
  have hfa := frames_all (s := s) (fun j hj => hb j hj (by omega))
  refine cx_exit rfl ?_
  refine cx_keep rfl rfl (cx_seq (cx_ops ?_))
  refine ax_q (q_mov rfl) ?_
  first | refine ax_q (q_nilck_ptr rfl) ?_ | refine ax_q (q_nilck_rptr rfl) ?_ | refine ax_q (q_nilck_ip rfl) ?_
  first | refine ax_q (q_fadr_ptr rfl) ?_ | refine ax_q (q_fadr_rptr rfl) ?_ | refine ax_q (q_fadr_ip rfl) ?_
  first | refine ax_q (q_load1_ptr rfl rfl rfl) ?_ | refine ax_q (q_load1_ip rfl) ?_
  refine ax_q (q_lenS_map rfl) ?_
  refine ax_q (q_ibin rfl rfl rfl) ?_
  refine ax_q (q_mov rfl) ?_
  refine ax_nil (cx_keep rfl rfl ?_)
  refine cx_ret (ret0 rfl rfl ?_)
  exact ⟨by rw [hfa, Bool.true_and]; rfl, rfl⟩


/- loop.example/g00332/impl.StoreOK -/
def k_c_StoreOK : XCode :=
 .seq (.ops [.op (some 1) (.box (.t 0)),
   .op (some 2) (.mov (.k (.bool false)))])
 (.keep [1] (.seq (.seq (.ops [.op (some 9) (.fadr (.t 1) 0),
   .op (some 10) (.loadN 4 (.t 9)),
   .call (some 11) 36 [.t 10],
   .op (some 12) (.not (.t 11)),
   .op (some 13) (.mov (.t 12)),
   .andor 19 false 4 13 [.op (some 14) (.fadr (.t 1) 0), .op (some 15) (.fadr (.t 14) 0), .op (some 16) (.load1 (.t 15)), .op (some 17) (.lenS (.t 16)), .op (some 18) (.bin .neq (.t 17) (.k (.int .i64 69)))] (.t 18),
   .op (some 20) (.mov (.t 19)),
   .andor 25 false 11 20 [.op (some 21) (.fadr (.t 1) 4), .op (some 22) (.load1 (.t 21)), .call (some 23) 26 [.t 22, .k (.int .i64 1), .k (.int .i64 60)], .op (some 24) (.not (.t 23))] (.t 24),
   .op (some 26) (.mov (.t 25)),
   .andor 31 false 17 26 [.op (some 27) (.fadr (.t 1) 5), .op (some 28) (.load1 (.t 27)), .op (some 29) (.lenS (.t 28)), .op (some 30) (.bin .gtr (.t 29) (.k (.int .i64 60)))] (.t 30),
   .op (some 32) (.mov (.t 31)),
   .andor 37 false 23 32 [.op (some 33) (.fadr (.t 1) 5), .op (some 34) (.load1 (.t 33)), .call (some 35) 37 [.t 34], .op (some 36) (.not (.t 35))] (.t 36),
   .op (some 38) (.mov (.t 37)),
   .andor 46 false 29 38 [.op (some 39) (.fadr (.t 1) 6), .op (some 40) (.load1 (.t 39)), .op (some 41) (.fadr (.t 1) 5), .op (some 42) (.load1 (.t 41)), .op (some 43) (.lenS (.t 42)), .call (some 44) 26 [.t 40, .k (.int .i64 0), .t 43], .op (some 45) (.not (.t 44))] (.t 45)])
  (.keep [1, 46] (.cond (.t 46)
  (.seq (.ops [.op (some 2) (.mov (.k (.bool false)))])
   (.keep [2] (.ret)))
  (.skip))))
 (.keep [1] (.seq (.ops [.op (some 3) (.mov (.k (.int .i64 1)))])
 (.keep [1, 3] (.seq (.seq (.ops [.op (some 47) (.fadr (.t 1) 5),
   .op (some 48) (.load1 (.t 47)),
   .op (some 49) (.lenS (.t 48)),
   .op (some 50) (.mov (.k (.int .i64 0)))])
  (.keep [1, 3, 48, 49, 50] (.block 0 (.loop (.seq (.ops [.op (some 51) (.bin .lss (.t 50) (.t 49))])
   (.keep [1, 3, 48, 49, 50, 51] (.seq (.cond (.t 51)
    (.skip)
    (.exit 0))
   (.keep [1, 3, 48, 49, 50] (.seq (.block 1 (.seq (.ops [.op (some 52) (.iadr 10 (.t 48) (.t 50)),
     .op (some 53) (.loadN 10 (.t 52)),
     .op (some 5) (.alloc [.int .i64 0, .int .i64 0, .int .i64 0, .int .i64 0, .int .i64 0, .int .i64 0, .int .i64 0, .int .i64 0, .str [], .str []]),
     .op none (.store 10 (.t 5) (.t 53))])
    (.keep [1, 3, 5, 48, 49, 50] (.seq (.seq (.ops [.op (some 54) (.fadr (.t 5) 0),
      .op (some 55) (.load1 (.t 54)),
      .op (some 56) (.mov (.t 3)),
      .op (some 57) (.fadr (.t 1) 4),
      .op (some 58) (.load1 (.t 57)),
      .call (some 59) 26 [.t 55, .t 56, .t 58],
      .op (some 60) (.not (.t 59))])
    (.keep [1, 5, 48, 49, 50, 60] (.cond (.t 60)
     (.seq (.ops [.op (some 2) (.mov (.k (.bool false)))])
     (.keep [2] (.ret)))
     (.skip))))
    (.keep [1, 5, 48, 49, 50] (.ops [.op (some 61) (.fadr (.t 5) 0),
     .op (some 62) (.load1 (.t 61)),
     .op (some 3) (.mov (.t 62))]))))))
   (.keep [1, 3, 48, 49, 50] (.ops [.op (some 63) (.bin .add (.t 50) (.k (.int .i64 1))),
    .op (some 50) (.mov (.t 63))])))))))))))
 (.keep [1] (.seq (.seq (.ops [.op (some 64) (.mov (.k (.int .i64 0)))])
  (.keep [1, 64] (.block 2 (.loop (.seq (.ops [.op (some 65) (.bin .lss (.t 64) (.k (.int .i64 8)))])
   (.keep [1, 64, 65] (.seq (.cond (.t 65)
    (.skip)
    (.exit 2))
   (.keep [1, 64] (.seq (.block 3 (.seq (.ops [.op (some 66) (.mov (.t 64)),
     .op (some 6) (.mov (.t 66))])
    (.keep [1, 6, 64] (.seq (.ops [.op (some 68) (.mov (.t 6)),
     .call (some 69) 38 [.t 1, .t 68],
     .op (some 67) (.mov (.t 69)),
     .op (some 70) (.ext (.t 67) 0),
     .op (some 71) (.ext (.t 67) 1),
     .op (some 7) (.alloc [.int .i64 0, .nils 1]),
     .op none (.store 2 (.t 7) (.t 70)),
     .op (some 8) (.mov (.t 71))])
    (.keep [1, 7, 8, 64] (.seq (.ops [.op (some 72) (.mov (.t 8)),
     .op (some 73) (.not (.t 72)),
     .op (some 74) (.mov (.t 73)),
     .andor 80 false 2 74 [.op (some 75) (.fadr (.t 7) 0), .op (some 76) (.load1 (.t 75)), .op (some 77) (.fadr (.t 1) 6), .op (some 78) (.load1 (.t 77)), .op (some 79) (.bin .gtr (.t 76) (.t 78))] (.t 79)])
    (.keep [1, 64, 80] (.cond (.t 80)
    (.seq (.ops [.op (some 2) (.mov (.k (.bool false)))])
     (.keep [2] (.ret)))
    (.skip)))))))))
   (.keep [1, 64] (.ops [.op (some 81) (.bin .add (.t 64) (.k (.int .i64 1))),
    .op (some 64) (.mov (.t 81))])))))))))))
 (.keep [1] (.seq (.ops [.call (some 82) 39 [.t 1],
   .op (some 83) (.mov (.t 82)),
   .andor 87 true 1 83 [.op (some 84) (.fadr (.t 1) 8), .op (some 85) (.load1 (.t 84)), .call (some 86) 40 [.t 85, .k (.int .i64 3)]] (.t 86),
   .op (some 2) (.mov (.t 87))])
 (.keep [2] (.ret))))))))))))
theorem k_c_StoreOK_fits : fitsF Tryz.prog 10 ⟨88, k_c_StoreOK, [.t 2]⟩ = true := by kernel_rfl
set_option maxHeartbeats 8000000 in
theorem c_StoreOK {s : GStore} (hb0 : StB s) : Con Tryz.prog noMv 10 [s.av] [] (fun r h => r = bool (storeOK s) ∧ h = []) := by
 refine con_of2 k_c_StoreOK_fits rfl fun C hP hmv => ?_
 unfold k_c_StoreOK
 obtain ⟨hw0, hw1, hw2, hw3, hwa, hw4, hw5, hw6⟩ := id hb0
 refine cx_seq (cx_ops ?_)
 refine ax_e (e_box rfl rfl (by decide) rfl rfl rfl) ?_
 refine ax_q (q_mov rfl) ?_
 refine ax_nil (cx_keep rfl rfl (cx_seq (cx_seq (cx_ops ?_))))
 refine ax_q (q_fadr_ptr rfl) ?_
 refine ax_q (q_ldN rfl rfl rfl) ?_
 refine ax_call rfl (vc_pure0 (c_DiskOK (d := s.Disk) ?_ ?_ ?_) hP rfl rfl ?_)
 ·
  assumption
 ·
  assumption
 ·
  assumption
 refine ax_q (q_not rfl) ?_
 refine ax_q (q_mov rfl) ?_
 apply ax_or rfl rfl
 ·
  intro g
  have g := bF g
  refine ax_q (q_fadr_ptr rfl) ?_
  refine ax_q (q_fadr_ptr rfl) ?_
  refine ax_q (q_load1_ptr rfl rfl rfl) ?_
  refine ax_q (q_lenS_map rfl) ?_
  refine ax_q (q_ibin rfl rfl rfl) ?_
  exact ax_nil ⟨rfl, by repeat constructor⟩
 refine ax_q (q_mov rfl) ?_
 apply ax_or rfl rfl
 ·
  intro g
  have g := (fun h => And.intro (bF (or_F h).1) (nF (or_F h).2)) g
  refine ax_q (q_fadr_ptr rfl) ?_
  refine ax_q (q_load1_ptr rfl rfl rfl) ?_
  refine ax_call rfl (vc_pure0 (c_inRange  ) hP rfl rfl ?_)
  refine ax_q (q_not rfl) ?_
  exact ax_nil ⟨rfl, by repeat constructor⟩
 refine ax_q (q_mov rfl) ?_
 apply ax_or rfl rfl
 ·
  intro g
  have g := (fun h => And.intro ((fun h => And.intro (bF (or_F h).1) (nF (or_F h).2)) (or_F h).1) (bF (or_F h).2)) g
  refine ax_q (q_fadr_ptr rfl) ?_
  refine ax_q (q_load1_ptr rfl rfl rfl) ?_
  refine ax_q (q_lenS_map rfl) ?_
  refine ax_q (q_ibin rfl rfl rfl) ?_
  exact ax_nil ⟨rfl, by repeat constructor⟩
 refine ax_q (q_mov rfl) ?_
 apply ax_or rfl rfl
 ·
  intro g
  have g := (fun h => And.intro ((fun h => And.intro ((fun h => And.intro (bF (or_F h).1) (nF (or_F h).2)) (or_F h).1) (bF (or_F h).2)) (or_F h).1) (dF (or_F h).2)) g
  have g9 := g.2
  refine ax_q (q_fadr_ptr rfl) ?_
  refine ax_q (q_load1_ptr rfl rfl rfl) ?_
  refine ax_call rfl (vc_pure0 (c_areRecords (log := s.Log) ?_ ?_) hP rfl rfl ?_)
  ·
   first | assumption | omega
  ·
   exact hb0.af
  refine ax_q (q_not rfl) ?_
  exact ax_nil ⟨rfl, by repeat constructor⟩
 refine ax_q (q_mov rfl) ?_
 apply ax_or rfl rfl
 ·
  intro g
  have g := (fun h => And.intro ((fun h => And.intro ((fun h => And.intro ((fun h => And.intro (bF (or_F h).1) (nF (or_F h).2)) (or_F h).1) (bF (or_F h).2)) (or_F h).1) (dF (or_F h).2)) (or_F h).1) (bF (or_F h).2)) g
  refine ax_q (q_fadr_ptr rfl) ?_
  refine ax_q (q_load1_ptr rfl rfl rfl) ?_
  refine ax_q (q_fadr_ptr rfl) ?_
  refine ax_q (q_load1_ptr rfl rfl rfl) ?_
  refine ax_q (q_lenS_map rfl) ?_
  refine ax_call rfl (vc_pure0 (c_inRange  ) hP rfl rfl ?_)
  refine ax_q (q_not rfl) ?_
  exact ax_nil ⟨rfl, by repeat constructor⟩
 refine ax_nil (cx_keep rfl rfl ?_)
 refine cx_cond rfl (fun h0 => ?_) (fun h0 => ?_)
 ·
  have h0 : badHd s = true := h0
  refine cx_seq (cx_ops ?_)
  refine ax_q (q_mov rfl) ?_
  refine ax_nil (cx_keep rfl rfl ?_)
  refine cx_ret (ret0 rfl rfl ?_)
  exact ⟨by rw [storeOK_0 h0]; rfl, rfl⟩
 ·
  have h0 : badHd s = false := h0
  obtain ⟨HD, hg⟩ := hd_of h0
  have hll := HD.lo
  have hsu := HD.su
  refine cx_skip ?_
  refine cx_keep rfl rfl (cx_seq (cx_ops ?_))
  refine ax_q (q_mov rfl) ?_
  refine ax_nil (cx_keep rfl rfl (cx_seq (cx_seq (cx_ops ?_))))
  refine ax_q (q_fadr_ptr rfl) ?_
  refine ax_q (q_load1_ptr rfl rfl rfl) ?_
  refine ax_q (q_lenS_map rfl) ?_
  refine ax_q (q_mov rfl) ?_
  refine ax_nil (cx_keep rfl rfl (cx_block ?_))
  refine cx_loopU (fun n k => k ≤ s.Log.length ∧ n = s.Log.length - k ∧ epochsOK s.Epoch 1 s.Log = epochsOK s.Epoch (lowAt s.Log k) (s.Log.drop k)) (fun k : Nat => [(50, int k), (3, int (lowAt s.Log k))]) (fun _ => [(1, .box (s.row.map .d))]) ⟨_, 0, ⟨Nat.zero_le _, rfl, rfl⟩, by repeat constructor⟩ ?_
  rintro n k ⟨hk, rfl, he⟩
  refine cx_seq (cx_ops ?_)
  refine ax_q (q_ibin rfl rfl rfl) ?_
  refine ax_nil (cx_keep rfl rfl (cx_seq ?_))
  refine cx_cond rfl (fun h1 => ?_) (fun h1 => ?_)
  ·
   have h1 := dT h1
   have h1x : k < s.Log.length := by omega
   refine cx_skip ?_
   refine cx_keep rfl rfl (cx_seq (cx_block (cx_seq (cx_ops ?_))))
   refine ax_q (q_ix rfl rfl (mapAt h1x)) ?_
   first | refine ax_q (q_ldN rfl rfl rfl) ?_ | refine ax_q (q_loadN_ip rfl (Nat.le_refl _)) ?_
   refine ax_e (e_alloc (by decide) rfl rfl) ?_
   refine ax_e (e_st rfl rfl rfl rfl rfl rfl rfl) ?_
   refine ax_nil (cx_keep rfl rfl (cx_seq (cx_seq (cx_ops ?_))))
   refine ax_q (q_fadr_ptr rfl) ?_
   refine ax_q (q_load1_ptr rfl rfl rfl) ?_
   refine ax_q (q_mov rfl) ?_
   refine ax_q (q_fadr_ptr rfl) ?_
   refine ax_q (q_load1_ptr rfl rfl rfl) ?_
   refine ax_call rfl (vc_pure0 (c_inRange  ) hP rfl rfl ?_)
   refine ax_q (q_not rfl) ?_
   refine ax_nil (cx_keep rfl rfl ?_)
   refine cx_cond rfl (fun h2 => ?_) (fun h2 => ?_)
   ·
    have h2 : inR s.Log[k].Epoch (lowAt s.Log k) s.Epoch = false := by simpa using h2
    refine cx_seq (cx_ops ?_)
    refine ax_q (q_mov rfl) ?_
    refine ax_nil (cx_keep rfl rfl ?_)
    refine cx_ret (ret0 rfl rfl ?_)
    exact ⟨by rw [storeOK_e (by rw [he, epochs_step h1x, h2, Bool.false_and])]; rfl, rfl⟩
   ·
    have h2 : inR s.Log[k].Epoch (lowAt s.Log k) s.Epoch = true := by simpa using h2
    refine cx_skip ?_
    refine cx_keep rfl rfl (cx_ops ?_)
    refine ax_q (q_fadr_ptr rfl) ?_
    refine ax_q (q_load1_ptr rfl rfl rfl) ?_
    refine ax_q (q_mov rfl) ?_
    refine ax_nil (cx_keep rfl rfl (cx_ops ?_))
    refine ax_qe (r' := int ((k + 1 : Nat) : Int)) (q_ibin rfl rfl rfl) (by rw [wi (by omega) (by omega)]; rfl) ?_
    refine ax_q (q_mov rfl) ?_
    refine ax_nil ?_
    exact ⟨_, k + 1, by omega, ⟨by omega, rfl, by rw [he, epochs_step h1x, h2, Bool.true_and, lowAt_s h1x]⟩, by rw [lowAt_s h1x]; exact (by repeat constructor)⟩
  ·
   have h1 := dF h1
   obtain rfl : k = s.Log.length := by omega
   rw [epochs_end] at he
   refine cx_exit rfl ?_
   refine cx_keep rfl rfl (cx_seq (cx_seq (cx_ops ?_)))
   refine ax_q (q_mov rfl) ?_
   refine ax_nil (cx_keep rfl rfl (cx_block ?_))
   refine cx_loopU (fun n k => k ≤ 8 ∧ n = 8 - k ∧ ∀ j, j < k → pageBad s j = false) (fun k : Nat => [(64, int k)]) (fun _ => [(1, .box (s.row.map .d))]) ⟨_, 0, ⟨Nat.zero_le _, rfl, fun j hj => by omega⟩, by repeat constructor⟩ ?_
   rintro n k ⟨hk, rfl, hp⟩
   refine cx_seq (cx_ops ?_)
   refine ax_q (q_ibin rfl rfl rfl) ?_
   refine ax_nil (cx_keep rfl rfl (cx_seq ?_))
   refine cx_cond rfl (fun h3 => ?_) (fun h3 => ?_)
   ·
    have h3 := dT h3
    have h3x : k < 8 := by omega
    refine cx_skip ?_
    refine cx_keep rfl rfl (cx_seq (cx_block (cx_seq (cx_ops ?_))))
    refine ax_q (q_mov rfl) ?_
    refine ax_q (q_mov rfl) ?_
    refine ax_nil (cx_keep rfl rfl (cx_seq (cx_ops ?_)))
    refine ax_q (q_mov rfl) ?_
    refine ax_call rfl (vcall_own (c_diskPage (s := s) (no := k) HD.di HD.se (by omega)) hP hmv false (fun _ => 1) [1000] ⟨rfl, rfl, rfl, rfl, ⟨rfl, trivial⟩, rfl, rfl, rfl⟩ (.pass rfl rfl (.pass rfl rfl .nil)) ?_)
    rintro r h ⟨rfl, p, ok, rfl, hok, hpp⟩
    refine ⟨fun _ => 1, [], ⟨rfl, rfl, rfl, rfl, (mem1 rfl), rfl, rfl, fun h => absurd h Bool.false_ne_true⟩, ?_⟩
    refine ax_q (q_mov rfl) ?_
    refine ax_q (q_ext rfl rfl) ?_
    refine ax_q (q_ext rfl rfl) ?_
    refine ax_e (e_alloc (by decide) rfl rfl) ?_
    refine ax_e (e_st rfl rfl rfl rfl rfl rfl rfl) ?_
    refine ax_q (q_mov rfl) ?_
    refine ax_nil (cx_keep rfl rfl (cx_seq (cx_ops ?_)))
    refine ax_q (q_mov rfl) ?_
    refine ax_q (q_not rfl) ?_
    refine ax_q (q_mov rfl) ?_
    apply ax_or rfl rfl
    ·
     intro g
     have g := bF g
     refine ax_q (q_fadr_ptr rfl) ?_
     refine ax_q (q_load1_ptr rfl rfl rfl) ?_
     refine ax_q (q_fadr_ptr rfl) ?_
     refine ax_q (q_load1_ptr rfl rfl rfl) ?_
     refine ax_q (q_ibin rfl rfl rfl) ?_
     exact ax_nil ⟨rfl, by repeat constructor⟩
    refine ax_nil (cx_keep rfl rfl ?_)
    refine cx_cond rfl (fun h4 => ?_) (fun h4 => ?_)
    ·
     have h4 : pageBad s k = true := (pageBad_eq hok hpp).symm.trans h4
     refine cx_seq (cx_ops ?_)
     refine ax_q (q_mov rfl) ?_
     refine ax_nil (cx_keep rfl rfl ?_)
     refine cx_ret (ret0 rfl rfl ?_)
     exact ⟨by rw [storeOK_p (pagesOK_no h3x h4)]; rfl, rfl⟩
    ·
     have hpk : pageBad s k = false := (pageBad_eq hok hpp).symm.trans h4
     refine cx_skip ?_
     refine cx_keep rfl rfl (cx_ops ?_)
     refine ax_qe (r' := int ((k + 1 : Nat) : Int)) (q_ibin rfl rfl rfl) (by rw [wi (by omega) (by omega)]; rfl) ?_
     refine ax_q (q_mov rfl) ?_
     refine ax_nil ?_
     exact ⟨_, k + 1, by omega, ⟨by omega, rfl, fun j hjk => by
      rcases Nat.lt_succ_iff_lt_or_eq.1 hjk with q | rfl
      ·
       exact hp j q
      ·
       exact hpk⟩, by repeat constructor⟩
   ·
    have h3 := dF h3
    have hpo := pagesOK_all (s := s) (fun j hj => hp j (by omega))
    refine cx_exit rfl ?_
    refine cx_keep rfl rfl (cx_seq (cx_ops ?_))
    first | refine ax_call rfl (vc_pure0 (c_framesOK (s := s) ?_) hP rfl rfl ?_) | refine ax_call rfl (vc_lend0 (c_framesOK (s := s) ?_) hP (by repeat (first | exact lal_id _ rfl | exact LAL.nil | refine LAL.cons ?_ ?_ | exact la_id _ rfl | exact LA.lend (lend_whole rfl (by first | (simp; done) | (rw [List.length_map]; rfl))) | refine LA.agg ?_ | refine LA.fn ?_ | refine LA.lend ?_ | exact Lend.d _ | exact Lend.zs _ | exact lend_whole rfl (by first | (simp; done) | (rw [List.length_map]; rfl)) | refine Lend.ptr rfl ?_ | refine Lend.fn ?_ | exact LendL.nil | refine LendL.cons ?_ ?_)) rfl rfl ?_)
    ·
     assumption
    refine ax_q (q_mov rfl) ?_
    apply ax_and rfl rfl
    ·
     intro g
     refine ax_q (q_fadr_ptr rfl) ?_
     refine ax_q (q_load1_ptr rfl rfl rfl) ?_
     refine ax_call rfl (vc_pure0 (c_isPlace  ?_) hP rfl rfl ?_)
     ·
      first | assumption | omega
     exact ax_nil ⟨rfl, by repeat constructor⟩
    refine ax_q (q_mov rfl) ?_
    refine ax_nil (cx_keep rfl rfl ?_)
    refine cx_ret (ret0 rfl rfl ?_)
    exact ⟨by rw [storeOK_t h0 he hpo]; rfl, rfl⟩


/- slices.Clone[[]string,string] -/
def k_c_Clone_Str : XCode :=
 .seq (.ops [.op (some 2) (.mov (.k (.nils 1)))])
 (.keep [0] (.seq (.seq (.ops [.op (some 3) (.mov (.t 0)),
   .op (some 4) (.eqn false (.t 3))])
  (.keep [0, 4] (.cond (.t 4)
  (.seq (.ops [.op (some 2) (.mov (.k (.nils 1)))])
   (.keep [2] (.ret)))
  (.skip))))
 (.keep [0] (.seq (.ops [.op (some 5) (.bslice 1 []),
   .op (some 6) (.mov (.t 0)),
   .op (some 7) (.app 1 16 [.str []] (.t 5) (.t 6)),
   .op (some 2) (.mov (.t 7))])
 (.keep [2] (.ret))))))
theorem k_c_Clone_Str_fits : fitsF Tryz.prog 94 ⟨8, k_c_Clone_Str, [.t 2]⟩ = true := by kernel_rfl
theorem c_Clone_Str {xs : List Str} (hw : xs.length ≤ 1048576) : Con Tryz.prog noMv 94 [.d (.sl 1 (xs.map strRow))] [] (fun r h => r = .osl 0 1 0 xs.length ∧ h = [(0, .rows 1 (xs.map strRow))]) := by
 refine con_of2 k_c_Clone_Str_fits rfl fun C hP hmv => ?_
 unfold k_c_Clone_Str
 refine cx_seq (cx_ops ?_)
 refine ax_q (q_mov rfl) ?_
 refine ax_nil (cx_keep rfl rfl (cx_seq (cx_seq (cx_ops ?_))))
 refine ax_q (q_mov rfl) ?_
 refine ax_eqn_sl rfl (fun b hb => ?_)
 refine ax_nil (cx_keep rfl rfl ?_)
 refine cx_cond rfl (fun h0 => ?_) (fun h0 => ?_)
 ·
  skip
  refine cx_seq (cx_ops ?_)
  refine ax_q (q_mov rfl) ?_
  refine ax_nil (cx_keep rfl rfl ?_)
  have hx : xs = [] := List.map_eq_nil_iff.1 (hb h0)
  subst hx
  refine cx_wk (wk_virt 900 1 rfl rfl rfl) ?_
  refine cx_wk (wk_zs 2 900 [] rfl rfl) ?_
  refine cx_ret (retN (fun _ => 0) [900] rfl rfl rfl rfl rfl ?_)
  exact ⟨rfl, rfl⟩
 ·
  skip
  refine cx_skip ?_
  refine cx_keep rfl rfl (cx_seq (cx_ops ?_))
  refine ax_e (e_bslice rfl (by decide) rfl rfl) ?_
  refine ax_q (q_mov rfl) ?_
  refine ax_e (e_app_osl rfl rfl (Nat.le_refl _) rfl (src_sl 1 _) (.inl (by decide)) (by simp only [List.length_map, List.length_nil]; omega)) ?_
  refine ax_q (q_mov rfl) ?_
  refine ax_nil (cx_keep rfl rfl ?_)
  refine cx_ret (retN (fun _ => 0) [5] rfl rfl rfl rfl rfl ?_)
  exact ⟨by simp [renA, mkRes], by simp [renOs, renO]⟩


/- slices.Clone[[]loop.example/g00332/impl.Pending,loop.example/g00332/impl.Pending] -/
def k_c_Clone_Pending : XCode :=
 .seq (.ops [.op (some 2) (.mov (.k (.nils 2)))])
 (.keep [0] (.seq (.seq (.ops [.op (some 3) (.mov (.t 0)),
   .op (some 4) (.eqn false (.t 3))])
  (.keep [0, 4] (.cond (.t 4)
  (.seq (.ops [.op (some 2) (.mov (.k (.nils 2)))])
   (.keep [2] (.ret)))
  (.skip))))
 (.keep [0] (.seq (.ops [.op (some 5) (.bslice 2 []),
   .op (some 6) (.mov (.t 0)),
   .op (some 7) (.app 2 24 [.int .i64 0, .str []] (.t 5) (.t 6)),
   .op (some 2) (.mov (.t 7))])
 (.keep [2] (.ret))))))
theorem k_c_Clone_Pending_fits : fitsF Tryz.prog 95 ⟨8, k_c_Clone_Pending, [.t 2]⟩ = true := by kernel_rfl
theorem c_Clone_Pending {xs : List GPending} (hw : xs.length ≤ 1048576) : Con Tryz.prog noMv 95 [.d (.sl 2 (xs.map GPending.row))] [] (fun r h => r = .osl 0 2 0 xs.length ∧ h = [(0, .rows 2 (xs.map GPending.row))]) := by
 refine con_of2 k_c_Clone_Pending_fits rfl fun C hP hmv => ?_
 unfold k_c_Clone_Pending
 refine cx_seq (cx_ops ?_)
 refine ax_q (q_mov rfl) ?_
 refine ax_nil (cx_keep rfl rfl (cx_seq (cx_seq (cx_ops ?_))))
 refine ax_q (q_mov rfl) ?_
 refine ax_eqn_sl rfl (fun b hb => ?_)
 refine ax_nil (cx_keep rfl rfl ?_)
 refine cx_cond rfl (fun h0 => ?_) (fun h0 => ?_)
 ·
  skip
  refine cx_seq (cx_ops ?_)
  refine ax_q (q_mov rfl) ?_
  refine ax_nil (cx_keep rfl rfl ?_)
  have hx : xs = [] := List.map_eq_nil_iff.1 (hb h0)
  subst hx
  refine cx_wk (wk_virt 900 2 rfl rfl rfl) ?_
  refine cx_wk (wk_zs 2 900 [] rfl rfl) ?_
  refine cx_ret (retN (fun _ => 0) [900] rfl rfl rfl rfl rfl ?_)
  exact ⟨rfl, rfl⟩
 ·
  skip
  refine cx_skip ?_
  refine cx_keep rfl rfl (cx_seq (cx_ops ?_))
  refine ax_e (e_bslice rfl (by decide) rfl rfl) ?_
  refine ax_q (q_mov rfl) ?_
  refine ax_e (e_app_osl rfl rfl (Nat.le_refl _) rfl (src_sl 2 _) (.inl (by decide)) (by simp only [List.length_map, List.length_nil]; omega)) ?_
  refine ax_q (q_mov rfl) ?_
  refine ax_nil (cx_keep rfl rfl ?_)
  refine cx_ret (retN (fun _ => 0) [5] rfl rfl rfl rfl rfl ?_)
  exact ⟨by simp [renA, mkRes], by simp [renOs, renO]⟩


/- slices.Clone[[]int,int] -/
def k_c_Clone_Int : XCode :=
 .seq (.ops [.op (some 2) (.mov (.k (.nils 1)))])
 (.keep [0] (.seq (.seq (.ops [.op (some 3) (.mov (.t 0)),
   .op (some 4) (.eqn false (.t 3))])
  (.keep [0, 4] (.cond (.t 4)
  (.seq (.ops [.op (some 2) (.mov (.k (.nils 1)))])
   (.keep [2] (.ret)))
  (.skip))))
 (.keep [0] (.seq (.ops [.op (some 5) (.bslice 1 []),
   .op (some 6) (.mov (.t 0)),
   .op (some 7) (.app 1 8 [.int .i64 0] (.t 5) (.t 6)),
   .op (some 2) (.mov (.t 7))])
 (.keep [2] (.ret))))))
theorem k_c_Clone_Int_fits : fitsF Tryz.prog 96 ⟨8, k_c_Clone_Int, [.t 2]⟩ = true := by kernel_rfl
theorem c_Clone_Int {xs : List Int} (hw : xs.length ≤ 1048576) : Con Tryz.prog noMv 96 [.d (.sl 1 (xs.map intRow))] [] (fun r h => r = .osl 0 1 0 xs.length ∧ h = [(0, .rows 1 (xs.map intRow))]) := by
 refine con_of2 k_c_Clone_Int_fits rfl fun C hP hmv => ?_
 unfold k_c_Clone_Int
 refine cx_seq (cx_ops ?_)
 refine ax_q (q_mov rfl) ?_
 refine ax_nil (cx_keep rfl rfl (cx_seq (cx_seq (cx_ops ?_))))
 refine ax_q (q_mov rfl) ?_
 refine ax_eqn_sl rfl (fun b hb => ?_)
 refine ax_nil (cx_keep rfl rfl ?_)
 refine cx_cond rfl (fun h0 => ?_) (fun h0 => ?_)
 ·
  skip
  refine cx_seq (cx_ops ?_)
  refine ax_q (q_mov rfl) ?_
  refine ax_nil (cx_keep rfl rfl ?_)
  have hx : xs = [] := List.map_eq_nil_iff.1 (hb h0)
  subst hx
  refine cx_wk (wk_virt 900 1 rfl rfl rfl) ?_
  refine cx_wk (wk_zs 2 900 [] rfl rfl) ?_
  refine cx_ret (retN (fun _ => 0) [900] rfl rfl rfl rfl rfl ?_)
  exact ⟨rfl, rfl⟩
 ·
  skip
  refine cx_skip ?_
  refine cx_keep rfl rfl (cx_seq (cx_ops ?_))
  refine ax_e (e_bslice rfl (by decide) rfl rfl) ?_
  refine ax_q (q_mov rfl) ?_
  refine ax_e (e_app_osl rfl rfl (Nat.le_refl _) rfl (src_sl 1 _) (.inl (by decide)) (by simp only [List.length_map, List.length_nil]; omega)) ?_
  refine ax_q (q_mov rfl) ?_
  refine ax_nil (cx_keep rfl rfl ?_)
  refine cx_ret (retN (fun _ => 0) [5] rfl rfl rfl rfl rfl ?_)
  exact ⟨by simp [renA, mkRes], by simp [renOs, renO]⟩


/- (loop.example/g00332/impl.Disk).clone -/
def k_c_cloneD : XCode :=
 .seq (.ops [.op (some 1) (.box (.t 0)),
   .op (some 2) (.alloc [.nils 1, .nils 2, .bool false, .nils 1])])
 (.keep [1, 2] (.seq (.drawE [[], [0], [0, 1], [], [3], [0, 1, 2, 3, 4], [], [6], [], [8], [0, 1, 2, 3, 4, 5, 8, 9], [0, 1, 2, 3, 4, 5, 6, 7, 8, 9, 10], [0, 1, 2, 3, 4, 5, 6, 7, 8, 9, 10, 11]] [.op (some 3) (.fadr (.t 1) 0),
   .op (some 4) (.load1 (.t 3)),
   .call (some 5) 94 [.t 4],
   .op (some 6) (.fadr (.t 1) 1),
   .op (some 7) (.load1 (.t 6)),
   .call (some 8) 95 [.t 7],
   .op (some 9) (.fadr (.t 1) 2),
   .op (some 10) (.load1 (.t 9)),
   .op (some 11) (.fadr (.t 1) 3),
   .op (some 12) (.load1 (.t 11)),
   .call (some 13) 96 [.t 12]]
  [.op (some 14) (.build [.nils 1, .nils 2, .bool false, .nils 1] [(0, 1, .t 5), (1, 1, .t 8), (2, 1, .t 10), (3, 1, .t 13)]),
   .op none (.store 4 (.t 2) (.t 14))])
 (.keep [2] (.ret))))
theorem k_c_cloneD_fits : fitsF Tryz.prog 41 ⟨15, k_c_cloneD, [.cN 2 4]⟩ = true := by kernel_rfl
set_option maxHeartbeats 2000000 in
theorem c_cloneD {d : GDisk} (hw0 : d.Sectors.length ≤ 1048576) (hw1 : d.Cache.length ≤ 1048576) (hw2 : d.Keep.length ≤ 1048576) : Con Tryz.prog noMv 41 [d.av] [] (fun r h => r = d.avO 0 1 2 ∧ h = d.hO 0 1 2) := by
 refine con_of2 k_c_cloneD_fits rfl fun C hP hmv => ?_
 unfold k_c_cloneD
 refine cx_seq (cx_ops ?_)
 refine ax_e (e_box rfl rfl (by decide) rfl rfl rfl) ?_
 refine ax_e (e_alloc (by decide) rfl rfl) ?_
 refine ax_nil (cx_keep rfl rfl (cx_seq ?_))
 refine cx_drawL 0 3 (fun _ => false) (fun _ => true) [] ([]) [[1], [3], [4], [1], [6], [7], [1], [9], [1], [11], [12]] [[], [], [], [], [], [], [], [], [], [], []] rfl ?_
 first | refine ⟨⟨3, _, []⟩, .inl ⟨rfl, rfl, rfl, locl_of (loc_q (q_fadr_ptr rfl))⟩, ?_⟩
 first | refine ⟨_, .inr ⟨rfl, _, rfl, .inr ⟨rfl, rfl, .inl rfl, rfl, rfl⟩, loc_q (q_load1_ptr rfl rfl rfl)⟩, ?_⟩
 refine ⟨_, .inr ⟨rfl, _, rfl, .inr ⟨rfl, rfl, .inl rfl, rfl, rfl⟩, loc_call (fun i => 5 + 200 * i) false rfl (c_Clone_Str  (by first | assumption | omega | (simp; done) | (simp; omega))) hP (.inr ⟨rfl, rfl, rfl⟩) rfl rfl (fun h => by cases h)⟩, ?_⟩
 first | refine ⟨_, .inr ⟨rfl, _, rfl, .inr ⟨rfl, rfl, .inr rfl, rfl, rfl⟩, loc_q (q_fadr_ptr rfl)⟩, ?_⟩
 first | refine ⟨_, .inr ⟨rfl, _, rfl, .inr ⟨rfl, rfl, .inr rfl, rfl, rfl⟩, loc_q (q_load1_ptr rfl rfl rfl)⟩, ?_⟩
 refine ⟨_, .inr ⟨rfl, _, rfl, .inr ⟨rfl, rfl, .inl rfl, rfl, rfl⟩, loc_call (fun i => 8 + 200 * i) false rfl (c_Clone_Pending  (by first | assumption | omega | (simp; done) | (simp; omega))) hP (.inr ⟨rfl, rfl, rfl⟩) rfl rfl (fun h => by cases h)⟩, ?_⟩
 first | refine ⟨_, .inr ⟨rfl, _, rfl, .inr ⟨rfl, rfl, .inr rfl, rfl, rfl⟩, loc_q (q_fadr_ptr rfl)⟩, ?_⟩
 first | refine ⟨_, .inr ⟨rfl, _, rfl, .inr ⟨rfl, rfl, .inr rfl, rfl, rfl⟩, loc_q (q_load1_ptr rfl rfl rfl)⟩, ?_⟩
 first | refine ⟨_, .inr ⟨rfl, _, rfl, .inr ⟨rfl, rfl, .inr rfl, rfl, rfl⟩, loc_q (q_fadr_ptr rfl)⟩, ?_⟩
 first | refine ⟨_, .inr ⟨rfl, _, rfl, .inr ⟨rfl, rfl, .inr rfl, rfl, rfl⟩, loc_q (q_load1_ptr rfl rfl rfl)⟩, ?_⟩
 refine ⟨_, .inr ⟨rfl, _, rfl, .inr ⟨rfl, rfl, .inl rfl, rfl, rfl⟩, loc_call (fun i => 13 + 200 * i) false rfl (c_Clone_Int  (by first | assumption | omega | (simp; done) | (simp; omega))) hP (.inr ⟨rfl, rfl, rfl⟩) rfl rfl (fun h => by cases h)⟩, ?_⟩
 refine ⟨rfl, ?_⟩
 refine ax_q (q_build rfl) ?_
 refine ax_e (e_st rfl rfl rfl rfl rfl rfl rfl) ?_
 refine ax_nil (cx_keep rfl rfl ?_)
 refine cx_ret (retN (fun e => bif Nat.beq e 5 then 0 else bif Nat.beq e 8 then 1 else 2) [5, 8, 13] rfl rfl rfl rfl rfl ?_)
 exact ⟨rfl, rfl⟩


/- slices.Clone[[]loop.example/g00332/impl.LogRecord,loop.example/g00332/impl.LogRecord] -/
def k_c_Clone_LogRecord : XCode :=
 .seq (.ops [.op (some 2) (.mov (.k (.nils 10)))])
 (.keep [0] (.seq (.seq (.ops [.op (some 3) (.mov (.t 0)),
   .op (some 4) (.eqn false (.t 3))])
  (.keep [0, 4] (.cond (.t 4)
  (.seq (.ops [.op (some 2) (.mov (.k (.nils 10)))])
   (.keep [2] (.ret)))
  (.skip))))
 (.keep [0] (.seq (.ops [.op (some 5) (.bslice 10 []),
   .op (some 6) (.mov (.t 0)),
   .op (some 7) (.app 10 96 [.int .i64 0, .int .i64 0, .int .i64 0, .int .i64 0, .int .i64 0, .int .i64 0, .int .i64 0, .int .i64 0, .str [], .str []] (.t 5) (.t 6)),
   .op (some 2) (.mov (.t 7))])
 (.keep [2] (.ret))))))
theorem k_c_Clone_LogRecord_fits : fitsF Tryz.prog 66 ⟨8, k_c_Clone_LogRecord, [.t 2]⟩ = true := by kernel_rfl
theorem c_Clone_LogRecord {xs : List GLogRecord} (hw : xs.length ≤ 1048576) : Con Tryz.prog noMv 66 [.d (.sl 10 (xs.map GLogRecord.row))] [] (fun r h => r = .osl 0 10 0 xs.length ∧ h = [(0, .rows 10 (xs.map GLogRecord.row))]) := by
 refine con_of2 k_c_Clone_LogRecord_fits rfl fun C hP hmv => ?_
 unfold k_c_Clone_LogRecord
 refine cx_seq (cx_ops ?_)
 refine ax_q (q_mov rfl) ?_
 refine ax_nil (cx_keep rfl rfl (cx_seq (cx_seq (cx_ops ?_))))
 refine ax_q (q_mov rfl) ?_
 refine ax_eqn_sl rfl (fun b hb => ?_)
 refine ax_nil (cx_keep rfl rfl ?_)
 refine cx_cond rfl (fun h0 => ?_) (fun h0 => ?_)
 ·
  skip
  refine cx_seq (cx_ops ?_)
  refine ax_q (q_mov rfl) ?_
  refine ax_nil (cx_keep rfl rfl ?_)
  have hx : xs = [] := List.map_eq_nil_iff.1 (hb h0)
  subst hx
  refine cx_wk (wk_virt 900 10 rfl rfl rfl) ?_
  refine cx_wk (wk_zs 2 900 [] rfl rfl) ?_
  refine cx_ret (retN (fun _ => 0) [900] rfl rfl rfl rfl rfl ?_)
  exact ⟨rfl, rfl⟩
 ·
  skip
  refine cx_skip ?_
  refine cx_keep rfl rfl (cx_seq (cx_ops ?_))
  refine ax_e (e_bslice rfl (by decide) rfl rfl) ?_
  refine ax_q (q_mov rfl) ?_
  refine ax_e (e_app_osl rfl rfl (Nat.le_refl _) rfl (src_sl 10 _) (.inl (by decide)) (by simp only [List.length_map, List.length_nil]; omega)) ?_
  refine ax_q (q_mov rfl) ?_
  refine ax_nil (cx_keep rfl rfl ?_)
  refine cx_ret (retN (fun _ => 0) [5] rfl rfl rfl rfl rfl ?_)
  exact ⟨by simp [renA, mkRes], by simp [renOs, renO]⟩


/- (loop.example/g00332/impl.Page).clone -/
def k_c_cloneP : XCode :=
 .seq (.ops [.op (some 1) (.box (.t 0)),
   .op (some 2) (.alloc [.int .i64 0, .nils 1])])
 (.keep [1, 2] (.seq (.drawE [[], [0], [], [2], [2, 3], [0, 1, 2, 3, 4], [0, 1, 2, 3, 4, 5]] [.op (some 3) (.fadr (.t 1) 0),
   .op (some 4) (.load1 (.t 3)),
   .op (some 5) (.fadr (.t 1) 1),
   .op (some 6) (.load1 (.t 5)),
   .call (some 7) 94 [.t 6]]
  [.op (some 8) (.build [.int .i64 0, .nils 1] [(0, 1, .t 4), (1, 1, .t 7)]),
   .op none (.store 2 (.t 2) (.t 8))])
 (.keep [2] (.ret))))
theorem k_c_cloneP_fits : fitsF Tryz.prog 67 ⟨9, k_c_cloneP, [.cN 2 2]⟩ = true := by kernel_rfl
theorem c_cloneP {p : Page} (hl : p.slots.length ≤ 1048576) : Con Tryz.prog noMv 67 [p.av] [] (fun r h => r = p.avO 0 ∧ h = p.hO 0) := by
 refine con_of2 k_c_cloneP_fits rfl fun C hP hmv => ?_
 unfold k_c_cloneP
 refine cx_seq (cx_ops ?_)
 refine ax_e (e_box rfl rfl (by decide) rfl rfl rfl) ?_
 refine ax_e (e_alloc (by decide) rfl rfl) ?_
 refine ax_nil (cx_keep rfl rfl (cx_seq ?_))
 refine cx_drawL 0 3 (fun _ => false) (fun _ => true) [] ([]) [[1], [3], [1], [5], [6]] [[], [], [], [], []] rfl ?_
 first | refine ⟨⟨3, _, []⟩, .inl ⟨rfl, rfl, rfl, locl_of (loc_q (q_fadr_ptr rfl))⟩, ?_⟩
 first | refine ⟨_, .inr ⟨rfl, _, rfl, .inr ⟨rfl, rfl, .inl rfl, rfl, rfl⟩, loc_q (q_load1_ptr rfl rfl rfl)⟩, ?_⟩
 first | refine ⟨_, .inr ⟨rfl, _, rfl, .inr ⟨rfl, rfl, .inr rfl, rfl, rfl⟩, loc_q (q_fadr_ptr rfl)⟩, ?_⟩
 first | refine ⟨_, .inr ⟨rfl, _, rfl, .inr ⟨rfl, rfl, .inr rfl, rfl, rfl⟩, loc_q (q_load1_ptr rfl rfl rfl)⟩, ?_⟩
 refine ⟨_, .inr ⟨rfl, _, rfl, .inr ⟨rfl, rfl, .inr rfl, rfl, rfl⟩, loc_call (fun i => 7 + 200 * i) false rfl (c_Clone_Str  (by first | assumption | omega | (simp; done) | (simp; omega))) hP (.inr ⟨rfl, rfl, rfl⟩) rfl rfl (fun h => by cases h)⟩, ?_⟩
 refine ⟨rfl, ?_⟩
 refine ax_q (q_build rfl) ?_
 refine ax_e (e_st rfl rfl rfl rfl rfl rfl rfl) ?_
 refine ax_nil (cx_keep rfl rfl ?_)
 refine cx_ret (retN (fun _ => 0) [7] rfl rfl rfl rfl rfl ?_)
 exact ⟨rfl, rfl⟩


/- (loop.example/g00332/impl.Store).clone -/
def k_c_cloneS : XCode :=
 .seq (.ops [.op (some 1) (.box (.t 0)),
   .op (some 2) (.alloc [.nils 1, .nils 2, .bool false, .nils 1, .int .i64 0, .nils 10, .int .i64 0, .nils 5, .int .i64 0])])
 (.keep [1, 2] (.seq (.ops [.op (some 6) (.fadr (.t 1) 7),
   .op (some 7) (.load1 (.t 6)),
   .op (some 3) (.mov (.t 7))])
 (.keep [1, 2, 3] (.seq (.drawE [[], [0], [0, 1], [], [3], [0, 1, 2, 3, 4], [0, 1, 2, 3, 4], [0, 1, 2, 3, 4, 5, 6], [0, 1, 2, 3, 4, 5, 6, 7], [0, 1, 2, 3, 4, 5, 6, 7, 8], [0, 1, 2, 3, 4, 5, 6, 7, 8, 9], [0, 1, 2, 3, 4, 5, 6, 7, 8, 9, 10]] [.op (some 8) (.fadr (.t 1) 0),
   .op (some 9) (.loadN 4 (.t 8)),
   .call (some 10) 41 [.t 9],
   .op (some 11) (.fadr (.t 1) 5),
   .op (some 12) (.load1 (.t 11)),
   .call (some 13) 66 [.t 12],
   .op (some 14) (.fadr (.t 1) 0)]
  [.op none (.store 4 (.t 14) (.t 10)),
   .op (some 15) (.fadr (.t 1) 5),
   .op none (.store 1 (.t 15) (.t 13)),
   .op (some 16) (.fadr (.t 1) 7),
   .op none (.store 1 (.t 16) (.k (.nils 5)))])
 (.keep [1, 2, 3] (.seq (.seq (.ops [.op (some 17) (.mov (.t 3)),
   .op (some 18) (.lenS (.t 17)),
   .op (some 19) (.mov (.k (.int .i64 0)))])
  (.keep [1, 2, 17, 18, 19] (.block 0 (.loop (.seq (.ops [.op (some 20) (.bin .lss (.t 19) (.t 18))])
   (.keep [1, 2, 17, 18, 19, 20] (.seq (.cond (.t 20)
    (.skip)
    (.exit 0))
   (.keep [1, 2, 17, 18, 19] (.seq (.block 1 (.seq (.ops [.op (some 21) (.iadr 5 (.t 17) (.t 19)),
     .op (some 22) (.loadN 5 (.t 21)),
     .op (some 5) (.alloc [.int .i64 0, .int .i64 0, .nils 1, .bool false, .int .i64 0]),
     .op none (.store 5 (.t 5) (.t 22))])
    (.keep [1, 2, 5, 17, 18, 19] (.seq (.ops [.op (some 23) (.fadr (.t 5) 1),
     .op (some 24) (.loadN 2 (.t 23)),
     .call (some 25) 67 [.t 24],
     .op (some 26) (.fadr (.t 5) 1),
     .op none (.store 2 (.t 26) (.t 25))])
    (.keep [1, 2, 5, 17, 18, 19] (.ops [.op (some 27) (.fadr (.t 1) 7),
     .op (some 28) (.load1 (.t 27)),
     .op (some 29) (.loadN 5 (.t 5)),
     .op (some 30) (.bslice 5 [.t 29]),
     .op (some 31) (.app 5 56 [.int .i64 0, .int .i64 0, .nils 1, .bool false, .int .i64 0] (.t 28) (.t 30)),
     .op (some 32) (.fadr (.t 1) 7),
     .op none (.store 1 (.t 32) (.t 31))]))))))
   (.keep [1, 2, 17, 18, 19] (.ops [.op (some 33) (.bin .add (.t 19) (.k (.int .i64 1))),
    .op (some 19) (.mov (.t 33))])))))))))))
 (.keep [1, 2] (.seq (.ops [.op (some 34) (.loadN 9 (.t 1)),
   .op none (.store 9 (.t 2) (.t 34))])
 (.keep [2] (.ret))))))))))
theorem k_c_cloneS_fits : fitsF Tryz.prog 27 ⟨35, k_c_cloneS, [.cN 2 9]⟩ = true := by kernel_rfl
set_option maxHeartbeats 4000000 in
theorem c_cloneS {s : GStore} {m : Nat} (h : DI s m) (hm : m ≤ 60) : Con Tryz.prog noMv 27 [s.av] [] (fun r h => r = .agg [.osl 0 1 0 s.Disk.Sectors.length, .osl 1 2 0 s.Disk.Cache.length, .d (.bool s.Disk.Armed), .osl 2 1 0 s.Disk.Keep.length, .d (.int .i64 s.Epoch), .d (.sl 10 (s.Log.map GLogRecord.row)), .d (.int .i64 s.Sure), .d (.sl 5 (s.Frames.map GFrame.row)), .d (.int .i64 s.Hand)] ∧ h = s.Disk.hO 0 1 2) := by
 refine con_of2 k_c_cloneS_fits rfl fun C hP hmv => ?_
 unfold k_c_cloneS
 obtain ⟨hw0, hw1, hw2, hw3, hwa, hw4, hw5, hw6⟩ := di_stb h hm
 refine cx_seq (cx_ops ?_)
 refine ax_e (e_box rfl rfl (by decide) rfl rfl rfl) ?_
 refine ax_e (e_alloc (by decide) rfl rfl) ?_
 refine ax_nil (cx_keep rfl rfl (cx_seq (cx_ops ?_)))
 refine ax_q (q_fadr_ptr rfl) ?_
 refine ax_q (q_load1_ptr rfl rfl rfl) ?_
 refine ax_q (q_mov rfl) ?_
 refine ax_nil (cx_keep rfl rfl (cx_seq ?_))
 refine cx_drawL 0 8 (fun _ => false) (fun _ => true) [] ([]) [[1], [8], [9], [1], [11], [12], [1]] [[], [], [], [], [], [], []] rfl ?_
 first | refine ⟨⟨8, _, []⟩, .inl ⟨rfl, rfl, rfl, locl_of (loc_q (q_fadr_ptr rfl))⟩, ?_⟩
 first | refine ⟨_, .inr ⟨rfl, _, rfl, .inr ⟨rfl, rfl, .inl rfl, rfl, rfl⟩, loc_q (q_ldN rfl rfl rfl)⟩, ?_⟩
 refine ⟨_, .inr ⟨rfl, _, rfl, .inr ⟨rfl, rfl, .inl rfl, rfl, rfl⟩, loc_call (fun i => 10 + 200 * i) false rfl (c_cloneD (d := s.Disk) (by first | assumption | omega | (simp; done) | (simp; omega)) (by first | assumption | omega | (simp; done) | (simp; omega)) (by first | assumption | omega | (simp; done) | (simp; omega))) hP (.inr ⟨rfl, rfl, rfl⟩) rfl rfl (fun h => by cases h)⟩, ?_⟩
 first | refine ⟨_, .inr ⟨rfl, _, rfl, .inr ⟨rfl, rfl, .inr rfl, rfl, rfl⟩, loc_q (q_fadr_ptr rfl)⟩, ?_⟩
 first | refine ⟨_, .inr ⟨rfl, _, rfl, .inr ⟨rfl, rfl, .inr rfl, rfl, rfl⟩, loc_q (q_load1_ptr rfl rfl rfl)⟩, ?_⟩
 refine ⟨_, .inr ⟨rfl, _, rfl, .inr ⟨rfl, rfl, .inl rfl, rfl, rfl⟩, loc_call (fun i => 13 + 200 * i) false rfl (c_Clone_LogRecord  (by first | assumption | omega | (simp; done) | (simp; omega))) hP (.inr ⟨rfl, rfl, rfl⟩) rfl rfl (fun h => by cases h)⟩, ?_⟩
 first | refine ⟨_, .inr ⟨rfl, _, rfl, .inr ⟨rfl, rfl, .inl rfl, rfl, rfl⟩, loc_q (q_fadr_ptr rfl)⟩, ?_⟩
 refine ⟨rfl, ?_⟩
 refine ax_wk (wk_frz 13 13 rfl rfl (.whole (List.length_map _).symm) rfl) ?_
 refine ax_e (e_st rfl rfl rfl rfl rfl rfl rfl) ?_
 refine ax_q (q_fadr_ptr rfl) ?_
 refine ax_e (e_st rfl rfl rfl rfl rfl rfl rfl) ?_
 refine ax_q (q_fadr_ptr rfl) ?_
 refine ax_e (e_st rfl rfl rfl rfl rfl rfl rfl) ?_
 refine ax_wk ((wk_virt 900 5 rfl rfl rfl).trans (wk_zsb 1 900 7 rfl rfl rfl)) ?_
 refine ax_nil (cx_keep rfl rfl (cx_seq (cx_seq (cx_ops ?_))))
 refine ax_q (q_mov rfl) ?_
 refine ax_q (q_lenS_map rfl) ?_
 refine ax_q (q_mov rfl) ?_
 refine ax_nil (cx_keep rfl rfl (cx_block ?_))
 refine cx_loopU (fun n k => k ≤ s.Frames.length ∧ n = s.Frames.length - k) (fun k : Nat => [(19, int k)]) (fun k => [(900, .rows 5 ((s.Frames.take k).map GFrame.row)), (2, .box [.zs 1, .zs 2, .d (.bool false), .zs 1, .d (.int .i64 0), .zs 10, .d (.int .i64 0), .zs 5, .d (.int .i64 0)]), (1, .box [.osl 10 1 0 s.Disk.Sectors.length, .osl 210 2 0 s.Disk.Cache.length, .d (.bool s.Disk.Armed), .osl 410 1 0 s.Disk.Keep.length, .d (.int .i64 s.Epoch), .d (.sl 10 (s.Log.map GLogRecord.row)), .d (.int .i64 s.Sure), .osl 900 5 0 (s.Frames.take k).length, .d (.int .i64 s.Hand)]), (10, .rows 1 (s.Disk.Sectors.map strRow)), (210, .rows 2 (s.Disk.Cache.map GPending.row)), (410, .rows 1 (s.Disk.Keep.map intRow))]) ⟨_, 0, ⟨Nat.zero_le _, rfl⟩, by repeat constructor⟩ ?_
 rintro n k ⟨hk, rfl⟩
 refine cx_seq (cx_ops ?_)
 refine ax_q (q_ibin rfl rfl rfl) ?_
 refine ax_nil (cx_keep rfl rfl (cx_seq ?_))
 refine cx_cond rfl (fun h0 => ?_) (fun h0 => ?_)
 ·
  have h0 := dT h0
  have h0x : k < s.Frames.length := by omega
  have hwk := hw5 _ (List.getElem_mem h0x)
  refine cx_skip ?_
  refine cx_keep rfl rfl (cx_seq (cx_block (cx_seq (cx_ops ?_))))
  refine ax_q (q_ix rfl rfl (mapAt h0x)) ?_
  first | refine ax_q (q_ldN rfl rfl rfl) ?_ | refine ax_q (q_loadN_ip rfl (Nat.le_refl _)) ?_
  refine ax_e (e_alloc (by decide) rfl rfl) ?_
  refine ax_e (e_st rfl rfl rfl rfl rfl rfl rfl) ?_
  refine ax_nil (cx_keep rfl rfl (cx_seq (cx_ops ?_)))
  refine ax_q (q_fadr_ptr rfl) ?_
  refine ax_q (q_ldN rfl rfl rfl) ?_
  refine ax_call rfl (vc_pure (c_cloneP (p := s.Frames[k].Page) ?_) hP rfl ?_)
  ·
   assumption
  rintro r h ⟨rfl, rfl⟩
  refine ⟨fun i => 25 + 200 * i, [0], ⟨rfl, rfl, rfl, rfl, rfl, (by first | exact (fun h => absurd h Bool.false_ne_true) | exact (fun _ => ⟨rfl, (noisl_of (by repeat (first | exact trivial | refine ⟨noisl_map (fun _ => rfl), ?_⟩ | refine ⟨?_, ?_⟩)))⟩))⟩, ?_⟩
  skip
  refine ax_wk (wk_frz 25 25 rfl rfl (.agg (.cons (.same rfl) (.cons (.whole (List.length_map _).symm) .nil))) rfl) ?_
  refine ax_q (q_fadr_ptr rfl) ?_
  refine ax_e (e_st rfl rfl rfl rfl rfl rfl rfl) ?_
  refine ax_nil (cx_keep rfl rfl (cx_ops ?_))
  refine ax_q (q_fadr_ptr rfl) ?_
  refine ax_q (q_load1_ptr rfl rfl rfl) ?_
  refine ax_q (q_ldN rfl rfl rfl) ?_
  refine ax_e (e_bslice rfl (by decide) rfl rfl) ?_
  refine ax_e (e_appn (n' := (s.Frames.take (k + 1)).length) (rs' := (s.Frames.take (k + 1)).map GFrame.row) rfl rfl (by simp) rfl (src_osl rfl (by simp)) (.inl (by decide)) (hbnd (by rw [List.length_take]; omega) (by simp) (by decide)) (by simp; omega) (by rw [take_succ h0x]; exact app1 rfl)) ?_
  refine ax_q (q_fadr_ptr rfl) ?_
  refine ax_e (e_st rfl rfl rfl rfl rfl rfl rfl) ?_
  refine ax_nil (cx_keep rfl rfl (cx_ops ?_))
  refine ax_qe (r' := int ((k + 1 : Nat) : Int)) (q_ibin rfl rfl rfl) (by rw [wi (by omega) (by omega)]; rfl) ?_
  refine ax_q (q_mov rfl) ?_
  refine ax_nil ?_
  exact ⟨_, k + 1, by omega, ⟨by omega, rfl⟩, by repeat constructor⟩
 ·
  have h0 := dF h0
  obtain rfl : k = s.Frames.length := by omega
  rw [List.take_length]
  refine cx_exit rfl ?_
  refine cx_keep rfl rfl (cx_seq (cx_ops ?_))
  refine ax_q (q_ldN rfl rfl rfl) ?_
  refine ax_wk (wk_frz 34 900 rfl rfl (.agg (.cons (.same rfl) (.cons (.same rfl) (.cons (.same rfl) (.cons (.same rfl) (.cons (.same rfl) (.cons (.same rfl) (.cons (.same rfl) (.cons (.whole (List.length_map _).symm) (.cons (.same rfl) .nil)))))))))) rfl) ?_
  refine ax_e (e_st rfl rfl rfl rfl rfl rfl rfl) ?_
  refine ax_nil (cx_keep rfl rfl ?_)
  refine cx_ret (retN (fun e => bif Nat.beq e 10 then 0 else bif Nat.beq e 210 then 1 else 2) [10, 210, 410] rfl rfl rfl rfl rfl ?_)
  exact ⟨rfl, rfl⟩


/- (ptr loop.example/g00332/impl.Disk).write -/
def k_c_writeS : XCode :=
 .ops [.op (some 6) (.mov (.t 0)),
  .op (some 7) (.mov (.t 0)),
  .op (some 8) (.nilck (.t 7)),
  .op (some 9) (.fadr (.t 8) 1),
  .op (some 10) (.load1 (.t 9)),
  .op (some 11) (.mov (.t 1)),
  .op (some 12) (.mov (.t 2)),
  .op (some 13) (.build [.int .i64 0, .str []] [(0, 1, .t 11), (1, 1, .t 12)]),
  .op (some 14) (.bslice 2 [.t 13]),
  .op (some 15) (.app 2 24 [.int .i64 0, .str []] (.t 10) (.t 14)),
  .op (some 16) (.nilck (.t 6)),
  .op (some 17) (.fadr (.t 16) 1),
  .op none (.store 1 (.t 17) (.t 15))]
theorem k_c_writeS_fits : fitsF Tryz.prog 68 ⟨18, k_c_writeS, []⟩ = true := by kernel_rfl
theorem c_writeS {d : GDisk} {a : Int} {x : Str} {v0 v1 v2 v3 v4 : D} (hw0 : d.Sectors.length ≤ 1048576) (hw1 : d.Cache.length ≤ 1048576) (hw2 : d.Keep.length ≤ 1048576) : Con Tryz.prog (fun e => Nat.beq e 1002 || Nat.beq e 1003) 68 [.ptr 1000 0, int a, str x] (bx9 d v0 v1 v2 v3 v4) (fun r h => r = .tup [] ∧ h = bx9 (wrD d a x) v0 v1 v2 v3 v4) := by
 refine con_of2 k_c_writeS_fits rfl fun C hP hmv => ?_
 unfold k_c_writeS
 refine cx_ops ?_
 refine ax_q (q_mov rfl) ?_
 refine ax_q (q_mov rfl) ?_
 refine ax_q (q_nilck_ptr rfl) ?_
 refine ax_q (q_fadr_ptr rfl) ?_
 refine ax_q (q_load1_ptr rfl rfl rfl) ?_
 refine ax_q (q_mov rfl) ?_
 refine ax_q (q_mov rfl) ?_
 refine ax_q (q_build rfl) ?_
 refine ax_e (e_bslice rfl (by decide) rfl rfl) ?_
 refine ax_e (e_appn (n' := (d.Cache ++ [(⟨a, x⟩ : GPending)]).length) (rs' := (d.Cache ++ [(⟨a, x⟩ : GPending)]).map GPending.row) rfl rfl (by simp) rfl (src_osl rfl (by simp)) (.inr (by rw [hmv]; rfl)) (hbnd (by omega) (by simp) (by decide)) (by simp) (app1 rfl)) ?_
 refine ax_q (q_nilck_ptr rfl) ?_
 refine ax_q (q_fadr_ptr rfl) ?_
 refine ax_e (e_st rfl rfl rfl rfl rfl rfl rfl) ?_
 refine ax_nil ?_
 refine retN id [1000, 1001, 1002, 1003] rfl rfl rfl rfl rfl ?_
 exact ⟨rfl, rfl⟩


/- loop.example/g00332/impl.four -/
def k_c_four : XCode :=
 .seq (.ops [.op (some 2) (.mov (.k (.nils 1)))])
 (.keep [0] (.seq (.ops [.op (some 3) (.mov (.t 0)),
   .op (some 4) (.bin .shr (.t 3) (.k (.int .u64 24))),
   .op (some 5) (.conv .u8 (.t 4)),
   .op (some 6) (.mov (.t 0)),
   .op (some 7) (.bin .shr (.t 6) (.k (.int .u64 16))),
   .op (some 8) (.conv .u8 (.t 7)),
   .op (some 9) (.mov (.t 0)),
   .op (some 10) (.bin .shr (.t 9) (.k (.int .u64 8))),
   .op (some 11) (.conv .u8 (.t 10)),
   .op (some 12) (.mov (.t 0)),
   .op (some 13) (.conv .u8 (.t 12)),
   .op (some 14) (.bslice 1 [.t 5, .t 8, .t 11, .t 13]),
   .op (some 2) (.mov (.t 14))])
 (.keep [2] (.ret))))
theorem k_c_four_fits : fitsF Tryz.prog 163 ⟨15, k_c_four, [.t 2]⟩ = true := by kernel_rfl
theorem c_four {n : Int} (hn : 0 ≤ n ∧ n < 4294967296) : Con Tryz.prog noMv 163 [int n] [] (fun r h => r = .osl 0 1 0 (fourB n).length ∧ h = [(0, .rows 1 ((fourB n).map byteRow))]) := by
 refine con_of2 k_c_four_fits rfl fun C hP hmv => ?_
 unfold k_c_four
 refine cx_seq (cx_ops ?_)
 refine ax_q (q_mov rfl) ?_
 refine ax_nil (cx_keep rfl rfl (cx_seq (cx_ops ?_)))
 refine ax_q (q_mov rfl) ?_
 refine ax_q (q_ishf rfl rfl rfl (by omega)) ?_
 first | refine ax_q (q_convB rfl) ?_ | refine ax_q (q_convI rfl (by omega)) ?_ | refine ax_q (q_convU8 rfl) ?_
 refine ax_q (q_mov rfl) ?_
 refine ax_q (q_ishf rfl rfl rfl (by omega)) ?_
 first | refine ax_q (q_convB rfl) ?_ | refine ax_q (q_convI rfl (by omega)) ?_ | refine ax_q (q_convU8 rfl) ?_
 refine ax_q (q_mov rfl) ?_
 refine ax_q (q_ishf rfl rfl rfl (by omega)) ?_
 first | refine ax_q (q_convB rfl) ?_ | refine ax_q (q_convI rfl (by omega)) ?_ | refine ax_q (q_convU8 rfl) ?_
 refine ax_q (q_mov rfl) ?_
 first | refine ax_q (q_convB rfl) ?_ | refine ax_q (q_convI rfl (by omega)) ?_ | refine ax_q (q_convU8 rfl) ?_
 refine ax_e (e_bslice rfl (by decide) rfl rfl) ?_
 refine ax_q (q_mov rfl) ?_
 refine ax_nil (cx_keep rfl rfl ?_)
 refine cx_ret (retN (fun _ => 0) [14] rfl rfl rfl rfl rfl ?_)
 exact ⟨rfl, rfl⟩


/- loop.example/g00332/impl.sealed -/
def k_c_sealed : XCode :=
 .seq (.ops [.op (some 2) (.mov (.k (.nils 1)))])
 (.keep [0] (.seq (.ops [.op (some 3) (.mov (.t 0)),
   .op (some 4) (.mov (.t 0)),
   .call (some 5) 164 [.t 4],
   .op (some 6) (.conv .i64 (.t 5)),
   .call (some 7) 163 [.t 6],
   .op (some 8) (.app 1 1 [.int .u8 0] (.t 3) (.t 7)),
   .op (some 2) (.mov (.t 8))])
 (.keep [2] (.ret))))
theorem k_c_sealed_fits : fitsF Tryz.prog 122 ⟨9, k_c_sealed, [.t 2]⟩ = true := by kernel_rfl
theorem c_sealed {b : Str} (hb : b.length ≤ 1000000) : Con Tryz.prog (fun e => Nat.beq e 1000) 122 [.osl 1000 1 0 b.length] [(1000, .rows 1 (b.map byteRow))] (fun r h => r = .osl 1000 1 0 (sealB b).length ∧ h = [(1000, .rows 1 ((sealB b).map byteRow))]) := by
 refine con_of2 k_c_sealed_fits rfl fun C hP hmv => ?_
 unfold k_c_sealed
 refine cx_seq (cx_ops ?_)
 refine ax_q (q_mov rfl) ?_
 refine ax_nil (cx_keep rfl rfl (cx_seq (cx_ops ?_)))
 refine ax_q (q_mov rfl) ?_
 refine ax_q (q_mov rfl) ?_
 have hcl := @crcN_lt b
 refine ax_call rfl (vc_lend0 (c_check32 (l := b) (by omega)) hP (.cons (.lend (lend_whole rfl (by simp))) .nil) rfl rfl ?_)
 first | refine ax_q (q_convB rfl) ?_ | refine ax_q (q_convI rfl (by omega)) ?_
 refine ax_call rfl (vc_pure (c_four (n := (crcN b : Int)) ?_) hP rfl ?_)
 ·
  first | assumption | omega
 rintro r h ⟨rfl, rfl⟩
 refine ⟨fun i => 7 + 200 * i, [0], ⟨rfl, rfl, rfl, rfl, rfl, (by first | exact (fun h => absurd h Bool.false_ne_true) | exact (fun _ => ⟨rfl, (noisl_of (by repeat (first | exact trivial | refine ⟨noisl_map (fun _ => rfl), ?_⟩ | refine ⟨?_, ?_⟩)))⟩))⟩, ?_⟩
 skip
 refine ax_e (e_appn (n' := (sealB b).length) (rs' := (sealB b).map byteRow) rfl rfl (by simp) rfl (src_osl rfl (by simp)) (.inr (by rw [hmv]; rfl)) (hbnd (by omega) (by rw [len_rows]; show 4 ≤ _; omega) (by decide)) (by rw [len_rows, seal_len]; rfl) app_rows) ?_
 refine ax_q (q_mov rfl) ?_
 refine ax_nil (cx_keep rfl rfl ?_)
 refine cx_ret (retN id [1000] rfl rfl rfl rfl rfl ?_)
 exact ⟨rfl, rfl⟩


/- loop.example/g00332/impl.putFields -/
def k_c_putFields : XCode :=
 .seq (.ops [.op (some 4) (.mov (.k (.nils 1)))])
 (.keep [0, 1] (.seq (.ops [.op (some 7) (.mov (.t 0)),
   .op (some 8) (.mov (.t 1)),
   .op (some 9) (.lenS (.t 8)),
   .op (some 10) (.conv .u8 (.t 9)),
   .op (some 11) (.bslice 1 [.t 10]),
   .op (some 12) (.app 1 1 [.int .u8 0] (.t 7) (.t 11)),
   .op (some 0) (.mov (.t 12))])
 (.keep [0, 1] (.seq (.seq (.ops [.op (some 13) (.mov (.t 1)),
   .op (some 14) (.lenS (.t 13)),
   .op (some 15) (.mov (.k (.int .i64 0)))])
  (.keep [0, 13, 14, 15] (.block 0 (.loop (.seq (.ops [.op (some 16) (.bin .lss (.t 15) (.t 14))])
   (.keep [0, 13, 14, 15, 16] (.seq (.cond (.t 16)
    (.skip)
    (.exit 0))
   (.keep [0, 13, 14, 15] (.seq (.block 1 (.seq (.ops [.op (some 17) (.iadr 1 (.t 13) (.t 15)),
     .op (some 18) (.load1 (.t 17)),
     .op (some 6) (.mov (.t 18))])
    (.keep [0, 6, 13, 14, 15] (.ops [.op (some 19) (.mov (.t 0)),
     .op (some 20) (.mov (.t 6)),
     .op (some 21) (.lenT (.t 20)),
     .op (some 22) (.conv .u8 (.t 21)),
     .op (some 23) (.bslice 1 [.t 22]),
     .op (some 24) (.app 1 1 [.int .u8 0] (.t 19) (.t 23)),
     .op (some 25) (.mov (.t 6)),
     .op (some 26) (.app 1 1 [.int .u8 0] (.t 24) (.t 25)),
     .op (some 0) (.mov (.t 26))]))))
   (.keep [0, 13, 14, 15] (.ops [.op (some 27) (.bin .add (.t 15) (.k (.int .i64 1))),
    .op (some 15) (.mov (.t 27))])))))))))))
 (.keep [0] (.seq (.ops [.op (some 28) (.mov (.t 0)),
   .op (some 4) (.mov (.t 28))])
 (.keep [4] (.ret))))))))
theorem k_c_putFields_fits : fitsF Tryz.prog 123 ⟨29, k_c_putFields, [.t 4]⟩ = true := by kernel_rfl
theorem c_putFields {b : Str} {ts : List Str} (hb : b.length ≤ 1000) (ht : ts.length ≤ 255) (hs : ∀ t ∈ ts, t.length ≤ 1000) : Con Tryz.prog (fun e => Nat.beq e 1000) 123 [.osl 1000 1 0 b.length, .d (.sl 1 (ts.map strRow))] [(1000, .rows 1 (b.map byteRow))] (fun r h => r = .osl 1000 1 0 (putFs b ts).length ∧ h = [(1000, .rows 1 ((putFs b ts).map byteRow))]) := by
 refine con_of2 k_c_putFields_fits rfl fun C hP hmv => ?_
 unfold k_c_putFields
 refine cx_seq (cx_ops ?_)
 refine ax_q (q_mov rfl) ?_
 refine ax_nil (cx_keep rfl rfl (cx_seq (cx_ops ?_)))
 refine ax_q (q_mov rfl) ?_
 refine ax_q (q_mov rfl) ?_
 refine ax_q (q_lenS_map rfl) ?_
 first | refine ax_q (q_convB rfl) ?_ | refine ax_q (q_convI rfl (by omega)) ?_ | refine ax_q (q_convU8 rfl) ?_
 refine ax_e (e_bslice rfl (by decide) rfl rfl) ?_
 refine ax_e (e_appn (n' := (putK b ts 0).length) (rs' := (putK b ts 0).map byteRow) rfl rfl (by simp) rfl (src_osl rfl (by simp)) (.inr (by rw [hmv]; rfl)) (hbnd (by omega) (by simp) (by decide)) (by rw [putK_0]; simp) (by rw [putK_0]; exact app1 rfl)) ?_
 refine ax_q (q_mov rfl) ?_
 refine ax_nil (cx_keep rfl rfl (cx_seq (cx_seq (cx_ops ?_))))
 refine ax_q (q_mov rfl) ?_
 refine ax_q (q_lenS_map rfl) ?_
 refine ax_q (q_mov rfl) ?_
 refine ax_nil (cx_keep rfl rfl (cx_block ?_))
 refine cx_loopU (fun n k => k ≤ ts.length ∧ n = ts.length - k) (fun k : Nat => [(0, .osl 1000 1 0 (putK b ts k).length), (15, int k)]) (fun k => [(1000, .rows 1 ((putK b ts k).map byteRow))]) ⟨_, 0, ⟨Nat.zero_le _, rfl⟩, by repeat constructor⟩ ?_
 rintro n k ⟨hk, rfl⟩
 have hpl := @putK_len b ts k
 have hlk := lenK_le hs k
 refine cx_seq (cx_ops ?_)
 refine ax_q (q_ibin rfl rfl rfl) ?_
 refine ax_nil (cx_keep rfl rfl (cx_seq ?_))
 refine cx_cond rfl (fun h0 => ?_) (fun h0 => ?_)
 ·
  have h0 := dT h0
  have h0x : k < ts.length := by omega
  have hps := putK_succ (b := b) h0x
  have hs1 := hs _ (List.getElem_mem h0x)
  refine cx_skip ?_
  refine cx_keep rfl rfl (cx_seq (cx_block (cx_seq (cx_ops ?_))))
  refine ax_q (q_ix rfl rfl (mapAt h0x)) ?_
  first | refine ax_q (q_load1_ptr rfl rfl rfl) ?_ | refine ax_q (q_load1_ip rfl) ?_
  refine ax_q (q_mov rfl) ?_
  refine ax_nil (cx_keep rfl rfl (cx_ops ?_))
  refine ax_q (q_mov rfl) ?_
  refine ax_q (q_mov rfl) ?_
  refine ax_q (q_lenT rfl) ?_
  first | refine ax_q (q_convB rfl) ?_ | refine ax_q (q_convI rfl (by omega)) ?_ | refine ax_q (q_convU8 rfl) ?_
  refine ax_e (e_bslice rfl (by decide) rfl rfl) ?_
  refine ax_e (e_appn (n' := (putK b ts k ++ [Go.AM.byteOf ts[k].length]).length) (rs' := (putK b ts k ++ [Go.AM.byteOf ts[k].length]).map byteRow) rfl rfl (by simp) rfl (src_osl rfl (by simp)) (.inr (by rw [hmv]; rfl)) (hbnd (by omega) (by simp) (by decide)) (by simp) (app1 rfl)) ?_
  refine ax_q (q_mov rfl) ?_
  refine ax_e (e_appn (n' := (putK b ts (k + 1)).length) (rs' := (putK b ts (k + 1)).map byteRow) rfl rfl (by simp) rfl (src_str _) (.inr (by rw [hmv]; rfl)) (hbnd (by simp; omega) (by simp; omega) (by decide)) (by rw [hps]; simp; omega) (by rw [hps]; exact app_str)) ?_
  refine ax_q (q_mov rfl) ?_
  refine ax_nil (cx_keep rfl rfl (cx_ops ?_))
  refine ax_qe (r' := int ((k + 1 : Nat) : Int)) (q_ibin rfl rfl rfl) (by rw [wi (by omega) (by omega)]; rfl) ?_
  refine ax_q (q_mov rfl) ?_
  refine ax_nil ?_
  exact ⟨_, k + 1, by omega, ⟨by omega, rfl⟩, by repeat constructor⟩
 ·
  have h0 := dF h0
  obtain rfl : k = ts.length := by omega
  refine cx_exit rfl ?_
  refine cx_keep rfl rfl (cx_seq (cx_ops ?_))
  refine ax_q (q_mov rfl) ?_
  refine ax_q (q_mov rfl) ?_
  refine ax_nil (cx_keep rfl rfl ?_)
  refine cx_ret (retN id [1000] rfl rfl rfl rfl rfl ?_)
  exact ⟨rfl, rfl⟩


/- loop.example/g00332/impl.recordBytes -/
def k_c_recordBytes : XCode :=
 .seq (.ops [.op (some 1) (.box (.t 0)),
   .op (some 2) (.mov (.k (.nils 1)))])
 (.keep [1] (.seq (.ops [.op (some 6) (.bslice 1 [.k (.int .u8 108)]),
   .op (some 3) (.mov (.t 6))])
 (.keep [1, 3] (.seq (.seq (.ops [.op (some 7) (.fadr (.t 1) 0),
   .op (some 8) (.load1 (.t 7)),
   .op (some 9) (.fadr (.t 1) 1),
   .op (some 10) (.load1 (.t 9)),
   .op (some 11) (.fadr (.t 1) 2),
   .op (some 12) (.load1 (.t 11)),
   .op (some 13) (.fadr (.t 1) 3),
   .op (some 14) (.load1 (.t 13)),
   .op (some 15) (.fadr (.t 1) 4),
   .op (some 16) (.load1 (.t 15)),
   .op (some 17) (.fadr (.t 1) 5),
   .op (some 18) (.load1 (.t 17)),
   .op (some 19) (.fadr (.t 1) 6),
   .op (some 20) (.load1 (.t 19)),
   .op (some 21) (.fadr (.t 1) 7),
   .op (some 22) (.load1 (.t 21)),
   .op (some 23) (.build [.int .i64 0, .int .i64 0, .int .i64 0, .int .i64 0, .int .i64 0, .int .i64 0, .int .i64 0, .int .i64 0] [(0, 1, .t 8), (1, 1, .t 10), (2, 1, .t 12), (3, 1, .t 14), (4, 1, .t 16), (5, 1, .t 18), (6, 1, .t 20), (7, 1, .t 22)]),
   .op (some 24) (.mov (.k (.int .i64 0)))])
  (.keep [1, 3, 23, 24] (.block 0 (.loop (.seq (.ops [.op (some 25) (.bin .lss (.t 24) (.k (.int .i64 8)))])
   (.keep [1, 3, 23, 24, 25] (.seq (.cond (.t 25)
    (.skip)
    (.exit 0))
   (.keep [1, 3, 23, 24] (.seq (.block 1 (.seq (.ops [.op (some 26) (.idx1 8 (.t 23) (.t 24)),
     .op (some 5) (.mov (.t 26))])
    (.keep [1, 3, 5, 23, 24] (.ops [.op (some 27) (.mov (.t 3)),
     .op (some 28) (.mov (.t 5)),
     .op (some 29) (.conv .u8 (.t 28)),
     .op (some 30) (.bslice 1 [.t 29]),
     .op (some 31) (.app 1 1 [.int .u8 0] (.t 27) (.t 30)),
     .op (some 3) (.mov (.t 31))]))))
   (.keep [1, 3, 23, 24] (.ops [.op (some 32) (.bin .add (.t 24) (.k (.int .i64 1))),
    .op (some 24) (.mov (.t 32))])))))))))))
 (.keep [1, 3] (.seq (.ops [.op (some 33) (.mov (.t 3)),
   .op (some 34) (.fadr (.t 1) 8),
   .op (some 35) (.load1 (.t 34)),
   .op (some 36) (.fadr (.t 1) 9),
   .op (some 37) (.load1 (.t 36)),
   .op (some 38) (.bslice 1 [.t 35, .t 37]),
   .call (some 39) 123 [.t 33, .t 38],
   .call (some 40) 122 [.t 39],
   .op (some 2) (.mov (.t 40))])
 (.keep [2] (.ret))))))))
theorem k_c_recordBytes_fits : fitsF Tryz.prog 69 ⟨41, k_c_recordBytes, [.t 2]⟩ = true := by kernel_rfl
theorem c_recordBytes {r : GLogRecord} (hb : r.Before.length ≤ 1000) (ha : r.After.length ≤ 1000) : Con Tryz.prog noMv 69 [r.av] [] (fun q h => q = .osl 0 1 0 (rbF r).length ∧ h = [(0, .rows 1 ((rbF r).map byteRow))]) := by
 refine con_of2 k_c_recordBytes_fits rfl fun C hP hmv => ?_
 unfold k_c_recordBytes
 have hsl := two_len hb ha
 have hlk := lenK_le hsl 2
 have hpl : (putFs [108, Go.AM.byteOf r.Epoch, Go.AM.byteOf r.Lsn, Go.AM.byteOf r.Tx, Go.AM.byteOf r.Kind, Go.AM.byteOf r.Prev, Go.AM.byteOf r.Next, Go.AM.byteOf r.Page, Go.AM.byteOf r.Slot] [r.Before, r.After]).length ≤ 1000000 := by unfold putFs; rw [putK_len]; show 9 + 1 + lenK [r.Before, r.After] 2 ≤ _; omega
 have hpl2 : (putFs [] [r.Before, r.After]).length ≤ 1000000 := by unfold putFs; rw [putK_len]; show 0 + 1 + lenK [r.Before, r.After] 2 ≤ _; omega
 refine cx_seq (cx_ops ?_)
 refine ax_e (e_box rfl rfl (by decide) rfl rfl rfl) ?_
 refine ax_q (q_mov rfl) ?_
 refine ax_nil (cx_keep rfl rfl (cx_seq (cx_ops ?_)))
 refine ax_e (e_bslice rfl (by decide) rfl rfl) ?_
 refine ax_q (q_mov rfl) ?_
 refine ax_nil (cx_keep rfl rfl (cx_seq (cx_seq (cx_ops ?_))))
 refine ax_q (q_fadr_ptr rfl) ?_
 refine ax_q (q_load1_ptr rfl rfl rfl) ?_
 refine ax_q (q_fadr_ptr rfl) ?_
 refine ax_q (q_load1_ptr rfl rfl rfl) ?_
 refine ax_q (q_fadr_ptr rfl) ?_
 refine ax_q (q_load1_ptr rfl rfl rfl) ?_
 refine ax_q (q_fadr_ptr rfl) ?_
 refine ax_q (q_load1_ptr rfl rfl rfl) ?_
 refine ax_q (q_fadr_ptr rfl) ?_
 refine ax_q (q_load1_ptr rfl rfl rfl) ?_
 refine ax_q (q_fadr_ptr rfl) ?_
 refine ax_q (q_load1_ptr rfl rfl rfl) ?_
 refine ax_q (q_fadr_ptr rfl) ?_
 refine ax_q (q_load1_ptr rfl rfl rfl) ?_
 refine ax_q (q_fadr_ptr rfl) ?_
 refine ax_q (q_load1_ptr rfl rfl rfl) ?_
 refine ax_q (q_build rfl) ?_
 refine ax_q (q_mov rfl) ?_
 refine ax_nil (cx_keep rfl rfl (cx_block ?_))
 refine cx_loopU (fun n k => k ≤ 8 ∧ n = 8 - k) (fun k : Nat => [(3, .osl 6 1 0 ((hd9 r).take (k + 1)).length), (24, int k)]) (fun k => [(6, .rows 1 (((hd9 r).take (k + 1)).map byteRow)), (1, .box (r.row.map .d))]) ⟨_, 0, ⟨Nat.zero_le _, rfl⟩, by repeat constructor⟩ ?_
 rintro n k ⟨hk, rfl⟩
 refine cx_seq (cx_ops ?_)
 refine ax_q (q_ibin rfl rfl rfl) ?_
 refine ax_nil (cx_keep rfl rfl (cx_seq ?_))
 refine cx_cond rfl (fun h0 => ?_) (fun h0 => ?_)
 ·
  have h0 := dT h0
  have h0x : k < 8 := by omega
  have hl9 := hd9_len (r := r) hk
  have hl10 := hd9_len (r := r) (k := k + 1) h0x
  refine cx_skip ?_
  refine cx_keep rfl rfl (cx_seq (cx_block (cx_seq (cx_ops ?_))))
  refine ax_q (q_idx1 (v := int (recI8 r k)) rfl rfl (by omega) (recI8_at h0x)) ?_
  refine ax_q (q_mov rfl) ?_
  refine ax_nil (cx_keep rfl rfl (cx_ops ?_))
  refine ax_q (q_mov rfl) ?_
  refine ax_q (q_mov rfl) ?_
  first | refine ax_q (q_convB rfl) ?_ | refine ax_q (q_convI rfl (by omega)) ?_ | refine ax_q (q_convU8 rfl) ?_
  refine ax_e (e_bslice rfl (by decide) rfl rfl) ?_
  refine ax_e (e_appn (n' := ((hd9 r).take (k + 2)).length) (rs' := ((hd9 r).take (k + 2)).map byteRow) rfl rfl (by simp) rfl (src_osl rfl (by simp)) (.inl (by decide)) (hbnd (by omega) (by simp) (by decide)) (by rw [hl9, hl10]; simp) (by rw [rec_take h0x]; exact app1 rfl)) ?_
  refine ax_q (q_mov rfl) ?_
  refine ax_nil (cx_keep rfl rfl (cx_ops ?_))
  refine ax_qe (r' := int ((k + 1 : Nat) : Int)) (q_ibin rfl rfl rfl) (by rw [wi (by omega) (by omega)]; rfl) ?_
  refine ax_q (q_mov rfl) ?_
  refine ax_nil ?_
  exact ⟨_, k + 1, by omega, ⟨by omega, rfl⟩, by repeat constructor⟩
 ·
  have h0 := dF h0
  obtain rfl : k = 8 := by omega
  refine cx_exit rfl ?_
  refine cx_keep rfl rfl (cx_seq (cx_ops ?_))
  refine ax_q (q_mov rfl) ?_
  refine ax_q (q_fadr_ptr rfl) ?_
  refine ax_q (q_load1_ptr rfl rfl rfl) ?_
  refine ax_q (q_fadr_ptr rfl) ?_
  refine ax_q (q_load1_ptr rfl rfl rfl) ?_
  refine ax_e (e_bslice rfl (by decide) rfl rfl) ?_
  refine ax_wk (wk_frz 38 38 rfl rfl (.whole rfl) rfl) ?_
  refine ax_call rfl (vcall_own (c_putFields (b := hd9 r) (ts := [r.Before, r.After]) (by simp [hd9]) (by simp) hsl) hP hmv false (fun _ => 6) [1000] ⟨rfl, rfl, rfl, rfl, ⟨rfl, trivial⟩, rfl, rfl, rfl⟩ (.pass rfl rfl (.pass rfl rfl .nil)) ?_)
  rintro r h ⟨rfl, rfl⟩
  refine ⟨fun _ => 6, [], ⟨rfl, rfl, rfl, rfl, mem1 rfl, rfl, rfl, fun h => absurd h Bool.false_ne_true⟩, ?_⟩
  refine ax_call rfl (vcall_own (c_sealed (b := putFs [108, Go.AM.byteOf r.Epoch, Go.AM.byteOf r.Lsn, Go.AM.byteOf r.Tx, Go.AM.byteOf r.Kind, Go.AM.byteOf r.Prev, Go.AM.byteOf r.Next, Go.AM.byteOf r.Page, Go.AM.byteOf r.Slot] [r.Before, r.After]) hpl) hP hmv false (fun _ => 6) [1000] ⟨rfl, rfl, rfl, rfl, ⟨rfl, trivial⟩, rfl, rfl, rfl⟩ (.pass rfl rfl .nil) ?_)
  rintro r h ⟨rfl, rfl⟩
  refine ⟨fun _ => 6, [], ⟨rfl, rfl, rfl, rfl, mem1 rfl, rfl, rfl, fun h => absurd h Bool.false_ne_true⟩, ?_⟩
  refine ax_q (q_mov rfl) ?_
  refine ax_nil (cx_keep rfl rfl ?_)
  refine cx_ret (retN (fun _ => 0) [6] rfl rfl rfl rfl rfl ?_)
  exact ⟨rfl, rfl⟩


/- (ptr loop.example/g00332/impl.Disk).crash -/
def k_c_crash : XCode :=
 .seq (.seq (.ops [.op (some 6) (.mov (.t 0)),
   .op (some 7) (.nilck (.t 6)),
   .op (some 8) (.fadr (.t 7) 1),
   .op (some 9) (.load1 (.t 8)),
   .op (some 10) (.lenS (.t 9)),
   .op (some 11) (.mov (.k (.int .i64 0)))])
  (.keep [0, 1, 9, 10, 11] (.block 0 (.loop (.seq (.ops [.op (some 12) (.bin .lss (.t 11) (.t 10))])
   (.keep [0, 1, 9, 10, 11, 12] (.seq (.cond (.t 12)
    (.skip)
    (.exit 0))
   (.keep [0, 1, 9, 10, 11] (.seq (.block 1 (.seq (.ops [.op (some 13) (.mov (.t 11)),
     .op (some 14) (.iadr 2 (.t 9) (.t 11)),
     .op (some 15) (.loadN 2 (.t 14)),
     .op (some 5) (.alloc [.int .i64 0, .str []]),
     .op (some 4) (.mov (.t 13)),
     .op none (.store 2 (.t 5) (.t 15))])
    (.keep [0, 1, 4, 5, 9, 10, 11] (.seq (.ops [.op (some 16) (.mov (.t 4)),
     .op (some 17) (.mov (.t 1)),
     .op (some 18) (.lenS (.t 17)),
     .op (some 19) (.bin .lss (.t 16) (.t 18)),
     .op (some 20) (.mov (.t 19)),
     .andor 26 true 4 20 [.op (some 21) (.mov (.t 1)), .op (some 22) (.mov (.t 4)), .op (some 23) (.iadr 1 (.t 21) (.t 22)), .op (some 24) (.load1 (.t 23)), .op (some 25) (.bin .neq (.t 24) (.k (.int .i64 0)))] (.t 25)])
    (.keep [0, 1, 5, 9, 10, 11, 26] (.cond (.t 26)
    (.drawE [[], [0], [0, 1], [0, 1, 2], [], [4], [], [6], [0, 1, 2, 3, 4, 5, 6, 7], [0, 1, 2, 3, 4, 5, 6, 7, 8]] [.op (some 27) (.mov (.t 0)),
      .op (some 28) (.nilck (.t 27)),
      .op (some 29) (.fadr (.t 28) 0),
      .op (some 30) (.load1 (.t 29)),
      .op (some 31) (.fadr (.t 5) 0),
      .op (some 32) (.load1 (.t 31)),
      .op (some 33) (.fadr (.t 5) 1),
      .op (some 34) (.load1 (.t 33))]
     [.op (some 35) (.iadr 1 (.t 30) (.t 32)),
      .op none (.store 1 (.t 35) (.t 34))])
    (.skip)))))))
   (.keep [0, 1, 9, 10, 11] (.ops [.op (some 36) (.bin .add (.t 11) (.k (.int .i64 1))),
    .op (some 11) (.mov (.t 36))])))))))))))
 (.keep [0] (.ops [.op (some 37) (.mov (.t 0)),
  .op (some 38) (.mov (.t 0)),
  .op (some 39) (.mov (.t 0)),
  .op (some 40) (.nilck (.t 37)),
  .op (some 41) (.fadr (.t 40) 1),
  .op none (.store 1 (.t 41) (.k (.nils 2))),
  .op (some 42) (.nilck (.t 38)),
  .op (some 43) (.fadr (.t 42) 2),
  .op none (.store 1 (.t 43) (.k (.bool false))),
  .op (some 44) (.nilck (.t 39)),
  .op (some 45) (.fadr (.t 44) 3),
  .op none (.store 1 (.t 45) (.k (.nils 1)))]))
theorem k_c_crash_fits : fitsF Tryz.prog 42 ⟨46, k_c_crash, []⟩ = true := by kernel_rfl
theorem c_crash {d : GDisk} {keep : List Int} (hw0 : d.Sectors.length ≤ 1048576) (hw1 : d.Cache.length ≤ 1048576) (hw2 : d.Keep.length ≤ 1048576) (hk : keep.length ≤ 1048576) (hat : ∀ p ∈ d.Cache, 0 ≤ p.At ∧ p.At.toNat < d.Sectors.length) : Con Tryz.prog (fun e => Nat.beq e 1002 || Nat.beq e 1003) 42 [.ptr 1000 0, .d (.sl 1 (keep.map intRow))] (d.pO 1000 1001 1002 1003) (fun r h => r = .tup [] ∧ h = (crashD d keep).pO 1000 1001 1002 1003) := by
 refine con_of2 k_c_crash_fits rfl fun C hP hmv => ?_
 unfold k_c_crash
 refine cx_seq (cx_seq (cx_ops ?_))
 refine ax_q (q_mov rfl) ?_
 refine ax_q (q_nilck_ptr rfl) ?_
 refine ax_q (q_fadr_ptr rfl) ?_
 refine ax_q (q_load1_ptr rfl rfl rfl) ?_
 first | refine ax_q (q_lenS_map rfl) ?_ | refine ax_q (q_lenS_osl rfl) ?_
 refine ax_q (q_mov rfl) ?_
 refine ax_nil (cx_keep rfl rfl (cx_block ?_))
 refine cx_loopU (fun n k => k ≤ d.Cache.length ∧ n = d.Cache.length - k) (fun k : Nat => [(11, int k)]) (fun k => [(1000, .box [.osl 1001 1 0 d.Sectors.length, .osl 1002 2 0 d.Cache.length, .d (.bool d.Armed), .osl 1003 1 0 d.Keep.length]), (1001, .rows 1 ((keptTo d.Sectors d.Cache keep k).map strRow)), (1002, .rows 2 (d.Cache.map GPending.row)), (1003, .rows 1 (d.Keep.map intRow))]) ⟨_, 0, ⟨Nat.zero_le _, rfl⟩, by repeat constructor⟩ ?_
 rintro n k ⟨hk2, rfl⟩
 refine cx_seq (cx_ops ?_)
 refine ax_q (q_ibin rfl rfl rfl) ?_
 refine ax_nil (cx_keep rfl rfl (cx_seq ?_))
 refine cx_cond rfl (fun h0 => ?_) (fun h0 => ?_)
 ·
  have h0 := dT h0
  have h0x : k < d.Cache.length := by omega
  refine cx_skip ?_
  refine cx_keep rfl rfl (cx_seq (cx_block (cx_seq (cx_ops ?_))))
  refine ax_q (q_mov rfl) ?_
  refine ax_q (q_ixo rfl rfl h0x) ?_
  first | refine ax_q (q_ldN rfl rfl rfl) ?_ | refine ax_q (q_loadN_ip rfl (Nat.le_refl _)) ?_ | refine ax_q (q_loadN_ip rfl (by decide)) ?_ | refine ax_q (q_loadN_rptr rfl rfl (by assumption) (by decide)) ?_ | refine ax_q (q_loadN_rptr rfl rfl (mapAt (by first | assumption | omega)) (by decide)) ?_
  refine ax_e (e_alloc (by decide) rfl rfl) ?_
  refine ax_q (q_mov rfl) ?_
  refine ax_e (e_st rfl rfl rfl rfl rfl rfl rfl) ?_
  refine ax_nil (cx_keep rfl rfl (cx_seq (cx_ops ?_)))
  refine ax_q (q_mov rfl) ?_
  refine ax_q (q_mov rfl) ?_
  refine ax_q (q_lenS_map rfl) ?_
  refine ax_q (q_ibin rfl rfl rfl) ?_
  refine ax_q (q_mov rfl) ?_
  apply ax_and rfl rfl
  ·
   intro g
   have g := dT g
   refine ax_q (q_mov rfl) ?_
   refine ax_q (q_mov rfl) ?_
   refine ax_q (q_ix rfl rfl (mapAt (by omega))) ?_
   refine ax_qe (r' := int (keep.getD k 0)) (q_load1_ip rfl) (by rw [getD_atI (by omega)]) ?_
   refine ax_q (q_ibin rfl rfl rfl) ?_
   exact ax_nil ⟨rfl, by repeat constructor⟩
  refine ax_nil (cx_keep rfl rfl ?_)
  refine cx_cond rfl (fun h1 => ?_) (fun h1 => ?_)
  ·
   have h1 : keepAt keep k = true := h1
   have e1 : (keptTo d.Sectors d.Cache keep (k + 1)) = _ := keptTo_t h0x h1
   refine cx_drawL 0 27 (fun _ => false) (fun _ => true) [] ([]) [[0], [27], [28], [29], [5], [31], [5], [33]] [[], [], [], [], [], [], [], []] rfl ?_
   first | refine ⟨⟨27, _, []⟩, .inl ⟨rfl, rfl, rfl, locl_of (loc_q (q_mov rfl))⟩, ?_⟩
   refine ⟨_, .inr ⟨rfl, _, rfl, .inr ⟨rfl, rfl, .inl rfl, rfl, rfl⟩, loc_q (q_nilck_ptr rfl)⟩, ?_⟩
   refine ⟨_, .inr ⟨rfl, _, rfl, .inr ⟨rfl, rfl, .inl rfl, rfl, rfl⟩, loc_q (q_fadr_ptr rfl)⟩, ?_⟩
   refine ⟨_, .inr ⟨rfl, _, rfl, .inr ⟨rfl, rfl, .inl rfl, rfl, rfl⟩, loc_q (q_load1_ptr rfl rfl rfl)⟩, ?_⟩
   first | refine ⟨_, .inr ⟨rfl, _, rfl, .inr ⟨rfl, rfl, .inr rfl, rfl, rfl⟩, loc_q (q_fadr_ptr rfl)⟩, ?_⟩
   first | refine ⟨_, .inr ⟨rfl, _, rfl, .inr ⟨rfl, rfl, .inr rfl, rfl, rfl⟩, loc_q (q_load1_ptr rfl rfl rfl)⟩, ?_⟩
   first | refine ⟨_, .inr ⟨rfl, _, rfl, .inr ⟨rfl, rfl, .inr rfl, rfl, rfl⟩, loc_q (q_fadr_ptr rfl)⟩, ?_⟩
   first | refine ⟨_, .inr ⟨rfl, _, rfl, .inr ⟨rfl, rfl, .inr rfl, rfl, rfl⟩, loc_q (q_load1_ptr rfl rfl rfl)⟩, ?_⟩
   refine ⟨rfl, ?_⟩
   refine ax_q (q_ixoI rfl rfl (hat _ (List.getElem_mem h0x)).1 (hat _ (List.getElem_mem h0x)).2) ?_
   refine ax_e (e_str (rs' := (keptTo d.Sectors d.Cache keep (k + 1)).map strRow) (q := strRow d.Cache[k].Data) rfl rfl rfl rfl rfl rfl (mapAt (by rw [keptTo_len]; exact (hat _ (List.getElem_mem h0x)).2)) rfl rfl (by rw [e1]; exact List.map_set.symm)) ?_
   refine ax_nil (cx_keep rfl rfl (cx_ops ?_))
   refine ax_qe (r' := int ((k + 1 : Nat) : Int)) (q_ibin rfl rfl rfl) (by rw [wi (by omega) (by omega)]; rfl) ?_
   refine ax_q (q_mov rfl) ?_
   refine ax_nil ?_
   exact ⟨_, k + 1, by omega, ⟨by omega, rfl⟩, by repeat constructor⟩
  ·
   have h1 : keepAt keep k = false := h1
   have e1 : (keptTo d.Sectors d.Cache keep (k + 1)) = _ := keptTo_f h0x h1
   rw [← e1]
   refine cx_skip ?_
   refine cx_keep rfl rfl (cx_ops ?_)
   refine ax_qe (r' := int ((k + 1 : Nat) : Int)) (q_ibin rfl rfl rfl) (by rw [wi (by omega) (by omega)]; rfl) ?_
   refine ax_q (q_mov rfl) ?_
   refine ax_nil ?_
   exact ⟨_, k + 1, by omega, ⟨by omega, rfl⟩, by repeat constructor⟩
 ·
  have h0 := dF h0
  have h0x : k = d.Cache.length := by omega
  subst h0x
  refine cx_exit rfl ?_
  refine cx_keep rfl rfl (cx_ops ?_)
  refine ax_q (q_mov rfl) ?_
  refine ax_q (q_mov rfl) ?_
  refine ax_q (q_mov rfl) ?_
  refine ax_q (q_nilck_ptr rfl) ?_
  refine ax_q (q_fadr_ptr rfl) ?_
  refine ax_e (e_st rfl rfl rfl rfl rfl rfl rfl) ?_
  refine ax_wk ((wk_virt 900 2 rfl rfl rfl).trans ((wk_zsb 1000 900 1 rfl rfl rfl).trans (wk_swapM 900 1002 (.inl (by decide)) (.inr (by rw [hmv]; rfl))))) ?_
  refine ax_q (q_nilck_ptr rfl) ?_
  refine ax_q (q_fadr_ptr rfl) ?_
  refine ax_e (e_st rfl rfl rfl rfl rfl rfl rfl) ?_
  refine ax_q (q_nilck_ptr rfl) ?_
  refine ax_q (q_fadr_ptr rfl) ?_
  refine ax_e (e_st rfl rfl rfl rfl rfl rfl rfl) ?_
  refine ax_wk ((wk_virt 901 1 rfl rfl rfl).trans ((wk_zsb 1000 901 3 rfl rfl rfl).trans (wk_swapM 901 1003 (.inl (by decide)) (.inr (by rw [hmv]; rfl))))) ?_
  refine ax_nil ?_
  refine retN id [1000, 1001, 1002, 1003] rfl rfl rfl rfl rfl ?_
  exact ⟨rfl, by unfold crashD GDisk.pO; dsimp only; rw [keptTo_len]; rfl⟩


/- (ptr loop.example/g00332/impl.Disk).sync -/
def k_c_syncS : XCode :=
 .seq (.ops [.op (some 2) (.mov (.k (.bool false)))])
 (.keep [0] (.seq (.seq (.ops [.op (some 5) (.mov (.t 0)),
   .op (some 6) (.nilck (.t 5)),
   .op (some 7) (.fadr (.t 6) 2),
   .op (some 8) (.load1 (.t 7))])
  (.keep [0, 8] (.cond (.t 8)
  (.seq (.ops [.op (some 9) (.mov (.t 0)),
    .op (some 10) (.mov (.t 0)),
    .op (some 11) (.nilck (.t 10)),
    .op (some 12) (.fadr (.t 11) 3),
    .op (some 13) (.load1 (.t 12)),
    .call (some 14) 96 [.t 13],
    .call (some 15) 42 [.t 9, .t 14]])
   (.keep [] (.seq (.ops [.op (some 2) (.mov (.k (.bool false)))])
   (.keep [2] (.ret)))))
  (.skip))))
 (.keep [0] (.seq (.seq (.ops [.op (some 16) (.mov (.t 0)),
   .op (some 17) (.nilck (.t 16)),
   .op (some 18) (.fadr (.t 17) 1),
   .op (some 19) (.load1 (.t 18)),
   .op (some 20) (.lenS (.t 19)),
   .op (some 21) (.mov (.k (.int .i64 0)))])
  (.keep [0, 19, 20, 21] (.block 0 (.loop (.seq (.ops [.op (some 22) (.bin .lss (.t 21) (.t 20))])
   (.keep [0, 19, 20, 21, 22] (.seq (.cond (.t 22)
    (.skip)
    (.exit 0))
   (.keep [0, 19, 20, 21] (.seq (.block 1 (.seq (.ops [.op (some 23) (.iadr 2 (.t 19) (.t 21)),
     .op (some 24) (.loadN 2 (.t 23)),
     .op (some 4) (.alloc [.int .i64 0, .str []]),
     .op none (.store 2 (.t 4) (.t 24))])
    (.keep [0, 4, 19, 20, 21] (.drawE [[], [0], [0, 1], [0, 1, 2], [], [4], [], [6], [0, 1, 2, 3, 4, 5, 6, 7], [0, 1, 2, 3, 4, 5, 6, 7, 8]] [.op (some 25) (.mov (.t 0)),
     .op (some 26) (.nilck (.t 25)),
     .op (some 27) (.fadr (.t 26) 0),
     .op (some 28) (.load1 (.t 27)),
     .op (some 29) (.fadr (.t 4) 0),
     .op (some 30) (.load1 (.t 29)),
     .op (some 31) (.fadr (.t 4) 1),
     .op (some 32) (.load1 (.t 31))]
    [.op (some 33) (.iadr 1 (.t 28) (.t 30)),
     .op none (.store 1 (.t 33) (.t 32))]))))
   (.keep [0, 19, 20, 21] (.ops [.op (some 34) (.bin .add (.t 21) (.k (.int .i64 1))),
    .op (some 21) (.mov (.t 34))])))))))))))
 (.keep [0] (.seq (.ops [.op (some 35) (.mov (.t 0)),
   .op (some 36) (.nilck (.t 35)),
   .op (some 37) (.fadr (.t 36) 1),
   .op none (.store 1 (.t 37) (.k (.nils 2)))])
 (.keep [] (.seq (.ops [.op (some 2) (.mov (.k (.bool true)))])
 (.keep [2] (.ret))))))))))
theorem k_c_syncS_fits : fitsF Tryz.prog 70 ⟨38, k_c_syncS, [.t 2]⟩ = true := by kernel_rfl
theorem c_syncS {d : GDisk} {v0 v1 v2 v3 v4 : D} (hw0 : d.Sectors.length ≤ 1048576) (hw1 : d.Cache.length ≤ 1048576) (hw2 : d.Keep.length ≤ 1048576) (hat : ∀ p ∈ d.Cache, 0 ≤ p.At ∧ p.At.toNat < d.Sectors.length) (har : d.Armed = false) : Con Tryz.prog (fun e => Nat.beq e 1002 || Nat.beq e 1003) 70 [.ptr 1000 0] (bx9 d v0 v1 v2 v3 v4) (fun r h => r = bool true ∧ h = bx9 (syncD d).1 v0 v1 v2 v3 v4) := by
 refine con_of2 k_c_syncS_fits rfl fun C hP hmv => ?_
 unfold k_c_syncS
 refine cx_seq (cx_ops ?_)
 refine ax_q (q_mov rfl) ?_
 refine ax_nil (cx_keep rfl rfl (cx_seq (cx_seq (cx_ops ?_))))
 refine ax_q (q_mov rfl) ?_
 refine ax_q (q_nilck_ptr rfl) ?_
 refine ax_q (q_fadr_ptr rfl) ?_
 refine ax_q (q_load1_ptr rfl rfl rfl) ?_
 refine ax_nil (cx_keep rfl rfl ?_)
 refine cx_cond rfl (fun h0 => ?_) (fun h0 => ?_)
 ·
  skip
  rw [har] at h0; cases h0
 ·
  skip
  refine cx_skip ?_
  refine cx_keep rfl rfl (cx_seq (cx_seq (cx_ops ?_)))
  refine ax_q (q_mov rfl) ?_
  refine ax_q (q_nilck_ptr rfl) ?_
  refine ax_q (q_fadr_ptr rfl) ?_
  refine ax_q (q_load1_ptr rfl rfl rfl) ?_
  first | refine ax_q (q_lenS_map rfl) ?_ | refine ax_q (q_lenS_osl rfl) ?_
  refine ax_q (q_mov rfl) ?_
  refine ax_nil (cx_keep rfl rfl (cx_block ?_))
  refine cx_loopU (fun n k => k ≤ d.Cache.length ∧ n = d.Cache.length - k) (fun k : Nat => [(21, int k)]) (fun k => [(1000, .box [.osl 1001 1 0 d.Sectors.length, .osl 1002 2 0 d.Cache.length, .d (.bool d.Armed), .osl 1003 1 0 d.Keep.length, .d v0, .d v1, .d v2, .d v3, .d v4]), (1001, .rows 1 ((syncTo d.Sectors d.Cache k).map strRow)), (1002, .rows 2 (d.Cache.map GPending.row)), (1003, .rows 1 (d.Keep.map intRow))]) ⟨_, 0, ⟨Nat.zero_le _, rfl⟩, by repeat constructor⟩ ?_
  rintro n k ⟨hk2, rfl⟩
  refine cx_seq (cx_ops ?_)
  refine ax_q (q_ibin rfl rfl rfl) ?_
  refine ax_nil (cx_keep rfl rfl (cx_seq ?_))
  refine cx_cond rfl (fun h1 => ?_) (fun h1 => ?_)
  ·
   have h1 := dT h1
   have h1x : k < d.Cache.length := by omega
   have e1 : syncTo d.Sectors d.Cache (k + 1) = _ := syncTo_succ h1x
   refine cx_skip ?_
   refine cx_keep rfl rfl (cx_seq (cx_block (cx_seq (cx_ops ?_))))
   refine ax_q (q_ixo rfl rfl h1x) ?_
   first | refine ax_q (q_ldN rfl rfl rfl) ?_ | refine ax_q (q_loadN_ip rfl (Nat.le_refl _)) ?_ | refine ax_q (q_loadN_ip rfl (by decide)) ?_ | refine ax_q (q_loadN_rptr rfl rfl (by assumption) (by decide)) ?_ | refine ax_q (q_loadN_rptr rfl rfl (mapAt (by first | assumption | omega)) (by decide)) ?_
   refine ax_e (e_alloc (by decide) rfl rfl) ?_
   refine ax_e (e_st rfl rfl rfl rfl rfl rfl rfl) ?_
   refine ax_nil (cx_keep rfl rfl ?_)
   refine cx_drawL 0 25 (fun _ => false) (fun _ => true) [] ([]) [[0], [25], [26], [27], [4], [29], [4], [31]] [[], [], [], [], [], [], [], []] rfl ?_
   first | refine ⟨⟨25, _, []⟩, .inl ⟨rfl, rfl, rfl, locl_of (loc_q (q_mov rfl))⟩, ?_⟩
   refine ⟨_, .inr ⟨rfl, _, rfl, .inr ⟨rfl, rfl, .inl rfl, rfl, rfl⟩, loc_q (q_nilck_ptr rfl)⟩, ?_⟩
   refine ⟨_, .inr ⟨rfl, _, rfl, .inr ⟨rfl, rfl, .inl rfl, rfl, rfl⟩, loc_q (q_fadr_ptr rfl)⟩, ?_⟩
   refine ⟨_, .inr ⟨rfl, _, rfl, .inr ⟨rfl, rfl, .inl rfl, rfl, rfl⟩, loc_q (q_load1_ptr rfl rfl rfl)⟩, ?_⟩
   first | refine ⟨_, .inr ⟨rfl, _, rfl, .inr ⟨rfl, rfl, .inr rfl, rfl, rfl⟩, loc_q (q_fadr_ptr rfl)⟩, ?_⟩
   first | refine ⟨_, .inr ⟨rfl, _, rfl, .inr ⟨rfl, rfl, .inr rfl, rfl, rfl⟩, loc_q (q_load1_ptr rfl rfl rfl)⟩, ?_⟩
   first | refine ⟨_, .inr ⟨rfl, _, rfl, .inr ⟨rfl, rfl, .inr rfl, rfl, rfl⟩, loc_q (q_fadr_ptr rfl)⟩, ?_⟩
   first | refine ⟨_, .inr ⟨rfl, _, rfl, .inr ⟨rfl, rfl, .inr rfl, rfl, rfl⟩, loc_q (q_load1_ptr rfl rfl rfl)⟩, ?_⟩
   refine ⟨rfl, ?_⟩
   refine ax_q (q_ixoI rfl rfl (hat _ (List.getElem_mem h1x)).1 (hat _ (List.getElem_mem h1x)).2) ?_
   refine ax_e (e_str (rs' := (syncTo d.Sectors d.Cache (k + 1)).map strRow) (q := strRow d.Cache[k].Data) rfl rfl rfl rfl rfl rfl (mapAt (by rw [syncTo_len]; exact (hat _ (List.getElem_mem h1x)).2)) rfl rfl (by rw [e1]; exact List.map_set.symm)) ?_
   refine ax_nil (cx_keep rfl rfl (cx_ops ?_))
   refine ax_qe (r' := int ((k + 1 : Nat) : Int)) (q_ibin rfl rfl rfl) (by rw [wi (by omega) (by omega)]; rfl) ?_
   refine ax_q (q_mov rfl) ?_
   refine ax_nil ?_
   exact ⟨_, k + 1, by omega, ⟨by omega, rfl⟩, by repeat constructor⟩
  ·
   have h1 := dF h1
   have h1x : k = d.Cache.length := by omega
   subst h1x
   refine cx_exit rfl ?_
   refine cx_keep rfl rfl (cx_seq (cx_ops ?_))
   refine ax_q (q_mov rfl) ?_
   refine ax_q (q_nilck_ptr rfl) ?_
   refine ax_q (q_fadr_ptr rfl) ?_
   refine ax_e (e_st rfl rfl rfl rfl rfl rfl rfl) ?_
   refine ax_wk ((wk_virt 900 2 rfl rfl rfl).trans ((wk_zsb 1000 900 1 rfl rfl rfl).trans (wk_swapM 900 1002 (.inl (by decide)) (.inr (by rw [hmv]; rfl))))) ?_
   refine ax_nil (cx_keep rfl rfl (cx_seq (cx_ops ?_)))
   refine ax_q (q_mov rfl) ?_
   refine ax_nil (cx_keep rfl rfl ?_)
   refine cx_ret (retN id [1000, 1001, 1002, 1003] rfl rfl rfl rfl rfl ?_)
   rw [syncD_2 har]; exact ⟨rfl, by unfold bx9; dsimp only; rw [syncTo_len]; rfl⟩


/- (ptr loop.example/g00332/impl.Store).flush -/
def k_c_flush : XCode :=
 .seq (.ops [.op (some 4) (.mov (.k (.bool false)))])
 (.keep [0, 1] (.seq (.seq (.ops [.op (some 7) (.mov (.t 1)),
   .op (some 8) (.mov (.t 0)),
   .op (some 9) (.nilck (.t 8)),
   .op (some 10) (.fadr (.t 9) 6),
   .op (some 11) (.load1 (.t 10)),
   .op (some 12) (.bin .leq (.t 7) (.t 11))])
  (.keep [0, 1, 12] (.cond (.t 12)
  (.seq (.ops [.op (some 4) (.mov (.k (.bool true)))])
   (.keep [4] (.ret)))
  (.skip))))
 (.keep [0, 1] (.seq (.seq (.draw [.op (some 13) (.mov (.t 0)),
   .op (some 14) (.nilck (.t 13)),
   .op (some 15) (.fadr (.t 14) 5),
   .op (some 16) (.load1 (.t 15)),
   .op (some 17) (.mov (.t 0)),
   .op (some 18) (.nilck (.t 17)),
   .op (some 19) (.fadr (.t 18) 6),
   .op (some 20) (.load1 (.t 19)),
   .op (some 21) (.mov (.t 1)),
   .op (some 22) (.slc 10 (.t 16) (some (.t 20)) (some (.t 21)) none),
   .op (some 23) (.lenS (.t 22)),
   .op (some 24) (.mov (.k (.int .i64 0)))])
  (.keep [0, 1, 22, 23, 24] (.block 0 (.loop (.seq (.ops [.op (some 25) (.bin .lss (.t 24) (.t 23))])
   (.keep [0, 1, 22, 23, 24, 25] (.seq (.cond (.t 25)
    (.skip)
    (.exit 0))
   (.keep [0, 1, 22, 23, 24] (.seq (.block 1 (.seq (.ops [.op (some 26) (.iadr 10 (.t 22) (.t 24)),
     .op (some 27) (.loadN 10 (.t 26)),
     .op (some 6) (.alloc [.int .i64 0, .int .i64 0, .int .i64 0, .int .i64 0, .int .i64 0, .int .i64 0, .int .i64 0, .int .i64 0, .str [], .str []]),
     .op none (.store 10 (.t 6) (.t 27))])
    (.keep [0, 1, 6, 22, 23, 24] (.drawE [[], [0], [0, 1], [], [3], [3, 4], [3, 4, 5], [], [7], [7, 8], [0, 1, 2, 3, 4, 5, 6, 7, 8, 9]] [.op (some 28) (.mov (.t 0)),
     .op (some 29) (.nilck (.t 28)),
     .op (some 30) (.fadr (.t 29) 0),
     .op (some 31) (.fadr (.t 6) 1),
     .op (some 32) (.load1 (.t 31)),
     .op (some 33) (.bin .add (.k (.int .i64 9)) (.t 32)),
     .op (some 34) (.bin .sub (.t 33) (.k (.int .i64 1))),
     .op (some 35) (.loadN 10 (.t 6)),
     .call (some 36) 69 [.t 35],
     .op (some 37) (.b2s (.t 36))]
    [.call (some 38) 68 [.t 30, .t 34, .t 37]]))))
   (.keep [0, 1, 22, 23, 24] (.ops [.op (some 39) (.bin .add (.t 24) (.k (.int .i64 1))),
    .op (some 24) (.mov (.t 39))])))))))))))
 (.keep [0, 1] (.seq (.seq (.ops [.op (some 40) (.mov (.t 0)),
   .op (some 41) (.nilck (.t 40)),
   .op (some 42) (.fadr (.t 41) 0),
   .call (some 43) 70 [.t 42],
   .op (some 44) (.not (.t 43))])
  (.keep [0, 1, 44] (.cond (.t 44)
  (.seq (.ops [.op (some 4) (.mov (.k (.bool false)))])
   (.keep [4] (.ret)))
  (.skip))))
 (.keep [0, 1] (.seq (.ops [.op (some 45) (.mov (.t 0)),
   .op (some 46) (.mov (.t 1)),
   .op (some 47) (.nilck (.t 45)),
   .op (some 48) (.fadr (.t 47) 6),
   .op none (.store 1 (.t 48) (.t 46))])
 (.keep [] (.seq (.ops [.op (some 4) (.mov (.k (.bool true)))])
 (.keep [4] (.ret))))))))))))
theorem k_c_flush_fits : fitsF Tryz.prog 28 ⟨49, k_c_flush, [.t 4]⟩ = true := by kernel_rfl
set_option maxHeartbeats 4000000 in
theorem c_flush {s : GStore} {m : Nat} {n : Int} (h : DI s m) (hm : m ≤ 60) (hn : n ≤ s.Log.length) : Con Tryz.prog (fun e => Nat.beq e 1002 || Nat.beq e 1003) 28 [.ptr 1000 0, int n] (bxS s) (fun r h => r = bool true ∧ h = bxS (flF s n)) := by
 refine con_of2 k_c_flush_fits rfl fun C hP hmv => ?_
 unfold k_c_flush
 obtain ⟨hw0, hw1, hw2, hw3, hwa, hw4, hw5, hw6⟩ := di_stb h hm
 have hsu := h.su
 refine cx_seq (cx_ops ?_)
 refine ax_q (q_mov rfl) ?_
 refine ax_nil (cx_keep rfl rfl (cx_seq (cx_seq (cx_ops ?_))))
 refine ax_q (q_mov rfl) ?_
 refine ax_q (q_mov rfl) ?_
 refine ax_q (q_nilck_ptr rfl) ?_
 refine ax_q (q_fadr_ptr rfl) ?_
 refine ax_q (q_load1_ptr rfl rfl rfl) ?_
 refine ax_q (q_ibin rfl rfl rfl) ?_
 refine ax_nil (cx_keep rfl rfl ?_)
 refine cx_cond rfl (fun h0 => ?_) (fun h0 => ?_)
 ·
  have h0 := dT h0
  refine cx_seq (cx_ops ?_)
  refine ax_q (q_mov rfl) ?_
  refine ax_nil (cx_keep rfl rfl ?_)
  refine cx_ret (retN id [1000, 1001, 1002, 1003] rfl rfl rfl rfl rfl ?_)
  rw [flF_1 h0]; exact ⟨rfl, rfl⟩
 ·
  have h0 := dF h0
  have hfl := flR_len (s := s) (n := n) hsu.1 hn
  refine cx_skip ?_
  refine cx_keep rfl rfl (cx_seq (cx_seq (cx_draw ?_)))
  refine ax_q (q_mov rfl) ?_
  refine ax_q (q_nilck_ptr rfl) ?_
  refine ax_q (q_fadr_ptr rfl) ?_
  refine ax_q (q_load1_ptr rfl rfl rfl) ?_
  refine ax_q (q_mov rfl) ?_
  refine ax_q (q_nilck_ptr rfl) ?_
  refine ax_q (q_fadr_ptr rfl) ?_
  refine ax_q (q_load1_ptr rfl rfl rfl) ?_
  refine ax_q (q_mov rfl) ?_
  refine ax_qe (r' := .d (.sl 10 ((flR s n).map GLogRecord.row))) (q_slc rfl rfl rfl (by omega) (by omega) (by simp; omega)) (flR_slc (s := s) (n := n) hsu.1 (by omega)) ?_
  refine ax_q (q_lenS_map rfl) ?_
  refine ax_q (q_mov rfl) ?_
  refine ax_nil (cx_keep rfl rfl (cx_block ?_))
  refine cx_loopU (fun j k => k ≤ (n - s.Sure).toNat ∧ j = (n - s.Sure).toNat - k) (fun k : Nat => [(24, int k)]) (fun k => bx9 (wrL s.Disk s.Log s.Sure.toNat k) (.int .i64 s.Epoch) (.sl 10 (s.Log.map GLogRecord.row)) (.int .i64 s.Sure) (.sl 5 (s.Frames.map GFrame.row)) (.int .i64 s.Hand)) ⟨_, 0, ⟨Nat.zero_le _, rfl⟩, by repeat constructor⟩ ?_
  rintro j k ⟨hk, rfl⟩
  obtain ⟨q1, q2, q3⟩ := wrL_b h hm hn hk
  refine cx_seq (cx_ops ?_)
  refine ax_q (q_ibin rfl rfl rfl) ?_
  refine ax_nil (cx_keep rfl rfl (cx_seq ?_))
  refine cx_cond rfl (fun h1 => ?_) (fun h1 => ?_)
  ·
   have h1 := dT h1
   have h1x : k < (n - s.Sure).toNat := by omega
   have hlx : s.Sure.toNat + k < s.Log.length := by omega
   have hdr := h.rc _ hlx
   obtain ⟨hsb, hsa⟩ := hdr.sh
   have hls := hdr.ls
   rw [← getD_z (z := GLogRecord.zero) hlx] at hsb hsa hls
   refine cx_skip ?_
   refine cx_keep rfl rfl (cx_seq (cx_block (cx_seq (cx_ops ?_))))
   refine ax_q (q_ix rfl rfl (flR_at hsu.1 hn h1x)) ?_
   first | refine ax_q (q_ldN rfl rfl rfl) ?_ | refine ax_q (q_loadN_ip rfl (Nat.le_refl _)) ?_
   refine ax_e (e_alloc (by decide) rfl rfl) ?_
   refine ax_e (e_st rfl rfl rfl rfl rfl rfl rfl) ?_
   refine ax_nil (cx_keep rfl rfl ?_)
   refine cx_drawL 0 28 (fun _ => false) (fun _ => true) [] ([]) [[0], [28], [29], [6], [31], [32], [33], [6], [35], [36]] [[], [], [], [], [], [], [], [], [], []] rfl ?_
   first | refine ⟨⟨28, _, []⟩, .inl ⟨rfl, rfl, rfl, locl_of (loc_q (q_mov rfl))⟩, ?_⟩
   refine ⟨_, .inr ⟨rfl, _, rfl, .inr ⟨rfl, rfl, .inl rfl, rfl, rfl⟩, loc_q (q_nilck_ptr rfl)⟩, ?_⟩
   refine ⟨_, .inr ⟨rfl, _, rfl, .inr ⟨rfl, rfl, .inl rfl, rfl, rfl⟩, loc_q (q_fadr_ptr rfl)⟩, ?_⟩
   first | refine ⟨_, .inr ⟨rfl, _, rfl, .inr ⟨rfl, rfl, .inr rfl, rfl, rfl⟩, loc_q (q_fadr_ptr rfl)⟩, ?_⟩
   first | refine ⟨_, .inr ⟨rfl, _, rfl, .inr ⟨rfl, rfl, .inr rfl, rfl, rfl⟩, loc_q (q_load1_ptr rfl rfl rfl)⟩, ?_⟩
   first | refine ⟨_, .inr ⟨rfl, _, rfl, .inr ⟨rfl, rfl, .inr rfl, rfl, rfl⟩, loc_q (q_add rfl rfl (by omega))⟩, ?_⟩
   first | refine ⟨_, .inr ⟨rfl, _, rfl, .inr ⟨rfl, rfl, .inr rfl, rfl, rfl⟩, loc_q (q_as (q_sub rfl rfl (by omega)) (congrArg AM.int (show _ = 9 + ((s.Sure.toNat + k : Nat) : Int) by omega)))⟩, ?_⟩
   first | refine ⟨_, .inr ⟨rfl, _, rfl, .inr ⟨rfl, rfl, .inr rfl, rfl, rfl⟩, loc_q (q_ldN rfl rfl rfl)⟩, ?_⟩
   refine ⟨_, .inr ⟨rfl, _, rfl, .inr ⟨rfl, rfl, .inr rfl, rfl, rfl⟩, loc_call (fun i => 36 + 200 * i) false rfl (c_recordBytes (r := (s.Log.getD (s.Sure.toNat + k) .zero)) (by first | assumption | omega | (simp; done) | (simp; omega)) (by first | assumption | omega | (simp; done) | (simp; omega))) hP (.inr ⟨rfl, rfl, rfl⟩) rfl rfl (fun h => by cases h)⟩, ?_⟩
   first | refine ⟨_, .inr ⟨rfl, _, rfl, .inr ⟨rfl, rfl, .inr rfl, rfl, rfl⟩, loc_q (q_b2s (bs := rbF (s.Log.getD (s.Sure.toNat + k) .zero)) rfl (src_osl rfl (by simp)) rows_all ⟨36, 1, 0, _, .inl rfl⟩)⟩, ?_⟩
   refine ⟨rfl, ?_⟩
   refine ax_call rfl (vcall_own (c_writeS (d := (wrL s.Disk s.Log s.Sure.toNat k)) (a := 9 + ((s.Sure.toNat + k : Nat) : Int)) (x := rbF (s.Log.getD (s.Sure.toNat + k) .zero)) (v0 := .int .i64 s.Epoch) (v1 := .sl 10 (s.Log.map GLogRecord.row)) (v2 := .int .i64 s.Sure) (v3 := .sl 5 (s.Frames.map GFrame.row)) (v4 := .int .i64 s.Hand) q1 q2 q3) hP hmv false (fun e => bif Nat.beq e 1000 then 1000 else bif Nat.beq e 1001 then 1001 else bif Nat.beq e 1002 then 1002 else 1003) [1000, 1001, 1002, 1003] ⟨rfl, rfl, rfl, rfl, ⟨rfl, rfl, rfl, rfl, trivial⟩, rfl, rfl, rfl⟩ (.pass rfl rfl (.pass rfl rfl (.pass rfl rfl .nil))) ?_)
   rintro r h ⟨rfl, rfl⟩
   refine ⟨fun e => bif Nat.beq e 1000 then 1000 else bif Nat.beq e 1001 then 1001 else bif Nat.beq e 1002 then 1002 else 1003, [], ⟨rfl, rfl, rfl, rfl, (mem4 rfl rfl rfl rfl), rfl, rfl, fun h => absurd h Bool.false_ne_true⟩, ?_⟩
   refine ax_nil (cx_keep rfl rfl (cx_ops ?_))
   refine ax_qe (r' := int ((k + 1 : Nat) : Int)) (q_ibin rfl rfl rfl) (by rw [wi (by omega) (by omega)]; rfl) ?_
   refine ax_q (q_mov rfl) ?_
   refine ax_nil ?_
   exact ⟨_, k + 1, by omega, ⟨by omega, rfl⟩, by repeat constructor⟩
  ·
   have h1 := dF h1
   obtain rfl : k = (n - s.Sure).toNat := by omega
   refine cx_exit rfl ?_
   refine cx_keep rfl rfl (cx_seq (cx_seq (cx_ops ?_)))
   refine ax_q (q_mov rfl) ?_
   refine ax_q (q_nilck_ptr rfl) ?_
   refine ax_q (q_fadr_ptr rfl) ?_
   refine ax_call rfl (vcall_own (c_syncS (d := (wrL s.Disk s.Log s.Sure.toNat (n - s.Sure).toNat)) (v0 := .int .i64 s.Epoch) (v1 := .sl 10 (s.Log.map GLogRecord.row)) (v2 := .int .i64 s.Sure) (v3 := .sl 5 (s.Frames.map GFrame.row)) (v4 := .int .i64 s.Hand) q1 q2 q3 (wrL_at h hm h0 hn hk) (by rw [wrL_ar]; exact h.dk.ar)) hP hmv false (fun e => bif Nat.beq e 1000 then 1000 else bif Nat.beq e 1001 then 1001 else bif Nat.beq e 1002 then 1002 else 1003) [1000, 1001, 1002, 1003] ⟨rfl, rfl, rfl, rfl, ⟨rfl, rfl, rfl, rfl, trivial⟩, rfl, rfl, rfl⟩ (.pass rfl rfl .nil) ?_)
   rintro r h ⟨rfl, rfl⟩
   refine ⟨fun e => bif Nat.beq e 1000 then 1000 else bif Nat.beq e 1001 then 1001 else bif Nat.beq e 1002 then 1002 else 1003, [], ⟨rfl, rfl, rfl, rfl, (mem4 rfl rfl rfl rfl), rfl, rfl, fun h => absurd h Bool.false_ne_true⟩, ?_⟩
   refine ax_q (q_not rfl) ?_
   refine ax_nil (cx_keep rfl rfl ?_)
   refine cx_cond rfl (fun h2 => ?_) (fun h2 => ?_)
   ·
    have h2 := bT h2
    cases h2
   ·
    have h2 := bF h2
    refine cx_skip ?_
    refine cx_keep rfl rfl (cx_seq (cx_ops ?_))
    refine ax_q (q_mov rfl) ?_
    refine ax_q (q_mov rfl) ?_
    refine ax_q (q_nilck_ptr rfl) ?_
    refine ax_q (q_fadr_ptr rfl) ?_
    refine ax_e (e_st rfl rfl rfl rfl rfl rfl rfl) ?_
    refine ax_nil (cx_keep rfl rfl (cx_seq (cx_ops ?_)))
    refine ax_q (q_mov rfl) ?_
    refine ax_nil (cx_keep rfl rfl ?_)
    refine cx_ret (retN id [1000, 1001, 1002, 1003] rfl rfl rfl rfl rfl ?_)
    rw [flF_2 h0]; exact ⟨rfl, rfl⟩


/- loop.example/g00332/impl.kept -/
def k_c_kept : XCode :=
 .seq (.ops [.op (some 3) (.box (.t 0)),
   .op (some 4) (.box (.t 1)),
   .op (some 6) (.alloc [.nils 1, .nils 2, .bool false, .nils 1, .int .i64 0, .nils 10, .int .i64 0, .nils 5, .int .i64 0])])
 (.keep [2, 3, 4, 6] (.seq (.seq (.ops [.op (some 8) (.mov (.t 2))])
  (.keep [3, 4, 6, 8] (.cond (.t 8)
  (.seq (.ops [.op (some 9) (.loadN 9 (.t 4)),
    .call (some 10) 27 [.t 9],
    .op none (.store 9 (.t 6) (.t 10))])
   (.keep [6] (.ret)))
  (.skip))))
 (.keep [3, 4, 6] (.seq (.ops [.op (some 11) (.loadN 9 (.t 3)),
   .call (some 12) 27 [.t 11],
   .op (some 7) (.alloc [.nils 1, .nils 2, .bool false, .nils 1, .int .i64 0, .nils 10, .int .i64 0, .nils 5, .int .i64 0]),
   .op none (.store 9 (.t 7) (.t 12))])
 (.keep [4, 6, 7] (.seq (.ops [.op (some 13) (.fadr (.t 4) 0),
   .op (some 14) (.loadN 4 (.t 13)),
   .call (some 15) 41 [.t 14],
   .op (some 16) (.fadr (.t 7) 0),
   .op none (.store 4 (.t 16) (.t 15))])
 (.keep [6, 7] (.seq (.ops [.op (some 17) (.loadN 9 (.t 7)),
   .op none (.store 9 (.t 6) (.t 17))])
 (.keep [6] (.ret))))))))))
theorem k_c_kept_fits : fitsF Tryz.prog 29 ⟨18, k_c_kept, [.cN 6 9]⟩ = true := by kernel_rfl
theorem c_kept {s x : GStore} {m : Nat} (h : DI x m) (hm : m ≤ 60) : Con Tryz.prog noMv 29 [s.av, x.av, bool true] [] (fun r h => r = x.av ∧ h = []) := by
 refine con_of2 k_c_kept_fits rfl fun C hP hmv => ?_
 unfold k_c_kept
 refine cx_seq (cx_ops ?_)
 refine ax_e (e_box rfl rfl (by decide) rfl rfl rfl) ?_
 refine ax_e (e_box rfl rfl (by decide) rfl rfl rfl) ?_
 refine ax_e (e_alloc (by decide) rfl rfl) ?_
 refine ax_nil (cx_keep rfl rfl (cx_seq (cx_seq (cx_ops ?_))))
 refine ax_q (q_mov rfl) ?_
 refine ax_nil (cx_keep rfl rfl ?_)
 refine cx_cond rfl (fun h0 => ?_) (fun h0 => ?_)
 ·
  skip
  refine cx_seq (cx_ops ?_)
  refine ax_q (q_ldN rfl rfl rfl) ?_
  refine ax_call rfl (vc_pure (c_cloneS (s := x) (m := m) ?_ ?_) hP rfl ?_)
  ·
   assumption
  ·
   assumption
  rintro r h ⟨rfl, rfl⟩
  refine ⟨fun i => 10 + 200 * i, [0, 1, 2], ⟨rfl, rfl, rfl, rfl, rfl, (by first | exact (fun h => absurd h Bool.false_ne_true) | exact (fun _ => ⟨rfl, (noisl_of (by repeat (first | exact trivial | refine ⟨noisl_map (fun _ => rfl), ?_⟩ | refine ⟨?_, ?_⟩)))⟩))⟩, ?_⟩
  skip
  refine ax_wk (wk_frz 10 10 rfl rfl (.agg (.cons (.whole (List.length_map _).symm) (.cons (.same rfl) (.cons (.same rfl) (.cons (.same rfl) (.cons (.same rfl) (.cons (.same rfl) (.cons (.same rfl) (.cons (.same rfl) (.cons (.same rfl) .nil)))))))))) rfl) ?_
  refine ax_wk (wk_frz 10 210 rfl rfl (.agg (.cons (.same rfl) (.cons (.whole (List.length_map _).symm) (.cons (.same rfl) (.cons (.same rfl) (.cons (.same rfl) (.cons (.same rfl) (.cons (.same rfl) (.cons (.same rfl) (.cons (.same rfl) .nil)))))))))) rfl) ?_
  refine ax_wk (wk_frz 10 410 rfl rfl (.agg (.cons (.same rfl) (.cons (.same rfl) (.cons (.same rfl) (.cons (.whole (List.length_map _).symm) (.cons (.same rfl) (.cons (.same rfl) (.cons (.same rfl) (.cons (.same rfl) (.cons (.same rfl) .nil)))))))))) rfl) ?_
  refine ax_e (e_st rfl rfl rfl rfl rfl rfl rfl) ?_
  refine ax_nil (cx_keep rfl rfl ?_)
  refine cx_ret (ret0 rfl rfl ?_)
  exact ⟨rfl, rfl⟩
 ·
  skip
  cases h0


/- loop.example/g00332/impl.FlushLog -/
def k_c_FlushLog : XCode :=
 .seq (.ops [.op (some 2) (.box (.t 0)),
   .op (some 4) (.alloc [.nils 1, .nils 2, .bool false, .nils 1, .int .i64 0, .nils 10, .int .i64 0, .nils 5, .int .i64 0]),
   .op (some 5) (.mov (.k (.bool false))),
   .op (some 6) (.mov (.k (.int .i64 0)))])
 (.keep [1, 2, 4] (.seq (.block 0 (.seq (.ops [.op (some 10) (.loadN 9 (.t 2)),
    .call (some 11) 10 [.t 10],
    .op (some 12) (.not (.t 11)),
    .op (some 9) (.mov (.t 12))])
  (.keep [1, 2, 4, 9] (.cond (.t 9)
   (.seq (.ops [.op (some 13) (.build [.nils 1, .nils 2, .bool false, .nils 1, .int .i64 0, .nils 10, .int .i64 0, .nils 5, .int .i64 0] []),
     .op none (.store 9 (.t 4) (.t 13)),
     .op (some 5) (.mov (.k (.bool false))),
     .op (some 6) (.mov (.k (.int .i64 1)))])
   (.keep [4, 5, 6] (.ret)))
   (.seq (.ops [.op (some 15) (.mov (.t 1)),
     .op (some 16) (.fadr (.t 2) 5),
     .op (some 17) (.load1 (.t 16)),
     .op (some 18) (.lenS (.t 17)),
     .call (some 19) 26 [.t 15, .k (.int .i64 0), .t 18],
     .op (some 20) (.not (.t 19)),
     .op (some 14) (.mov (.t 20))])
   (.keep [1, 2, 4, 14] (.cond (.t 14)
    (.seq (.ops [.op (some 21) (.build [.nils 1, .nils 2, .bool false, .nils 1, .int .i64 0, .nils 10, .int .i64 0, .nils 5, .int .i64 0] []),
      .op none (.store 9 (.t 4) (.t 21)),
      .op (some 5) (.mov (.k (.bool false))),
      .op (some 6) (.mov (.k (.int .i64 4)))])
    (.keep [4, 5, 6] (.ret)))
    (.skip))))))))
 (.keep [1, 2, 4] (.seq (.ops [.op (some 22) (.loadN 9 (.t 2)),
   .call (some 23) 27 [.t 22],
   .op (some 7) (.alloc [.nils 1, .nils 2, .bool false, .nils 1, .int .i64 0, .nils 10, .int .i64 0, .nils 5, .int .i64 0]),
   .op none (.store 9 (.t 7) (.t 23))])
 (.keep [1, 2, 4, 7] (.seq (.ops [.op (some 24) (.mov (.t 1)),
   .call (some 25) 28 [.t 7, .t 24],
   .op (some 8) (.mov (.t 25))])
 (.keep [2, 4, 7, 8] (.seq (.ops [.op (some 26) (.loadN 9 (.t 2)),
   .op (some 27) (.loadN 9 (.t 7)),
   .op (some 28) (.mov (.t 8)),
   .call (some 29) 29 [.t 26, .t 27, .t 28],
   .op (some 30) (.mov (.t 8)),
   .op none (.store 9 (.t 4) (.t 29)),
   .op (some 5) (.mov (.t 30)),
   .op (some 6) (.mov (.k (.int .i64 0)))])
 (.keep [4, 5, 6] (.ret))))))))))
theorem k_c_FlushLog_fits : fitsF Tryz.prog 7 ⟨31, k_c_FlushLog, [.cN 4 9, .t 5, .t 6]⟩ = true := by kernel_rfl
set_option maxHeartbeats 4000000 in
theorem c_FlushLog {s : GStore} {m : Nat} {n : Int} (h : DI s m) (hm : m ≤ 60) (hn : 0 ≤ n ∧ n ≤ s.Log.length) : Con Tryz.prog noMv 7 [s.av, int n] [] (fun r h => r = .tup [(flF s n).av, bool true, int 0] ∧ h = []) := by
 refine con_of2 k_c_FlushLog_fits rfl fun C hP hmv => ?_
 unfold k_c_FlushLog
 obtain ⟨hw0, hw1, hw2, hw3, hwa, hw4, hw5, hw6⟩ := di_stb h hm
 have hsb := di_stb h hm
 have hF := flF_di h hm hn.2
 refine cx_seq (cx_ops ?_)
 refine ax_e (e_box rfl rfl (by decide) rfl rfl rfl) ?_
 refine ax_e (e_alloc (by decide) rfl rfl) ?_
 refine ax_q (q_mov rfl) ?_
 refine ax_q (q_mov rfl) ?_
 refine ax_nil (cx_keep rfl rfl (cx_seq (cx_block (cx_seq (cx_ops ?_)))))
 refine ax_q (q_ldN rfl rfl rfl) ?_
 refine ax_call rfl (vc_pure0 (c_StoreOK (s := s) ?_) hP rfl rfl ?_)
 ·
  assumption
 refine ax_q (q_not rfl) ?_
 refine ax_q (q_mov rfl) ?_
 refine ax_nil (cx_keep rfl rfl ?_)
 refine cx_cond rfl (fun h0 => ?_) (fun h0 => ?_)
 ·
  have h0 := bT h0
  rw [di_ok h hm] at h0; cases h0
 ·
  have h0 := bF h0
  refine cx_seq (cx_ops ?_)
  refine ax_q (q_mov rfl) ?_
  refine ax_q (q_fadr_ptr rfl) ?_
  refine ax_q (q_load1_ptr rfl rfl rfl) ?_
  refine ax_q (q_lenS_map rfl) ?_
  refine ax_call rfl (vc_pure0 (c_inRange  ) hP rfl rfl ?_)
  refine ax_q (q_not rfl) ?_
  refine ax_q (q_mov rfl) ?_
  refine ax_nil (cx_keep rfl rfl ?_)
  refine cx_cond rfl (fun h1 => ?_) (fun h1 => ?_)
  ·
   have h1 := bT h1
   rw [inR_iff.2 hn] at h1; cases h1
  ·
   have h1 := bF h1
   refine cx_skip ?_
   refine cx_keep rfl rfl (cx_seq (cx_ops ?_))
   refine ax_q (q_ldN rfl rfl rfl) ?_
   refine ax_call rfl (vc_pure (c_cloneS (s := s) (m := m) ?_ ?_) hP rfl ?_)
   ·
    assumption
   ·
    assumption
   rintro r h ⟨rfl, rfl⟩
   refine ⟨fun i => 23 + 200 * i, [0, 1, 2], ⟨rfl, rfl, rfl, rfl, rfl, (by first | exact (fun h => absurd h Bool.false_ne_true) | exact (fun _ => ⟨rfl, (noisl_of (by repeat (first | exact trivial | refine ⟨noisl_map (fun _ => rfl), ?_⟩ | refine ⟨?_, ?_⟩)))⟩))⟩, ?_⟩
   skip
   refine ax_e (e_alloc (by decide) rfl rfl) ?_
   refine ax_e (e_st rfl rfl rfl rfl rfl rfl rfl) ?_
   refine ax_nil (cx_keep rfl rfl (cx_seq (cx_ops ?_)))
   refine ax_q (q_mov rfl) ?_
   refine ax_call rfl (vcall_own (c_flush (s := s) (m := m) (n := n) h hm hn.2) hP hmv false (fun e => bif Nat.beq e 1000 then 7 else bif Nat.beq e 1001 then 23 else bif Nat.beq e 1002 then 223 else 423) [1000, 1001, 1002, 1003] ⟨rfl, rfl, rfl, rfl, ⟨rfl, rfl, rfl, rfl, trivial⟩, rfl, rfl, rfl⟩ (.pass rfl rfl (.pass rfl rfl .nil)) ?_)
   rintro r h ⟨rfl, rfl⟩
   refine ⟨fun e => bif Nat.beq e 1000 then 7 else bif Nat.beq e 1001 then 23 else bif Nat.beq e 1002 then 223 else 423, [], ⟨rfl, rfl, rfl, rfl, (mem4 rfl rfl rfl rfl), rfl, rfl, fun h => absurd h Bool.false_ne_true⟩, ?_⟩
   refine ax_q (q_mov rfl) ?_
   refine ax_nil (cx_keep rfl rfl (cx_seq (cx_ops ?_)))
   refine ax_q (q_ldN rfl rfl rfl) ?_
   refine ax_q (q_ldN rfl rfl rfl) ?_
   refine ax_wk (wk_frz 27 23 rfl rfl (.agg (.cons (.whole (List.length_map _).symm) (.cons (.same rfl) (.cons (.same rfl) (.cons (.same rfl) (.cons (.same rfl) (.cons (.same rfl) (.cons (.same rfl) (.cons (.same rfl) (.cons (.same rfl) .nil)))))))))) rfl) ?_
   refine ax_wk (wk_frz 27 223 rfl rfl (.agg (.cons (.same rfl) (.cons (.whole (List.length_map _).symm) (.cons (.same rfl) (.cons (.same rfl) (.cons (.same rfl) (.cons (.same rfl) (.cons (.same rfl) (.cons (.same rfl) (.cons (.same rfl) .nil)))))))))) rfl) ?_
   refine ax_wk (wk_frz 27 423 rfl rfl (.agg (.cons (.same rfl) (.cons (.same rfl) (.cons (.same rfl) (.cons (.whole (List.length_map _).symm) (.cons (.same rfl) (.cons (.same rfl) (.cons (.same rfl) (.cons (.same rfl) (.cons (.same rfl) .nil)))))))))) rfl) ?_
   refine ax_q (q_mov rfl) ?_
   refine ax_call rfl (vc_pure0 (c_kept (s := s) (x := flF s n) (m := m) ?_ ?_) hP rfl rfl ?_)
   ·
    assumption
   ·
    assumption
   refine ax_q (q_mov rfl) ?_
   refine ax_e (e_st rfl rfl rfl rfl rfl rfl rfl) ?_
   refine ax_q (q_mov rfl) ?_
   refine ax_q (q_mov rfl) ?_
   refine ax_nil (cx_keep rfl rfl ?_)
   refine cx_ret (ret0 rfl rfl ?_)
   exact ⟨rfl, rfl⟩


/- loop.example/g00332/spec.DiskOK -/
def k_c_sDiskOK : XCode :=
 .seq (.ops [.op (some 1) (.box (.t 0)),
   .op (some 2) (.mov (.k (.bool false)))])
 (.keep [1] (.seq (.ops [.op (some 7) (.fadr (.t 1) 0),
   .op (some 8) (.load1 (.t 7)),
   .op (some 9) (.lenS (.t 8)),
   .op (some 3) (.mov (.t 9))])
 (.keep [1, 3] (.seq (.seq (.ops [.op (some 10) (.mov (.t 3)),
   .call (some 11) 31 [.t 10, .k (.int .i64 1), .k (.int .i64 100)],
   .op (some 12) (.not (.t 11)),
   .op (some 13) (.mov (.t 12)),
   .andor 18 false 3 13 [.op (some 14) (.fadr (.t 1) 1), .op (some 15) (.load1 (.t 14)), .op (some 16) (.lenS (.t 15)), .op (some 17) (.bin .gtr (.t 16) (.k (.int .i64 500)))] (.t 17),
   .op (some 19) (.mov (.t 18)),
   .andor 24 false 9 19 [.op (some 20) (.fadr (.t 1) 3), .op (some 21) (.load1 (.t 20)), .op (some 22) (.lenS (.t 21)), .op (some 23) (.bin .gtr (.t 22) (.k (.int .i64 500)))] (.t 23),
   .op (some 25) (.mov (.t 24)),
   .andor 35 false 15 25 [.op (some 26) (.fadr (.t 1) 2), .op (some 27) (.load1 (.t 26)), .op (some 28) (.not (.t 27)), .op (some 29) (.mov (.t 28)), .andor 34 true 19 29 [.op (some 30) (.fadr (.t 1) 3), .op (some 31) (.load1 (.t 30)), .op (some 32) (.lenS (.t 31)), .op (some 33) (.bin .gtr (.t 32) (.k (.int .i64 0)))] (.t 33)] (.t 34)])
  (.keep [1, 3, 35] (.cond (.t 35)
  (.seq (.ops [.op (some 2) (.mov (.k (.bool false)))])
   (.keep [2] (.ret)))
  (.skip))))
 (.keep [1, 3] (.seq (.seq (.ops [.op (some 4) (.mov (.k (.int .i64 0)))])
  (.keep [1, 3, 4] (.block 0 (.loop (.seq (.seq (.ops [.op (some 36) (.mov (.t 4)),
     .op (some 37) (.mov (.t 3)),
     .op (some 38) (.bin .lss (.t 36) (.t 37))])
   (.keep [1, 3, 4, 38] (.cond (.t 38)
    (.skip)
    (.exit 0))))
   (.keep [1, 3, 4] (.seq (.block 1 (.seq (.ops [.op (some 41) (.fadr (.t 1) 0),
     .op (some 42) (.load1 (.t 41)),
     .op (some 43) (.mov (.t 4)),
     .op (some 44) (.iadr 1 (.t 42) (.t 43)),
     .op (some 45) (.load1 (.t 44)),
     .op (some 46) (.lenT (.t 45)),
     .op (some 47) (.bin .gtr (.t 46) (.k (.int .i64 160)))])
    (.keep [1, 3, 4, 47] (.cond (.t 47)
    (.seq (.ops [.op (some 2) (.mov (.k (.bool false)))])
     (.keep [2] (.ret)))
    (.skip)))))
   (.keep [1, 3, 4] (.ops [.op (some 39) (.mov (.t 4)),
    .op (some 40) (.bin .add (.t 39) (.k (.int .i64 1))),
    .op (some 4) (.mov (.t 40))])))))))))
 (.keep [1, 3] (.seq (.seq (.ops [.op (some 5) (.mov (.k (.int .i64 0)))])
  (.keep [1, 3, 5] (.block 2 (.loop (.seq (.seq (.ops [.op (some 48) (.mov (.t 5)),
     .op (some 49) (.fadr (.t 1) 1),
     .op (some 50) (.load1 (.t 49)),
     .op (some 51) (.lenS (.t 50)),
     .op (some 52) (.bin .lss (.t 48) (.t 51))])
   (.keep [1, 3, 5, 52] (.cond (.t 52)
    (.skip)
    (.exit 2))))
   (.keep [1, 3, 5] (.seq (.block 3 (.seq (.ops [.op (some 55) (.fadr (.t 1) 1),
     .op (some 56) (.load1 (.t 55)),
     .op (some 57) (.mov (.t 5)),
     .op (some 58) (.iadr 2 (.t 56) (.t 57)),
     .op (some 59) (.loadN 2 (.t 58)),
     .op (some 6) (.alloc [.int .i64 0, .str []]),
     .op none (.store 2 (.t 6) (.t 59))])
    (.keep [1, 3, 5, 6] (.seq (.ops [.op (some 60) (.fadr (.t 6) 0),
     .op (some 61) (.load1 (.t 60)),
     .op (some 62) (.mov (.t 3)),
     .op (some 63) (.bin .sub (.t 62) (.k (.int .i64 1))),
     .call (some 64) 31 [.t 61, .k (.int .i64 0), .t 63],
     .op (some 65) (.not (.t 64)),
     .op (some 66) (.mov (.t 65)),
     .andor 71 false 6 66 [.op (some 67) (.fadr (.t 6) 1), .op (some 68) (.load1 (.t 67)), .op (some 69) (.lenT (.t 68)), .op (some 70) (.bin .gtr (.t 69) (.k (.int .i64 160)))] (.t 70)])
    (.keep [1, 3, 5, 71] (.cond (.t 71)
    (.seq (.ops [.op (some 2) (.mov (.k (.bool false)))])
     (.keep [2] (.ret)))
    (.skip)))))))
   (.keep [1, 3, 5] (.ops [.op (some 53) (.mov (.t 5)),
    .op (some 54) (.bin .add (.t 53) (.k (.int .i64 1))),
    .op (some 5) (.mov (.t 54))])))))))))
 (.keep [] (.seq (.ops [.op (some 2) (.mov (.k (.bool true)))])
 (.keep [2] (.ret))))))))))))
theorem k_c_sDiskOK_fits : fitsF Tryz.prog 71 ⟨72, k_c_sDiskOK, [.t 2]⟩ = true := by kernel_rfl
theorem c_sDiskOK {d : GDisk} (hw0 : d.Sectors.length ≤ 1048576) (hw1 : d.Cache.length ≤ 1048576) (hw2 : d.Keep.length ≤ 1048576) : Con Tryz.prog noMv 71 [d.av] [] (fun r h => r = bool (diskOK d) ∧ h = []) := by
 refine con_of2 k_c_sDiskOK_fits rfl fun C hP hmv => ?_
 unfold k_c_sDiskOK
 refine cx_seq (cx_ops ?_)
 refine ax_e (e_box rfl rfl (by decide) rfl rfl rfl) ?_
 refine ax_q (q_mov rfl) ?_
 refine ax_nil (cx_keep rfl rfl (cx_seq (cx_ops ?_)))
 refine ax_q (q_fadr_ptr rfl) ?_
 refine ax_q (q_load1_ptr rfl rfl rfl) ?_
 refine ax_q (q_lenS_map rfl) ?_
 refine ax_q (q_mov rfl) ?_
 refine ax_nil (cx_keep rfl rfl (cx_seq (cx_seq (cx_ops ?_))))
 refine ax_q (q_mov rfl) ?_
 refine ax_call rfl (vc_pure0 (c_l01In  ) hP rfl rfl ?_)
 refine ax_q (q_not rfl) ?_
 refine ax_q (q_mov rfl) ?_
 apply ax_or rfl rfl
 ·
  intro g
  have g := bF g
  refine ax_q (q_fadr_ptr rfl) ?_
  refine ax_q (q_load1_ptr rfl rfl rfl) ?_
  refine ax_q (q_lenS_map rfl) ?_
  refine ax_q (q_ibin rfl rfl rfl) ?_
  exact ax_nil ⟨rfl, by repeat constructor⟩
 refine ax_q (q_mov rfl) ?_
 apply ax_or rfl rfl
 ·
  intro g
  have g := (fun h => And.intro (bF (or_F h).1) (dF (or_F h).2)) g
  refine ax_q (q_fadr_ptr rfl) ?_
  refine ax_q (q_load1_ptr rfl rfl rfl) ?_
  refine ax_q (q_lenS_map rfl) ?_
  refine ax_q (q_ibin rfl rfl rfl) ?_
  exact ax_nil ⟨rfl, by repeat constructor⟩
 refine ax_q (q_mov rfl) ?_
 apply ax_or rfl rfl
 ·
  intro g
  have g := (fun h => And.intro ((fun h => And.intro (bF (or_F h).1) (dF (or_F h).2)) (or_F h).1) (dF (or_F h).2)) g
  refine ax_q (q_fadr_ptr rfl) ?_
  refine ax_q (q_load1_ptr rfl rfl rfl) ?_
  refine ax_q (q_not rfl) ?_
  refine ax_q (q_mov rfl) ?_
  apply ax_and rfl rfl
  ·
   intro g
   have g := bT g
   refine ax_q (q_fadr_ptr rfl) ?_
   refine ax_q (q_load1_ptr rfl rfl rfl) ?_
   refine ax_q (q_lenS_map rfl) ?_
   refine ax_q (q_ibin rfl rfl rfl) ?_
   exact ax_nil ⟨rfl, by repeat constructor⟩
  exact ax_nil ⟨rfl, by repeat constructor⟩
 refine ax_nil (cx_keep rfl rfl ?_)
 refine cx_cond rfl (fun h0 => ?_) (fun h0 => ?_)
 ·
  have h0 : badHead d = true := h0
  refine cx_seq (cx_ops ?_)
  refine ax_q (q_mov rfl) ?_
  refine ax_nil (cx_keep rfl rfl ?_)
  refine cx_ret (ret0 rfl rfl ?_)
  exact ⟨by unfold diskOK; rw [h0]; rfl, rfl⟩
 ·
  have h0 : badHead d = false := h0
  refine cx_skip ?_
  refine cx_keep rfl rfl (cx_seq (cx_seq (cx_ops ?_)))
  refine ax_q (q_mov rfl) ?_
  refine ax_nil (cx_keep rfl rfl (cx_block ?_))
  refine cx_loopU (fun n k => k ≤ d.Sectors.length ∧ n = d.Sectors.length - k ∧ ∀ j, j < k → ∀ x, d.Sectors[j]? = some x → long160 x = false) (fun k : Nat => [(4, int k)]) (fun _ => [(1, .box [.d (.sl 1 (d.Sectors.map strRow)), .d (.sl 2 (d.Cache.map GPending.row)), .d (.bool d.Armed), .d (.sl 1 (d.Keep.map intRow))])]) ⟨_, 0, ⟨Nat.zero_le _, rfl, fun j hj => by omega⟩, by repeat constructor⟩ ?_
  rintro n k ⟨hk, rfl, hb⟩
  refine cx_seq (cx_seq (cx_ops ?_))
  refine ax_q (q_mov rfl) ?_
  refine ax_q (q_mov rfl) ?_
  refine ax_q (q_ibin rfl rfl rfl) ?_
  refine ax_nil (cx_keep rfl rfl ?_)
  refine cx_cond rfl (fun h1 => ?_) (fun h1 => ?_)
  ·
   have h1 := dT h1
   have h1x : k < d.Sectors.length := by omega
   refine cx_skip ?_
   refine cx_keep rfl rfl (cx_seq (cx_block (cx_seq (cx_ops ?_))))
   refine ax_q (q_fadr_ptr rfl) ?_
   refine ax_q (q_load1_ptr rfl rfl rfl) ?_
   refine ax_q (q_mov rfl) ?_
   refine ax_q (q_ix rfl rfl (mapAt h1x)) ?_
   first | refine ax_q (q_load1_ptr rfl rfl rfl) ?_ | refine ax_q (q_load1_ip rfl) ?_
   refine ax_q (q_lenT rfl) ?_
   refine ax_q (q_ibin rfl rfl rfl) ?_
   refine ax_nil (cx_keep rfl rfl ?_)
   refine cx_cond rfl (fun h2 => ?_) (fun h2 => ?_)
   ·
    have h2 : long160 d.Sectors[k] = true := h2
    refine cx_seq (cx_ops ?_)
    refine ax_q (q_mov rfl) ?_
    refine ax_nil (cx_keep rfl rfl ?_)
    refine cx_ret (ret0 rfl rfl ?_)
    exact ⟨by unfold diskOK; rw [h0, any_hit h1x h2]; rfl, rfl⟩
   ·
    have h2 : long160 d.Sectors[k] = false := h2
    refine cx_skip ?_
    refine cx_keep rfl rfl (cx_ops ?_)
    refine ax_q (q_mov rfl) ?_
    refine ax_qe (r' := int ((k + 1 : Nat) : Int)) (q_ibin rfl rfl rfl) (by rw [wi (by omega) (by omega)]; rfl) ?_
    refine ax_q (q_mov rfl) ?_
    refine ax_nil ?_
    exact ⟨_, k + 1, by omega, ⟨by omega, rfl, before_step h1x hb h2⟩, by repeat constructor⟩
  ·
   have h1 := dF h1
   have h1x : k = d.Sectors.length := by omega
   subst h1x
   refine cx_exit rfl ?_
   refine cx_keep rfl rfl (cx_seq (cx_seq (cx_ops ?_)))
   refine ax_q (q_mov rfl) ?_
   refine ax_nil (cx_keep rfl rfl (cx_block ?_))
   refine cx_loopU (fun n k => k ≤ d.Cache.length ∧ n = d.Cache.length - k ∧ ∀ j, j < k → ∀ x, d.Cache[j]? = some x → badAt d.Sectors.length x = false) (fun k : Nat => [(5, int k)]) (fun _ => [(1, .box [.d (.sl 1 (d.Sectors.map strRow)), .d (.sl 2 (d.Cache.map GPending.row)), .d (.bool d.Armed), .d (.sl 1 (d.Keep.map intRow))])]) ⟨_, 0, ⟨Nat.zero_le _, rfl, fun j hj => by omega⟩, by repeat constructor⟩ ?_
   rintro n k ⟨hk, rfl, hc⟩
   refine cx_seq (cx_seq (cx_ops ?_))
   refine ax_q (q_mov rfl) ?_
   refine ax_q (q_fadr_ptr rfl) ?_
   refine ax_q (q_load1_ptr rfl rfl rfl) ?_
   refine ax_q (q_lenS_map rfl) ?_
   refine ax_q (q_ibin rfl rfl rfl) ?_
   refine ax_nil (cx_keep rfl rfl ?_)
   refine cx_cond rfl (fun h3 => ?_) (fun h3 => ?_)
   ·
    have h3 := dT h3
    have h3x : k < d.Cache.length := by omega
    refine cx_skip ?_
    refine cx_keep rfl rfl (cx_seq (cx_block (cx_seq (cx_ops ?_))))
    refine ax_q (q_fadr_ptr rfl) ?_
    refine ax_q (q_load1_ptr rfl rfl rfl) ?_
    refine ax_q (q_mov rfl) ?_
    refine ax_q (q_ix rfl rfl (mapAt h3x)) ?_
    first | refine ax_q (q_ldN rfl rfl rfl) ?_ | refine ax_q (q_loadN_ip rfl (Nat.le_refl _)) ?_
    refine ax_e (e_alloc (by decide) rfl rfl) ?_
    refine ax_e (e_st rfl rfl rfl rfl rfl rfl rfl) ?_
    refine ax_nil (cx_keep rfl rfl (cx_seq (cx_ops ?_)))
    refine ax_q (q_fadr_ptr rfl) ?_
    refine ax_q (q_load1_ptr rfl rfl rfl) ?_
    refine ax_q (q_mov rfl) ?_
    refine ax_q (q_sub rfl rfl (by omega)) ?_
    refine ax_call rfl (vc_pure0 (c_l01In  ) hP rfl rfl ?_)
    refine ax_q (q_not rfl) ?_
    refine ax_q (q_mov rfl) ?_
    apply ax_or rfl rfl
    ·
     intro g
     have g := bF g
     refine ax_q (q_fadr_ptr rfl) ?_
     refine ax_q (q_load1_ptr rfl rfl rfl) ?_
     refine ax_q (q_lenT rfl) ?_
     refine ax_q (q_ibin rfl rfl rfl) ?_
     exact ax_nil ⟨rfl, by repeat constructor⟩
    refine ax_nil (cx_keep rfl rfl ?_)
    refine cx_cond rfl (fun h4 => ?_) (fun h4 => ?_)
    ·
     have h4 : badAt d.Sectors.length d.Cache[k] = true := h4
     refine cx_seq (cx_ops ?_)
     refine ax_q (q_mov rfl) ?_
     refine ax_nil (cx_keep rfl rfl ?_)
     refine cx_ret (ret0 rfl rfl ?_)
     exact ⟨by unfold diskOK; rw [h0, any_hit h3x h4, Bool.not_true, Bool.and_false, Bool.and_false]; rfl, rfl⟩
    ·
     have h4 : badAt d.Sectors.length d.Cache[k] = false := h4
     refine cx_skip ?_
     refine cx_keep rfl rfl (cx_ops ?_)
     refine ax_q (q_mov rfl) ?_
     refine ax_qe (r' := int ((k + 1 : Nat) : Int)) (q_ibin rfl rfl rfl) (by rw [wi (by omega) (by omega)]; rfl) ?_
     refine ax_q (q_mov rfl) ?_
     refine ax_nil ?_
     exact ⟨_, k + 1, by omega, ⟨by omega, rfl, before_step h3x hc h4⟩, by repeat constructor⟩
   ·
    have h3 := dF h3
    have h3x : k = d.Cache.length := by omega
    subst h3x
    refine cx_exit rfl ?_
    refine cx_keep rfl rfl (cx_seq (cx_ops ?_))
    refine ax_q (q_mov rfl) ?_
    refine ax_nil (cx_keep rfl rfl ?_)
    refine cx_ret (ret0 rfl rfl ?_)
    exact ⟨by unfold diskOK; rw [h0, any_all (fun i hi => hb i (by omega)), any_all (fun i hi => hc i (by omega))]; rfl, rfl⟩


/- loop.example/g00332/spec.l04ReadCheck -/
def k_c_l04ReadCheck : XCode :=
 .seq (.ops [.op (some 2) (.mov (.k (.nils 2))),
   .op (some 3) (.mov (.k (.nils 2))),
   .op (some 4) (.mov (.k (.bool false)))])
 (.keep [0] (.seq (.ops [.op (some 10) (.bslice 2 []),
   .op (some 11) (.bslice 2 []),
   .op (some 12) (.bslice 1 [.t 10, .t 11]),
   .op (some 5) (.mov (.t 12))])
 (.keep [0, 5] (.seq (.ops [.op (some 6) (.mov (.k (.int .i64 0)))])
 (.keep [0, 5, 6] (.seq (.seq (.ops [.op (some 7) (.mov (.k (.int .i64 0)))])
  (.keep [0, 5, 6, 7] (.block 0 (.loop (.seq (.seq (.ops [.op (some 13) (.mov (.t 7)),
     .op (some 14) (.bin .lss (.t 13) (.k (.int .i64 2)))])
   (.keep [0, 5, 6, 7, 14] (.cond (.t 14)
    (.skip)
    (.exit 0))))
   (.keep [0, 5, 6, 7] (.seq (.block 1 (.seq (.seq (.ops [.op (some 17) (.mov (.t 6)),
      .op (some 18) (.mov (.t 0)),
      .op (some 19) (.lenT (.t 18)),
      .op (some 20) (.bin .geq (.t 17) (.t 19))])
    (.keep [0, 5, 6, 7, 20] (.cond (.t 20)
     (.seq (.draw [.op (some 21) (.mov (.t 5)),
       .op (some 22) (.iadr 1 (.t 21) (.k (.int .i64 0))),
       .op (some 23) (.load1 (.t 22)),
       .op (some 24) (.mov (.t 5)),
       .op (some 25) (.iadr 1 (.t 24) (.k (.int .i64 1))),
       .op (some 26) (.load1 (.t 25)),
       .op (some 2) (.mov (.t 23)),
       .op (some 3) (.mov (.t 26)),
       .op (some 4) (.mov (.k (.bool false)))])
     (.keep [2, 3, 4] (.ret)))
     (.skip))))
    (.keep [0, 5, 6, 7] (.seq (.ops [.op (some 27) (.mov (.t 0)),
     .op (some 28) (.mov (.t 6)),
     .op (some 29) (.idxS (.t 27) (.t 28)),
     .op (some 30) (.conv .i64 (.t 29)),
     .op (some 8) (.mov (.t 30))])
    (.keep [0, 5, 6, 7, 8] (.seq (.ops [.op (some 31) (.mov (.t 6)),
     .op (some 32) (.bin .add (.t 31) (.k (.int .i64 1))),
     .op (some 6) (.mov (.t 32))])
    (.keep [0, 5, 6, 7, 8] (.seq (.seq (.ops [.op (some 33) (.mov (.t 6)),
      .op (some 34) (.mov (.t 8)),
      .op (some 35) (.bin .mul (.k (.int .i64 2)) (.t 34)),
      .op (some 36) (.bin .add (.t 33) (.t 35)),
      .op (some 37) (.mov (.t 0)),
      .op (some 38) (.lenT (.t 37)),
      .op (some 39) (.bin .gtr (.t 36) (.t 38))])
    (.keep [0, 5, 6, 7, 8, 39] (.cond (.t 39)
     (.seq (.draw [.op (some 40) (.mov (.t 5)),
       .op (some 41) (.iadr 1 (.t 40) (.k (.int .i64 0))),
       .op (some 42) (.load1 (.t 41)),
       .op (some 43) (.mov (.t 5)),
       .op (some 44) (.iadr 1 (.t 43) (.k (.int .i64 1))),
       .op (some 45) (.load1 (.t 44)),
       .op (some 2) (.mov (.t 42)),
       .op (some 3) (.mov (.t 45)),
       .op (some 4) (.mov (.k (.bool false)))])
     (.keep [2, 3, 4] (.ret)))
     (.skip))))
    (.keep [0, 5, 6, 7, 8] (.seq (.ops [.op (some 9) (.mov (.k (.int .i64 0)))])
    (.keep [0, 5, 6, 7, 8, 9] (.block 2 (.loop (.seq (.seq (.ops [.op (some 46) (.mov (.t 9)),
       .op (some 47) (.mov (.t 8)),
       .op (some 48) (.bin .lss (.t 46) (.t 47))])
     (.keep [0, 5, 6, 7, 8, 9, 48] (.cond (.t 48)
      (.skip)
      (.exit 2))))
     (.keep [0, 5, 6, 7, 8, 9] (.seq (.block 3 (.seq (.drawE [[], [], [], [], [2, 3], [2, 3, 4], [], [], [6, 7], [6, 7, 8], [], [], [11], [10, 11, 12], [10, 11, 12, 13], [6, 7, 8, 9, 10, 11, 12, 13, 14], [6, 7, 8, 9, 10, 11, 12, 13, 14, 15], [2, 3, 4, 5, 6, 7, 8, 9, 10, 11, 12, 13, 14, 15, 16], [0, 1, 2, 3, 4, 5, 6, 7, 8, 9, 10, 11, 12, 13, 14, 15, 16, 17], [0, 1, 2, 3, 4, 5, 6, 7, 8, 9, 10, 11, 12, 13, 14, 15, 16, 17, 18]] [.op (some 51) (.mov (.t 5)),
       .op (some 52) (.mov (.t 7)),
       .op (some 53) (.mov (.t 5)),
       .op (some 54) (.mov (.t 7)),
       .op (some 55) (.iadr 1 (.t 53) (.t 54)),
       .op (some 56) (.load1 (.t 55)),
       .op (some 57) (.mov (.t 0)),
       .op (some 58) (.mov (.t 6)),
       .op (some 59) (.idxS (.t 57) (.t 58)),
       .op (some 60) (.conv .i64 (.t 59)),
       .op (some 61) (.mov (.t 0)),
       .op (some 62) (.mov (.t 6)),
       .op (some 63) (.bin .add (.t 62) (.k (.int .i64 1))),
       .op (some 64) (.idxS (.t 61) (.t 63)),
       .op (some 65) (.conv .i64 (.t 64)),
       .op (some 66) (.build [.int .i64 0, .int .i64 0] [(0, 1, .t 60), (1, 1, .t 65)]),
       .op (some 67) (.bslice 2 [.t 66]),
       .op (some 68) (.app 2 16 [.int .i64 0, .int .i64 0] (.t 56) (.t 67))]
       [.op (some 69) (.iadr 1 (.t 51) (.t 52)),
       .op none (.store 1 (.t 69) (.t 68))])
      (.keep [0, 5, 6, 7, 8, 9] (.ops [.op (some 70) (.mov (.t 6)),
       .op (some 71) (.bin .add (.t 70) (.k (.int .i64 2))),
       .op (some 6) (.mov (.t 71))]))))
     (.keep [0, 5, 6, 7, 8, 9] (.ops [.op (some 49) (.mov (.t 9)),
      .op (some 50) (.bin .add (.t 49) (.k (.int .i64 1))),
      .op (some 9) (.mov (.t 50))]))))))))))))))))))
   (.keep [0, 5, 6, 7] (.ops [.op (some 15) (.mov (.t 7)),
    .op (some 16) (.bin .add (.t 15) (.k (.int .i64 1))),
    .op (some 7) (.mov (.t 16))])))))))))
 (.keep [0, 5, 6] (.seq (.draw [.op (some 72) (.mov (.t 5)),
   .op (some 73) (.iadr 1 (.t 72) (.k (.int .i64 0))),
   .op (some 74) (.load1 (.t 73)),
   .op (some 75) (.mov (.t 5)),
   .op (some 76) (.iadr 1 (.t 75) (.k (.int .i64 1))),
   .op (some 77) (.load1 (.t 76)),
   .op (some 78) (.mov (.t 6)),
   .op (some 79) (.mov (.t 0)),
   .op (some 80) (.lenT (.t 79)),
   .op (some 81) (.bin .eql (.t 78) (.t 80)),
   .op (some 2) (.mov (.t 74)),
   .op (some 3) (.mov (.t 77)),
   .op (some 4) (.mov (.t 81))])
 (.keep [2, 3, 4] (.ret))))))))))
theorem k_c_l04ReadCheck_fits : fitsF Tryz.prog 165 ⟨82, k_c_l04ReadCheck, [.t 2, .t 3, .t 4]⟩ = true := by kernel_rfl
set_option maxHeartbeats 4000000 in
theorem c_l04ReadCheck {t : Str} (hl : t.length ≤ 1048576) : Con Tryz.prog noMv 165 [str t] [] (fun r h => r = .tup [.d (.sl 2 ((readX t).1.map prRow)), .d (.sl 2 ((readX t).2.1.map prRow)), bool (readX t).2.2] ∧ h = []) := by
 refine con_of2 k_c_l04ReadCheck_fits rfl fun C hP hmv => ?_
 unfold k_c_l04ReadCheck
 refine cx_seq (cx_ops ?_)
 refine ax_q (q_mov rfl) ?_
 refine ax_q (q_mov rfl) ?_
 refine ax_q (q_mov rfl) ?_
 refine ax_nil (cx_keep rfl rfl (cx_seq (cx_ops ?_)))
 refine ax_e (e_bslice rfl (by decide) rfl rfl) ?_
 refine ax_e (e_bslice rfl (by decide) rfl rfl) ?_
 refine ax_e (e_bsliceB rfl rfl rfl (by decide) rfl rfl) ?_
 refine ax_q (q_mov rfl) ?_
 refine ax_nil (cx_keep rfl rfl (cx_seq (cx_ops ?_)))
 refine ax_q (q_mov rfl) ?_
 refine ax_nil (cx_keep rfl rfl (cx_seq (cx_seq (cx_ops ?_))))
 refine ax_q (q_mov rfl) ?_
 refine ax_nil (cx_keep rfl rfl (cx_block ?_))
 refine cx_loopU (fun m (s : Nat × List Pr × List Pr × Nat) => m = 2 - s.1 ∧ CkInv t s.1 s.2.1 s.2.2.1 s.2.2.2) (fun s => [(6, int (s.2.2.2 : Nat)), (7, int (s.1 : Nat))]) (fun s => [(12, .box [.osl 10 2 0 s.2.1.length, .osl 11 2 0 s.2.2.1.length]), (10, .rows 2 (s.2.1.map prRow)), (11, .rows 2 (s.2.2.1.map prRow))]) ⟨_, (0, [], [], 0), ⟨rfl, ck0⟩, by repeat constructor⟩ ?_
 rintro m ⟨k, l1, l2, p⟩ ⟨rfl, hk⟩
 simp only at hk ⊢
 obtain ⟨hp, hl1, hl2, hk⟩ := hk
 refine cx_seq (cx_seq (cx_ops ?_))
 refine ax_q (q_mov rfl) ?_
 refine ax_q (q_ibin rfl rfl rfl) ?_
 refine ax_nil (cx_keep rfl rfl ?_)
 refine cx_cond rfl (fun h0 => ?_) (fun h0 => ?_)
 ·
  have h0 := dT h0
  have hk : (k = 0 ∧ l1 = [] ∧ l2 = [] ∧ p = 0) ∨ (k = 1 ∧ l2 = [] ∧ readX t = stage2 l1 (t.drop p)) := by
   rcases hk with h | h | ⟨h, _⟩
   ·
    exact .inl h
   ·
    exact .inr h
   ·
    omega
  rcases hk with ⟨rfl, rfl, rfl, rfl⟩ | ⟨rfl, rfl, hkk⟩
  ·
   skip
   refine cx_skip ?_
   refine cx_keep rfl rfl (cx_seq (cx_block (cx_seq (cx_seq (cx_ops ?_)))))
   refine ax_q (q_mov rfl) ?_
   refine ax_q (q_mov rfl) ?_
   refine ax_q (q_lenT rfl) ?_
   refine ax_q (q_ibin rfl rfl rfl) ?_
   refine ax_nil (cx_keep rfl rfl ?_)
   refine cx_cond rfl (fun h1 => ?_) (fun h1 => ?_)
   ·
    have h1 := dT h1
    refine cx_seq (cx_draw ?_)
    refine ax_q (q_mov rfl) ?_
    refine ax_q (q_ixB rfl rfl (by decide)) ?_
    refine ax_q (q_load1_ptr rfl rfl rfl) ?_
    refine ax_q (q_mov rfl) ?_
    refine ax_q (q_ixB rfl rfl (by decide)) ?_
    refine ax_q (q_load1_ptr rfl rfl rfl) ?_
    refine ax_q (q_mov rfl) ?_
    refine ax_q (q_mov rfl) ?_
    refine ax_q (q_mov rfl) ?_
    refine ax_nil (cx_keep rfl rfl ?_)
    refine cx_wk (wk_frz 2 10 rfl rfl (.whole (by simp)) rfl) ?_
    refine cx_wk (wk_frz 3 11 rfl rfl (.whole (by simp)) rfl) ?_
    refine cx_ret (ret0 rfl rfl ?_)
    rw [ck_a0 (by omega)]; exact ⟨rfl, rfl⟩
   ·
    have h1 := dF h1
    have h1x : 0 < t.length := by omega
    have hb := t[0].toNat_lt
    refine cx_skip ?_
    refine cx_keep rfl rfl (cx_seq (cx_ops ?_))
    refine ax_q (q_mov rfl) ?_
    refine ax_q (q_mov rfl) ?_
    refine ax_q (q_idxN rfl rfl (by first | assumption | omega)) ?_
    refine ax_q (q_convB rfl) ?_
    refine ax_q (q_mov rfl) ?_
    refine ax_nil (cx_keep rfl rfl (cx_seq (cx_ops ?_)))
    refine ax_q (q_mov rfl) ?_
    refine ax_q (q_add rfl rfl (by omega)) ?_
    refine ax_q (q_mov rfl) ?_
    refine ax_nil (cx_keep rfl rfl (cx_seq (cx_seq (cx_ops ?_))))
    refine ax_q (q_mov rfl) ?_
    refine ax_q (q_mov rfl) ?_
    refine ax_q (q_mul rfl rfl (by omega)) ?_
    refine ax_q (q_add rfl rfl (by omega)) ?_
    refine ax_q (q_mov rfl) ?_
    refine ax_q (q_lenT rfl) ?_
    refine ax_q (q_ibin rfl rfl rfl) ?_
    refine ax_nil (cx_keep rfl rfl ?_)
    refine cx_cond rfl (fun h2 => ?_) (fun h2 => ?_)
    ·
     have h2 := dT h2
     refine cx_seq (cx_draw ?_)
     refine ax_q (q_mov rfl) ?_
     refine ax_q (q_ixB rfl rfl (by decide)) ?_
     refine ax_q (q_load1_ptr rfl rfl rfl) ?_
     refine ax_q (q_mov rfl) ?_
     refine ax_q (q_ixB rfl rfl (by decide)) ?_
     refine ax_q (q_load1_ptr rfl rfl rfl) ?_
     refine ax_q (q_mov rfl) ?_
     refine ax_q (q_mov rfl) ?_
     refine ax_q (q_mov rfl) ?_
     refine ax_nil (cx_keep rfl rfl ?_)
     refine cx_wk (wk_frz 2 10 rfl rfl (.whole (by simp)) rfl) ?_
     refine cx_wk (wk_frz 3 11 rfl rfl (.whole (by simp)) rfl) ?_
     refine cx_ret (ret0 rfl rfl ?_)
     rw [ck_a1 (h := h1x) (by omega)]; exact ⟨rfl, rfl⟩
    ·
     have h2 := dF h2
     refine cx_skip ?_
     refine cx_keep rfl rfl (cx_seq (cx_ops ?_))
     refine ax_q (q_mov rfl) ?_
     refine ax_nil (cx_keep rfl rfl (cx_block ?_))
     obtain ⟨l, q1, q2, q3⟩ := @ck_list t (0 + 1) t[0].toNat (by omega)
     refine cx_loopU (fun m i => i ≤ t[0].toNat ∧ m = t[0].toNat - i) (fun i : Nat => [(6, int (((0 + 1 + 2 * i : Nat)) : Int)), (9, int (i : Nat))]) (fun i => [(12, .box [.osl 10 2 0 (l.take i).length, .osl 11 2 0 0]), (10, .rows 2 ((l.take i).map prRow)), (11, .rows 2 [])]) ⟨_, 0, ⟨Nat.zero_le _, rfl⟩, by repeat constructor⟩ ?_
     rintro m i ⟨hi, rfl⟩
     refine cx_seq (cx_seq (cx_ops ?_))
     refine ax_q (q_mov rfl) ?_
     refine ax_q (q_mov rfl) ?_
     refine ax_q (q_ibin rfl rfl rfl) ?_
     refine ax_nil (cx_keep rfl rfl ?_)
     refine cx_cond rfl (fun h3 => ?_) (fun h3 => ?_)
     ·
      have h3 := dT h3
      have e3 := q3 i (by omega) (by omega)
      refine cx_skip ?_
      refine cx_keep rfl rfl (cx_seq (cx_block (cx_seq ?_)))
      refine cx_drawL 17 68 (Nat.beq 10) (nrA 10) [] ([(10, .rows 2 ((l.take (i + 1)).map prRow))]) [[5], [7], [5], [7], [53, 54], [55], [0], [6], [57, 58], [59], [0], [6], [62], [61, 63], [64], [60, 65], [66], [56, 67]] [[10, 12], [10, 12], [], [], [], [], [], [], [], [], [], [], [], [], [], [], [], [10, 12]] rfl ?_
      first | refine ⟨_, .inr ⟨rfl, _, rfl, .inr ⟨rfl, rfl, .inr rfl, rfl, rfl⟩, loc_q (q_mov rfl)⟩, ?_⟩
      first | refine ⟨_, .inr ⟨rfl, _, rfl, .inr ⟨rfl, rfl, .inr rfl, rfl, rfl⟩, loc_q (q_mov rfl)⟩, ?_⟩
      first | refine ⟨_, .inr ⟨rfl, _, rfl, .inl rfl, loc_q (q_mov rfl)⟩, ?_⟩
      first | refine ⟨_, .inr ⟨rfl, _, rfl, .inl rfl, loc_q (q_mov rfl)⟩, ?_⟩
      first | refine ⟨_, .inr ⟨rfl, _, rfl, .inl rfl, loc_q (q_ixB rfl rfl (by decide))⟩, ?_⟩
      first | refine ⟨_, .inr ⟨rfl, _, rfl, .inl rfl, loc_q (q_load1_ptr rfl rfl rfl)⟩, ?_⟩
      first | refine ⟨_, .inr ⟨rfl, _, rfl, .inl rfl, loc_q (q_mov rfl)⟩, ?_⟩
      first | refine ⟨_, .inr ⟨rfl, _, rfl, .inl rfl, loc_q (q_mov rfl)⟩, ?_⟩
      first | refine ⟨_, .inr ⟨rfl, _, rfl, .inl rfl, loc_q (q_idxN rfl rfl (by first | assumption | omega))⟩, ?_⟩
      refine ⟨_, .inr ⟨rfl, _, rfl, .inl rfl, loc_q (q_convB rfl)⟩, ?_⟩
      first | refine ⟨_, .inr ⟨rfl, _, rfl, .inl rfl, loc_q (q_mov rfl)⟩, ?_⟩
      first | refine ⟨_, .inr ⟨rfl, _, rfl, .inl rfl, loc_q (q_mov rfl)⟩, ?_⟩
      first | refine ⟨_, .inr ⟨rfl, _, rfl, .inl rfl, loc_qe (r' := int ((0 + 1 + 2 * i + 1 : Nat) : Int)) (q_ibin rfl rfl rfl) (by rw [wi (by omega) (by omega)]; rfl)⟩, ?_⟩
      first | refine ⟨_, .inr ⟨rfl, _, rfl, .inl rfl, loc_q (q_idxN rfl rfl (by first | assumption | omega))⟩, ?_⟩
      refine ⟨_, .inr ⟨rfl, _, rfl, .inl rfl, loc_q (q_convB rfl)⟩, ?_⟩
      first | refine ⟨_, .inr ⟨rfl, _, rfl, .inl rfl, loc_q (q_build rfl)⟩, ?_⟩
      first | refine ⟨_, .inr ⟨rfl, _, rfl, .inl rfl, loc_bslice rfl⟩, ?_⟩
      refine ⟨⟨68, _, []⟩, .inl ⟨rfl, rfl, rfl, locl_app (n' := (l.take (i + 1)).length) (rs' := (l.take (i + 1)).map prRow) rfl rfl (by simp) rfl (fun _ _ h => src_osl (h _ _ rfl) (by simp)) (.inl (by decide)) (hbnd (by simp only [List.length_take]; omega) (by simp) (by decide)) (by simp only [List.drop_zero, Nat.min_self, List.length_take, List.length_cons, List.length_nil, Nat.min_eq_left (show i ≤ l.length by omega), Nat.min_eq_left (show i + 1 ≤ l.length by omega)]) ((congrArg (· ++ _) (List.take_of_length_le (by simp))).trans (take_pr e3))⟩, ?_⟩
      refine ⟨rfl, ?_⟩
      refine ax_q (q_ixB rfl rfl (by decide)) ?_
      refine ax_e (e_st rfl rfl rfl rfl rfl rfl rfl) ?_
      refine ax_nil (cx_keep rfl rfl (cx_ops ?_))
      refine ax_q (q_mov rfl) ?_
      refine ax_q (q_add rfl rfl (by omega)) ?_
      refine ax_q (q_mov rfl) ?_
      refine ax_nil (cx_keep rfl rfl (cx_ops ?_))
      refine ax_q (q_mov rfl) ?_
      refine ax_q (q_add rfl rfl (by omega)) ?_
      refine ax_q (q_mov rfl) ?_
      refine ax_nil ?_
      exact ⟨_, i + 1, by omega, ⟨by omega, rfl⟩, by repeat constructor⟩
     ·
      have h3 := dF h3
      obtain rfl : i = t[0].toNat := by omega
      have e4 : l.take t[0].toNat = l := List.take_of_length_le (by omega)
      rw [e4]
      refine cx_exit rfl ?_
      refine cx_keep rfl rfl (cx_ops ?_)
      refine ax_q (q_mov rfl) ?_
      refine ax_q (q_add rfl rfl (by omega)) ?_
      refine ax_q (q_mov rfl) ?_
      refine ax_nil ?_
      exact ⟨_, (1, l, [], 0 + 1 + 2 * t[0].toNat), by omega, ⟨rfl, ck_a2 q1 q2 (by omega)⟩, by repeat constructor⟩
  ·
   skip
   refine cx_skip ?_
   refine cx_keep rfl rfl (cx_seq (cx_block (cx_seq (cx_seq (cx_ops ?_)))))
   refine ax_q (q_mov rfl) ?_
   refine ax_q (q_mov rfl) ?_
   refine ax_q (q_lenT rfl) ?_
   refine ax_q (q_ibin rfl rfl rfl) ?_
   refine ax_nil (cx_keep rfl rfl ?_)
   refine cx_cond rfl (fun h1 => ?_) (fun h1 => ?_)
   ·
    have h1 := dT h1
    refine cx_seq (cx_draw ?_)
    refine ax_q (q_mov rfl) ?_
    refine ax_q (q_ixB rfl rfl (by decide)) ?_
    refine ax_q (q_load1_ptr rfl rfl rfl) ?_
    refine ax_q (q_mov rfl) ?_
    refine ax_q (q_ixB rfl rfl (by decide)) ?_
    refine ax_q (q_load1_ptr rfl rfl rfl) ?_
    refine ax_q (q_mov rfl) ?_
    refine ax_q (q_mov rfl) ?_
    refine ax_q (q_mov rfl) ?_
    refine ax_nil (cx_keep rfl rfl ?_)
    refine cx_wk (wk_frz 2 10 rfl rfl (.whole (by simp)) rfl) ?_
    refine cx_wk (wk_frz 3 11 rfl rfl (.whole (by simp)) rfl) ?_
    refine cx_ret (ret0 rfl rfl ?_)
    rw [ck_b0 hkk (by omega)]; exact ⟨rfl, rfl⟩
   ·
    have h1 := dF h1
    have h1x : p < t.length := by omega
    have hb := t[p].toNat_lt
    refine cx_skip ?_
    refine cx_keep rfl rfl (cx_seq (cx_ops ?_))
    refine ax_q (q_mov rfl) ?_
    refine ax_q (q_mov rfl) ?_
    refine ax_q (q_idxN rfl rfl (by first | assumption | omega)) ?_
    refine ax_q (q_convB rfl) ?_
    refine ax_q (q_mov rfl) ?_
    refine ax_nil (cx_keep rfl rfl (cx_seq (cx_ops ?_)))
    refine ax_q (q_mov rfl) ?_
    refine ax_q (q_add rfl rfl (by omega)) ?_
    refine ax_q (q_mov rfl) ?_
    refine ax_nil (cx_keep rfl rfl (cx_seq (cx_seq (cx_ops ?_))))
    refine ax_q (q_mov rfl) ?_
    refine ax_q (q_mov rfl) ?_
    refine ax_q (q_mul rfl rfl (by omega)) ?_
    refine ax_q (q_add rfl rfl (by omega)) ?_
    refine ax_q (q_mov rfl) ?_
    refine ax_q (q_lenT rfl) ?_
    refine ax_q (q_ibin rfl rfl rfl) ?_
    refine ax_nil (cx_keep rfl rfl ?_)
    refine cx_cond rfl (fun h2 => ?_) (fun h2 => ?_)
    ·
     have h2 := dT h2
     refine cx_seq (cx_draw ?_)
     refine ax_q (q_mov rfl) ?_
     refine ax_q (q_ixB rfl rfl (by decide)) ?_
     refine ax_q (q_load1_ptr rfl rfl rfl) ?_
     refine ax_q (q_mov rfl) ?_
     refine ax_q (q_ixB rfl rfl (by decide)) ?_
     refine ax_q (q_load1_ptr rfl rfl rfl) ?_
     refine ax_q (q_mov rfl) ?_
     refine ax_q (q_mov rfl) ?_
     refine ax_q (q_mov rfl) ?_
     refine ax_nil (cx_keep rfl rfl ?_)
     refine cx_wk (wk_frz 2 10 rfl rfl (.whole (by simp)) rfl) ?_
     refine cx_wk (wk_frz 3 11 rfl rfl (.whole (by simp)) rfl) ?_
     refine cx_ret (ret0 rfl rfl ?_)
     rw [ck_b1 hkk (h := h1x) (by omega)]; exact ⟨rfl, rfl⟩
    ·
     have h2 := dF h2
     refine cx_skip ?_
     refine cx_keep rfl rfl (cx_seq (cx_ops ?_))
     refine ax_q (q_mov rfl) ?_
     refine ax_nil (cx_keep rfl rfl (cx_block ?_))
     obtain ⟨l, q1, q2, q3⟩ := @ck_list t (p + 1) t[p].toNat (by omega)
     refine cx_loopU (fun m i => i ≤ t[p].toNat ∧ m = t[p].toNat - i) (fun i : Nat => [(6, int (((p + 1 + 2 * i : Nat)) : Int)), (9, int (i : Nat))]) (fun i => [(12, .box [.osl 10 2 0 l1.length, .osl 11 2 0 (l.take i).length]), (10, .rows 2 (l1.map prRow)), (11, .rows 2 ((l.take i).map prRow))]) ⟨_, 0, ⟨Nat.zero_le _, rfl⟩, by repeat constructor⟩ ?_
     rintro m i ⟨hi, rfl⟩
     refine cx_seq (cx_seq (cx_ops ?_))
     refine ax_q (q_mov rfl) ?_
     refine ax_q (q_mov rfl) ?_
     refine ax_q (q_ibin rfl rfl rfl) ?_
     refine ax_nil (cx_keep rfl rfl ?_)
     refine cx_cond rfl (fun h3 => ?_) (fun h3 => ?_)
     ·
      have h3 := dT h3
      have e3 := q3 i (by omega) (by omega)
      refine cx_skip ?_
      refine cx_keep rfl rfl (cx_seq (cx_block (cx_seq ?_)))
      refine cx_drawL 17 68 (Nat.beq 11) (nrA 11) [] ([(11, .rows 2 ((l.take (i + 1)).map prRow))]) [[5], [7], [5], [7], [53, 54], [55], [0], [6], [57, 58], [59], [0], [6], [62], [61, 63], [64], [60, 65], [66], [56, 67]] [[11, 12], [11, 12], [], [], [], [], [], [], [], [], [], [], [], [], [], [], [], [11, 12]] rfl ?_
      first | refine ⟨_, .inr ⟨rfl, _, rfl, .inr ⟨rfl, rfl, .inr rfl, rfl, rfl⟩, loc_q (q_mov rfl)⟩, ?_⟩
      first | refine ⟨_, .inr ⟨rfl, _, rfl, .inr ⟨rfl, rfl, .inr rfl, rfl, rfl⟩, loc_q (q_mov rfl)⟩, ?_⟩
      first | refine ⟨_, .inr ⟨rfl, _, rfl, .inl rfl, loc_q (q_mov rfl)⟩, ?_⟩
      first | refine ⟨_, .inr ⟨rfl, _, rfl, .inl rfl, loc_q (q_mov rfl)⟩, ?_⟩
      first | refine ⟨_, .inr ⟨rfl, _, rfl, .inl rfl, loc_q (q_ixB rfl rfl (by decide))⟩, ?_⟩
      first | refine ⟨_, .inr ⟨rfl, _, rfl, .inl rfl, loc_q (q_load1_ptr rfl rfl rfl)⟩, ?_⟩
      first | refine ⟨_, .inr ⟨rfl, _, rfl, .inl rfl, loc_q (q_mov rfl)⟩, ?_⟩
      first | refine ⟨_, .inr ⟨rfl, _, rfl, .inl rfl, loc_q (q_mov rfl)⟩, ?_⟩
      first | refine ⟨_, .inr ⟨rfl, _, rfl, .inl rfl, loc_q (q_idxN rfl rfl (by first | assumption | omega))⟩, ?_⟩
      refine ⟨_, .inr ⟨rfl, _, rfl, .inl rfl, loc_q (q_convB rfl)⟩, ?_⟩
      first | refine ⟨_, .inr ⟨rfl, _, rfl, .inl rfl, loc_q (q_mov rfl)⟩, ?_⟩
      first | refine ⟨_, .inr ⟨rfl, _, rfl, .inl rfl, loc_q (q_mov rfl)⟩, ?_⟩
      first | refine ⟨_, .inr ⟨rfl, _, rfl, .inl rfl, loc_qe (r' := int ((p + 1 + 2 * i + 1 : Nat) : Int)) (q_ibin rfl rfl rfl) (by rw [wi (by omega) (by omega)]; rfl)⟩, ?_⟩
      first | refine ⟨_, .inr ⟨rfl, _, rfl, .inl rfl, loc_q (q_idxN rfl rfl (by first | assumption | omega))⟩, ?_⟩
      refine ⟨_, .inr ⟨rfl, _, rfl, .inl rfl, loc_q (q_convB rfl)⟩, ?_⟩
      first | refine ⟨_, .inr ⟨rfl, _, rfl, .inl rfl, loc_q (q_build rfl)⟩, ?_⟩
      first | refine ⟨_, .inr ⟨rfl, _, rfl, .inl rfl, loc_bslice rfl⟩, ?_⟩
      refine ⟨⟨68, _, []⟩, .inl ⟨rfl, rfl, rfl, locl_app (n' := (l.take (i + 1)).length) (rs' := (l.take (i + 1)).map prRow) rfl rfl (by simp) rfl (fun _ _ h => src_osl (h _ _ rfl) (by simp)) (.inl (by decide)) (hbnd (by simp only [List.length_take]; omega) (by simp) (by decide)) (by simp only [List.drop_zero, Nat.min_self, List.length_take, List.length_cons, List.length_nil, Nat.min_eq_left (show i ≤ l.length by omega), Nat.min_eq_left (show i + 1 ≤ l.length by omega)]) ((congrArg (· ++ _) (List.take_of_length_le (by simp))).trans (take_pr e3))⟩, ?_⟩
      refine ⟨rfl, ?_⟩
      refine ax_q (q_ixB rfl rfl (by decide)) ?_
      refine ax_e (e_st rfl rfl rfl rfl rfl rfl rfl) ?_
      refine ax_nil (cx_keep rfl rfl (cx_ops ?_))
      refine ax_q (q_mov rfl) ?_
      refine ax_q (q_add rfl rfl (by omega)) ?_
      refine ax_q (q_mov rfl) ?_
      refine ax_nil (cx_keep rfl rfl (cx_ops ?_))
      refine ax_q (q_mov rfl) ?_
      refine ax_q (q_add rfl rfl (by omega)) ?_
      refine ax_q (q_mov rfl) ?_
      refine ax_nil ?_
      exact ⟨_, i + 1, by omega, ⟨by omega, rfl⟩, by repeat constructor⟩
     ·
      have h3 := dF h3
      obtain rfl : i = t[p].toNat := by omega
      have e4 : l.take t[p].toNat = l := List.take_of_length_le (by omega)
      rw [e4]
      refine cx_exit rfl ?_
      refine cx_keep rfl rfl (cx_ops ?_)
      refine ax_q (q_mov rfl) ?_
      refine ax_q (q_add rfl rfl (by omega)) ?_
      refine ax_q (q_mov rfl) ?_
      refine ax_nil ?_
      exact ⟨_, (2, l1, l, p + 1 + 2 * t[p].toNat), by omega, ⟨rfl, ck_b2 hkk hl1 q1 q2 (by omega)⟩, by repeat constructor⟩
 ·
  have h0 := dF h0
  obtain ⟨rfl, hkk⟩ : k = 2 ∧ readX t = (l1, l2, decide (p = t.length)) := by
   rcases hk with ⟨h, _⟩ | ⟨h, _⟩ | h
   ·
    omega
   ·
    omega
   ·
    exact h
  refine cx_exit rfl ?_
  refine cx_keep rfl rfl (cx_seq (cx_draw ?_))
  refine ax_q (q_mov rfl) ?_
  refine ax_q (q_ixB rfl rfl (by decide)) ?_
  refine ax_q (q_load1_ptr rfl rfl rfl) ?_
  refine ax_q (q_mov rfl) ?_
  refine ax_q (q_ixB rfl rfl (by decide)) ?_
  refine ax_q (q_load1_ptr rfl rfl rfl) ?_
  refine ax_q (q_mov rfl) ?_
  refine ax_q (q_mov rfl) ?_
  refine ax_q (q_lenT rfl) ?_
  refine ax_q (q_ibin rfl rfl rfl) ?_
  refine ax_q (q_mov rfl) ?_
  refine ax_q (q_mov rfl) ?_
  refine ax_q (q_mov rfl) ?_
  refine ax_nil (cx_keep rfl rfl ?_)
  refine cx_wk (wk_frz 2 10 rfl rfl (.whole (by simp)) rfl) ?_
  refine cx_wk (wk_frz 3 11 rfl rfl (.whole (by simp)) rfl) ?_
  refine cx_ret (ret0 rfl rfl ?_)
  have e : decide ((p : Int) = (t.length : Int)) = decide (p = t.length) := by congr 1; exact propext (by omega)
  rw [hkk]; exact ⟨by rw [e]; rfl, rfl⟩

end Go.Proofs.YtcloaaakhojjgaaGreat
