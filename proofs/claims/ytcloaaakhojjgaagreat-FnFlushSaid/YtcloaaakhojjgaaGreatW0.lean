/- The walks: what each function computes, as a contract without a world (part 0). -/
import Derived.Test.YtcloaaakhojjgaaGreatProg
import Derived.Test.YtcloaaakhojjgaaGreatR
namespace Go.Proofs.YtcloaaakhojjgaaGreat
open Go Go.AM
set_option maxRecDepth 10000
set_option linter.unusedVariables false
set_option linter.unusedSimpArgs false
/- loop.example/g00332/spec.l00Source -/
def k_c_l00Source : XCode :=
 .seq (.ops [.op (some 2) (.mov (.k (.nilp)))])
 (.keep [0] (.seq (.ops [.op (some 3) (.mov (.t 0)),
   .op (some 4) (.mov (.t 0)),
   .op (some 5) (.lenS (.t 4)),
   .op (some 6) (.bin .rem (.t 5) (.k (.int .i64 1000))),
   .op (some 7) (.build [.nils 1, .int .i64 0, .int .i64 0] [(0, 1, .t 3), (2, 1, .t 6)]),
   .op (some 8) (.box (.t 7)),
   .op (some 2) (.mov (.t 8))])
 (.keep [2] (.ret))))
theorem k_c_l00Source_fits : fitsF Tryz.prog 24 ⟨9, k_c_l00Source, [.t 2]⟩ = true := by kernel_rfl
theorem c_l00Source {code : Str} (hl : code.length ≤ 1048576) : Con Tryz.prog noMv 24 [.d (.sl 1 (code.map byteRow))] [] (fun r h => r = .ptr 0 0 ∧ h = (srcOf code).h 0) := by
 refine con_of2 k_c_l00Source_fits rfl fun C hP hmv => ?_
 unfold k_c_l00Source
 refine cx_seq (cx_ops ?_)
 refine ax_q (q_mov rfl) ?_
 refine ax_nil (cx_keep rfl rfl (cx_seq (cx_ops ?_)))
 refine ax_q (q_mov rfl) ?_
 refine ax_q (q_mov rfl) ?_
 refine ax_q (q_lenS_map rfl) ?_
 refine ax_q (q_mod rfl rfl (by omega) (by omega)) ?_
 refine ax_q (q_build rfl) ?_
 refine ax_e (e_box rfl rfl (by decide) rfl rfl rfl) ?_
 refine ax_q (q_mov rfl) ?_
 refine ax_nil (cx_keep rfl rfl ?_)
 refine cx_ret (retN (fun _ => 0) [8] rfl rfl rfl rfl rfl ?_)
 exact ⟨rfl, rfl⟩


/- loop.example/g00332/spec.l02Write -/
def k_c_l02Write : XCode :=
 .seq (.ops [.op (some 3) (.box (.t 0)),
   .op (some 6) (.alloc [.nils 1, .nils 2, .bool false, .nils 1])])
 (.keep [1, 2, 3, 6] (.seq (.ops [.op (some 7) (.bslice 2 []),
   .op (some 8) (.fadr (.t 3) 1),
   .op (some 9) (.load1 (.t 8)),
   .op (some 10) (.app 2 24 [.int .i64 0, .str []] (.t 7) (.t 9)),
   .op (some 11) (.mov (.t 1)),
   .op (some 12) (.mov (.t 2)),
   .op (some 13) (.build [.int .i64 0, .str []] [(0, 1, .t 11), (1, 1, .t 12)]),
   .op (some 14) (.bslice 2 [.t 13]),
   .op (some 15) (.app 2 24 [.int .i64 0, .str []] (.t 10) (.t 14)),
   .op (some 16) (.fadr (.t 3) 1),
   .op none (.store 1 (.t 16) (.t 15))])
 (.keep [3, 6] (.seq (.ops [.op (some 17) (.loadN 4 (.t 3)),
   .op none (.store 4 (.t 6) (.t 17))])
 (.keep [6] (.ret))))))
theorem k_c_l02Write_fits : fitsF Tryz.prog 75 ⟨18, k_c_l02Write, [.cN 6 4]⟩ = true := by kernel_rfl
theorem c_l02Write {d : GDisk} {a : Int} {x : Str} (hw0 : d.Sectors.length ≤ 1048576) (hw1 : d.Cache.length ≤ 1048576) (hw2 : d.Keep.length ≤ 1048576) : Con Tryz.prog noMv 75 [d.av, int a, str x] [] (fun r h => r = .agg [.d (.sl 1 (d.Sectors.map strRow)), .osl 0 2 0 (d.Cache ++ [(⟨a, x⟩ : GPending)]).length, .d (.bool d.Armed), .d (.sl 1 (d.Keep.map intRow))] ∧ h = [(0, .rows 2 ((d.Cache ++ [(⟨a, x⟩ : GPending)]).map GPending.row))]) := by
 refine con_of2 k_c_l02Write_fits rfl fun C hP hmv => ?_
 unfold k_c_l02Write
 refine cx_seq (cx_ops ?_)
 refine ax_e (e_box rfl rfl (by decide) rfl rfl rfl) ?_
 refine ax_e (e_alloc (by decide) rfl rfl) ?_
 refine ax_nil (cx_keep rfl rfl (cx_seq (cx_ops ?_)))
 refine ax_e (e_bslice rfl (by decide) rfl rfl) ?_
 refine ax_q (q_fadr_ptr rfl) ?_
 refine ax_q (q_load1_ptr rfl rfl rfl) ?_
 refine ax_e (e_appn (n' := d.Cache.length) (rs' := d.Cache.map GPending.row) rfl rfl (Nat.le_refl _) rfl (src_sl 2 _) (.inl (by decide)) (by simp only [List.length_map, List.length_nil]; omega) (by simp) (by simp)) ?_
 refine ax_q (q_mov rfl) ?_
 refine ax_q (q_mov rfl) ?_
 refine ax_q (q_build rfl) ?_
 refine ax_e (e_bslice rfl (by decide) rfl rfl) ?_
 refine ax_e (e_appn (n' := (d.Cache ++ [(⟨a, x⟩ : GPending)]).length) (rs' := (d.Cache ++ [(⟨a, x⟩ : GPending)]).map GPending.row) rfl rfl (by simp) rfl (src_osl rfl (by simp)) (.inl (by decide)) (hbnd (by omega) (by simp) (by decide)) (by simp) (app1 rfl)) ?_
 refine ax_q (q_fadr_ptr rfl) ?_
 refine ax_e (e_st rfl rfl rfl rfl rfl rfl rfl) ?_
 refine ax_nil (cx_keep rfl rfl (cx_seq (cx_ops ?_)))
 refine ax_q (q_ldN rfl rfl rfl) ?_
 refine ax_e (e_st rfl rfl rfl rfl rfl rfl rfl) ?_
 refine ax_nil (cx_keep rfl rfl ?_)
 refine cx_ret (retN (fun _ => 0) [7] rfl rfl rfl rfl rfl ?_)
 exact ⟨rfl, rfl⟩


/- loop.example/g00332/spec.l01Number -/
def k_c_l01Number : XCode :=
 .seq (.ops [.op (some 4) (.mov (.k (.nils 1)))])
 (.keep [0, 1] (.seq (.ops [.op (some 7) (.bslice 1 []),
   .op (some 5) (.mov (.t 7))])
 (.keep [0, 1, 5] (.seq (.seq (.ops [.op (some 8) (.mov (.t 1)),
   .op (some 9) (.bin .sub (.t 8) (.k (.int .i64 1))),
   .op (some 6) (.mov (.t 9))])
  (.keep [0, 5, 6] (.block 0 (.loop (.seq (.seq (.ops [.op (some 10) (.mov (.t 6)),
     .op (some 11) (.bin .geq (.t 10) (.k (.int .i64 0)))])
   (.keep [0, 5, 6, 11] (.cond (.t 11)
    (.skip)
    (.exit 0))))
   (.keep [0, 5, 6] (.seq (.block 1 (.ops [.op (some 14) (.mov (.t 5)),
     .op (some 15) (.mov (.t 0)),
     .op (some 16) (.mov (.t 6)),
     .op (some 17) (.bin .mul (.k (.int .i64 8)) (.t 16)),
     .op (some 18) (.conv .u64 (.t 17)),
     .op (some 19) (.bin .shr (.t 15) (.t 18)),
     .op (some 20) (.conv .u8 (.t 19)),
     .op (some 21) (.bslice 1 [.t 20]),
     .op (some 22) (.app 1 1 [.int .u8 0] (.t 14) (.t 21)),
     .op (some 5) (.mov (.t 22))]))
   (.keep [0, 5, 6] (.ops [.op (some 12) (.mov (.t 6)),
    .op (some 13) (.bin .sub (.t 12) (.k (.int .i64 1))),
    .op (some 6) (.mov (.t 13))])))))))))
 (.keep [5] (.seq (.ops [.op (some 23) (.mov (.t 5)),
   .op (some 4) (.mov (.t 23))])
 (.keep [4] (.ret))))))))
theorem k_c_l01Number_fits : fitsF Tryz.prog 169 ⟨24, k_c_l01Number, [.t 4]⟩ = true := by kernel_rfl
theorem c_l01Number {n : Int} {size : Nat} (hs : 1 ≤ size ∧ size ≤ 4) : Con Tryz.prog noMv 169 [int n, int size] [] (fun r h => r = .osl 0 1 0 (numT n size size).length ∧ h = [(0, .rows 1 ((numT n size size).map byteRow))]) := by
 refine con_of2 k_c_l01Number_fits rfl fun C hP hmv => ?_
 unfold k_c_l01Number
 refine cx_seq (cx_ops ?_)
 refine ax_q (q_mov rfl) ?_
 refine ax_nil (cx_keep rfl rfl (cx_seq (cx_ops ?_)))
 refine ax_e (e_bslice rfl (by decide) rfl rfl) ?_
 refine ax_q (q_mov rfl) ?_
 refine ax_nil (cx_keep rfl rfl (cx_seq (cx_seq (cx_ops ?_))))
 refine ax_q (q_mov rfl) ?_
 refine ax_qe (r' := int ((size : Int) - 1)) (q_ibin rfl rfl rfl) (wi (by omega) (by omega)) ?_
 refine ax_q (q_mov rfl) ?_
 refine ax_nil (cx_keep rfl rfl (cx_block ?_))
 refine cx_loopU (fun m k => k ≤ size ∧ m = size - k) (fun k : Nat => [(5, .osl 7 1 0 (numT n size k).length), (6, int ((size : Int) - 1 - k))]) (fun k => [(7, .rows 1 ((numT n size k).map byteRow))]) ⟨_, 0, ⟨Nat.zero_le _, rfl⟩, by rw [show (size : Int) - 1 - ((0 : Nat) : Int) = size - 1 from by omega]; exact (by repeat constructor)⟩ ?_
 rintro m k ⟨hk, rfl⟩
 refine cx_seq (cx_seq (cx_ops ?_))
 refine ax_q (q_mov rfl) ?_
 refine ax_q (q_ibin rfl rfl rfl) ?_
 refine ax_nil (cx_keep rfl rfl ?_)
 refine cx_cond rfl (fun h0 => ?_) (fun h0 => ?_)
 ·
  have h0 := dT h0
  have h0x : k < size := by omega
  obtain ⟨i, hi⟩ : ∃ i : Nat, i = size - 1 - k := ⟨_, rfl⟩
  have hnl := @numT_len n size k
  have hns : numT n size (k + 1) = numT n size k ++ [shB n (8 * (i : Int))] := by rw [hi]; exact numT_succ
  refine cx_skip ?_
  refine cx_keep rfl rfl (cx_seq (cx_block (cx_ops ?_)))
  refine ax_q (q_mov rfl) ?_
  refine ax_q (q_mov rfl) ?_
  refine ax_q (q_mov rfl) ?_
  refine ax_qe (r' := int (8 * (i : Int))) (q_ibin rfl rfl rfl) (by rw [wi (by omega) (by omega)]; exact congrArg AM.int (by omega)) ?_
  refine ax_qe (r' := .d (.int .u64 (8 * (i : Int)))) (q_conv rfl) (by rw [wr_u64 (by omega) (by omega)]) ?_
  refine ax_q (q_ishf rfl rfl rfl (by omega)) ?_
  first | refine ax_q (q_convB rfl) ?_ | refine ax_q (q_convI rfl (by omega)) ?_ | refine ax_q (q_convU8 rfl) ?_
  refine ax_e (e_bslice rfl (by decide) rfl rfl) ?_
  refine ax_e (e_appn (n' := (numT n size (k + 1)).length) (rs' := (numT n size (k + 1)).map byteRow) rfl rfl (by simp) rfl (src_osl rfl (by simp)) (.inl (by decide)) (hbnd (by omega) (by simp) (by decide)) (by rw [hns]; simp) (by rw [hns]; exact app1 rfl)) ?_
  refine ax_q (q_mov rfl) ?_
  refine ax_nil (cx_keep rfl rfl (cx_ops ?_))
  refine ax_q (q_mov rfl) ?_
  refine ax_qe (r' := int ((size : Int) - 1 - ((k + 1 : Nat) : Int))) (q_ibin rfl rfl rfl) (by rw [wi (by omega) (by omega)]; exact congrArg AM.int (by omega)) ?_
  refine ax_q (q_mov rfl) ?_
  refine ax_nil ?_
  exact ⟨_, k + 1, by omega, ⟨by omega, rfl⟩, by repeat constructor⟩
 ·
  have h0 := dF h0
  obtain rfl : k = size := by omega
  refine cx_exit rfl ?_
  refine cx_keep rfl rfl (cx_seq (cx_ops ?_))
  refine ax_q (q_mov rfl) ?_
  refine ax_q (q_mov rfl) ?_
  refine ax_nil (cx_keep rfl rfl ?_)
  refine cx_ret (retN (fun _ => 0) [7] rfl rfl rfl rfl rfl ?_)
  exact ⟨rfl, rfl⟩


/- loop.example/g00332/spec.l01Check -/
def k_c_l01Check : XCode :=
 .seq (.ops [.op (some 2) (.mov (.k (.int .i64 0)))])
 (.keep [0] (.seq (.ops [.op (some 3) (.mov (.k (.int .i64 4294967295)))])
 (.keep [0, 3] (.seq (.seq (.ops [.op (some 4) (.mov (.k (.int .i64 0)))])
  (.keep [0, 3, 4] (.block 0 (.loop (.seq (.seq (.ops [.op (some 6) (.mov (.t 4)),
     .op (some 7) (.mov (.t 0)),
     .op (some 8) (.lenS (.t 7)),
     .op (some 9) (.bin .lss (.t 6) (.t 8))])
   (.keep [0, 3, 4, 9] (.cond (.t 9)
    (.skip)
    (.exit 0))))
   (.keep [0, 3, 4] (.seq (.block 1 (.seq (.ops [.op (some 12) (.mov (.t 3)),
     .op (some 13) (.mov (.t 0)),
     .op (some 14) (.mov (.t 4)),
     .op (some 15) (.iadr 1 (.t 13) (.t 14)),
     .op (some 16) (.load1 (.t 15)),
     .op (some 17) (.conv .i64 (.t 16)),
     .op (some 18) (.bin .xor (.t 12) (.t 17)),
     .op (some 3) (.mov (.t 18))])
    (.keep [0, 3, 4] (.seq (.ops [.op (some 5) (.mov (.k (.int .i64 0)))])
    (.keep [0, 3, 4, 5] (.block 2 (.loop (.seq (.seq (.ops [.op (some 19) (.mov (.t 5)),
       .op (some 20) (.bin .lss (.t 19) (.k (.int .i64 8)))])
     (.keep [0, 3, 4, 5, 20] (.cond (.t 20)
      (.skip)
      (.exit 2))))
     (.keep [0, 3, 4, 5] (.seq (.block 3 (.ops [.op (some 23) (.mov (.t 3)),
       .op (some 24) (.bin .shr (.t 23) (.k (.int .u64 1))),
       .op (some 25) (.mov (.t 3)),
       .op (some 26) (.bin .and (.t 25) (.k (.int .i64 1))),
       .op (some 27) (.bin .mul (.t 26) (.k (.int .i64 3988292384))),
       .op (some 28) (.bin .xor (.t 24) (.t 27)),
       .op (some 3) (.mov (.t 28))]))
     (.keep [0, 3, 4, 5] (.ops [.op (some 21) (.mov (.t 5)),
      .op (some 22) (.bin .add (.t 21) (.k (.int .i64 1))),
      .op (some 5) (.mov (.t 22))]))))))))))))
   (.keep [0, 3, 4] (.ops [.op (some 10) (.mov (.t 4)),
    .op (some 11) (.bin .add (.t 10) (.k (.int .i64 1))),
    .op (some 4) (.mov (.t 11))])))))))))
 (.keep [3] (.seq (.ops [.op (some 29) (.mov (.t 3)),
   .op (some 30) (.bin .xor (.t 29) (.k (.int .i64 4294967295))),
   .op (some 2) (.mov (.t 30))])
 (.keep [2] (.ret))))))))
theorem k_c_l01Check_fits : fitsF Tryz.prog 170 ⟨31, k_c_l01Check, [.t 2]⟩ = true := by kernel_rfl
theorem c_l01Check {l : Str} (hl : l.length ≤ 1048576) : Con Tryz.prog noMv 170 [.d (.sl 1 (l.map byteRow))] [] (fun r h => r = int (crcN l) ∧ h = []) := by
 refine con_of2 k_c_l01Check_fits rfl fun C hP hmv => ?_
 unfold k_c_l01Check
 refine cx_seq (cx_ops ?_)
 refine ax_q (q_mov rfl) ?_
 refine ax_nil (cx_keep rfl rfl (cx_seq (cx_ops ?_)))
 refine ax_q (q_mov rfl) ?_
 refine ax_nil (cx_keep rfl rfl (cx_seq (cx_seq (cx_ops ?_))))
 refine ax_q (q_mov rfl) ?_
 refine ax_nil (cx_keep rfl rfl (cx_block ?_))
 refine cx_loopU (fun n k => k ≤ l.length ∧ n = l.length - k) (fun k : Nat => [(3, int (crcS (l.take k))), (4, int k)]) (fun _ => []) ⟨_, 0, ⟨Nat.zero_le _, rfl⟩, by repeat constructor⟩ ?_
 rintro n k ⟨hk, rfl⟩
 refine cx_seq (cx_seq (cx_ops ?_))
 refine ax_q (q_mov rfl) ?_
 refine ax_q (q_mov rfl) ?_
 refine ax_q (q_lenS_map rfl) ?_
 refine ax_q (q_ibin rfl rfl rfl) ?_
 refine ax_nil (cx_keep rfl rfl ?_)
 refine cx_cond rfl (fun h0 => ?_) (fun h0 => ?_)
 ·
  have h0 := dT h0
  have h0x : k < l.length := by omega
  have hlt : crcS (l.take k) < 4294967296 := crcS_lt
  have hxb : (crcS (l.take k) ^^^ l[k].toNat) < 4294967296 := xb_lt hlt
  have hc := l[k].toNat_lt
  refine cx_skip ?_
  refine cx_keep rfl rfl (cx_seq (cx_block (cx_seq (cx_ops ?_))))
  refine ax_q (q_mov rfl) ?_
  refine ax_q (q_mov rfl) ?_
  refine ax_q (q_mov rfl) ?_
  refine ax_q (q_ix rfl rfl (mapAt h0x)) ?_
  first | refine ax_q (q_load1_ptr rfl rfl rfl) ?_ | refine ax_q (q_load1_ip rfl) ?_
  refine ax_q (q_convB rfl) ?_
  refine ax_qe (r' := int ((crcS (l.take k) ^^^ l[k].toNat : Nat) : Int)) (q_ibit rfl rfl rfl) (by rw [x64 hlt (by omega)]) ?_
  refine ax_q (q_mov rfl) ?_
  refine ax_nil (cx_keep rfl rfl (cx_seq (cx_ops ?_)))
  refine ax_q (q_mov rfl) ?_
  refine ax_nil (cx_keep rfl rfl (cx_block ?_))
  refine cx_loopU (fun n j => j ≤ 8 ∧ n = 8 - j) (fun j : Nat => [(3, int (bitsN j (crcS (l.take k) ^^^ l[k].toNat))), (5, int j)]) (fun _ => []) ⟨_, 0, ⟨Nat.zero_le _, rfl⟩, by repeat constructor⟩ ?_
  rintro n j ⟨hj, rfl⟩
  refine cx_seq (cx_seq (cx_ops ?_))
  refine ax_q (q_mov rfl) ?_
  refine ax_q (q_ibin rfl rfl rfl) ?_
  refine ax_nil (cx_keep rfl rfl ?_)
  refine cx_cond rfl (fun h1 => ?_) (fun h1 => ?_)
  ·
   have h1 := dT h1
   have hbl : bitsN j (crcS (l.take k) ^^^ l[k].toNat) < 4294967296 := bitsN_lt hxb j
   have hm2 := Nat.mod_lt (bitsN j (crcS (l.take k) ^^^ l[k].toNat)) (show 0 < 2 by omega)
   refine cx_skip ?_
   refine cx_keep rfl rfl (cx_seq (cx_block (cx_ops ?_)))
   refine ax_q (q_mov rfl) ?_
   refine ax_qe (r' := int ((bitsN j (crcS (l.take k) ^^^ l[k].toNat) / 2 : Nat) : Int)) (q_ishf rfl rfl rfl (by omega)) (congrArg AM.int sh1) ?_
   refine ax_q (q_mov rfl) ?_
   refine ax_qe (r' := int ((bitsN j (crcS (l.take k) ^^^ l[k].toNat) % 2 : Nat) : Int)) (q_ibit rfl rfl rfl) (by rw [a64 hbl]) ?_
   refine ax_qe (r' := int ((bitsN j (crcS (l.take k) ^^^ l[k].toNat) % 2 * 3988292384 : Nat) : Int)) (q_ibin rfl rfl rfl) (by rw [wi (by omega) (by omega)]; exact congrArg AM.int (by omega)) ?_
   refine ax_qe (r' := int (bitsN (j + 1) (crcS (l.take k) ^^^ l[k].toNat) : Nat)) (q_ibit rfl rfl rfl) (congrArg AM.int (bit1_x64 hbl)) ?_
   refine ax_q (q_mov rfl) ?_
   refine ax_nil (cx_keep rfl rfl (cx_ops ?_))
   refine ax_q (q_mov rfl) ?_
   refine ax_qe (r' := int ((j + 1 : Nat) : Int)) (q_ibin rfl rfl rfl) (by rw [wi (by omega) (by omega)]; rfl) ?_
   refine ax_q (q_mov rfl) ?_
   refine ax_nil ?_
   exact ⟨_, j + 1, by omega, ⟨by omega, rfl⟩, by repeat constructor⟩
  ·
   have h1 := dF h1
   obtain rfl : j = 8 := by omega
   refine cx_exit rfl ?_
   refine cx_keep rfl rfl (cx_ops ?_)
   refine ax_q (q_mov rfl) ?_
   refine ax_qe (r' := int ((k + 1 : Nat) : Int)) (q_ibin rfl rfl rfl) (by rw [wi (by omega) (by omega)]; rfl) ?_
   refine ax_q (q_mov rfl) ?_
   refine ax_nil ?_
   exact ⟨_, k + 1, by omega, ⟨by omega, rfl⟩, by rw [crcS_succ h0x]; exact (by repeat constructor)⟩
 ·
  have h0 := dF h0
  obtain rfl : k = l.length := by omega
  refine cx_exit rfl ?_
  refine cx_keep rfl rfl (cx_seq (cx_ops ?_))
  refine ax_q (q_mov rfl) ?_
  refine ax_qe (r' := int (crcN l)) (q_ibit rfl rfl rfl) (by rw [List.take_length]; exact congrArg AM.int (x64 (b := 4294967295) crcS_lt (by omega))) ?_
  refine ax_q (q_mov rfl) ?_
  refine ax_nil (cx_keep rfl rfl ?_)
  refine cx_ret (ret0 rfl rfl ?_)
  exact ⟨rfl, rfl⟩


/- loop.example/g00332/spec.l03Sealed -/
def k_c_l03Sealed : XCode :=
 .seq (.ops [.op (some 2) (.mov (.k (.nils 1)))])
 (.keep [0] (.seq (.ops [.op (some 3) (.mov (.t 0)),
   .op (some 4) (.mov (.t 0)),
   .call (some 5) 170 [.t 4],
   .call (some 6) 169 [.t 5, .k (.int .i64 4)],
   .op (some 7) (.app 1 1 [.int .u8 0] (.t 3) (.t 6)),
   .op (some 2) (.mov (.t 7))])
 (.keep [2] (.ret))))
theorem k_c_l03Sealed_fits : fitsF Tryz.prog 128 ⟨8, k_c_l03Sealed, [.t 2]⟩ = true := by kernel_rfl
theorem c_l03Sealed {b : Str} (hb : b.length ≤ 1000000) : Con Tryz.prog (fun e => Nat.beq e 1000) 128 [.osl 1000 1 0 b.length] [(1000, .rows 1 (b.map byteRow))] (fun r h => r = .osl 1000 1 0 (sealB b).length ∧ h = [(1000, .rows 1 ((sealB b).map byteRow))]) := by
 refine con_of2 k_c_l03Sealed_fits rfl fun C hP hmv => ?_
 unfold k_c_l03Sealed
 refine cx_seq (cx_ops ?_)
 refine ax_q (q_mov rfl) ?_
 refine ax_nil (cx_keep rfl rfl (cx_seq (cx_ops ?_)))
 refine ax_q (q_mov rfl) ?_
 refine ax_q (q_mov rfl) ?_
 have hcl := @crcN_lt b
 refine ax_call rfl (vc_lend0 (c_l01Check (l := b) (by omega)) hP (.cons (.lend (lend_whole rfl (by simp))) .nil) rfl rfl ?_)
 refine ax_call rfl (vc_pure (c_l01Number (n := (crcN b : Int)) (size := 4) ?_) hP rfl ?_)
 ·
  first | assumption | omega
 rintro r h ⟨rfl, rfl⟩
 refine ⟨fun i => 6 + 200 * i, [0], ⟨rfl, rfl, rfl, rfl, rfl, (by first | exact (fun h => absurd h Bool.false_ne_true) | exact (fun _ => ⟨rfl, (noisl_of (by repeat (first | exact trivial | refine ⟨noisl_map (fun _ => rfl), ?_⟩ | refine ⟨?_, ?_⟩)))⟩))⟩, ?_⟩
 skip
 refine ax_e (e_appn (n' := (sealB b).length) (rs' := (sealB b).map byteRow) rfl rfl (by simp) rfl (src_osl rfl (by simp)) (.inr (by rw [hmv]; rfl)) (hbnd (by omega) (by rw [len_rows, numT_len]; omega) (by decide)) (by rw [len_rows, seal_len, numT_len]) (by rw [app_rows, numT_4]; rfl)) ?_
 refine ax_q (q_mov rfl) ?_
 refine ax_nil (cx_keep rfl rfl ?_)
 refine cx_ret (retN id [1000] rfl rfl rfl rfl rfl ?_)
 exact ⟨rfl, rfl⟩


/- loop.example/g00332/spec.l01Fields -/
def k_c_l01Fields : XCode :=
 .seq (.ops [.op (some 2) (.mov (.k (.nils 1)))])
 (.keep [0] (.seq (.ops [.op (some 5) (.mov (.t 0)),
   .op (some 6) (.lenS (.t 5)),
   .op (some 7) (.conv .u8 (.t 6)),
   .op (some 8) (.bslice 1 [.t 7]),
   .op (some 3) (.mov (.t 8))])
 (.keep [0, 3] (.seq (.seq (.ops [.op (some 4) (.mov (.k (.int .i64 0)))])
  (.keep [0, 3, 4] (.block 0 (.loop (.seq (.seq (.ops [.op (some 9) (.mov (.t 4)),
     .op (some 10) (.mov (.t 0)),
     .op (some 11) (.lenS (.t 10)),
     .op (some 12) (.bin .lss (.t 9) (.t 11))])
   (.keep [0, 3, 4, 12] (.cond (.t 12)
    (.skip)
    (.exit 0))))
   (.keep [0, 3, 4] (.seq (.block 1 (.drawE [[], [], [], [1, 2], [1, 2, 3], [1, 2, 3, 4], [1, 2, 3, 4, 5], [1, 2, 3, 4, 5, 6], [0, 1, 2, 3, 4, 5, 6, 7], [], [], [9, 10], [9, 10, 11], [0, 1, 2, 3, 4, 5, 6, 7, 8, 9, 10, 11, 12], [0, 1, 2, 3, 4, 5, 6, 7, 8, 9, 10, 11, 12, 13]] [.op (some 15) (.mov (.t 3)),
     .op (some 16) (.mov (.t 0)),
     .op (some 17) (.mov (.t 4)),
     .op (some 18) (.iadr 1 (.t 16) (.t 17)),
     .op (some 19) (.load1 (.t 18)),
     .op (some 20) (.lenT (.t 19)),
     .op (some 21) (.conv .u8 (.t 20)),
     .op (some 22) (.bslice 1 [.t 21]),
     .op (some 23) (.app 1 1 [.int .u8 0] (.t 15) (.t 22)),
     .op (some 24) (.mov (.t 0)),
     .op (some 25) (.mov (.t 4)),
     .op (some 26) (.iadr 1 (.t 24) (.t 25)),
     .op (some 27) (.load1 (.t 26))]
    [.op (some 28) (.app 1 1 [.int .u8 0] (.t 23) (.t 27)),
     .op (some 3) (.mov (.t 28))]))
   (.keep [0, 3, 4] (.ops [.op (some 13) (.mov (.t 4)),
    .op (some 14) (.bin .add (.t 13) (.k (.int .i64 1))),
    .op (some 4) (.mov (.t 14))])))))))))
 (.keep [3] (.seq (.ops [.op (some 29) (.mov (.t 3)),
   .op (some 2) (.mov (.t 29))])
 (.keep [2] (.ret))))))))
theorem k_c_l01Fields_fits : fitsF Tryz.prog 129 ⟨30, k_c_l01Fields, [.t 2]⟩ = true := by kernel_rfl
set_option maxHeartbeats 2000000 in
theorem c_l01Fields {ts : List Str} (ht : ts.length ≤ 255) (hs : ∀ t ∈ ts, t.length ≤ 1000) : Con Tryz.prog noMv 129 [.d (.sl 1 (ts.map strRow))] [] (fun r h => r = .osl 0 1 0 (putFs [] ts).length ∧ h = [(0, .rows 1 ((putFs [] ts).map byteRow))]) := by
 refine con_of2 k_c_l01Fields_fits rfl fun C hP hmv => ?_
 unfold k_c_l01Fields
 refine cx_seq (cx_ops ?_)
 refine ax_q (q_mov rfl) ?_
 refine ax_nil (cx_keep rfl rfl (cx_seq (cx_ops ?_)))
 refine ax_q (q_mov rfl) ?_
 refine ax_q (q_lenS_map rfl) ?_
 first | refine ax_q (q_convB rfl) ?_ | refine ax_q (q_convI rfl (by omega)) ?_ | refine ax_q (q_convU8 rfl) ?_
 refine ax_e (e_bslice rfl (by decide) rfl rfl) ?_
 refine ax_q (q_mov rfl) ?_
 refine ax_nil (cx_keep rfl rfl (cx_seq (cx_seq (cx_ops ?_))))
 refine ax_q (q_mov rfl) ?_
 refine ax_nil (cx_keep rfl rfl (cx_block ?_))
 refine cx_loopU (fun n k => k ≤ ts.length ∧ n = ts.length - k) (fun k : Nat => [(3, .osl 8 1 0 (putK [] ts k).length), (4, int k)]) (fun k => [(8, .rows 1 ((putK [] ts k).map byteRow))]) ⟨_, 0, ⟨Nat.zero_le _, rfl⟩, by rw [putK_0]; exact (by repeat constructor)⟩ ?_
 rintro n k ⟨hk, rfl⟩
 have hpl := @putK_len [] ts k
 rw [List.length_nil] at hpl
 have hlk := lenK_le hs k
 refine cx_seq (cx_seq (cx_ops ?_))
 refine ax_q (q_mov rfl) ?_
 refine ax_q (q_mov rfl) ?_
 refine ax_q (q_lenS_map rfl) ?_
 refine ax_q (q_ibin rfl rfl rfl) ?_
 refine ax_nil (cx_keep rfl rfl ?_)
 refine cx_cond rfl (fun h0 => ?_) (fun h0 => ?_)
 ·
  have h0 := dT h0
  have h0x : k < ts.length := by omega
  have hps := putK_succ (b := []) h0x
  have hs1 := hs _ (List.getElem_mem h0x)
  refine cx_skip ?_
  refine cx_keep rfl rfl (cx_seq (cx_block ?_))
  refine cx_drawL 8 23 (Nat.beq 8) (nrA 8) [] ([(8, .rows 1 ((putK [] ts k ++ [Go.AM.byteOf ts[k].length]).map byteRow))]) [[3], [0], [4], [16, 17], [18], [19], [20], [21], [15, 22], [0], [4], [24, 25], [26]] [[], [], [], [], [], [], [], [], [8], [8], [8], [8], [8]] rfl ?_
  first | refine ⟨_, .inr ⟨rfl, _, rfl, .inl rfl, loc_q (q_mov rfl)⟩, ?_⟩
  first | refine ⟨_, .inr ⟨rfl, _, rfl, .inl rfl, loc_q (q_mov rfl)⟩, ?_⟩
  first | refine ⟨_, .inr ⟨rfl, _, rfl, .inl rfl, loc_q (q_mov rfl)⟩, ?_⟩
  first | refine ⟨_, .inr ⟨rfl, _, rfl, .inl rfl, loc_q (q_ix rfl rfl (mapAt h0x))⟩, ?_⟩
  first | refine ⟨_, .inr ⟨rfl, _, rfl, .inl rfl, loc_q (q_load1_ptr rfl rfl rfl)⟩, ?_⟩ | refine ⟨_, .inr ⟨rfl, _, rfl, .inl rfl, loc_q (q_load1_ip rfl)⟩, ?_⟩
  first | refine ⟨_, .inr ⟨rfl, _, rfl, .inl rfl, loc_q (q_lenT rfl)⟩, ?_⟩
  first | refine ⟨_, .inr ⟨rfl, _, rfl, .inl rfl, loc_q (q_convB rfl)⟩, ?_⟩ | refine ⟨_, .inr ⟨rfl, _, rfl, .inl rfl, loc_q (q_convI rfl (by omega))⟩, ?_⟩ | refine ⟨_, .inr ⟨rfl, _, rfl, .inl rfl, loc_q (q_convU8 rfl)⟩, ?_⟩
  first | refine ⟨_, .inr ⟨rfl, _, rfl, .inl rfl, loc_bslice rfl⟩, ?_⟩
  refine ⟨⟨23, _, []⟩, .inl ⟨rfl, rfl, rfl, locl_app (n' := (putK [] ts k ++ [Go.AM.byteOf ts[k].length]).length) (rs' := (putK [] ts k ++ [Go.AM.byteOf ts[k].length]).map byteRow) rfl rfl (by simp) rfl (fun _ _ h => src_osl (h _ _ rfl) (by simp)) (.inl (by decide)) (hbnd (by omega) (by simp) (by decide)) (by simp) (app1 rfl)⟩, ?_⟩
  first | refine ⟨_, .inr ⟨rfl, _, rfl, .inr ⟨rfl, rfl, .inr rfl, rfl, rfl⟩, loc_q (q_mov rfl)⟩, ?_⟩
  first | refine ⟨_, .inr ⟨rfl, _, rfl, .inr ⟨rfl, rfl, .inr rfl, rfl, rfl⟩, loc_q (q_mov rfl)⟩, ?_⟩
  first | refine ⟨_, .inr ⟨rfl, _, rfl, .inr ⟨rfl, rfl, .inr rfl, rfl, rfl⟩, loc_q (q_ix rfl rfl (mapAt h0x))⟩, ?_⟩
  first | refine ⟨_, .inr ⟨rfl, _, rfl, .inr ⟨rfl, rfl, .inr rfl, rfl, rfl⟩, loc_q (q_load1_ptr rfl rfl rfl)⟩, ?_⟩ | refine ⟨_, .inr ⟨rfl, _, rfl, .inr ⟨rfl, rfl, .inr rfl, rfl, rfl⟩, loc_q (q_load1_ip rfl)⟩, ?_⟩
  refine ⟨rfl, ?_⟩
  refine ax_e (e_appn (n' := (putK [] ts (k + 1)).length) (rs' := (putK [] ts (k + 1)).map byteRow) rfl rfl (by simp) rfl (src_str _) (.inl (by decide)) (hbnd (by simp; omega) (by simp; omega) (by decide)) (by rw [hps]; simp; omega) (by rw [hps]; exact app_str)) ?_
  refine ax_q (q_mov rfl) ?_
  refine ax_nil (cx_keep rfl rfl (cx_ops ?_))
  refine ax_q (q_mov rfl) ?_
  refine ax_qe (r' := int ((k + 1 : Nat) : Int)) (q_ibin rfl rfl rfl) (by rw [wi (by omega) (by omega)]; rfl) ?_
  refine ax_q (q_mov rfl) ?_
  refine ax_nil ?_
  exact ⟨_, k + 1, by omega, ⟨by omega, rfl⟩, by repeat constructor⟩
 ·
  have h0 := dF h0
  obtain rfl : k = ts.length := by omega
  refine cx_exit rfl ?_
  refine cx_keep rfl rfl (cx_seq (cx_ops ?_))
  refine ax_q (q_mov rfl) ?_
  refine ax_q (q_mov rfl) ?_
  refine ax_nil (cx_keep rfl rfl ?_)
  refine cx_ret (retN (fun _ => 0) [8] rfl rfl rfl rfl rfl ?_)
  exact ⟨rfl, rfl⟩


/- loop.example/g00332/spec.l04Bytes -/
def k_c_l04Bytes : XCode :=
 .seq (.ops [.op (some 1) (.box (.t 0)),
   .op (some 2) (.mov (.k (.nils 1)))])
 (.keep [1] (.seq (.ops [.op (some 4) (.fadr (.t 1) 0),
   .op (some 5) (.load1 (.t 4)),
   .op (some 6) (.conv .u8 (.t 5)),
   .op (some 7) (.fadr (.t 1) 1),
   .op (some 8) (.load1 (.t 7)),
   .op (some 9) (.conv .u8 (.t 8)),
   .op (some 10) (.fadr (.t 1) 2),
   .op (some 11) (.load1 (.t 10)),
   .op (some 12) (.conv .u8 (.t 11)),
   .op (some 13) (.fadr (.t 1) 3),
   .op (some 14) (.load1 (.t 13)),
   .op (some 15) (.conv .u8 (.t 14)),
   .op (some 16) (.fadr (.t 1) 4),
   .op (some 17) (.load1 (.t 16)),
   .op (some 18) (.conv .u8 (.t 17)),
   .op (some 19) (.fadr (.t 1) 5),
   .op (some 20) (.load1 (.t 19)),
   .op (some 21) (.conv .u8 (.t 20)),
   .op (some 22) (.fadr (.t 1) 6),
   .op (some 23) (.load1 (.t 22)),
   .op (some 24) (.conv .u8 (.t 23)),
   .op (some 25) (.fadr (.t 1) 7),
   .op (some 26) (.load1 (.t 25)),
   .op (some 27) (.conv .u8 (.t 26)),
   .op (some 28) (.bslice 1 [.k (.int .u8 108), .t 6, .t 9, .t 12, .t 15, .t 18, .t 21, .t 24, .t 27]),
   .op (some 3) (.mov (.t 28))])
 (.keep [1, 3] (.seq (.ops [.op (some 29) (.mov (.t 3)),
   .op (some 30) (.fadr (.t 1) 8),
   .op (some 31) (.load1 (.t 30)),
   .op (some 32) (.fadr (.t 1) 9),
   .op (some 33) (.load1 (.t 32)),
   .op (some 34) (.bslice 1 [.t 31, .t 33]),
   .call (some 35) 129 [.t 34],
   .op (some 36) (.app 1 1 [.int .u8 0] (.t 29) (.t 35)),
   .call (some 37) 128 [.t 36],
   .op (some 2) (.mov (.t 37))])
 (.keep [2] (.ret))))))
theorem k_c_l04Bytes_fits : fitsF Tryz.prog 76 ⟨38, k_c_l04Bytes, [.t 2]⟩ = true := by kernel_rfl
theorem c_l04Bytes {r : GLogRecord} (hb : r.Before.length ≤ 1000) (ha : r.After.length ≤ 1000) : Con Tryz.prog noMv 76 [r.av] [] (fun q h => q = .osl 0 1 0 (rbF r).length ∧ h = [(0, .rows 1 ((rbF r).map byteRow))]) := by
 refine con_of2 k_c_l04Bytes_fits rfl fun C hP hmv => ?_
 unfold k_c_l04Bytes
 have hsl := two_len hb ha
 have hlk := lenK_le hsl 2
 have hpl : (putFs [108, Go.AM.byteOf r.Epoch, Go.AM.byteOf r.Lsn, Go.AM.byteOf r.Tx, Go.AM.byteOf r.Kind, Go.AM.byteOf r.Prev, Go.AM.byteOf r.Next, Go.AM.byteOf r.Page, Go.AM.byteOf r.Slot] [r.Before, r.After]).length ≤ 1000000 := by unfold putFs; rw [putK_len]; show 9 + 1 + lenK [r.Before, r.After] 2 ≤ _; omega
 have hpl2 : (putFs [] [r.Before, r.After]).length ≤ 1000000 := by unfold putFs; rw [putK_len]; show 0 + 1 + lenK [r.Before, r.After] 2 ≤ _; omega
 refine cx_seq (cx_ops ?_)
 refine ax_e (e_box rfl rfl (by decide) rfl rfl rfl) ?_
 refine ax_q (q_mov rfl) ?_
 refine ax_nil (cx_keep rfl rfl (cx_seq (cx_ops ?_)))
 refine ax_q (q_fadr_ptr rfl) ?_
 refine ax_q (q_load1_ptr rfl rfl rfl) ?_
 first | refine ax_q (q_convB rfl) ?_ | refine ax_q (q_convI rfl (by omega)) ?_ | refine ax_q (q_convU8 rfl) ?_
 refine ax_q (q_fadr_ptr rfl) ?_
 refine ax_q (q_load1_ptr rfl rfl rfl) ?_
 first | refine ax_q (q_convB rfl) ?_ | refine ax_q (q_convI rfl (by omega)) ?_ | refine ax_q (q_convU8 rfl) ?_
 refine ax_q (q_fadr_ptr rfl) ?_
 refine ax_q (q_load1_ptr rfl rfl rfl) ?_
 first | refine ax_q (q_convB rfl) ?_ | refine ax_q (q_convI rfl (by omega)) ?_ | refine ax_q (q_convU8 rfl) ?_
 refine ax_q (q_fadr_ptr rfl) ?_
 refine ax_q (q_load1_ptr rfl rfl rfl) ?_
 first | refine ax_q (q_convB rfl) ?_ | refine ax_q (q_convI rfl (by omega)) ?_ | refine ax_q (q_convU8 rfl) ?_
 refine ax_q (q_fadr_ptr rfl) ?_
 refine ax_q (q_load1_ptr rfl rfl rfl) ?_
 first | refine ax_q (q_convB rfl) ?_ | refine ax_q (q_convI rfl (by omega)) ?_ | refine ax_q (q_convU8 rfl) ?_
 refine ax_q (q_fadr_ptr rfl) ?_
 refine ax_q (q_load1_ptr rfl rfl rfl) ?_
 first | refine ax_q (q_convB rfl) ?_ | refine ax_q (q_convI rfl (by omega)) ?_ | refine ax_q (q_convU8 rfl) ?_
 refine ax_q (q_fadr_ptr rfl) ?_
 refine ax_q (q_load1_ptr rfl rfl rfl) ?_
 first | refine ax_q (q_convB rfl) ?_ | refine ax_q (q_convI rfl (by omega)) ?_ | refine ax_q (q_convU8 rfl) ?_
 refine ax_q (q_fadr_ptr rfl) ?_
 refine ax_q (q_load1_ptr rfl rfl rfl) ?_
 first | refine ax_q (q_convB rfl) ?_ | refine ax_q (q_convI rfl (by omega)) ?_ | refine ax_q (q_convU8 rfl) ?_
 refine ax_e (e_bslice rfl (by decide) rfl rfl) ?_
 refine ax_q (q_mov rfl) ?_
 refine ax_nil (cx_keep rfl rfl (cx_seq (cx_ops ?_)))
 refine ax_q (q_mov rfl) ?_
 refine ax_q (q_fadr_ptr rfl) ?_
 refine ax_q (q_load1_ptr rfl rfl rfl) ?_
 refine ax_q (q_fadr_ptr rfl) ?_
 refine ax_q (q_load1_ptr rfl rfl rfl) ?_
 refine ax_e (e_bslice rfl (by decide) rfl rfl) ?_
 refine ax_wk (wk_frz 34 34 rfl rfl (.whole rfl) rfl) ?_
 refine ax_call rfl (vc_pure (c_l01Fields (ts := [r.Before, r.After]) ?_ ?_) hP rfl ?_)
 ·
  first | assumption | omega | (simp; done)
 ·
  assumption
 rintro r h ⟨rfl, rfl⟩
 refine ⟨fun i => 35 + 200 * i, [0], ⟨rfl, rfl, rfl, rfl, rfl, (by first | exact (fun h => absurd h Bool.false_ne_true) | exact (fun _ => ⟨rfl, (noisl_of (by repeat (first | exact trivial | refine ⟨noisl_map (fun _ => rfl), ?_⟩ | refine ⟨?_, ?_⟩)))⟩))⟩, ?_⟩
 skip
 refine ax_e (e_appn (n' := (putFs [108, Go.AM.byteOf r.Epoch, Go.AM.byteOf r.Lsn, Go.AM.byteOf r.Tx, Go.AM.byteOf r.Kind, Go.AM.byteOf r.Prev, Go.AM.byteOf r.Next, Go.AM.byteOf r.Page, Go.AM.byteOf r.Slot] [r.Before, r.After]).length) (rs' := (putFs [108, Go.AM.byteOf r.Epoch, Go.AM.byteOf r.Lsn, Go.AM.byteOf r.Tx, Go.AM.byteOf r.Kind, Go.AM.byteOf r.Prev, Go.AM.byteOf r.Next, Go.AM.byteOf r.Page, Go.AM.byteOf r.Slot] [r.Before, r.After]).map byteRow) rfl rfl (by simp) rfl (src_osl rfl (by simp)) (.inl (by decide)) (hbnd (by simp) (by rw [len_rows]; omega) (by decide)) (by rw [len_rows, putFs_len (b := [108, Go.AM.byteOf r.Epoch, Go.AM.byteOf r.Lsn, Go.AM.byteOf r.Tx, Go.AM.byteOf r.Kind, Go.AM.byteOf r.Prev, Go.AM.byteOf r.Next, Go.AM.byteOf r.Page, Go.AM.byteOf r.Slot])]; rfl) ((app_rows (x := [108, Go.AM.byteOf r.Epoch, Go.AM.byteOf r.Lsn, Go.AM.byteOf r.Tx, Go.AM.byteOf r.Kind, Go.AM.byteOf r.Prev, Go.AM.byteOf r.Next, Go.AM.byteOf r.Page, Go.AM.byteOf r.Slot])).trans (by rw [putFs_app]))) ?_
 refine ax_call rfl (vcall_own (c_l03Sealed (b := putFs [108, Go.AM.byteOf r.Epoch, Go.AM.byteOf r.Lsn, Go.AM.byteOf r.Tx, Go.AM.byteOf r.Kind, Go.AM.byteOf r.Prev, Go.AM.byteOf r.Next, Go.AM.byteOf r.Page, Go.AM.byteOf r.Slot] [r.Before, r.After]) hpl) hP hmv false (fun _ => 28) [1000] ⟨rfl, rfl, rfl, rfl, ⟨rfl, trivial⟩, rfl, rfl, rfl⟩ (.pass rfl rfl .nil) ?_)
 rintro r h ⟨rfl, rfl⟩
 refine ⟨fun _ => 28, [], ⟨rfl, rfl, rfl, rfl, mem1 rfl, rfl, rfl, fun h => absurd h Bool.false_ne_true⟩, ?_⟩
 refine ax_q (q_mov rfl) ?_
 refine ax_nil (cx_keep rfl rfl ?_)
 refine cx_ret (retN (fun _ => 0) [28] rfl rfl rfl rfl rfl ?_)
 exact ⟨rfl, rfl⟩


/- loop.example/g00332/spec.l02Own -/
def k_c_l02Own : XCode :=
 .seq (.ops [.op (some 1) (.box (.t 0)),
   .op (some 2) (.alloc [.nils 1, .nils 2, .bool false, .nils 1])])
 (.keep [1, 2] (.seq (.ops [.op (some 3) (.bslice 1 []),
   .op (some 4) (.fadr (.t 1) 0),
   .op (some 5) (.load1 (.t 4)),
   .op (some 6) (.app 1 16 [.str []] (.t 3) (.t 5)),
   .op (some 7) (.fadr (.t 1) 0),
   .op none (.store 1 (.t 7) (.t 6))])
 (.keep [1, 2] (.seq (.ops [.op (some 8) (.bslice 2 []),
   .op (some 9) (.fadr (.t 1) 1),
   .op (some 10) (.load1 (.t 9)),
   .op (some 11) (.app 2 24 [.int .i64 0, .str []] (.t 8) (.t 10)),
   .op (some 12) (.fadr (.t 1) 1),
   .op none (.store 1 (.t 12) (.t 11))])
 (.keep [1, 2] (.seq (.ops [.op (some 13) (.bslice 1 []),
   .op (some 14) (.fadr (.t 1) 3),
   .op (some 15) (.load1 (.t 14)),
   .op (some 16) (.app 1 8 [.int .i64 0] (.t 13) (.t 15)),
   .op (some 17) (.fadr (.t 1) 3),
   .op none (.store 1 (.t 17) (.t 16))])
 (.keep [1, 2] (.seq (.ops [.op (some 18) (.loadN 4 (.t 1)),
   .op none (.store 4 (.t 2) (.t 18))])
 (.keep [2] (.ret))))))))))
theorem k_c_l02Own_fits : fitsF Tryz.prog 78 ⟨19, k_c_l02Own, [.cN 2 4]⟩ = true := by kernel_rfl
theorem c_l02Own {d : GDisk} (hw0 : d.Sectors.length ≤ 1048576) (hw1 : d.Cache.length ≤ 1048576) (hw2 : d.Keep.length ≤ 1048576) : Con Tryz.prog noMv 78 [d.av] [] (fun r h => r = d.avO 0 1 2 ∧ h = d.hO 0 1 2) := by
 refine con_of2 k_c_l02Own_fits rfl fun C hP hmv => ?_
 unfold k_c_l02Own
 refine cx_seq (cx_ops ?_)
 refine ax_e (e_box rfl rfl (by decide) rfl rfl rfl) ?_
 refine ax_e (e_alloc (by decide) rfl rfl) ?_
 refine ax_nil (cx_keep rfl rfl (cx_seq (cx_ops ?_)))
 refine ax_e (e_bslice rfl (by decide) rfl rfl) ?_
 refine ax_q (q_fadr_ptr rfl) ?_
 refine ax_q (q_load1_ptr rfl rfl rfl) ?_
 refine ax_e (e_appn (n' := d.Sectors.length) (rs' := d.Sectors.map strRow) rfl rfl (Nat.le_refl _) rfl (src_sl 1 _) (.inl (by decide)) (by simp only [List.length_map, List.length_nil]; omega) (by simp) (by simp)) ?_
 refine ax_q (q_fadr_ptr rfl) ?_
 refine ax_e (e_st rfl rfl rfl rfl rfl rfl rfl) ?_
 refine ax_nil (cx_keep rfl rfl (cx_seq (cx_ops ?_)))
 refine ax_e (e_bslice rfl (by decide) rfl rfl) ?_
 refine ax_q (q_fadr_ptr rfl) ?_
 refine ax_q (q_load1_ptr rfl rfl rfl) ?_
 refine ax_e (e_appn (n' := d.Cache.length) (rs' := d.Cache.map GPending.row) rfl rfl (Nat.le_refl _) rfl (src_sl 2 _) (.inl (by decide)) (by simp only [List.length_map, List.length_nil]; omega) (by simp) (by simp)) ?_
 refine ax_q (q_fadr_ptr rfl) ?_
 refine ax_e (e_st rfl rfl rfl rfl rfl rfl rfl) ?_
 refine ax_nil (cx_keep rfl rfl (cx_seq (cx_ops ?_)))
 refine ax_e (e_bslice rfl (by decide) rfl rfl) ?_
 refine ax_q (q_fadr_ptr rfl) ?_
 refine ax_q (q_load1_ptr rfl rfl rfl) ?_
 refine ax_e (e_appn (n' := d.Keep.length) (rs' := d.Keep.map intRow) rfl rfl (Nat.le_refl _) rfl (src_sl 1 _) (.inl (by decide)) (by simp only [List.length_map, List.length_nil]; omega) (by simp) (by simp)) ?_
 refine ax_q (q_fadr_ptr rfl) ?_
 refine ax_e (e_st rfl rfl rfl rfl rfl rfl rfl) ?_
 refine ax_nil (cx_keep rfl rfl (cx_seq (cx_ops ?_)))
 refine ax_q (q_ldN rfl rfl rfl) ?_
 refine ax_e (e_st rfl rfl rfl rfl rfl rfl rfl) ?_
 refine ax_nil (cx_keep rfl rfl ?_)
 refine cx_ret (retN (fun e => bif Nat.beq e 3 then 0 else bif Nat.beq e 8 then 1 else 2) [3, 8, 13] rfl rfl rfl rfl rfl ?_)
 exact ⟨rfl, rfl⟩


/- loop.example/g00332/spec.l02Crash -/
def k_c_l02Crash : XCode :=
 .seq (.ops [.op (some 2) (.box (.t 0)),
   .op (some 4) (.alloc [.nils 1, .nils 2, .bool false, .nils 1])])
 (.keep [1, 2, 4] (.seq (.ops [.op (some 7) (.loadN 4 (.t 2)),
   .call (some 8) 78 [.t 7],
   .op (some 5) (.alloc [.nils 1, .nils 2, .bool false, .nils 1]),
   .op none (.store 4 (.t 5) (.t 8))])
 (.keep [1, 2, 4, 5] (.seq (.seq (.ops [.op (some 6) (.mov (.k (.int .i64 0)))])
  (.keep [1, 2, 4, 5, 6] (.block 0 (.loop (.seq (.seq (.ops [.op (some 9) (.mov (.t 6)),
     .op (some 10) (.fadr (.t 2) 1),
     .op (some 11) (.load1 (.t 10)),
     .op (some 12) (.lenS (.t 11)),
     .op (some 13) (.bin .lss (.t 9) (.t 12))])
   (.keep [1, 2, 4, 5, 6, 13] (.cond (.t 13)
    (.skip)
    (.exit 0))))
   (.keep [1, 2, 4, 5, 6] (.seq (.block 1 (.seq (.ops [.op (some 16) (.mov (.t 6)),
     .op (some 17) (.mov (.t 1)),
     .op (some 18) (.lenS (.t 17)),
     .op (some 19) (.bin .lss (.t 16) (.t 18)),
     .op (some 20) (.mov (.t 19)),
     .andor 26 true 4 20 [.op (some 21) (.mov (.t 1)), .op (some 22) (.mov (.t 6)), .op (some 23) (.iadr 1 (.t 21) (.t 22)), .op (some 24) (.load1 (.t 23)), .op (some 25) (.bin .neq (.t 24) (.k (.int .i64 0)))] (.t 25)])
    (.keep [1, 2, 4, 5, 6, 26] (.cond (.t 26)
    (.drawE [[], [0], [], [2], [], [2, 3, 4], [2, 3, 4, 5], [2, 3, 4, 5, 6], [], [8], [], [8, 9, 10], [8, 9, 10, 11], [8, 9, 10, 11, 12], [0, 1, 2, 3, 4, 5, 6, 7, 8, 9, 10, 11, 12, 13], [0, 1, 2, 3, 4, 5, 6, 7, 8, 9, 10, 11, 12, 13, 14]] [.op (some 27) (.fadr (.t 5) 0),
      .op (some 28) (.load1 (.t 27)),
      .op (some 29) (.fadr (.t 2) 1),
      .op (some 30) (.load1 (.t 29)),
      .op (some 31) (.mov (.t 6)),
      .op (some 32) (.iadr 2 (.t 30) (.t 31)),
      .op (some 33) (.fadr (.t 32) 0),
      .op (some 34) (.load1 (.t 33)),
      .op (some 35) (.fadr (.t 2) 1),
      .op (some 36) (.load1 (.t 35)),
      .op (some 37) (.mov (.t 6)),
      .op (some 38) (.iadr 2 (.t 36) (.t 37)),
      .op (some 39) (.fadr (.t 38) 1),
      .op (some 40) (.load1 (.t 39))]
     [.op (some 41) (.iadr 1 (.t 28) (.t 34)),
      .op none (.store 1 (.t 41) (.t 40))])
    (.skip)))))
   (.keep [1, 2, 4, 5, 6] (.ops [.op (some 14) (.mov (.t 6)),
    .op (some 15) (.bin .add (.t 14) (.k (.int .i64 1))),
    .op (some 6) (.mov (.t 15))])))))))))
 (.keep [4, 5] (.seq (.ops [.op (some 42) (.bslice 2 []),
   .op (some 43) (.fadr (.t 5) 1),
   .op none (.store 1 (.t 43) (.t 42))])
 (.keep [4, 5] (.seq (.ops [.op (some 44) (.fadr (.t 5) 2),
   .op none (.store 1 (.t 44) (.k (.bool false)))])
 (.keep [4, 5] (.seq (.ops [.op (some 45) (.bslice 1 []),
   .op (some 46) (.fadr (.t 5) 3),
   .op none (.store 1 (.t 46) (.t 45))])
 (.keep [4, 5] (.seq (.ops [.op (some 47) (.loadN 4 (.t 5)),
   .op none (.store 4 (.t 4) (.t 47))])
 (.keep [4] (.ret))))))))))))))
theorem k_c_l02Crash_fits : fitsF Tryz.prog 130 ⟨48, k_c_l02Crash, [.cN 4 4]⟩ = true := by kernel_rfl
set_option maxHeartbeats 2000000 in
theorem c_l02Crash {d : GDisk} {keep : List Int} (hw0 : d.Sectors.length ≤ 1048576) (hw1 : d.Cache.length ≤ 1048576) (hw2 : d.Keep.length ≤ 1048576) (hk : keep.length ≤ 1048576) (hat : ∀ p ∈ d.Cache, 0 ≤ p.At ∧ p.At.toNat < d.Sectors.length) : Con Tryz.prog noMv 130 [d.av, .d (.sl 1 (keep.map intRow))] [] (fun r h => r = (crashD d keep).avO 0 1 2 ∧ h = (crashD d keep).hO 0 1 2) := by
 refine con_of2 k_c_l02Crash_fits rfl fun C hP hmv => ?_
 unfold k_c_l02Crash
 refine cx_seq (cx_ops ?_)
 refine ax_e (e_box rfl rfl (by decide) rfl rfl rfl) ?_
 refine ax_e (e_alloc (by decide) rfl rfl) ?_
 refine ax_nil (cx_keep rfl rfl (cx_seq (cx_ops ?_)))
 refine ax_q (q_ldN rfl rfl rfl) ?_
 refine ax_call rfl (vc_pure (c_l02Own  ?_ ?_ ?_) hP rfl ?_)
 ·
  assumption
 ·
  assumption
 ·
  assumption
 rintro r h ⟨rfl, rfl⟩
 refine ⟨fun i => 8 + 200 * i, [0, 1, 2], ⟨rfl, rfl, rfl, rfl, rfl, (by first | exact (fun h => absurd h Bool.false_ne_true) | exact (fun _ => ⟨rfl, (noisl_of (by repeat (first | exact trivial | refine ⟨noisl_map (fun _ => rfl), ?_⟩ | refine ⟨?_, ?_⟩)))⟩))⟩, ?_⟩
 skip
 refine ax_e (e_alloc (by decide) rfl rfl) ?_
 refine ax_e (e_st rfl rfl rfl rfl rfl rfl rfl) ?_
 refine ax_nil (cx_keep rfl rfl (cx_seq (cx_seq (cx_ops ?_))))
 refine ax_q (q_mov rfl) ?_
 refine ax_nil (cx_keep rfl rfl (cx_block ?_))
 refine cx_loopU (fun n k => k ≤ d.Cache.length ∧ n = d.Cache.length - k) (fun k : Nat => [(6, int k)]) (fun k => [(2, .box [.d (.sl 1 (d.Sectors.map strRow)), .d (.sl 2 (d.Cache.map GPending.row)), .d (.bool d.Armed), .d (.sl 1 (d.Keep.map intRow))]), (4, .box [.zs 1, .zs 2, .d (.bool false), .zs 1]), (5, .box [.osl 8 1 0 d.Sectors.length, .osl 208 2 0 d.Cache.length, .d (.bool d.Armed), .osl 408 1 0 d.Keep.length]), (8, .rows 1 ((keptTo d.Sectors d.Cache keep k).map strRow)), (208, .rows 2 (d.Cache.map GPending.row)), (408, .rows 1 (d.Keep.map intRow))]) ⟨_, 0, ⟨Nat.zero_le _, rfl⟩, by repeat constructor⟩ ?_
 rintro n k ⟨hk2, rfl⟩
 refine cx_seq (cx_seq (cx_ops ?_))
 refine ax_q (q_mov rfl) ?_
 refine ax_q (q_fadr_ptr rfl) ?_
 refine ax_q (q_load1_ptr rfl rfl rfl) ?_
 refine ax_q (q_lenS_map rfl) ?_
 refine ax_q (q_ibin rfl rfl rfl) ?_
 refine ax_nil (cx_keep rfl rfl ?_)
 refine cx_cond rfl (fun h0 => ?_) (fun h0 => ?_)
 ·
  have h0 := dT h0
  have h0x : k < d.Cache.length := by omega
  refine cx_skip ?_
  refine cx_keep rfl rfl (cx_seq (cx_block (cx_seq (cx_ops ?_))))
  refine ax_q (q_mov rfl) ?_
  refine ax_q (q_mov rfl) ?_
  refine ax_q (q_lenS_map rfl) ?_
  refine ax_q (q_ibin rfl rfl rfl) ?_
  refine ax_q (q_mov rfl) ?_
  apply ax_and rfl rfl
  ·
   intro g
   have g := dT g
   refine ax_q (q_mov rfl) ?_
   refine ax_q (q_mov rfl) ?_
   refine ax_q (q_ix rfl rfl (mapAt (by omega))) ?_
   refine ax_qe (r' := int (keep.getD k 0)) (q_load1_ip rfl) (by rw [getD_atI (by omega)]) ?_
   refine ax_q (q_ibin rfl rfl rfl) ?_
   exact ax_nil ⟨rfl, by repeat constructor⟩
  refine ax_nil (cx_keep rfl rfl ?_)
  refine cx_cond rfl (fun h1 => ?_) (fun h1 => ?_)
  ·
   have h1 : keepAt keep k = true := h1
   have e1 : (keptTo d.Sectors d.Cache keep (k + 1)) = _ := keptTo_t h0x h1
   refine cx_drawL 0 27 (fun _ => false) (fun _ => true) [] ([]) [[5], [27], [2], [29], [6], [30, 31], [32], [33], [2], [35], [6], [36, 37], [38], [39]] [[], [], [], [], [], [], [], [], [], [], [], [], [], []] rfl ?_
   first | refine ⟨⟨27, _, []⟩, .inl ⟨rfl, rfl, rfl, locl_of (loc_q (q_fadr_ptr rfl))⟩, ?_⟩
   first | refine ⟨_, .inr ⟨rfl, _, rfl, .inr ⟨rfl, rfl, .inl rfl, rfl, rfl⟩, loc_q (q_load1_ptr rfl rfl rfl)⟩, ?_⟩
   first | refine ⟨_, .inr ⟨rfl, _, rfl, .inr ⟨rfl, rfl, .inr rfl, rfl, rfl⟩, loc_q (q_fadr_ptr rfl)⟩, ?_⟩
   first | refine ⟨_, .inr ⟨rfl, _, rfl, .inr ⟨rfl, rfl, .inr rfl, rfl, rfl⟩, loc_q (q_load1_ptr rfl rfl rfl)⟩, ?_⟩
   first | refine ⟨_, .inr ⟨rfl, _, rfl, .inr ⟨rfl, rfl, .inr rfl, rfl, rfl⟩, loc_q (q_mov rfl)⟩, ?_⟩
   first | refine ⟨_, .inr ⟨rfl, _, rfl, .inr ⟨rfl, rfl, .inr rfl, rfl, rfl⟩, loc_q (q_ix rfl rfl (mapAt h0x))⟩, ?_⟩
   first | refine ⟨_, .inr ⟨rfl, _, rfl, .inr ⟨rfl, rfl, .inr rfl, rfl, rfl⟩, loc_q (q_fadr_ptr rfl)⟩, ?_⟩ | refine ⟨_, .inr ⟨rfl, _, rfl, .inr ⟨rfl, rfl, .inr rfl, rfl, rfl⟩, loc_q (q_fadr_rptr rfl)⟩, ?_⟩ | refine ⟨_, .inr ⟨rfl, _, rfl, .inr ⟨rfl, rfl, .inr rfl, rfl, rfl⟩, loc_q (q_fadr_ip rfl)⟩, ?_⟩
   first | refine ⟨_, .inr ⟨rfl, _, rfl, .inr ⟨rfl, rfl, .inr rfl, rfl, rfl⟩, loc_q (q_load1_ptr rfl rfl rfl)⟩, ?_⟩ | refine ⟨_, .inr ⟨rfl, _, rfl, .inr ⟨rfl, rfl, .inr rfl, rfl, rfl⟩, loc_q (q_load1_ip rfl)⟩, ?_⟩
   first | refine ⟨_, .inr ⟨rfl, _, rfl, .inr ⟨rfl, rfl, .inr rfl, rfl, rfl⟩, loc_q (q_fadr_ptr rfl)⟩, ?_⟩
   first | refine ⟨_, .inr ⟨rfl, _, rfl, .inr ⟨rfl, rfl, .inr rfl, rfl, rfl⟩, loc_q (q_load1_ptr rfl rfl rfl)⟩, ?_⟩
   first | refine ⟨_, .inr ⟨rfl, _, rfl, .inr ⟨rfl, rfl, .inr rfl, rfl, rfl⟩, loc_q (q_mov rfl)⟩, ?_⟩
   first | refine ⟨_, .inr ⟨rfl, _, rfl, .inr ⟨rfl, rfl, .inr rfl, rfl, rfl⟩, loc_q (q_ix rfl rfl (mapAt h0x))⟩, ?_⟩
   first | refine ⟨_, .inr ⟨rfl, _, rfl, .inr ⟨rfl, rfl, .inr rfl, rfl, rfl⟩, loc_q (q_fadr_ptr rfl)⟩, ?_⟩ | refine ⟨_, .inr ⟨rfl, _, rfl, .inr ⟨rfl, rfl, .inr rfl, rfl, rfl⟩, loc_q (q_fadr_rptr rfl)⟩, ?_⟩ | refine ⟨_, .inr ⟨rfl, _, rfl, .inr ⟨rfl, rfl, .inr rfl, rfl, rfl⟩, loc_q (q_fadr_ip rfl)⟩, ?_⟩
   first | refine ⟨_, .inr ⟨rfl, _, rfl, .inr ⟨rfl, rfl, .inr rfl, rfl, rfl⟩, loc_q (q_load1_ptr rfl rfl rfl)⟩, ?_⟩ | refine ⟨_, .inr ⟨rfl, _, rfl, .inr ⟨rfl, rfl, .inr rfl, rfl, rfl⟩, loc_q (q_load1_ip rfl)⟩, ?_⟩
   refine ⟨rfl, ?_⟩
   refine ax_q (q_ixoI rfl rfl (hat _ (List.getElem_mem h0x)).1 (hat _ (List.getElem_mem h0x)).2) ?_
   refine ax_e (e_str (rs' := (keptTo d.Sectors d.Cache keep (k + 1)).map strRow) (q := strRow d.Cache[k].Data) rfl rfl rfl rfl rfl rfl (mapAt (by rw [keptTo_len]; exact (hat _ (List.getElem_mem h0x)).2)) rfl rfl (by rw [e1]; exact List.map_set.symm)) ?_
   refine ax_nil (cx_keep rfl rfl (cx_ops ?_))
   refine ax_q (q_mov rfl) ?_
   refine ax_qe (r' := int ((k + 1 : Nat) : Int)) (q_ibin rfl rfl rfl) (by rw [wi (by omega) (by omega)]; rfl) ?_
   refine ax_q (q_mov rfl) ?_
   refine ax_nil ?_
   exact ⟨_, k + 1, by omega, ⟨by omega, rfl⟩, by repeat constructor⟩
  ·
   have h1 : keepAt keep k = false := h1
   have e1 : (keptTo d.Sectors d.Cache keep (k + 1)) = _ := keptTo_f h0x h1
   rw [← e1]
   refine cx_skip ?_
   refine cx_keep rfl rfl (cx_ops ?_)
   refine ax_q (q_mov rfl) ?_
   refine ax_qe (r' := int ((k + 1 : Nat) : Int)) (q_ibin rfl rfl rfl) (by rw [wi (by omega) (by omega)]; rfl) ?_
   refine ax_q (q_mov rfl) ?_
   refine ax_nil ?_
   exact ⟨_, k + 1, by omega, ⟨by omega, rfl⟩, by repeat constructor⟩
 ·
  have h0 := dF h0
  have h0x : k = d.Cache.length := by omega
  subst h0x
  refine cx_exit rfl ?_
  refine cx_keep rfl rfl (cx_seq (cx_ops ?_))
  refine ax_e (e_bslice rfl (by decide) rfl rfl) ?_
  refine ax_q (q_fadr_ptr rfl) ?_
  refine ax_e (e_st rfl rfl rfl rfl rfl rfl rfl) ?_
  refine ax_nil (cx_keep rfl rfl (cx_seq (cx_ops ?_)))
  refine ax_q (q_fadr_ptr rfl) ?_
  refine ax_e (e_st rfl rfl rfl rfl rfl rfl rfl) ?_
  refine ax_nil (cx_keep rfl rfl (cx_seq (cx_ops ?_)))
  refine ax_e (e_bslice rfl (by decide) rfl rfl) ?_
  refine ax_q (q_fadr_ptr rfl) ?_
  refine ax_e (e_st rfl rfl rfl rfl rfl rfl rfl) ?_
  refine ax_nil (cx_keep rfl rfl (cx_seq (cx_ops ?_)))
  refine ax_q (q_ldN rfl rfl rfl) ?_
  refine ax_e (e_st rfl rfl rfl rfl rfl rfl rfl) ?_
  refine ax_nil (cx_keep rfl rfl ?_)
  refine cx_ret (retN (fun e => bif Nat.beq e 8 then 0 else bif Nat.beq e 42 then 1 else 2) [8, 42, 45] rfl rfl rfl rfl rfl ?_)
  exact ⟨by unfold crashD GDisk.avO; rw [keptTo_len]; rfl, rfl⟩


/- loop.example/g00332/spec.l02Sync -/
def k_c_l02Sync : XCode :=
 .seq (.ops [.op (some 1) (.box (.t 0)),
   .op (some 2) (.alloc [.nils 1, .nils 2, .bool false, .nils 1]),
   .op (some 3) (.mov (.k (.bool false)))])
 (.keep [1, 2] (.seq (.seq (.ops [.op (some 6) (.fadr (.t 1) 2),
   .op (some 7) (.load1 (.t 6))])
  (.keep [1, 2, 7] (.cond (.t 7)
  (.seq (.ops [.op (some 8) (.loadN 4 (.t 1)),
    .op (some 9) (.fadr (.t 1) 3),
    .op (some 10) (.load1 (.t 9)),
    .call (some 11) 130 [.t 8, .t 10],
    .op none (.store 4 (.t 2) (.t 11)),
    .op (some 3) (.mov (.k (.bool false)))])
   (.keep [2, 3] (.ret)))
  (.skip))))
 (.keep [1, 2] (.seq (.ops [.op (some 12) (.loadN 4 (.t 1)),
   .call (some 13) 78 [.t 12],
   .op (some 4) (.alloc [.nils 1, .nils 2, .bool false, .nils 1]),
   .op none (.store 4 (.t 4) (.t 13))])
 (.keep [1, 2, 4] (.seq (.seq (.ops [.op (some 5) (.mov (.k (.int .i64 0)))])
  (.keep [1, 2, 4, 5] (.block 0 (.loop (.seq (.seq (.ops [.op (some 14) (.mov (.t 5)),
     .op (some 15) (.fadr (.t 1) 1),
     .op (some 16) (.load1 (.t 15)),
     .op (some 17) (.lenS (.t 16)),
     .op (some 18) (.bin .lss (.t 14) (.t 17))])
   (.keep [1, 2, 4, 5, 18] (.cond (.t 18)
    (.skip)
    (.exit 0))))
   (.keep [1, 2, 4, 5] (.seq (.block 1 (.drawE [[], [0], [], [2], [], [2, 3, 4], [2, 3, 4, 5], [2, 3, 4, 5, 6], [], [8], [], [8, 9, 10], [8, 9, 10, 11], [8, 9, 10, 11, 12], [0, 1, 2, 3, 4, 5, 6, 7, 8, 9, 10, 11, 12, 13], [0, 1, 2, 3, 4, 5, 6, 7, 8, 9, 10, 11, 12, 13, 14]] [.op (some 21) (.fadr (.t 4) 0),
     .op (some 22) (.load1 (.t 21)),
     .op (some 23) (.fadr (.t 1) 1),
     .op (some 24) (.load1 (.t 23)),
     .op (some 25) (.mov (.t 5)),
     .op (some 26) (.iadr 2 (.t 24) (.t 25)),
     .op (some 27) (.fadr (.t 26) 0),
     .op (some 28) (.load1 (.t 27)),
     .op (some 29) (.fadr (.t 1) 1),
     .op (some 30) (.load1 (.t 29)),
     .op (some 31) (.mov (.t 5)),
     .op (some 32) (.iadr 2 (.t 30) (.t 31)),
     .op (some 33) (.fadr (.t 32) 1),
     .op (some 34) (.load1 (.t 33))]
    [.op (some 35) (.iadr 1 (.t 22) (.t 28)),
     .op none (.store 1 (.t 35) (.t 34))]))
   (.keep [1, 2, 4, 5] (.ops [.op (some 19) (.mov (.t 5)),
    .op (some 20) (.bin .add (.t 19) (.k (.int .i64 1))),
    .op (some 5) (.mov (.t 20))])))))))))
 (.keep [2, 4] (.seq (.ops [.op (some 36) (.bslice 2 []),
   .op (some 37) (.fadr (.t 4) 1),
   .op none (.store 1 (.t 37) (.t 36))])
 (.keep [2, 4] (.seq (.ops [.op (some 38) (.loadN 4 (.t 4)),
   .op none (.store 4 (.t 2) (.t 38)),
   .op (some 3) (.mov (.k (.bool true)))])
 (.keep [2, 3] (.ret))))))))))))
theorem k_c_l02Sync_fits : fitsF Tryz.prog 77 ⟨39, k_c_l02Sync, [.cN 2 4, .t 3]⟩ = true := by kernel_rfl
set_option maxHeartbeats 2000000 in
theorem c_l02Sync {d : GDisk} (hw0 : d.Sectors.length ≤ 1048576) (hw1 : d.Cache.length ≤ 1048576) (hw2 : d.Keep.length ≤ 1048576) (hat : ∀ p ∈ d.Cache, 0 ≤ p.At ∧ p.At.toNat < d.Sectors.length) : Con Tryz.prog noMv 77 [d.av] [] (fun r h => r = .tup [(syncD d).1.avO 0 1 2, bool (syncD d).2] ∧ h = (syncD d).1.hO 0 1 2) := by
 refine con_of2 k_c_l02Sync_fits rfl fun C hP hmv => ?_
 unfold k_c_l02Sync
 refine cx_seq (cx_ops ?_)
 refine ax_e (e_box rfl rfl (by decide) rfl rfl rfl) ?_
 refine ax_e (e_alloc (by decide) rfl rfl) ?_
 refine ax_q (q_mov rfl) ?_
 refine ax_nil (cx_keep rfl rfl (cx_seq (cx_seq (cx_ops ?_))))
 refine ax_q (q_fadr_ptr rfl) ?_
 refine ax_q (q_load1_ptr rfl rfl rfl) ?_
 refine ax_nil (cx_keep rfl rfl ?_)
 refine cx_cond rfl (fun h0 => ?_) (fun h0 => ?_)
 ·
  skip
  refine cx_seq (cx_ops ?_)
  refine ax_q (q_ldN rfl rfl rfl) ?_
  refine ax_q (q_fadr_ptr rfl) ?_
  refine ax_q (q_load1_ptr rfl rfl rfl) ?_
  refine ax_call rfl (vc_pure (c_l02Crash  ?_ ?_ ?_ ?_ ?_) hP rfl ?_)
  ·
   assumption
  ·
   assumption
  ·
   assumption
  ·
   assumption
  ·
   assumption
  rintro r h ⟨rfl, rfl⟩
  refine ⟨fun i => 11 + 200 * i, [0, 1, 2], ⟨rfl, rfl, rfl, rfl, rfl, (by first | exact (fun h => absurd h Bool.false_ne_true) | exact (fun _ => ⟨rfl, (noisl_of (by repeat (first | exact trivial | refine ⟨noisl_map (fun _ => rfl), ?_⟩ | refine ⟨?_, ?_⟩)))⟩))⟩, ?_⟩
  skip
  refine ax_e (e_st rfl rfl rfl rfl rfl rfl rfl) ?_
  refine ax_q (q_mov rfl) ?_
  refine ax_nil (cx_keep rfl rfl ?_)
  refine cx_ret (retN (fun e => bif Nat.beq e 11 then 0 else bif Nat.beq e 211 then 1 else 2) [11, 211, 411] rfl rfl rfl rfl rfl ?_)
  rw [syncD_1 h0]; exact ⟨rfl, rfl⟩
 ·
  skip
  refine cx_skip ?_
  refine cx_keep rfl rfl (cx_seq (cx_ops ?_))
  refine ax_q (q_ldN rfl rfl rfl) ?_
  refine ax_call rfl (vc_pure (c_l02Own  ?_ ?_ ?_) hP rfl ?_)
  ·
   assumption
  ·
   assumption
  ·
   assumption
  rintro r h ⟨rfl, rfl⟩
  refine ⟨fun i => 13 + 200 * i, [0, 1, 2], ⟨rfl, rfl, rfl, rfl, rfl, (by first | exact (fun h => absurd h Bool.false_ne_true) | exact (fun _ => ⟨rfl, (noisl_of (by repeat (first | exact trivial | refine ⟨noisl_map (fun _ => rfl), ?_⟩ | refine ⟨?_, ?_⟩)))⟩))⟩, ?_⟩
  skip
  refine ax_e (e_alloc (by decide) rfl rfl) ?_
  refine ax_e (e_st rfl rfl rfl rfl rfl rfl rfl) ?_
  refine ax_nil (cx_keep rfl rfl (cx_seq (cx_seq (cx_ops ?_))))
  refine ax_q (q_mov rfl) ?_
  refine ax_nil (cx_keep rfl rfl (cx_block ?_))
  refine cx_loopU (fun n k => k ≤ d.Cache.length ∧ n = d.Cache.length - k) (fun k : Nat => [(5, int k)]) (fun k => [(1, .box [.d (.sl 1 (d.Sectors.map strRow)), .d (.sl 2 (d.Cache.map GPending.row)), .d (.bool d.Armed), .d (.sl 1 (d.Keep.map intRow))]), (2, .box [.zs 1, .zs 2, .d (.bool false), .zs 1]), (4, .box [.osl 13 1 0 d.Sectors.length, .osl 213 2 0 d.Cache.length, .d (.bool d.Armed), .osl 413 1 0 d.Keep.length]), (13, .rows 1 ((syncTo d.Sectors d.Cache k).map strRow)), (213, .rows 2 (d.Cache.map GPending.row)), (413, .rows 1 (d.Keep.map intRow))]) ⟨_, 0, ⟨Nat.zero_le _, rfl⟩, by repeat constructor⟩ ?_
  rintro n k ⟨hk2, rfl⟩
  refine cx_seq (cx_seq (cx_ops ?_))
  refine ax_q (q_mov rfl) ?_
  refine ax_q (q_fadr_ptr rfl) ?_
  refine ax_q (q_load1_ptr rfl rfl rfl) ?_
  refine ax_q (q_lenS_map rfl) ?_
  refine ax_q (q_ibin rfl rfl rfl) ?_
  refine ax_nil (cx_keep rfl rfl ?_)
  refine cx_cond rfl (fun h1 => ?_) (fun h1 => ?_)
  ·
   have h1 := dT h1
   have h1x : k < d.Cache.length := by omega
   have e1 : (syncTo d.Sectors d.Cache (k + 1)) = _ := syncTo_succ h1x
   refine cx_skip ?_
   refine cx_keep rfl rfl (cx_seq (cx_block ?_))
   refine cx_drawL 0 21 (fun _ => false) (fun _ => true) [] ([]) [[4], [21], [1], [23], [5], [24, 25], [26], [27], [1], [29], [5], [30, 31], [32], [33]] [[], [], [], [], [], [], [], [], [], [], [], [], [], []] rfl ?_
   first | refine ⟨⟨21, _, []⟩, .inl ⟨rfl, rfl, rfl, locl_of (loc_q (q_fadr_ptr rfl))⟩, ?_⟩
   first | refine ⟨_, .inr ⟨rfl, _, rfl, .inr ⟨rfl, rfl, .inl rfl, rfl, rfl⟩, loc_q (q_load1_ptr rfl rfl rfl)⟩, ?_⟩
   first | refine ⟨_, .inr ⟨rfl, _, rfl, .inr ⟨rfl, rfl, .inr rfl, rfl, rfl⟩, loc_q (q_fadr_ptr rfl)⟩, ?_⟩
   first | refine ⟨_, .inr ⟨rfl, _, rfl, .inr ⟨rfl, rfl, .inr rfl, rfl, rfl⟩, loc_q (q_load1_ptr rfl rfl rfl)⟩, ?_⟩
   first | refine ⟨_, .inr ⟨rfl, _, rfl, .inr ⟨rfl, rfl, .inr rfl, rfl, rfl⟩, loc_q (q_mov rfl)⟩, ?_⟩
   first | refine ⟨_, .inr ⟨rfl, _, rfl, .inr ⟨rfl, rfl, .inr rfl, rfl, rfl⟩, loc_q (q_ix rfl rfl (mapAt h1x))⟩, ?_⟩
   first | refine ⟨_, .inr ⟨rfl, _, rfl, .inr ⟨rfl, rfl, .inr rfl, rfl, rfl⟩, loc_q (q_fadr_ptr rfl)⟩, ?_⟩ | refine ⟨_, .inr ⟨rfl, _, rfl, .inr ⟨rfl, rfl, .inr rfl, rfl, rfl⟩, loc_q (q_fadr_rptr rfl)⟩, ?_⟩ | refine ⟨_, .inr ⟨rfl, _, rfl, .inr ⟨rfl, rfl, .inr rfl, rfl, rfl⟩, loc_q (q_fadr_ip rfl)⟩, ?_⟩
   first | refine ⟨_, .inr ⟨rfl, _, rfl, .inr ⟨rfl, rfl, .inr rfl, rfl, rfl⟩, loc_q (q_load1_ptr rfl rfl rfl)⟩, ?_⟩ | refine ⟨_, .inr ⟨rfl, _, rfl, .inr ⟨rfl, rfl, .inr rfl, rfl, rfl⟩, loc_q (q_load1_ip rfl)⟩, ?_⟩
   first | refine ⟨_, .inr ⟨rfl, _, rfl, .inr ⟨rfl, rfl, .inr rfl, rfl, rfl⟩, loc_q (q_fadr_ptr rfl)⟩, ?_⟩
   first | refine ⟨_, .inr ⟨rfl, _, rfl, .inr ⟨rfl, rfl, .inr rfl, rfl, rfl⟩, loc_q (q_load1_ptr rfl rfl rfl)⟩, ?_⟩
   first | refine ⟨_, .inr ⟨rfl, _, rfl, .inr ⟨rfl, rfl, .inr rfl, rfl, rfl⟩, loc_q (q_mov rfl)⟩, ?_⟩
   first | refine ⟨_, .inr ⟨rfl, _, rfl, .inr ⟨rfl, rfl, .inr rfl, rfl, rfl⟩, loc_q (q_ix rfl rfl (mapAt h1x))⟩, ?_⟩
   first | refine ⟨_, .inr ⟨rfl, _, rfl, .inr ⟨rfl, rfl, .inr rfl, rfl, rfl⟩, loc_q (q_fadr_ptr rfl)⟩, ?_⟩ | refine ⟨_, .inr ⟨rfl, _, rfl, .inr ⟨rfl, rfl, .inr rfl, rfl, rfl⟩, loc_q (q_fadr_rptr rfl)⟩, ?_⟩ | refine ⟨_, .inr ⟨rfl, _, rfl, .inr ⟨rfl, rfl, .inr rfl, rfl, rfl⟩, loc_q (q_fadr_ip rfl)⟩, ?_⟩
   first | refine ⟨_, .inr ⟨rfl, _, rfl, .inr ⟨rfl, rfl, .inr rfl, rfl, rfl⟩, loc_q (q_load1_ptr rfl rfl rfl)⟩, ?_⟩ | refine ⟨_, .inr ⟨rfl, _, rfl, .inr ⟨rfl, rfl, .inr rfl, rfl, rfl⟩, loc_q (q_load1_ip rfl)⟩, ?_⟩
   refine ⟨rfl, ?_⟩
   refine ax_q (q_ixoI rfl rfl (hat _ (List.getElem_mem h1x)).1 (hat _ (List.getElem_mem h1x)).2) ?_
   refine ax_e (e_str (rs' := (syncTo d.Sectors d.Cache (k + 1)).map strRow) (q := strRow d.Cache[k].Data) rfl rfl rfl rfl rfl rfl (mapAt (by rw [syncTo_len]; exact (hat _ (List.getElem_mem h1x)).2)) rfl rfl (by rw [e1]; exact List.map_set.symm)) ?_
   refine ax_nil (cx_keep rfl rfl (cx_ops ?_))
   refine ax_q (q_mov rfl) ?_
   refine ax_qe (r' := int ((k + 1 : Nat) : Int)) (q_ibin rfl rfl rfl) (by rw [wi (by omega) (by omega)]; rfl) ?_
   refine ax_q (q_mov rfl) ?_
   refine ax_nil ?_
   exact ⟨_, k + 1, by omega, ⟨by omega, rfl⟩, by repeat constructor⟩
  ·
   have h1 := dF h1
   have h1x : k = d.Cache.length := by omega
   subst h1x
   refine cx_exit rfl ?_
   refine cx_keep rfl rfl (cx_seq (cx_ops ?_))
   refine ax_e (e_bslice rfl (by decide) rfl rfl) ?_
   refine ax_q (q_fadr_ptr rfl) ?_
   refine ax_e (e_st rfl rfl rfl rfl rfl rfl rfl) ?_
   refine ax_nil (cx_keep rfl rfl (cx_seq (cx_ops ?_)))
   refine ax_q (q_ldN rfl rfl rfl) ?_
   refine ax_e (e_st rfl rfl rfl rfl rfl rfl rfl) ?_
   refine ax_q (q_mov rfl) ?_
   refine ax_nil (cx_keep rfl rfl ?_)
   refine cx_ret (retN (fun e => bif Nat.beq e 13 then 0 else bif Nat.beq e 36 then 1 else 2) [13, 36, 413] rfl rfl rfl rfl rfl ?_)
   rw [syncD_2 h0]; exact ⟨by unfold GDisk.avO; dsimp only; rw [syncTo_len]; rfl, rfl⟩


/- loop.example/g00332/spec.l05Flush -/
def k_c_l05Flush : XCode :=
 .seq (.ops [.op (some 2) (.box (.t 0)),
   .op (some 4) (.alloc [.nils 1, .nils 2, .bool false, .nils 1, .int .i64 0, .nils 10, .int .i64 0, .nils 5, .int .i64 0]),
   .op (some 5) (.mov (.k (.bool false)))])
 (.keep [1, 2, 4] (.seq (.seq (.ops [.op (some 9) (.mov (.t 1)),
   .op (some 10) (.fadr (.t 2) 6),
   .op (some 11) (.load1 (.t 10)),
   .op (some 12) (.bin .leq (.t 9) (.t 11))])
  (.keep [1, 2, 4, 12] (.cond (.t 12)
  (.seq (.ops [.op (some 13) (.loadN 9 (.t 2)),
    .op none (.store 9 (.t 4) (.t 13)),
    .op (some 5) (.mov (.k (.bool true)))])
   (.keep [4, 5] (.ret)))
  (.skip))))
 (.keep [1, 2, 4] (.seq (.seq (.ops [.op (some 14) (.fadr (.t 2) 6),
   .op (some 15) (.load1 (.t 14)),
   .op (some 16) (.bin .add (.t 15) (.k (.int .i64 1))),
   .op (some 6) (.mov (.t 16))])
  (.keep [1, 2, 4, 6] (.block 0 (.loop (.seq (.seq (.ops [.op (some 17) (.mov (.t 6)),
     .op (some 18) (.mov (.t 1)),
     .op (some 19) (.bin .leq (.t 17) (.t 18))])
   (.keep [1, 2, 4, 6, 19] (.cond (.t 19)
    (.skip)
    (.exit 0))))
   (.keep [1, 2, 4, 6] (.seq (.block 1 (.drawE [[], [0], [], [2], [2, 3], [], [5], [], [7], [5, 6, 7, 8], [5, 6, 7, 8, 9], [5, 6, 7, 8, 9, 10], [5, 6, 7, 8, 9, 10, 11], [0, 1, 2, 3, 4, 5, 6, 7, 8, 9, 10, 11, 12], [0, 1, 2, 3, 4, 5, 6, 7, 8, 9, 10, 11, 12, 13], [0, 1, 2, 3, 4, 5, 6, 7, 8, 9, 10, 11, 12, 13, 14]] [.op (some 22) (.fadr (.t 2) 0),
     .op (some 23) (.loadN 4 (.t 22)),
     .op (some 24) (.mov (.t 6)),
     .op (some 25) (.bin .add (.k (.int .i64 9)) (.t 24)),
     .op (some 26) (.bin .sub (.t 25) (.k (.int .i64 1))),
     .op (some 27) (.fadr (.t 2) 5),
     .op (some 28) (.load1 (.t 27)),
     .op (some 29) (.mov (.t 6)),
     .op (some 30) (.bin .sub (.t 29) (.k (.int .i64 1))),
     .op (some 31) (.iadr 10 (.t 28) (.t 30)),
     .op (some 32) (.loadN 10 (.t 31)),
     .call (some 33) 76 [.t 32],
     .op (some 34) (.b2s (.t 33))]
    [.call (some 35) 75 [.t 23, .t 26, .t 34],
     .op (some 36) (.fadr (.t 2) 0),
     .op none (.store 4 (.t 36) (.t 35))]))
   (.keep [1, 2, 4, 6] (.ops [.op (some 20) (.mov (.t 6)),
    .op (some 21) (.bin .add (.t 20) (.k (.int .i64 1))),
    .op (some 6) (.mov (.t 21))])))))))))
 (.keep [1, 2, 4] (.seq (.ops [.op (some 38) (.fadr (.t 2) 0),
   .op (some 39) (.loadN 4 (.t 38)),
   .call (some 40) 77 [.t 39],
   .op (some 37) (.mov (.t 40)),
   .op (some 41) (.ext (.t 37) 0),
   .op (some 42) (.ext (.t 37) 1),
   .op (some 7) (.alloc [.nils 1, .nils 2, .bool false, .nils 1]),
   .op none (.store 4 (.t 7) (.t 41)),
   .op (some 8) (.mov (.t 42))])
 (.keep [1, 2, 4, 7, 8] (.seq (.ops [.op (some 43) (.loadN 4 (.t 7)),
   .op (some 44) (.fadr (.t 2) 0),
   .op none (.store 4 (.t 44) (.t 43))])
 (.keep [1, 2, 4, 8] (.seq (.seq (.ops [.op (some 45) (.mov (.t 8))])
  (.keep [1, 2, 4, 8, 45] (.cond (.t 45)
  (.ops [.op (some 46) (.mov (.t 1)),
    .op (some 47) (.fadr (.t 2) 6),
    .op none (.store 1 (.t 47) (.t 46))])
  (.skip))))
 (.keep [2, 4, 8] (.seq (.ops [.op (some 48) (.loadN 9 (.t 2)),
   .op (some 49) (.mov (.t 8)),
   .op none (.store 9 (.t 4) (.t 48)),
   .op (some 5) (.mov (.t 49))])
 (.keep [4, 5] (.ret))))))))))))))
theorem k_c_l05Flush_fits : fitsF Tryz.prog 32 ⟨50, k_c_l05Flush, [.cN 4 9, .t 5]⟩ = true := by kernel_rfl
set_option maxHeartbeats 2000000 in
theorem c_l05Flush {s : GStore} {m : Nat} {n : Int} (h : DI s m) (hm : m ≤ 60) (hn : n ≤ s.Log.length) : Con Tryz.prog noMv 32 [s.av, int n] [] (fun r h => r = .tup [(flF s n).av, bool true] ∧ h = []) := by
 refine con_of2 k_c_l05Flush_fits rfl fun C hP hmv => ?_
 unfold k_c_l05Flush
 obtain ⟨hw0, hw1, hw2, hw3, hwa, hw4, hw5, hw6⟩ := di_stb h hm
 have hsu := h.su
 refine cx_seq (cx_ops ?_)
 refine ax_e (e_box rfl rfl (by decide) rfl rfl rfl) ?_
 refine ax_e (e_alloc (by decide) rfl rfl) ?_
 refine ax_q (q_mov rfl) ?_
 refine ax_nil (cx_keep rfl rfl (cx_seq (cx_seq (cx_ops ?_))))
 refine ax_q (q_mov rfl) ?_
 refine ax_q (q_fadr_ptr rfl) ?_
 refine ax_q (q_load1_ptr rfl rfl rfl) ?_
 refine ax_q (q_ibin rfl rfl rfl) ?_
 refine ax_nil (cx_keep rfl rfl ?_)
 refine cx_cond rfl (fun h0 => ?_) (fun h0 => ?_)
 ·
  have h0 := dT h0
  refine cx_seq (cx_ops ?_)
  refine ax_q (q_ldN rfl rfl rfl) ?_
  refine ax_e (e_st rfl rfl rfl rfl rfl rfl rfl) ?_
  refine ax_q (q_mov rfl) ?_
  refine ax_nil (cx_keep rfl rfl ?_)
  refine cx_ret (ret0 rfl rfl ?_)
  exact ⟨by rw [flF_1 h0]; rfl, rfl⟩
 ·
  have h0 := dF h0
  refine cx_skip ?_
  refine cx_keep rfl rfl (cx_seq (cx_seq (cx_ops ?_)))
  refine ax_q (q_fadr_ptr rfl) ?_
  refine ax_q (q_load1_ptr rfl rfl rfl) ?_
  refine ax_qe (r' := int (s.Sure + 1)) (q_ibin rfl rfl rfl) (wi (by omega) (by omega)) ?_
  refine ax_q (q_mov rfl) ?_
  refine ax_nil (cx_keep rfl rfl (cx_block ?_))
  refine cx_loopU (fun j k => k ≤ (n - s.Sure).toNat ∧ j = (n - s.Sure).toNat - k) (fun k : Nat => [(6, int (s.Sure + 1 + k))]) (fun k => [(4, .box [.zs 1, .zs 2, .d (.bool false), .zs 1, .d (.int .i64 0), .zs 10, .d (.int .i64 0), .zs 5, .d (.int .i64 0)]), (2, .box ((wrS s k).row.map .d))]) ⟨_, 0, ⟨Nat.zero_le _, rfl⟩, by rw [show s.Sure + 1 + ((0 : Nat) : Int) = s.Sure + 1 from by omega]; exact (by repeat constructor)⟩ ?_
  rintro j k ⟨hk, rfl⟩
  obtain ⟨q1, q2, q3⟩ := wrL_b h hm hn hk
  refine cx_seq (cx_seq (cx_ops ?_))
  refine ax_q (q_mov rfl) ?_
  refine ax_q (q_mov rfl) ?_
  refine ax_q (q_ibin rfl rfl rfl) ?_
  refine ax_nil (cx_keep rfl rfl ?_)
  refine cx_cond rfl (fun h1 => ?_) (fun h1 => ?_)
  ·
   have h1 := dT h1
   have h1x : s.Sure.toNat + k < s.Log.length := by omega
   obtain ⟨hsb, hsa⟩ := (h.rc _ h1x).sh
   rw [← getD_z (z := GLogRecord.zero) h1x] at hsb hsa
   refine cx_skip ?_
   refine cx_keep rfl rfl (cx_seq (cx_block ?_))
   refine cx_drawL 0 22 (fun _ => false) (fun _ => true) [] ([]) [[2], [22], [6], [24], [25], [2], [27], [6], [29], [28, 30], [31], [32], [33]] [[], [], [], [], [], [], [], [], [], [], [], [], []] rfl ?_
   first | refine ⟨⟨22, _, []⟩, .inl ⟨rfl, rfl, rfl, locl_of (loc_q (q_fadr_ptr rfl))⟩, ?_⟩
   first | refine ⟨_, .inr ⟨rfl, _, rfl, .inr ⟨rfl, rfl, .inl rfl, rfl, rfl⟩, loc_q (q_ldN rfl rfl rfl)⟩, ?_⟩
   first | refine ⟨_, .inr ⟨rfl, _, rfl, .inr ⟨rfl, rfl, .inr rfl, rfl, rfl⟩, loc_q (q_mov rfl)⟩, ?_⟩
   first | refine ⟨_, .inr ⟨rfl, _, rfl, .inr ⟨rfl, rfl, .inr rfl, rfl, rfl⟩, loc_q (q_add rfl rfl (by omega))⟩, ?_⟩
   first | refine ⟨_, .inr ⟨rfl, _, rfl, .inr ⟨rfl, rfl, .inr rfl, rfl, rfl⟩, loc_q (q_as (q_sub rfl rfl (by omega)) (congrArg AM.int (show _ = 9 + ((s.Sure.toNat + k : Nat) : Int) by omega)))⟩, ?_⟩
   first | refine ⟨_, .inr ⟨rfl, _, rfl, .inr ⟨rfl, rfl, .inr rfl, rfl, rfl⟩, loc_q (q_fadr_ptr rfl)⟩, ?_⟩
   first | refine ⟨_, .inr ⟨rfl, _, rfl, .inr ⟨rfl, rfl, .inr rfl, rfl, rfl⟩, loc_q (q_load1_ptr rfl rfl rfl)⟩, ?_⟩
   first | refine ⟨_, .inr ⟨rfl, _, rfl, .inr ⟨rfl, rfl, .inr rfl, rfl, rfl⟩, loc_q (q_mov rfl)⟩, ?_⟩
   first | refine ⟨_, .inr ⟨rfl, _, rfl, .inr ⟨rfl, rfl, .inr rfl, rfl, rfl⟩, loc_q (q_as (q_sub rfl rfl (by omega)) (congrArg AM.int (show _ = ((s.Sure.toNat + k : Nat) : Int) by omega)))⟩, ?_⟩
   first | refine ⟨_, .inr ⟨rfl, _, rfl, .inr ⟨rfl, rfl, .inr rfl, rfl, rfl⟩, loc_q (q_ix rfl rfl (mapAtZ (z := .zero) h1x))⟩, ?_⟩
   first | refine ⟨_, .inr ⟨rfl, _, rfl, .inr ⟨rfl, rfl, .inr rfl, rfl, rfl⟩, loc_q (q_ldN rfl rfl rfl)⟩, ?_⟩ | refine ⟨_, .inr ⟨rfl, _, rfl, .inr ⟨rfl, rfl, .inr rfl, rfl, rfl⟩, loc_q (q_loadN_ip rfl (Nat.le_refl _))⟩, ?_⟩
   refine ⟨_, .inr ⟨rfl, _, rfl, .inr ⟨rfl, rfl, .inr rfl, rfl, rfl⟩, loc_call (fun i => 33 + 200 * i) false rfl (c_l04Bytes (r := s.Log.getD (s.Sure.toNat + k) .zero) (by first | assumption | omega | (simp; done) | (simp; omega)) (by first | assumption | omega | (simp; done) | (simp; omega))) hP (.inr ⟨rfl, rfl, rfl⟩) rfl rfl (fun h => by cases h)⟩, ?_⟩
   first | refine ⟨_, .inr ⟨rfl, _, rfl, .inr ⟨rfl, rfl, .inr rfl, rfl, rfl⟩, loc_q (q_b2s (bs := rbF (s.Log.getD (s.Sure.toNat + k) .zero)) rfl (src_osl rfl (by simp)) rows_all ⟨33, 1, 0, _, .inl rfl⟩)⟩, ?_⟩
   refine ⟨rfl, ?_⟩
   refine ax_call rfl (vc_pure (c_l02Write (d := wrL s.Disk s.Log s.Sure.toNat k) (a := 9 + ((s.Sure.toNat + k : Nat) : Int)) (x := rbF (s.Log.getD (s.Sure.toNat + k) .zero)) ?_ ?_ ?_) hP rfl ?_)
   ·
    assumption
   ·
    assumption
   ·
    assumption
   rintro r h ⟨rfl, rfl⟩
   refine ⟨fun i => 35 + 200 * i, [0], ⟨rfl, rfl, rfl, rfl, rfl, (by first | exact (fun h => absurd h Bool.false_ne_true) | exact (fun _ => ⟨rfl, (noisl_of (by repeat (first | exact trivial | refine ⟨noisl_map (fun _ => rfl), ?_⟩ | refine ⟨?_, ?_⟩)))⟩))⟩, ?_⟩
   skip
   refine ax_wk (wk_frz 35 35 rfl rfl (.agg (.cons (.same rfl) (.cons (.whole (List.length_map _).symm) (.cons (.same rfl) (.cons (.same rfl) .nil))))) rfl) ?_
   refine ax_q (q_fadr_ptr rfl) ?_
   refine ax_e (e_st rfl rfl rfl rfl rfl rfl rfl) ?_
   refine ax_nil (cx_keep rfl rfl (cx_ops ?_))
   refine ax_q (q_mov rfl) ?_
   refine ax_qe (r' := int (s.Sure + 1 + ((k + 1 : Nat) : Int))) (q_ibin rfl rfl rfl) (by rw [wi (by omega) (by omega)]; exact congrArg AM.int (by omega)) ?_
   refine ax_q (q_mov rfl) ?_
   refine ax_nil ?_
   exact ⟨_, k + 1, by omega, ⟨by omega, rfl⟩, by repeat constructor⟩
  ·
   have h1 := dF h1
   obtain rfl : k = (n - s.Sure).toNat := by omega
   refine cx_exit rfl ?_
   refine cx_keep rfl rfl (cx_seq (cx_ops ?_))
   refine ax_q (q_fadr_ptr rfl) ?_
   refine ax_q (q_ldN rfl rfl rfl) ?_
   refine ax_call rfl (vc_pure (c_l02Sync (d := wrL s.Disk s.Log s.Sure.toNat (n - s.Sure).toNat) ?_ ?_ ?_ ?_) hP rfl ?_)
   ·
    assumption
   ·
    assumption
   ·
    assumption
   ·
    exact wrL_at h hm h0 hn hk
   rintro r h ⟨rfl, rfl⟩
   refine ⟨fun i => 40 + 200 * i, [0, 1, 2], ⟨rfl, rfl, rfl, rfl, rfl, (by first | exact (fun h => absurd h Bool.false_ne_true) | exact (fun _ => ⟨rfl, (noisl_of (by repeat (first | exact trivial | refine ⟨noisl_map (fun _ => rfl), ?_⟩ | refine ⟨?_, ?_⟩)))⟩))⟩, ?_⟩
   skip
   refine ax_wk (wk_frz 40 40 rfl rfl (.tup (.cons (.agg (.cons (.whole (List.length_map _).symm) (.cons (.same rfl) (.cons (.same rfl) (.cons (.same rfl) .nil))))) (.cons (.same rfl) .nil))) rfl) ?_
   refine ax_wk (wk_frz 40 240 rfl rfl (.tup (.cons (.agg (.cons (.same rfl) (.cons (.whole (List.length_map _).symm) (.cons (.same rfl) (.cons (.same rfl) .nil))))) (.cons (.same rfl) .nil))) rfl) ?_
   refine ax_wk (wk_frz 40 440 rfl rfl (.tup (.cons (.agg (.cons (.same rfl) (.cons (.same rfl) (.cons (.same rfl) (.cons (.whole (List.length_map _).symm) .nil))))) (.cons (.same rfl) .nil))) rfl) ?_
   rw [fl_alive h]
   refine ax_q (q_mov rfl) ?_
   refine ax_q (q_ext rfl rfl) ?_
   refine ax_q (q_ext rfl rfl) ?_
   refine ax_e (e_alloc (by decide) rfl rfl) ?_
   refine ax_e (e_st rfl rfl rfl rfl rfl rfl rfl) ?_
   refine ax_q (q_mov rfl) ?_
   refine ax_nil (cx_keep rfl rfl (cx_seq (cx_ops ?_)))
   refine ax_q (q_ldN rfl rfl rfl) ?_
   refine ax_q (q_fadr_ptr rfl) ?_
   refine ax_e (e_st rfl rfl rfl rfl rfl rfl rfl) ?_
   refine ax_nil (cx_keep rfl rfl (cx_seq (cx_seq (cx_ops ?_))))
   refine ax_q (q_mov rfl) ?_
   refine ax_nil (cx_keep rfl rfl ?_)
   refine cx_cond rfl (fun h2 => ?_) (fun h2 => ?_)
   ·
    skip
    refine cx_ops ?_
    refine ax_q (q_mov rfl) ?_
    refine ax_q (q_fadr_ptr rfl) ?_
    refine ax_e (e_st rfl rfl rfl rfl rfl rfl rfl) ?_
    refine ax_nil (cx_keep rfl rfl (cx_seq (cx_ops ?_)))
    refine ax_q (q_ldN rfl rfl rfl) ?_
    refine ax_q (q_mov rfl) ?_
    refine ax_e (e_st rfl rfl rfl rfl rfl rfl rfl) ?_
    refine ax_q (q_mov rfl) ?_
    refine ax_nil (cx_keep rfl rfl ?_)
    refine cx_ret (ret0 rfl rfl ?_)
    exact ⟨by rw [flF_2 h0]; rfl, rfl⟩
   ·
    skip
    cases h2


/- loop.example/g00332/spec.l03Own -/
def k_c_l03Own : XCode :=
 .seq (.ops [.op (some 1) (.box (.t 0)),
   .op (some 2) (.alloc [.int .i64 0, .nils 1])])
 (.keep [1, 2] (.seq (.ops [.op (some 3) (.bslice 1 []),
   .op (some 4) (.fadr (.t 1) 1),
   .op (some 5) (.load1 (.t 4)),
   .op (some 6) (.app 1 16 [.str []] (.t 3) (.t 5)),
   .op (some 7) (.fadr (.t 1) 1),
   .op none (.store 1 (.t 7) (.t 6))])
 (.keep [1, 2] (.seq (.ops [.op (some 8) (.loadN 2 (.t 1)),
   .op none (.store 2 (.t 2) (.t 8))])
 (.keep [2] (.ret))))))
theorem k_c_l03Own_fits : fitsF Tryz.prog 79 ⟨9, k_c_l03Own, [.cN 2 2]⟩ = true := by kernel_rfl
theorem c_l03Own {p : Page} (hl : p.slots.length ≤ 1048576) : Con Tryz.prog noMv 79 [p.av] [] (fun r h => r = p.avO 0 ∧ h = p.hO 0) := by
 refine con_of2 k_c_l03Own_fits rfl fun C hP hmv => ?_
 unfold k_c_l03Own
 refine cx_seq (cx_ops ?_)
 refine ax_e (e_box rfl rfl (by decide) rfl rfl rfl) ?_
 refine ax_e (e_alloc (by decide) rfl rfl) ?_
 refine ax_nil (cx_keep rfl rfl (cx_seq (cx_ops ?_)))
 refine ax_e (e_bslice rfl (by decide) rfl rfl) ?_
 refine ax_q (q_fadr_ptr rfl) ?_
 refine ax_q (q_load1_ptr rfl rfl rfl) ?_
 refine ax_e (e_appn (n' := p.slots.length) (rs' := p.slots.map strRow) rfl rfl (Nat.le_refl _) rfl (src_sl 1 _) (.inl (by decide)) (by simp only [List.length_map, List.length_nil]; omega) (by simp) (by simp)) ?_
 refine ax_q (q_fadr_ptr rfl) ?_
 refine ax_e (e_st rfl rfl rfl rfl rfl rfl rfl) ?_
 refine ax_nil (cx_keep rfl rfl (cx_seq (cx_ops ?_)))
 refine ax_q (q_ldN rfl rfl rfl) ?_
 refine ax_e (e_st rfl rfl rfl rfl rfl rfl rfl) ?_
 refine ax_nil (cx_keep rfl rfl ?_)
 refine cx_ret (retN (fun _ => 0) [3] rfl rfl rfl rfl rfl ?_)
 exact ⟨rfl, rfl⟩


/- loop.example/g00332/spec.l05Own -/
def k_c_l05Own : XCode :=
 .seq (.ops [.op (some 1) (.box (.t 0)),
   .op (some 2) (.alloc [.nils 1, .nils 2, .bool false, .nils 1, .int .i64 0, .nils 10, .int .i64 0, .nils 5, .int .i64 0])])
 (.keep [1, 2] (.seq (.ops [.op (some 6) (.fadr (.t 1) 0),
   .op (some 7) (.loadN 4 (.t 6)),
   .call (some 8) 78 [.t 7],
   .op (some 9) (.fadr (.t 1) 0),
   .op none (.store 4 (.t 9) (.t 8))])
 (.keep [1, 2] (.seq (.ops [.op (some 10) (.bslice 10 []),
   .op (some 11) (.fadr (.t 1) 5),
   .op (some 12) (.load1 (.t 11)),
   .op (some 13) (.app 10 96 [.int .i64 0, .int .i64 0, .int .i64 0, .int .i64 0, .int .i64 0, .int .i64 0, .int .i64 0, .int .i64 0, .str [], .str []] (.t 10) (.t 12)),
   .op (some 14) (.fadr (.t 1) 5),
   .op none (.store 1 (.t 14) (.t 13))])
 (.keep [1, 2] (.seq (.ops [.op (some 15) (.bslice 5 []),
   .op (some 3) (.mov (.t 15))])
 (.keep [1, 2, 3] (.seq (.seq (.ops [.op (some 4) (.mov (.k (.int .i64 0)))])
  (.keep [1, 2, 3, 4] (.block 0 (.loop (.seq (.seq (.ops [.op (some 16) (.mov (.t 4)),
     .op (some 17) (.fadr (.t 1) 7),
     .op (some 18) (.load1 (.t 17)),
     .op (some 19) (.lenS (.t 18)),
     .op (some 20) (.bin .lss (.t 16) (.t 19))])
   (.keep [1, 2, 3, 4, 20] (.cond (.t 20)
    (.skip)
    (.exit 0))))
   (.keep [1, 2, 3, 4] (.seq (.block 1 (.seq (.ops [.op (some 23) (.fadr (.t 1) 7),
     .op (some 24) (.load1 (.t 23)),
     .op (some 25) (.mov (.t 4)),
     .op (some 26) (.iadr 5 (.t 24) (.t 25)),
     .op (some 27) (.loadN 5 (.t 26)),
     .op (some 5) (.alloc [.int .i64 0, .int .i64 0, .nils 1, .bool false, .int .i64 0]),
     .op none (.store 5 (.t 5) (.t 27))])
    (.keep [1, 2, 3, 4, 5] (.seq (.ops [.op (some 28) (.fadr (.t 5) 1),
     .op (some 29) (.loadN 2 (.t 28)),
     .call (some 30) 79 [.t 29],
     .op (some 31) (.fadr (.t 5) 1),
     .op none (.store 2 (.t 31) (.t 30))])
    (.keep [1, 2, 3, 4, 5] (.ops [.op (some 32) (.mov (.t 3)),
     .op (some 33) (.loadN 5 (.t 5)),
     .op (some 34) (.bslice 5 [.t 33]),
     .op (some 35) (.app 5 56 [.int .i64 0, .int .i64 0, .nils 1, .bool false, .int .i64 0] (.t 32) (.t 34)),
     .op (some 3) (.mov (.t 35))]))))))
   (.keep [1, 2, 3, 4] (.ops [.op (some 21) (.mov (.t 4)),
    .op (some 22) (.bin .add (.t 21) (.k (.int .i64 1))),
    .op (some 4) (.mov (.t 22))])))))))))
 (.keep [1, 2, 3] (.seq (.ops [.op (some 36) (.mov (.t 3)),
   .op (some 37) (.fadr (.t 1) 7),
   .op none (.store 1 (.t 37) (.t 36))])
 (.keep [1, 2] (.seq (.ops [.op (some 38) (.loadN 9 (.t 1)),
   .op none (.store 9 (.t 2) (.t 38))])
 (.keep [2] (.ret))))))))))))))
theorem k_c_l05Own_fits : fitsF Tryz.prog 33 ⟨39, k_c_l05Own, [.cN 2 9]⟩ = true := by kernel_rfl
theorem c_l05Own {s : GStore} {m : Nat} (h : DI s m) (hm : m ≤ 60) : Con Tryz.prog noMv 33 [s.av] [] (fun r h => r = s.av ∧ h = []) := by
 refine con_of2 k_c_l05Own_fits rfl fun C hP hmv => ?_
 unfold k_c_l05Own
 obtain ⟨hw0, hw1, hw2, hw3, hwa, hw4, hw5, hw6⟩ := di_stb h hm
 refine cx_seq (cx_ops ?_)
 refine ax_e (e_box rfl rfl (by decide) rfl rfl rfl) ?_
 refine ax_e (e_alloc (by decide) rfl rfl) ?_
 refine ax_nil (cx_keep rfl rfl (cx_seq (cx_ops ?_)))
 refine ax_q (q_fadr_ptr rfl) ?_
 refine ax_q (q_ldN rfl rfl rfl) ?_
 refine ax_call rfl (vc_pure (c_l02Own  ?_ ?_ ?_) hP rfl ?_)
 ·
  assumption
 ·
  assumption
 ·
  assumption
 rintro r h ⟨rfl, rfl⟩
 refine ⟨fun i => 8 + 200 * i, [0, 1, 2], ⟨rfl, rfl, rfl, rfl, rfl, (by first | exact (fun h => absurd h Bool.false_ne_true) | exact (fun _ => ⟨rfl, (noisl_of (by repeat (first | exact trivial | refine ⟨noisl_map (fun _ => rfl), ?_⟩ | refine ⟨?_, ?_⟩)))⟩))⟩, ?_⟩
 skip
 refine ax_wk (wk_frz 8 8 rfl rfl (.agg (.cons (.whole (List.length_map _).symm) (.cons (.same rfl) (.cons (.same rfl) (.cons (.same rfl) .nil))))) rfl) ?_
 refine ax_wk (wk_frz 8 208 rfl rfl (.agg (.cons (.same rfl) (.cons (.whole (List.length_map _).symm) (.cons (.same rfl) (.cons (.same rfl) .nil))))) rfl) ?_
 refine ax_wk (wk_frz 8 408 rfl rfl (.agg (.cons (.same rfl) (.cons (.same rfl) (.cons (.same rfl) (.cons (.whole (List.length_map _).symm) .nil))))) rfl) ?_
 refine ax_q (q_fadr_ptr rfl) ?_
 refine ax_e (e_st rfl rfl rfl rfl rfl rfl rfl) ?_
 refine ax_nil (cx_keep rfl rfl (cx_seq (cx_ops ?_)))
 refine ax_e (e_bslice rfl (by decide) rfl rfl) ?_
 refine ax_q (q_fadr_ptr rfl) ?_
 refine ax_q (q_load1_ptr rfl rfl rfl) ?_
 refine ax_e (e_appn (n' := (s.Log).length) (rs' := (s.Log).map GLogRecord.row) rfl rfl (Nat.le_refl _) rfl (src_sl 10 _) (.inl (by decide)) (by simp only [List.length_map, List.length_nil]; omega) (by simp) (by simp)) ?_
 refine ax_wk (wk_frz 13 10 rfl rfl (.whole (List.length_map _).symm) rfl) ?_
 refine ax_q (q_fadr_ptr rfl) ?_
 refine ax_e (e_st rfl rfl rfl rfl rfl rfl rfl) ?_
 refine ax_nil (cx_keep rfl rfl (cx_seq (cx_ops ?_)))
 refine ax_e (e_bslice rfl (by decide) rfl rfl) ?_
 refine ax_q (q_mov rfl) ?_
 refine ax_nil (cx_keep rfl rfl (cx_seq (cx_seq (cx_ops ?_))))
 refine ax_q (q_mov rfl) ?_
 refine ax_nil (cx_keep rfl rfl (cx_block ?_))
 refine cx_loopU (fun n k => k ≤ s.Frames.length ∧ n = s.Frames.length - k) (fun k : Nat => [(3, .osl 15 5 0 (s.Frames.take k).length), (4, int k)]) (fun k => [(15, .rows 5 ((s.Frames.take k).map GFrame.row)), (2, .box [.zs 1, .zs 2, .d (.bool false), .zs 1, .d (.int .i64 0), .zs 10, .d (.int .i64 0), .zs 5, .d (.int .i64 0)]), (1, .box (s.row.map .d))]) ⟨_, 0, ⟨Nat.zero_le _, rfl⟩, by repeat constructor⟩ ?_
 rintro n k ⟨hk, rfl⟩
 refine cx_seq (cx_seq (cx_ops ?_))
 refine ax_q (q_mov rfl) ?_
 refine ax_q (q_fadr_ptr rfl) ?_
 refine ax_q (q_load1_ptr rfl rfl rfl) ?_
 refine ax_q (q_lenS_map rfl) ?_
 refine ax_q (q_ibin rfl rfl rfl) ?_
 refine ax_nil (cx_keep rfl rfl ?_)
 refine cx_cond rfl (fun h0 => ?_) (fun h0 => ?_)
 ·
  have h0 := dT h0
  have h0x : k < s.Frames.length := by omega
  have hwk := hw5 _ (List.getElem_mem h0x)
  refine cx_skip ?_
  refine cx_keep rfl rfl (cx_seq (cx_block (cx_seq (cx_ops ?_))))
  refine ax_q (q_fadr_ptr rfl) ?_
  refine ax_q (q_load1_ptr rfl rfl rfl) ?_
  refine ax_q (q_mov rfl) ?_
  refine ax_q (q_ix rfl rfl (mapAt h0x)) ?_
  first | refine ax_q (q_ldN rfl rfl rfl) ?_ | refine ax_q (q_loadN_ip rfl (Nat.le_refl _)) ?_
  refine ax_e (e_alloc (by decide) rfl rfl) ?_
  refine ax_e (e_st rfl rfl rfl rfl rfl rfl rfl) ?_
  refine ax_nil (cx_keep rfl rfl (cx_seq (cx_ops ?_)))
  refine ax_q (q_fadr_ptr rfl) ?_
  refine ax_q (q_ldN rfl rfl rfl) ?_
  refine ax_call rfl (vc_pure (c_l03Own (p := s.Frames[k].Page) ?_) hP rfl ?_)
  ·
   assumption
  rintro r h ⟨rfl, rfl⟩
  refine ⟨fun i => 30 + 200 * i, [0], ⟨rfl, rfl, rfl, rfl, rfl, (by first | exact (fun h => absurd h Bool.false_ne_true) | exact (fun _ => ⟨rfl, (noisl_of (by repeat (first | exact trivial | refine ⟨noisl_map (fun _ => rfl), ?_⟩ | refine ⟨?_, ?_⟩)))⟩))⟩, ?_⟩
  skip
  refine ax_wk (wk_frz 30 30 rfl rfl (.agg (.cons (.same rfl) (.cons (.whole (List.length_map _).symm) .nil))) rfl) ?_
  refine ax_q (q_fadr_ptr rfl) ?_
  refine ax_e (e_st rfl rfl rfl rfl rfl rfl rfl) ?_
  refine ax_nil (cx_keep rfl rfl (cx_ops ?_))
  refine ax_q (q_mov rfl) ?_
  refine ax_q (q_ldN rfl rfl rfl) ?_
  refine ax_e (e_bslice rfl (by decide) rfl rfl) ?_
  refine ax_e (e_appn (n' := (s.Frames.take (k + 1)).length) (rs' := (s.Frames.take (k + 1)).map GFrame.row) rfl rfl (by simp) rfl (src_osl rfl (by simp)) (.inl (by decide)) (hbnd (by rw [List.length_take]; omega) (by simp) (by decide)) (by simp; omega) (by rw [take_succ h0x]; exact app1 rfl)) ?_
  refine ax_q (q_mov rfl) ?_
  refine ax_nil (cx_keep rfl rfl (cx_ops ?_))
  refine ax_q (q_mov rfl) ?_
  refine ax_qe (r' := int ((k + 1 : Nat) : Int)) (q_ibin rfl rfl rfl) (by rw [wi (by omega) (by omega)]; rfl) ?_
  refine ax_q (q_mov rfl) ?_
  refine ax_nil ?_
  exact ⟨_, k + 1, by omega, ⟨by omega, rfl⟩, by repeat constructor⟩
 ·
  have h0 := dF h0
  obtain rfl : k = s.Frames.length := by omega
  rw [List.take_length]
  refine cx_exit rfl ?_
  refine cx_keep rfl rfl (cx_seq (cx_ops ?_))
  refine ax_wk (wk_frz 3 15 rfl rfl (.whole (List.length_map _).symm) rfl) ?_
  refine ax_q (q_mov rfl) ?_
  refine ax_q (q_fadr_ptr rfl) ?_
  refine ax_e (e_st rfl rfl rfl rfl rfl rfl rfl) ?_
  refine ax_nil (cx_keep rfl rfl (cx_seq (cx_ops ?_)))
  refine ax_q (q_ldN rfl rfl rfl) ?_
  refine ax_e (e_st rfl rfl rfl rfl rfl rfl rfl) ?_
  refine ax_nil (cx_keep rfl rfl ?_)
  refine cx_ret (ret0 rfl rfl ?_)
  exact ⟨rfl, rfl⟩


/- loop.example/g00332/spec.l02New -/
def k_c_l02New : XCode :=
 .seq (.ops [.op (some 2) (.alloc [.nils 1, .nils 2, .bool false, .nils 1])])
 (.keep [0, 2] (.seq (.ops [.op (some 3) (.mov (.t 0)),
   .op (some 4) (.mkslice 1 16 [.str []] (.t 3) (.t 3)),
   .op (some 5) (.bslice 2 []),
   .op (some 6) (.bslice 1 []),
   .op (some 7) (.build [.nils 1, .nils 2, .bool false, .nils 1] [(0, 1, .t 4), (1, 1, .t 5), (3, 1, .t 6)]),
   .op none (.store 4 (.t 2) (.t 7))])
 (.keep [2] (.ret))))
theorem k_c_l02New_fits : fitsF Tryz.prog 117 ⟨8, k_c_l02New, [.cN 2 4]⟩ = true := by kernel_rfl
theorem c_l02New {n : Int} (hn : 0 ≤ n ∧ n ≤ 1048576) : Con Tryz.prog noMv 117 [int n] [] (fun r h => r = (newDk n).avO 0 1 2 ∧ h = (newDk n).hO 0 1 2) := by
 refine con_of2 k_c_l02New_fits rfl fun C hP hmv => ?_
 unfold k_c_l02New
 refine cx_seq (cx_ops ?_)
 refine ax_e (e_alloc (by decide) rfl rfl) ?_
 refine ax_nil (cx_keep rfl rfl (cx_seq (cx_ops ?_)))
 refine ax_q (q_mov rfl) ?_
 refine ax_ee (st'' := ⟨(4, .osl 4 1 0 (newDk n).Sectors.length) :: _, (4, .rows 1 ((newDk n).Sectors.map strRow)) :: _⟩) (e_mkslice rfl rfl rfl (by omega) (by omega) (by omega) (by decide) rfl rfl) (by rw [newDk_len, newDk_rows]) ?_
 refine ax_e (e_bslice rfl (by decide) rfl rfl) ?_
 refine ax_e (e_bslice rfl (by decide) rfl rfl) ?_
 refine ax_q (q_build rfl) ?_
 refine ax_e (e_st rfl rfl rfl rfl rfl rfl rfl) ?_
 refine ax_nil (cx_keep rfl rfl ?_)
 refine cx_ret (retN (fun e => bif Nat.beq e 4 then 0 else bif Nat.beq e 5 then 1 else 2) [4, 5, 6] rfl rfl rfl rfl rfl ?_)
 exact ⟨rfl, rfl⟩


/- loop.example/g00332/spec.l04Header -/
def k_c_l04Header : XCode :=
 .seq (.ops [.op (some 2) (.mov (.k (.str [])))])
 (.keep [0] (.seq (.ops [.op (some 3) (.mov (.t 0)),
   .op (some 4) (.conv .u8 (.t 3)),
   .op (some 5) (.bslice 1 [.k (.int .u8 104), .t 4]),
   .call (some 6) 128 [.t 5],
   .op (some 7) (.b2s (.t 6)),
   .op (some 2) (.mov (.t 7))])
 (.keep [2] (.ret))))
theorem k_c_l04Header_fits : fitsF Tryz.prog 118 ⟨8, k_c_l04Header, [.t 2]⟩ = true := by kernel_rfl
theorem c_l04Header {n : Int} : Con Tryz.prog noMv 118 [int n] [] (fun r h => r = str (sealB [104, Go.AM.byteOf n]) ∧ h = []) := by
 refine con_of2 k_c_l04Header_fits rfl fun C hP hmv => ?_
 unfold k_c_l04Header
 refine cx_seq (cx_ops ?_)
 refine ax_q (q_mov rfl) ?_
 refine ax_nil (cx_keep rfl rfl (cx_seq (cx_ops ?_)))
 refine ax_q (q_mov rfl) ?_
 first | refine ax_q (q_convB rfl) ?_ | refine ax_q (q_convI rfl (by omega)) ?_ | refine ax_q (q_convU8 rfl) ?_
 refine ax_e (e_bslice rfl (by decide) rfl rfl) ?_
 refine ax_call rfl (vcall_own (c_l03Sealed (b := [104, Go.AM.byteOf n]) (by simp)) hP hmv false (fun _ => 5) [1000] ⟨rfl, rfl, rfl, rfl, ⟨rfl, trivial⟩, rfl, rfl, rfl⟩ (.pass rfl rfl .nil) ?_)
 rintro r h ⟨rfl, rfl⟩
 refine ⟨fun _ => 5, [], ⟨rfl, rfl, rfl, rfl, mem1 rfl, rfl, rfl, fun h => absurd h Bool.false_ne_true⟩, ?_⟩
 refine ax_qe (r' := str (sealB [104, Go.AM.byteOf n])) (q_b2s rfl (src_osl rfl (by simp)) rows_all ⟨5, 1, 0, _, .inl rfl⟩) (rfl) ?_
 refine ax_q (q_mov rfl) ?_
 refine ax_nil (cx_keep rfl rfl ?_)
 refine cx_ret (ret0 rfl rfl ?_)
 exact ⟨rfl, rfl⟩


/- loop.example/g00332/spec.NewStore -/
def k_c_NewStore : XCode :=
 .seq (.ops [.op (some 0) (.alloc [.nils 1, .nils 2, .bool false, .nils 1, .int .i64 0, .nils 10, .int .i64 0, .nils 5, .int .i64 0])])
 (.keep [0] (.seq (.ops [.call (some 2) 117 [.k (.int .i64 69)],
   .op (some 1) (.alloc [.nils 1, .nils 2, .bool false, .nils 1]),
   .op none (.store 4 (.t 1) (.t 2))])
 (.keep [0, 1] (.seq (.drawE [[], [0], [], [0, 1, 2], [0, 1, 2, 3]] [.op (some 3) (.fadr (.t 1) 0),
   .op (some 4) (.load1 (.t 3)),
   .call (some 5) 118 [.k (.int .i64 1)]]
  [.op (some 6) (.iadr 1 (.t 4) (.k (.int .i64 0))),
   .op none (.store 1 (.t 6) (.t 5))])
 (.keep [0, 1] (.seq (.ops [.op (some 7) (.loadN 4 (.t 1)),
   .op (some 8) (.bslice 10 []),
   .op (some 9) (.bslice 5 []),
   .op (some 10) (.build [.nils 1, .nils 2, .bool false, .nils 1, .int .i64 0, .nils 10, .int .i64 0, .nils 5, .int .i64 0] [(0, 4, .t 7), (4, 1, .k (.int .i64 1)), (5, 1, .t 8), (7, 1, .t 9)]),
   .op none (.store 9 (.t 0) (.t 10))])
 (.keep [0] (.ret))))))))
theorem k_c_NewStore_fits : fitsF Tryz.prog 59 ⟨11, k_c_NewStore, [.cN 0 9]⟩ = true := by kernel_rfl
theorem c_NewStore  : Con Tryz.prog noMv 59 [] [] (fun r h => r = newS.av ∧ h = []) := by
 refine con_of2 k_c_NewStore_fits rfl fun C hP hmv => ?_
 unfold k_c_NewStore
 have h69 : 0 < (newDk 69).Sectors.length := by rw [newDk_len]; decide
 refine cx_seq (cx_ops ?_)
 refine ax_e (e_alloc (by decide) rfl rfl) ?_
 refine ax_nil (cx_keep rfl rfl (cx_seq (cx_ops ?_)))
 refine ax_call rfl (vc_pure (c_l02New  ?_) hP rfl ?_)
 ·
  first | assumption | omega
 rintro r h ⟨rfl, rfl⟩
 refine ⟨fun i => 2 + 200 * i, [0, 1, 2], ⟨rfl, rfl, rfl, rfl, rfl, (by first | exact (fun h => absurd h Bool.false_ne_true) | exact (fun _ => ⟨rfl, (noisl_of (by repeat (first | exact trivial | refine ⟨noisl_map (fun _ => rfl), ?_⟩ | refine ⟨?_, ?_⟩)))⟩))⟩, ?_⟩
 skip
 refine ax_e (e_alloc (by decide) rfl rfl) ?_
 refine ax_e (e_st rfl rfl rfl rfl rfl rfl rfl) ?_
 refine ax_nil (cx_keep rfl rfl (cx_seq ?_))
 refine cx_drawL 0 3 (fun _ => false) (fun _ => true) [] ([]) [[1], [3], []] [[], [], []] rfl ?_
 first | refine ⟨⟨3, _, []⟩, .inl ⟨rfl, rfl, rfl, locl_of (loc_q (q_fadr_ptr rfl))⟩, ?_⟩
 first | refine ⟨_, .inr ⟨rfl, _, rfl, .inr ⟨rfl, rfl, .inl rfl, rfl, rfl⟩, loc_q (q_load1_ptr rfl rfl rfl)⟩, ?_⟩
 refine ⟨_, .inr ⟨rfl, _, rfl, .inr ⟨rfl, rfl, .inr rfl, rfl, rfl⟩, loc_call (fun i => 5 + 200 * i) false rfl (c_l04Header  ) hP (.inr ⟨rfl, rfl, rfl⟩) rfl rfl (fun h => by cases h)⟩, ?_⟩
 refine ⟨rfl, ?_⟩
 refine ax_q (q_ixo rfl rfl h69) ?_
 refine ax_e (e_str (rs' := newS.Disk.Sectors.map strRow) (q := strRow header1) rfl rfl rfl rfl rfl rfl (mapAt h69) rfl rfl List.map_set.symm) ?_
 refine ax_nil (cx_keep rfl rfl (cx_seq (cx_ops ?_)))
 refine ax_q (q_ldN rfl rfl rfl) ?_
 refine ax_wk (wk_frz 7 2 rfl rfl (.agg (.cons (.whole rfl) (.cons (.same rfl) (.cons (.same rfl) (.cons (.same rfl) .nil))))) rfl) ?_
 refine ax_wk (wk_frz 7 202 rfl rfl (.agg (.cons (.same rfl) (.cons (.whole (List.length_map _).symm) (.cons (.same rfl) (.cons (.same rfl) .nil))))) rfl) ?_
 refine ax_wk (wk_frz 7 402 rfl rfl (.agg (.cons (.same rfl) (.cons (.same rfl) (.cons (.same rfl) (.cons (.whole (List.length_map _).symm) .nil))))) rfl) ?_
 refine ax_e (e_bslice rfl (by decide) rfl rfl) ?_
 refine ax_wk (wk_frz 8 8 rfl rfl (.whole rfl) rfl) ?_
 refine ax_e (e_bslice rfl (by decide) rfl rfl) ?_
 refine ax_wk (wk_frz 9 9 rfl rfl (.whole rfl) rfl) ?_
 refine ax_q (q_build rfl) ?_
 refine ax_e (e_st rfl rfl rfl rfl rfl rfl rfl) ?_
 refine ax_nil (cx_keep rfl rfl ?_)
 refine cx_ret (ret0 rfl rfl ?_)
 exact ⟨rfl, rfl⟩


/- (ptr loop.example/g00332/spec.l00Src).byte -/
def k_c_byte : XCode :=
 .seq (.ops [.op (some 2) (.mov (.k (.int .i64 0)))])
 (.keep [0] (.seq (.ops [.op (some 3) (.mov (.t 0)),
   .op (some 4) (.nilck (.t 3)),
   .op (some 5) (.fadr (.t 4) 1),
   .op (some 6) (.load1 (.t 5)),
   .op (some 7) (.bin .add (.t 6) (.k (.int .i64 1))),
   .op (some 8) (.nilck (.t 3)),
   .op (some 9) (.fadr (.t 8) 1),
   .op none (.store 1 (.t 9) (.t 7))])
 (.keep [0] (.seq (.seq (.draw [.op (some 10) (.mov (.t 0)),
   .op (some 11) (.nilck (.t 10)),
   .op (some 12) (.fadr (.t 11) 1),
   .op (some 13) (.load1 (.t 12)),
   .op (some 14) (.mov (.t 0)),
   .op (some 15) (.nilck (.t 14)),
   .op (some 16) (.fadr (.t 15) 0),
   .op (some 17) (.load1 (.t 16)),
   .op (some 18) (.lenS (.t 17)),
   .op (some 19) (.bin .leq (.t 13) (.t 18))])
  (.keep [0, 19] (.cond (.t 19)
  (.seq (.drawE [[], [], [1], [1, 2], [1, 2, 3], [1, 2, 3, 4], [], [6], [6, 7], [6, 7, 8], [], [10], [10, 11], [10, 11, 12], [10, 11, 12, 13], [6, 7, 8, 9, 10, 11, 12, 13, 14], [6, 7, 8, 9, 10, 11, 12, 13, 14, 15], [6, 7, 8, 9, 10, 11, 12, 13, 14, 15, 16], [1, 2, 3, 4, 5, 6, 7, 8, 9, 10, 11, 12, 13, 14, 15, 16, 17], [1, 2, 3, 4, 5, 6, 7, 8, 9, 10, 11, 12, 13, 14, 15, 16, 17, 18], [1, 2, 3, 4, 5, 6, 7, 8, 9, 10, 11, 12, 13, 14, 15, 16, 17, 18, 19], [0, 1, 2, 3, 4, 5, 6, 7, 8, 9, 10, 11, 12, 13, 14, 15, 16, 17, 18, 19, 20], [0, 1, 2, 3, 4, 5, 6, 7, 8, 9, 10, 11, 12, 13, 14, 15, 16, 17, 18, 19, 20, 21], [0, 1, 2, 3, 4, 5, 6, 7, 8, 9, 10, 11, 12, 13, 14, 15, 16, 17, 18, 19, 20, 21, 22]] [.op (some 20) (.mov (.t 0)),
    .op (some 21) (.mov (.t 0)),
    .op (some 22) (.nilck (.t 21)),
    .op (some 23) (.fadr (.t 22) 2),
    .op (some 24) (.load1 (.t 23)),
    .op (some 25) (.bin .mul (.t 24) (.k (.int .i64 31))),
    .op (some 26) (.mov (.t 0)),
    .op (some 27) (.nilck (.t 26)),
    .op (some 28) (.fadr (.t 27) 0),
    .op (some 29) (.load1 (.t 28)),
    .op (some 30) (.mov (.t 0)),
    .op (some 31) (.nilck (.t 30)),
    .op (some 32) (.fadr (.t 31) 1),
    .op (some 33) (.load1 (.t 32)),
    .op (some 34) (.bin .sub (.t 33) (.k (.int .i64 1))),
    .op (some 35) (.iadr 1 (.t 29) (.t 34)),
    .op (some 36) (.load1 (.t 35)),
    .op (some 37) (.conv .i64 (.t 36)),
    .op (some 38) (.bin .add (.t 25) (.t 37)),
    .op (some 39) (.bin .add (.t 38) (.k (.int .i64 7))),
    .op (some 40) (.bin .rem (.t 39) (.k (.int .i64 2147483648)))]
    [.op (some 41) (.nilck (.t 20)),
    .op (some 42) (.fadr (.t 41) 2),
    .op none (.store 1 (.t 42) (.t 40))])
   (.keep [0] (.seq (.draw [.op (some 43) (.mov (.t 0)),
    .op (some 44) (.nilck (.t 43)),
    .op (some 45) (.fadr (.t 44) 0),
    .op (some 46) (.load1 (.t 45)),
    .op (some 47) (.mov (.t 0)),
    .op (some 48) (.nilck (.t 47)),
    .op (some 49) (.fadr (.t 48) 1),
    .op (some 50) (.load1 (.t 49)),
    .op (some 51) (.bin .sub (.t 50) (.k (.int .i64 1))),
    .op (some 52) (.iadr 1 (.t 46) (.t 51)),
    .op (some 53) (.load1 (.t 52)),
    .op (some 54) (.conv .i64 (.t 53)),
    .op (some 2) (.mov (.t 54))])
   (.keep [2] (.ret)))))
  (.skip))))
 (.keep [0] (.seq (.seq (.ops [.op (some 55) (.mov (.t 0)),
   .op (some 56) (.nilck (.t 55)),
   .op (some 57) (.fadr (.t 56) 1),
   .op (some 58) (.load1 (.t 57)),
   .op (some 59) (.bin .gtr (.t 58) (.k (.int .i64 3000)))])
  (.keep [0, 59] (.cond (.t 59)
  (.seq (.ops [.op (some 2) (.mov (.k (.int .i64 0)))])
   (.keep [2] (.ret)))
  (.skip))))
 (.keep [0] (.seq (.ops [.op (some 60) (.mov (.t 0)),
   .op (some 61) (.mov (.t 0)),
   .op (some 62) (.nilck (.t 61)),
   .op (some 63) (.fadr (.t 62) 2),
   .op (some 64) (.load1 (.t 63)),
   .op (some 65) (.bin .mul (.t 64) (.k (.int .i64 1103515245))),
   .op (some 66) (.bin .add (.t 65) (.k (.int .i64 12345))),
   .op (some 67) (.bin .rem (.t 66) (.k (.int .i64 2147483648))),
   .op (some 68) (.nilck (.t 60)),
   .op (some 69) (.fadr (.t 68) 2),
   .op none (.store 1 (.t 69) (.t 67))])
 (.keep [0] (.seq (.ops [.op (some 70) (.mov (.t 0)),
   .op (some 71) (.nilck (.t 70)),
   .op (some 72) (.fadr (.t 71) 2),
   .op (some 73) (.load1 (.t 72)),
   .op (some 74) (.bin .quo (.t 73) (.k (.int .i64 65536))),
   .op (some 75) (.bin .rem (.t 74) (.k (.int .i64 256))),
   .op (some 2) (.mov (.t 75))])
 (.keep [2] (.ret))))))))))))
theorem k_c_byte_fits : fitsF Tryz.prog 119 ⟨76, k_c_byte, [.t 2]⟩ = true := by kernel_rfl
set_option maxHeartbeats 2000000 in
theorem c_byte {s : Src} {n : Nat} (hs : s.ok (n + 1)) : Con Tryz.prog noMv 119 [.ptr 1000 0] (s.h 1000) (fun r h => r = int (byteF s).1 ∧ h = ((byteF s).2).h 1000) := by
 refine con_of2 k_c_byte_fits rfl fun C hP hmv => ?_
 unfold k_c_byte
 have hp := hs.pos; have hd := hs.seed; have hl := hs.len
 refine cx_seq (cx_ops ?_)
 refine ax_q (q_mov rfl) ?_
 refine ax_nil (cx_keep rfl rfl (cx_seq (cx_ops ?_)))
 refine ax_q (q_mov rfl) ?_
 refine ax_q (q_nilck_ptr rfl) ?_
 refine ax_q (q_fadr_ptr rfl) ?_
 refine ax_q (q_load1_ptr rfl rfl rfl) ?_
 refine ax_q (q_add rfl rfl (by omega)) ?_
 refine ax_q (q_nilck_ptr rfl) ?_
 refine ax_q (q_fadr_ptr rfl) ?_
 refine ax_e (e_st rfl rfl rfl rfl rfl rfl rfl) ?_
 refine ax_nil (cx_keep rfl rfl (cx_seq (cx_seq (cx_draw ?_))))
 refine ax_q (q_mov rfl) ?_
 refine ax_q (q_nilck_ptr rfl) ?_
 refine ax_q (q_fadr_ptr rfl) ?_
 refine ax_q (q_load1_ptr rfl rfl rfl) ?_
 refine ax_q (q_mov rfl) ?_
 refine ax_q (q_nilck_ptr rfl) ?_
 refine ax_q (q_fadr_ptr rfl) ?_
 refine ax_q (q_load1_ptr rfl rfl rfl) ?_
 refine ax_q (q_lenS_map rfl) ?_
 refine ax_q (q_ibin rfl rfl rfl) ?_
 refine ax_nil (cx_keep rfl rfl ?_)
 refine cx_cond rfl (fun h0 => ?_) (fun h0 => ?_)
 ·
  have h0 := dT h0
  have hi : (s.pos + 1 - 1).toNat < s.code.length := by omega
  have hb := (s.code[(s.pos + 1 - 1).toNat]).toNat_lt
  have hg : s.code.getD s.pos.toNat 0 = s.code[(s.pos + 1 - 1).toNat] := by
   rw [← getD_at hi]; congr 2; omega
  refine cx_seq ?_
  refine cx_drawL 0 20 (fun _ => false) (fun _ => true) [] ([]) [[0], [0], [21], [22], [23], [24], [0], [26], [27], [28], [0], [30], [31], [32], [33], [29, 34], [35], [36], [25, 37], [38], [39]] [[], [], [], [], [], [], [], [], [], [], [], [], [], [], [], [], [], [], [], [], []] rfl ?_
  first | refine ⟨⟨20, _, []⟩, .inl ⟨rfl, rfl, rfl, locl_of (loc_q (q_mov rfl))⟩, ?_⟩
  first | refine ⟨_, .inr ⟨rfl, _, rfl, .inr ⟨rfl, rfl, .inr rfl, rfl, rfl⟩, loc_q (q_mov rfl)⟩, ?_⟩
  refine ⟨_, .inr ⟨rfl, _, rfl, .inr ⟨rfl, rfl, .inr rfl, rfl, rfl⟩, loc_q (q_nilck_ptr rfl)⟩, ?_⟩
  refine ⟨_, .inr ⟨rfl, _, rfl, .inr ⟨rfl, rfl, .inr rfl, rfl, rfl⟩, loc_q (q_fadr_ptr rfl)⟩, ?_⟩
  refine ⟨_, .inr ⟨rfl, _, rfl, .inr ⟨rfl, rfl, .inr rfl, rfl, rfl⟩, loc_q (q_load1_ptr rfl rfl rfl)⟩, ?_⟩
  first | refine ⟨_, .inr ⟨rfl, _, rfl, .inr ⟨rfl, rfl, .inr rfl, rfl, rfl⟩, loc_q (q_mul rfl rfl (by omega))⟩, ?_⟩
  first | refine ⟨_, .inr ⟨rfl, _, rfl, .inr ⟨rfl, rfl, .inr rfl, rfl, rfl⟩, loc_q (q_mov rfl)⟩, ?_⟩
  refine ⟨_, .inr ⟨rfl, _, rfl, .inr ⟨rfl, rfl, .inr rfl, rfl, rfl⟩, loc_q (q_nilck_ptr rfl)⟩, ?_⟩
  refine ⟨_, .inr ⟨rfl, _, rfl, .inr ⟨rfl, rfl, .inr rfl, rfl, rfl⟩, loc_q (q_fadr_ptr rfl)⟩, ?_⟩
  refine ⟨_, .inr ⟨rfl, _, rfl, .inr ⟨rfl, rfl, .inr rfl, rfl, rfl⟩, loc_q (q_load1_ptr rfl rfl rfl)⟩, ?_⟩
  first | refine ⟨_, .inr ⟨rfl, _, rfl, .inr ⟨rfl, rfl, .inr rfl, rfl, rfl⟩, loc_q (q_mov rfl)⟩, ?_⟩
  refine ⟨_, .inr ⟨rfl, _, rfl, .inr ⟨rfl, rfl, .inr rfl, rfl, rfl⟩, loc_q (q_nilck_ptr rfl)⟩, ?_⟩
  refine ⟨_, .inr ⟨rfl, _, rfl, .inr ⟨rfl, rfl, .inr rfl, rfl, rfl⟩, loc_q (q_fadr_ptr rfl)⟩, ?_⟩
  refine ⟨_, .inr ⟨rfl, _, rfl, .inr ⟨rfl, rfl, .inr rfl, rfl, rfl⟩, loc_q (q_load1_ptr rfl rfl rfl)⟩, ?_⟩
  first | refine ⟨_, .inr ⟨rfl, _, rfl, .inr ⟨rfl, rfl, .inr rfl, rfl, rfl⟩, loc_q (q_sub rfl rfl (by omega))⟩, ?_⟩
  first | refine ⟨_, .inr ⟨rfl, _, rfl, .inr ⟨rfl, rfl, .inr rfl, rfl, rfl⟩, loc_q (q_ixI rfl rfl (by omega) (mapAt hi))⟩, ?_⟩
  first | refine ⟨_, .inr ⟨rfl, _, rfl, .inr ⟨rfl, rfl, .inr rfl, rfl, rfl⟩, loc_q (q_load1_ptr rfl rfl rfl)⟩, ?_⟩ | refine ⟨_, .inr ⟨rfl, _, rfl, .inr ⟨rfl, rfl, .inr rfl, rfl, rfl⟩, loc_q (q_load1_ip rfl)⟩, ?_⟩
  refine ⟨_, .inr ⟨rfl, _, rfl, .inr ⟨rfl, rfl, .inr rfl, rfl, rfl⟩, loc_q (q_convB rfl)⟩, ?_⟩
  first | refine ⟨_, .inr ⟨rfl, _, rfl, .inr ⟨rfl, rfl, .inr rfl, rfl, rfl⟩, loc_q (q_add rfl rfl (by omega))⟩, ?_⟩
  first | refine ⟨_, .inr ⟨rfl, _, rfl, .inr ⟨rfl, rfl, .inr rfl, rfl, rfl⟩, loc_q (q_add rfl rfl (by omega))⟩, ?_⟩
  first | refine ⟨_, .inr ⟨rfl, _, rfl, .inr ⟨rfl, rfl, .inr rfl, rfl, rfl⟩, loc_q (q_mod rfl rfl (by omega) (by omega))⟩, ?_⟩
  refine ⟨rfl, ?_⟩
  refine ax_q (q_nilck_ptr rfl) ?_
  refine ax_q (q_fadr_ptr rfl) ?_
  refine ax_e (e_st rfl rfl rfl rfl rfl rfl rfl) ?_
  refine ax_nil (cx_keep rfl rfl (cx_seq (cx_draw ?_)))
  refine ax_q (q_mov rfl) ?_
  refine ax_q (q_nilck_ptr rfl) ?_
  refine ax_q (q_fadr_ptr rfl) ?_
  refine ax_q (q_load1_ptr rfl rfl rfl) ?_
  refine ax_q (q_mov rfl) ?_
  refine ax_q (q_nilck_ptr rfl) ?_
  refine ax_q (q_fadr_ptr rfl) ?_
  refine ax_q (q_load1_ptr rfl rfl rfl) ?_
  refine ax_q (q_sub rfl rfl (by omega)) ?_
  refine ax_q (q_ixI rfl rfl (by omega) (mapAt hi)) ?_
  first | refine ax_q (q_load1_ptr rfl rfl rfl) ?_ | refine ax_q (q_load1_ip rfl) ?_
  refine ax_q (q_convB rfl) ?_
  refine ax_q (q_mov rfl) ?_
  refine ax_nil (cx_keep rfl rfl ?_)
  refine cx_ret (retN id [1000] rfl rfl rfl rfl rfl ?_)
  rw [byteF_1 h0, hg]; exact ⟨rfl, rfl⟩
 ·
  have h0 := dF h0
  refine cx_skip ?_
  refine cx_keep rfl rfl (cx_seq (cx_seq (cx_ops ?_)))
  refine ax_q (q_mov rfl) ?_
  refine ax_q (q_nilck_ptr rfl) ?_
  refine ax_q (q_fadr_ptr rfl) ?_
  refine ax_q (q_load1_ptr rfl rfl rfl) ?_
  refine ax_q (q_ibin rfl rfl rfl) ?_
  refine ax_nil (cx_keep rfl rfl ?_)
  refine cx_cond rfl (fun h1 => ?_) (fun h1 => ?_)
  ·
   have h1 := dT h1
   refine cx_seq (cx_ops ?_)
   refine ax_q (q_mov rfl) ?_
   refine ax_nil (cx_keep rfl rfl ?_)
   refine cx_ret (retN id [1000] rfl rfl rfl rfl rfl ?_)
   rw [byteF_2 h0 h1]; exact ⟨rfl, rfl⟩
  ·
   have h1 := dF h1
   refine cx_skip ?_
   refine cx_keep rfl rfl (cx_seq (cx_ops ?_))
   refine ax_q (q_mov rfl) ?_
   refine ax_q (q_mov rfl) ?_
   refine ax_q (q_nilck_ptr rfl) ?_
   refine ax_q (q_fadr_ptr rfl) ?_
   refine ax_q (q_load1_ptr rfl rfl rfl) ?_
   refine ax_q (q_mul rfl rfl (by omega)) ?_
   refine ax_q (q_add rfl rfl (by omega)) ?_
   refine ax_q (q_mod rfl rfl (by omega) (by omega)) ?_
   refine ax_q (q_nilck_ptr rfl) ?_
   refine ax_q (q_fadr_ptr rfl) ?_
   refine ax_e (e_st rfl rfl rfl rfl rfl rfl rfl) ?_
   refine ax_nil (cx_keep rfl rfl (cx_seq (cx_ops ?_)))
   refine ax_q (q_mov rfl) ?_
   refine ax_q (q_nilck_ptr rfl) ?_
   refine ax_q (q_fadr_ptr rfl) ?_
   refine ax_q (q_load1_ptr rfl rfl rfl) ?_
   refine ax_q (q_div rfl rfl (by omega) (by omega) (by omega)) ?_
   refine ax_q (q_mod rfl rfl (by omega) (by omega)) ?_
   refine ax_q (q_mov rfl) ?_
   refine ax_nil (cx_keep rfl rfl ?_)
   refine cx_ret (retN id [1000] rfl rfl rfl rfl rfl ?_)
   rw [byteF_3 h0 h1]; exact ⟨rfl, rfl⟩


/- (ptr loop.example/g00332/spec.l00Src).next -/
def k_c_next : XCode :=
 .seq (.ops [.op (some 4) (.mov (.k (.int .i64 0)))])
 (.keep [0, 1] (.seq (.seq (.ops [.op (some 8) (.mov (.t 1)),
   .op (some 9) (.bin .leq (.t 8) (.k (.int .i64 1)))])
  (.keep [0, 1, 9] (.cond (.t 9)
  (.seq (.ops [.op (some 4) (.mov (.k (.int .i64 0)))])
   (.keep [4] (.ret)))
  (.skip))))
 (.keep [0, 1] (.seq (.seq (.ops [.op (some 10) (.mov (.t 1)),
   .op (some 11) (.bin .leq (.t 10) (.k (.int .i64 256)))])
  (.keep [0, 1, 11] (.cond (.t 11)
  (.seq (.ops [.op (some 12) (.mov (.t 0)),
    .call (some 13) 119 [.t 12],
    .op (some 14) (.mov (.t 1)),
    .op (some 15) (.bin .rem (.t 13) (.t 14)),
    .op (some 4) (.mov (.t 15))])
   (.keep [4] (.ret)))
  (.skip))))
 (.keep [0, 1] (.seq (.ops [.op (some 16) (.mov (.t 0)),
   .call (some 17) 119 [.t 16],
   .op (some 5) (.mov (.t 17))])
 (.keep [0, 1, 5] (.seq (.ops [.op (some 18) (.mov (.t 0)),
   .call (some 19) 119 [.t 18],
   .op (some 6) (.mov (.t 19))])
 (.keep [0, 1, 5, 6] (.seq (.ops [.op (some 20) (.mov (.t 0)),
   .call (some 21) 119 [.t 20],
   .op (some 7) (.mov (.t 21))])
 (.keep [1, 5, 6, 7] (.seq (.ops [.op (some 22) (.mov (.t 5)),
   .op (some 23) (.bin .mul (.t 22) (.k (.int .i64 65536))),
   .op (some 24) (.mov (.t 6)),
   .op (some 25) (.bin .mul (.t 24) (.k (.int .i64 256))),
   .op (some 26) (.bin .add (.t 23) (.t 25)),
   .op (some 27) (.mov (.t 7)),
   .op (some 28) (.bin .add (.t 26) (.t 27)),
   .op (some 29) (.mov (.t 1)),
   .op (some 30) (.bin .rem (.t 28) (.t 29)),
   .op (some 4) (.mov (.t 30))])
 (.keep [4] (.ret))))))))))))))
theorem k_c_next_fits : fitsF Tryz.prog 60 ⟨31, k_c_next, [.t 4]⟩ = true := by kernel_rfl
theorem c_next {s : Src} {m : Int} {n : Nat} (hs : s.ok (n + 3)) : Con Tryz.prog noMv 60 [.ptr 1000 0, int m] (s.h 1000) (fun r h => r = int (nextF s m).1 ∧ h = ((nextF s m).2).h 1000) := by
 refine con_of2 k_c_next_fits rfl fun C hP hmv => ?_
 unfold k_c_next
 refine cx_seq (cx_ops ?_)
 refine ax_q (q_mov rfl) ?_
 refine ax_nil (cx_keep rfl rfl (cx_seq (cx_seq (cx_ops ?_))))
 refine ax_q (q_mov rfl) ?_
 refine ax_q (q_ibin rfl rfl rfl) ?_
 refine ax_nil (cx_keep rfl rfl ?_)
 refine cx_cond rfl (fun h0 => ?_) (fun h0 => ?_)
 ·
  have h0 := dT h0
  refine cx_seq (cx_ops ?_)
  refine ax_q (q_mov rfl) ?_
  refine ax_nil (cx_keep rfl rfl ?_)
  refine cx_ret (retN id [1000] rfl rfl rfl rfl rfl ?_)
  rw [nextF_1 h0]; exact ⟨rfl, rfl⟩
 ·
  have h0 := dF h0
  refine cx_skip ?_
  refine cx_keep rfl rfl (cx_seq (cx_seq (cx_ops ?_)))
  refine ax_q (q_mov rfl) ?_
  refine ax_q (q_ibin rfl rfl rfl) ?_
  refine ax_nil (cx_keep rfl rfl ?_)
  refine cx_cond rfl (fun h1 => ?_) (fun h1 => ?_)
  ·
   have h1 := dT h1
   refine cx_seq (cx_ops ?_)
   refine ax_q (q_mov rfl) ?_
   obtain ⟨k1, k2, k3⟩ := byteF_ok (n := n + 2) hs
   refine ax_call rfl (vcall_own (c_byte (n := n + 2) ?_) hP hmv false (fun _ => 1000) [1000] ⟨rfl, rfl, rfl, rfl, ⟨rfl, trivial⟩, rfl, rfl, rfl⟩ (.pass rfl rfl .nil) ?_)
   ·
    assumption
   rintro r h ⟨rfl, rfl⟩
   refine ⟨fun _ => 1000, [], ⟨rfl, rfl, rfl, rfl, mem1 rfl, rfl, rfl, fun h => absurd h Bool.false_ne_true⟩, ?_⟩
   refine ax_q (q_mov rfl) ?_
   refine ax_q (q_mod rfl rfl (by omega) (by omega)) ?_
   refine ax_q (q_mov rfl) ?_
   refine ax_nil (cx_keep rfl rfl ?_)
   refine cx_ret (retN id [1000] rfl rfl rfl rfl rfl ?_)
   rw [nextF_2 h0 h1]; exact ⟨rfl, rfl⟩
  ·
   have h1 := dF h1
   refine cx_skip ?_
   refine cx_keep rfl rfl (cx_seq (cx_ops ?_))
   refine ax_q (q_mov rfl) ?_
   obtain ⟨k1, k2, k3⟩ := byteF_ok (n := n + 2) hs
   obtain ⟨k4, k5, k6⟩ := byteF_ok (n := n + 1) k1
   obtain ⟨k7, k8, k9⟩ := byteF_ok (n := n) k4
   refine ax_call rfl (vcall_own (c_byte (n := n + 2) ?_) hP hmv false (fun _ => 1000) [1000] ⟨rfl, rfl, rfl, rfl, ⟨rfl, trivial⟩, rfl, rfl, rfl⟩ (.pass rfl rfl .nil) ?_)
   ·
    assumption
   rintro r h ⟨rfl, rfl⟩
   refine ⟨fun _ => 1000, [], ⟨rfl, rfl, rfl, rfl, mem1 rfl, rfl, rfl, fun h => absurd h Bool.false_ne_true⟩, ?_⟩
   refine ax_q (q_mov rfl) ?_
   refine ax_nil (cx_keep rfl rfl (cx_seq (cx_ops ?_)))
   refine ax_q (q_mov rfl) ?_
   refine ax_call rfl (vcall_own (c_byte (n := n + 1) ?_) hP hmv false (fun _ => 1000) [1000] ⟨rfl, rfl, rfl, rfl, ⟨rfl, trivial⟩, rfl, rfl, rfl⟩ (.pass rfl rfl .nil) ?_)
   ·
    assumption
   rintro r h ⟨rfl, rfl⟩
   refine ⟨fun _ => 1000, [], ⟨rfl, rfl, rfl, rfl, mem1 rfl, rfl, rfl, fun h => absurd h Bool.false_ne_true⟩, ?_⟩
   refine ax_q (q_mov rfl) ?_
   refine ax_nil (cx_keep rfl rfl (cx_seq (cx_ops ?_)))
   refine ax_q (q_mov rfl) ?_
   refine ax_call rfl (vcall_own (c_byte (n := n) ?_) hP hmv false (fun _ => 1000) [1000] ⟨rfl, rfl, rfl, rfl, ⟨rfl, trivial⟩, rfl, rfl, rfl⟩ (.pass rfl rfl .nil) ?_)
   ·
    assumption
   rintro r h ⟨rfl, rfl⟩
   refine ⟨fun _ => 1000, [], ⟨rfl, rfl, rfl, rfl, mem1 rfl, rfl, rfl, fun h => absurd h Bool.false_ne_true⟩, ?_⟩
   refine ax_q (q_mov rfl) ?_
   refine ax_nil (cx_keep rfl rfl (cx_seq (cx_ops ?_)))
   refine ax_q (q_mov rfl) ?_
   refine ax_q (q_mul rfl rfl (by omega)) ?_
   refine ax_q (q_mov rfl) ?_
   refine ax_q (q_mul rfl rfl (by omega)) ?_
   refine ax_q (q_add rfl rfl (by omega)) ?_
   refine ax_q (q_mov rfl) ?_
   refine ax_q (q_add rfl rfl (by omega)) ?_
   refine ax_q (q_mov rfl) ?_
   refine ax_q (q_mod rfl rfl (by omega) (by omega)) ?_
   refine ax_q (q_mov rfl) ?_
   refine ax_nil (cx_keep rfl rfl ?_)
   refine cx_ret (retN id [1000] rfl rfl rfl rfl rfl ?_)
   rw [nextF_3 h0 h1]; exact ⟨rfl, rfl⟩


/- loop.example/g00332/spec.l05Frame -/
def k_c_l05Frame : XCode :=
 .seq (.ops [.op (some 2) (.box (.t 0)),
   .op (some 4) (.mov (.k (.int .i64 0)))])
 (.keep [1, 2] (.seq (.seq (.ops [.op (some 5) (.mov (.k (.int .i64 0)))])
  (.keep [1, 2, 5] (.block 0 (.loop (.seq (.seq (.ops [.op (some 6) (.mov (.t 5)),
     .op (some 7) (.fadr (.t 2) 7),
     .op (some 8) (.load1 (.t 7)),
     .op (some 9) (.lenS (.t 8)),
     .op (some 10) (.bin .lss (.t 6) (.t 9))])
   (.keep [1, 2, 5, 10] (.cond (.t 10)
    (.skip)
    (.exit 0))))
   (.keep [1, 2, 5] (.seq (.block 1 (.seq (.ops [.op (some 13) (.fadr (.t 2) 7),
     .op (some 14) (.load1 (.t 13)),
     .op (some 15) (.mov (.t 5)),
     .op (some 16) (.iadr 5 (.t 14) (.t 15)),
     .op (some 17) (.fadr (.t 16) 0),
     .op (some 18) (.load1 (.t 17)),
     .op (some 19) (.mov (.t 1)),
     .op (some 20) (.bin .eql (.t 18) (.t 19))])
    (.keep [1, 2, 5, 20] (.cond (.t 20)
    (.seq (.ops [.op (some 21) (.mov (.t 5)),
      .op (some 4) (.mov (.t 21))])
     (.keep [4] (.ret)))
    (.skip)))))
   (.keep [1, 2, 5] (.ops [.op (some 11) (.mov (.t 5)),
    .op (some 12) (.bin .add (.t 11) (.k (.int .i64 1))),
    .op (some 5) (.mov (.t 12))])))))))))
 (.keep [] (.seq (.ops [.op (some 4) (.mov (.k (.int .i64 (-1))))])
 (.keep [4] (.ret))))))
theorem k_c_l05Frame_fits : fitsF Tryz.prog 48 ⟨22, k_c_l05Frame, [.t 4]⟩ = true := by kernel_rfl
theorem c_l05Frame {s : GStore} {no : Int} (hf : s.Frames.length ≤ 1048576) : Con Tryz.prog noMv 48 [s.av, int no] [] (fun r h => r = int (frameAt s no) ∧ h = []) := by
 refine con_of2 k_c_l05Frame_fits rfl fun C hP hmv => ?_
 unfold k_c_l05Frame
 refine cx_seq (cx_ops ?_)
 refine ax_e (e_box rfl rfl (by decide) rfl rfl rfl) ?_
 refine ax_q (q_mov rfl) ?_
 refine ax_nil (cx_keep rfl rfl (cx_seq (cx_seq (cx_ops ?_))))
 refine ax_q (q_mov rfl) ?_
 refine ax_nil (cx_keep rfl rfl (cx_block ?_))
 refine cx_loopU (fun n k => k ≤ s.Frames.length ∧ n = s.Frames.length - k ∧ ∀ j, j < k → ∀ x, s.Frames[j]? = some x → decide (x.No = no) = false) (fun k : Nat => [(5, int k)]) (fun _ => [(2, .box (s.row.map .d))]) ⟨_, 0, ⟨Nat.zero_le _, rfl, fun j hj => by omega⟩, by repeat constructor⟩ ?_
 rintro n k ⟨hk, rfl, hb⟩
 refine cx_seq (cx_seq (cx_ops ?_))
 refine ax_q (q_mov rfl) ?_
 refine ax_q (q_fadr_ptr rfl) ?_
 refine ax_q (q_load1_ptr rfl rfl rfl) ?_
 refine ax_q (q_lenS_map rfl) ?_
 refine ax_q (q_ibin rfl rfl rfl) ?_
 refine ax_nil (cx_keep rfl rfl ?_)
 refine cx_cond rfl (fun h0 => ?_) (fun h0 => ?_)
 ·
  have h0 := dT h0
  have h0x : k < s.Frames.length := by omega
  refine cx_skip ?_
  refine cx_keep rfl rfl (cx_seq (cx_block (cx_seq (cx_ops ?_))))
  refine ax_q (q_fadr_ptr rfl) ?_
  refine ax_q (q_load1_ptr rfl rfl rfl) ?_
  refine ax_q (q_mov rfl) ?_
  refine ax_q (q_ix rfl rfl (mapAt h0x)) ?_
  first | refine ax_q (q_fadr_ptr rfl) ?_ | refine ax_q (q_fadr_rptr rfl) ?_ | refine ax_q (q_fadr_ip rfl) ?_
  first | refine ax_q (q_load1_ptr rfl rfl rfl) ?_ | refine ax_q (q_load1_ip rfl) ?_
  refine ax_q (q_mov rfl) ?_
  refine ax_q (q_ibin rfl rfl rfl) ?_
  refine ax_nil (cx_keep rfl rfl ?_)
  refine cx_cond rfl (fun h1 => ?_) (fun h1 => ?_)
  ·
   have h1 := dT h1
   refine cx_seq (cx_ops ?_)
   refine ax_q (q_mov rfl) ?_
   refine ax_q (q_mov rfl) ?_
   refine ax_nil (cx_keep rfl rfl ?_)
   refine cx_ret (ret0 rfl rfl ?_)
   exact ⟨by unfold frameAt; rw [idxOf_hit h0x hb (decide_eq_true h1)]; rfl, rfl⟩
  ·
   have h1 := dF h1
   refine cx_skip ?_
   refine cx_keep rfl rfl (cx_ops ?_)
   refine ax_q (q_mov rfl) ?_
   refine ax_qe (r' := int ((k + 1 : Nat) : Int)) (q_ibin rfl rfl rfl) (by rw [wi (by omega) (by omega)]; rfl) ?_
   refine ax_q (q_mov rfl) ?_
   refine ax_nil ?_
   exact ⟨_, k + 1, by omega, ⟨by omega, rfl, before_step h0x hb (decide_eq_false h1)⟩, by repeat constructor⟩
 ·
  have h0 := dF h0
  have h0x : k = s.Frames.length := by omega
  refine cx_exit rfl ?_
  refine cx_keep rfl rfl (cx_seq (cx_ops ?_))
  refine ax_q (q_mov rfl) ?_
  refine ax_nil (cx_keep rfl rfl ?_)
  refine cx_ret (ret0 rfl rfl ?_)
  exact ⟨by unfold frameAt; rw [idxOf_none (fun i hi => hb i (by omega))]; rfl, rfl⟩


/- loop.example/g00332/spec.l03Bytes -/
def k_c_l03Bytes : XCode :=
 .seq (.ops [.op (some 3) (.box (.t 1)),
   .op (some 4) (.mov (.k (.nils 1)))])
 (.keep [0, 3] (.seq (.drawE [[], [0], [0, 1], [], [3], [3, 4], [0, 1, 2, 3, 4, 5], [], [7], [0, 1, 2, 3, 4, 5, 6, 7, 8], [0, 1, 2, 3, 4, 5, 6, 7, 8, 9], [0, 1, 2, 3, 4, 5, 6, 7, 8, 9, 10], [0, 1, 2, 3, 4, 5, 6, 7, 8, 9, 10, 11]] [.op (some 5) (.mov (.t 0)),
   .op (some 6) (.conv .u8 (.t 5)),
   .op (some 7) (.bslice 1 [.k (.int .u8 112), .t 6]),
   .op (some 8) (.fadr (.t 3) 0),
   .op (some 9) (.load1 (.t 8)),
   .call (some 10) 169 [.t 9, .k (.int .i64 2)],
   .op (some 11) (.app 1 1 [.int .u8 0] (.t 7) (.t 10)),
   .op (some 12) (.fadr (.t 3) 1),
   .op (some 13) (.load1 (.t 12))]
  [.call (some 14) 129 [.t 13],
   .op (some 15) (.app 1 1 [.int .u8 0] (.t 11) (.t 14)),
   .call (some 16) 128 [.t 15],
   .op (some 4) (.mov (.t 16))])
 (.keep [4] (.ret))))
theorem k_c_l03Bytes_fits : fitsF Tryz.prog 162 ⟨17, k_c_l03Bytes, [.t 4]⟩ = true := by kernel_rfl
theorem c_l03Bytes {no : Int} {p : Page} (hp : PG p) (hn : 0 ≤ no ∧ no ≤ 255) : Con Tryz.prog noMv 162 [int no, p.av] [] (fun r h => r = .osl 0 1 0 (pbF no p).length ∧ h = [(0, .rows 1 ((pbF no p).map byteRow))]) := by
 refine con_of2 k_c_l03Bytes_fits rfl fun C hP hmv => ?_
 unfold k_c_l03Bytes
 have hp1 := hp.ln
 have hp2 := hp.ls
 have hpok := hp.ok
 have hsl : ∀ t ∈ p.slots, t.length ≤ 1000 := fun t ht => by have := hp.st t ht; omega
 have hpl : (putFs [112, Go.AM.byteOf no, shB p.lsn 8, Go.AM.byteOf p.lsn] p.slots).length ≤ 1000000 := by unfold putFs; rw [putK_len]; have := lenK_le hsl p.slots.length; rw [hp1] at this ⊢; simp only [List.length_cons, List.length_nil]; omega
 have hpl2 : (putFs [] p.slots).length ≤ 1000000 := by unfold putFs; rw [putK_len]; have := lenK_le hsl p.slots.length; rw [hp1] at this ⊢; simp only [List.length_cons, List.length_nil]; omega
 refine cx_seq (cx_ops ?_)
 refine ax_e (e_box rfl rfl (by decide) rfl rfl rfl) ?_
 refine ax_q (q_mov rfl) ?_
 refine ax_nil (cx_keep rfl rfl (cx_seq ?_))
 refine cx_drawL 6 11 (Nat.beq 7) (nrA 7) [] ([(7, .rows 1 (([112, Go.AM.byteOf no, shB p.lsn 8, Go.AM.byteOf p.lsn] : Str).map byteRow))]) [[0], [5], [6], [3], [8], [9], [7, 10], [3], [12]] [[], [], [], [], [], [], [7], [7], [7]] rfl ?_
 first | refine ⟨_, .inr ⟨rfl, _, rfl, .inl rfl, loc_q (q_mov rfl)⟩, ?_⟩
 first | refine ⟨_, .inr ⟨rfl, _, rfl, .inl rfl, loc_q (q_convB rfl)⟩, ?_⟩ | refine ⟨_, .inr ⟨rfl, _, rfl, .inl rfl, loc_q (q_convI rfl (by omega))⟩, ?_⟩ | refine ⟨_, .inr ⟨rfl, _, rfl, .inl rfl, loc_q (q_convU8 rfl)⟩, ?_⟩
 first | refine ⟨_, .inr ⟨rfl, _, rfl, .inl rfl, loc_bslice rfl⟩, ?_⟩
 first | refine ⟨_, .inr ⟨rfl, _, rfl, .inl rfl, loc_q (q_fadr_ptr rfl)⟩, ?_⟩
 first | refine ⟨_, .inr ⟨rfl, _, rfl, .inl rfl, loc_q (q_load1_ptr rfl rfl rfl)⟩, ?_⟩
 refine ⟨_, .inr ⟨rfl, _, rfl, .inl rfl, loc_call (fun i => 10 + 200 * i) false rfl (c_l01Number  (by first | assumption | omega | (simp; done) | (simp; omega))) hP (.inr ⟨rfl, rfl, rfl⟩) rfl rfl (fun h => by cases h)⟩, ?_⟩
 refine ⟨⟨11, _, []⟩, .inl ⟨rfl, rfl, rfl, locl_app (n' := 4) (rs' := ([112, Go.AM.byteOf no, shB p.lsn 8, Go.AM.byteOf p.lsn] : Str).map byteRow) rfl rfl (by simp) rfl (fun _ _ h => src_osl (h _ _ rfl) (by simp)) (.inl (by decide)) (hbnd (by simp) (by rw [len_rows, numT_len]; decide) (by decide)) (by rw [len_rows, numT_len]; rfl) ((app_rows (x := [112, Go.AM.byteOf no])).trans (by rw [numT_2]; rfl))⟩, ?_⟩
 first | refine ⟨_, .inr ⟨rfl, _, rfl, .inr ⟨rfl, rfl, .inr rfl, rfl, rfl⟩, loc_q (q_fadr_ptr rfl)⟩, ?_⟩
 first | refine ⟨_, .inr ⟨rfl, _, rfl, .inr ⟨rfl, rfl, .inr rfl, rfl, rfl⟩, loc_q (q_load1_ptr rfl rfl rfl)⟩, ?_⟩
 refine ⟨rfl, ?_⟩
 refine ax_call rfl (vc_pure (c_l01Fields  ?_ ?_) hP rfl ?_)
 ·
  first | assumption | omega
 ·
  assumption
 rintro r h ⟨rfl, rfl⟩
 refine ⟨fun i => 14 + 200 * i, [0], ⟨rfl, rfl, rfl, rfl, rfl, (by first | exact (fun h => absurd h Bool.false_ne_true) | exact (fun _ => ⟨rfl, (noisl_of (by repeat (first | exact trivial | refine ⟨noisl_map (fun _ => rfl), ?_⟩ | refine ⟨?_, ?_⟩)))⟩))⟩, ?_⟩
 skip
 refine ax_e (e_appn (n' := (putFs [112, Go.AM.byteOf no, shB p.lsn 8, Go.AM.byteOf p.lsn] p.slots).length) (rs' := (putFs [112, Go.AM.byteOf no, shB p.lsn 8, Go.AM.byteOf p.lsn] p.slots).map byteRow) rfl rfl (by simp) rfl (src_osl rfl (by simp)) (.inl (by decide)) (hbnd (by simp) (by rw [len_rows]; omega) (by decide)) (by rw [len_rows, putFs_len (b := [112, Go.AM.byteOf no, shB p.lsn 8, Go.AM.byteOf p.lsn])]; rfl) ((app_rows (x := [112, Go.AM.byteOf no, shB p.lsn 8, Go.AM.byteOf p.lsn])).trans (by rw [putFs_app]))) ?_
 refine ax_call rfl (vcall_own (c_l03Sealed (b := putFs [112, Go.AM.byteOf no, shB p.lsn 8, Go.AM.byteOf p.lsn] p.slots) hpl) hP hmv false (fun _ => 7) [1000] ⟨rfl, rfl, rfl, rfl, ⟨rfl, trivial⟩, rfl, rfl, rfl⟩ (.pass rfl rfl .nil) ?_)
 rintro r h ⟨rfl, rfl⟩
 refine ⟨fun _ => 7, [], ⟨rfl, rfl, rfl, rfl, mem1 rfl, rfl, rfl, fun h => absurd h Bool.false_ne_true⟩, ?_⟩
 refine ax_q (q_mov rfl) ?_
 refine ax_nil (cx_keep rfl rfl ?_)
 refine cx_ret (retN (fun _ => 0) [7] rfl rfl rfl rfl rfl ?_)
 exact ⟨rfl, rfl⟩


/- loop.example/g00332/spec.l05Out -/
def k_c_l05Out : XCode :=
 .seq (.ops [.op (some 2) (.box (.t 0)),
   .op (some 4) (.alloc [.nils 1, .nils 2, .bool false, .nils 1, .int .i64 0, .nils 10, .int .i64 0, .nils 5, .int .i64 0]),
   .op (some 5) (.mov (.k (.bool false)))])
 (.keep [1, 2, 4] (.seq (.ops [.op (some 10) (.fadr (.t 2) 7),
   .op (some 11) (.load1 (.t 10)),
   .op (some 12) (.mov (.t 1)),
   .op (some 13) (.iadr 5 (.t 11) (.t 12)),
   .op (some 14) (.loadN 5 (.t 13)),
   .op (some 6) (.alloc [.int .i64 0, .int .i64 0, .nils 1, .bool false, .int .i64 0]),
   .op none (.store 5 (.t 6) (.t 14))])
 (.keep [1, 2, 4, 6] (.seq (.seq (.ops [.op (some 15) (.fadr (.t 6) 3),
   .op (some 16) (.load1 (.t 15)),
   .op (some 17) (.not (.t 16))])
  (.keep [1, 2, 4, 6, 17] (.cond (.t 17)
  (.seq (.ops [.op (some 18) (.loadN 9 (.t 2)),
    .op none (.store 9 (.t 4) (.t 18)),
    .op (some 5) (.mov (.k (.bool true)))])
   (.keep [4, 5] (.ret)))
  (.skip))))
 (.keep [1, 2, 4, 6] (.seq (.ops [.op (some 20) (.loadN 9 (.t 2)),
   .op (some 21) (.fadr (.t 6) 1),
   .op (some 22) (.fadr (.t 21) 0),
   .op (some 23) (.load1 (.t 22)),
   .call (some 24) 32 [.t 20, .t 23],
   .op (some 19) (.mov (.t 24)),
   .op (some 25) (.ext (.t 19) 0),
   .op (some 26) (.ext (.t 19) 1),
   .op none (.store 9 (.t 2) (.t 25)),
   .op (some 7) (.mov (.t 26))])
 (.keep [1, 2, 4, 6, 7] (.seq (.seq (.ops [.op (some 27) (.mov (.t 7)),
   .op (some 28) (.not (.t 27))])
  (.keep [1, 2, 4, 6, 28] (.cond (.t 28)
  (.seq (.ops [.op (some 29) (.loadN 9 (.t 2)),
    .op none (.store 9 (.t 4) (.t 29)),
    .op (some 5) (.mov (.k (.bool false)))])
   (.keep [4, 5] (.ret)))
  (.skip))))
 (.keep [1, 2, 4, 6] (.seq (.seq (.ops [.op (some 30) (.fadr (.t 2) 0),
   .op (some 31) (.fadr (.t 30) 1),
   .op (some 32) (.load1 (.t 31)),
   .op (some 33) (.lenS (.t 32)),
   .op (some 34) (.bin .eql (.t 33) (.k (.int .i64 500)))])
  (.keep [1, 2, 4, 6, 34] (.cond (.t 34)
  (.seq (.ops [.op (some 36) (.fadr (.t 2) 0),
    .op (some 37) (.loadN 4 (.t 36)),
    .call (some 38) 77 [.t 37],
    .op (some 35) (.mov (.t 38)),
    .op (some 39) (.ext (.t 35) 0),
    .op (some 40) (.ext (.t 35) 1),
    .op (some 8) (.alloc [.nils 1, .nils 2, .bool false, .nils 1]),
    .op none (.store 4 (.t 8) (.t 39)),
    .op (some 9) (.mov (.t 40))])
   (.keep [1, 2, 4, 6, 8, 9] (.seq (.ops [.op (some 41) (.loadN 4 (.t 8)),
    .op (some 42) (.fadr (.t 2) 0),
    .op none (.store 4 (.t 42) (.t 41))])
   (.keep [1, 2, 4, 6, 9] (.seq (.ops [.op (some 43) (.mov (.t 9)),
    .op (some 44) (.not (.t 43))])
   (.keep [1, 2, 4, 6, 44] (.cond (.t 44)
   (.seq (.ops [.op (some 45) (.loadN 9 (.t 2)),
     .op none (.store 9 (.t 4) (.t 45)),
     .op (some 5) (.mov (.k (.bool false)))])
    (.keep [4, 5] (.ret)))
   (.skip))))))))
  (.skip))))
 (.keep [1, 2, 4, 6] (.seq (.drawE [[], [0], [], [2], [2, 3], [], [5], [], [7], [5, 6, 7, 8], [5, 6, 7, 8, 9], [0, 1, 2, 3, 4, 5, 6, 7, 8, 9, 10], [0, 1, 2, 3, 4, 5, 6, 7, 8, 9, 10, 11], [0, 1, 2, 3, 4, 5, 6, 7, 8, 9, 10, 11, 12]] [.op (some 46) (.fadr (.t 2) 0),
   .op (some 47) (.loadN 4 (.t 46)),
   .op (some 48) (.fadr (.t 6) 0),
   .op (some 49) (.load1 (.t 48)),
   .op (some 50) (.bin .add (.k (.int .i64 1)) (.t 49)),
   .op (some 51) (.fadr (.t 6) 0),
   .op (some 52) (.load1 (.t 51)),
   .op (some 53) (.fadr (.t 6) 1),
   .op (some 54) (.loadN 2 (.t 53)),
   .call (some 55) 162 [.t 52, .t 54],
   .op (some 56) (.b2s (.t 55))]
  [.call (some 57) 75 [.t 47, .t 50, .t 56],
   .op (some 58) (.fadr (.t 2) 0),
   .op none (.store 4 (.t 58) (.t 57))])
 (.keep [1, 2, 4] (.seq (.ops [.op (some 59) (.bslice 5 []),
   .op (some 60) (.fadr (.t 2) 7),
   .op (some 61) (.load1 (.t 60)),
   .op (some 62) (.app 5 56 [.int .i64 0, .int .i64 0, .nils 1, .bool false, .int .i64 0] (.t 59) (.t 61)),
   .op (some 63) (.fadr (.t 2) 7),
   .op none (.store 1 (.t 63) (.t 62))])
 (.keep [1, 2, 4] (.seq (.ops [.op (some 64) (.fadr (.t 2) 7),
   .op (some 65) (.load1 (.t 64)),
   .op (some 66) (.mov (.t 1)),
   .op (some 67) (.iadr 5 (.t 65) (.t 66)),
   .op (some 68) (.fadr (.t 67) 3),
   .op none (.store 1 (.t 68) (.k (.bool false)))])
 (.keep [1, 2, 4] (.seq (.ops [.op (some 69) (.fadr (.t 2) 7),
   .op (some 70) (.load1 (.t 69)),
   .op (some 71) (.mov (.t 1)),
   .op (some 72) (.iadr 5 (.t 70) (.t 71)),
   .op (some 73) (.fadr (.t 72) 4),
   .op none (.store 1 (.t 73) (.k (.int .i64 0)))])
 (.keep [2, 4] (.seq (.ops [.op (some 74) (.loadN 9 (.t 2)),
   .op none (.store 9 (.t 4) (.t 74)),
   .op (some 5) (.mov (.k (.bool true)))])
 (.keep [4, 5] (.ret))))))))))))))))))))))
theorem k_c_l05Out_fits : fitsF Tryz.prog 120 ⟨75, k_c_l05Out, [.cN 4 9, .t 5]⟩ = true := by kernel_rfl
set_option maxHeartbeats 2000000 in
theorem c_l05Out {s : GStore} {m k : Nat} (h : DI s m) (hm : m ≤ 60) (hk : k < s.Frames.length) : Con Tryz.prog noMv 120 [s.av, int (k : Nat)] [] (fun r h => r = .tup [(outF s k).av, bool true] ∧ h = []) := by
 refine con_of2 k_c_l05Out_fits rfl fun C hP hmv => ?_
 unfold k_c_l05Out
 have hfr := h.fk.fr _ (List.getElem_mem hk)
 rw [← fAt_eq hk] at hfr
 have hls := hfr.ls
 have hno := hfr.no
 have hpg := hfr.pg
 have hD1 := flF_di h hm hls
 obtain ⟨g0, g1, g2, g3, g4, g5⟩ := @flF_same s (fAt s k).Page.lsn
 have hk1 : k < (flF s (fAt s k).Page.lsn).Frames.length := by rw [g2]; exact hk
 obtain ⟨v0, v1, v2, v3, va, v4, v5, v6⟩ := di_stb hD1 hm
 have hcm := hD1.dk.cm
 have hat : ((flF s (fAt s k).Page.lsn).Frames.map GFrame.row)[k]? = some (GFrame.row (fAt s k)) := by rw [mapAtZ (z := .zero) hk1, g2]; rfl
 have hrow : (s.Frames.map GFrame.row)[k]? = some (GFrame.row (fAt s k)) := mapAtZ (z := .zero) hk
 refine cx_seq (cx_ops ?_)
 refine ax_e (e_box rfl rfl (by decide) rfl rfl rfl) ?_
 refine ax_e (e_alloc (by decide) rfl rfl) ?_
 refine ax_q (q_mov rfl) ?_
 refine ax_nil (cx_keep rfl rfl (cx_seq (cx_ops ?_)))
 refine ax_q (q_fadr_ptr rfl) ?_
 refine ax_q (q_load1_ptr rfl rfl rfl) ?_
 refine ax_q (q_mov rfl) ?_
 refine ax_q (q_ix rfl rfl hrow) ?_
 first | refine ax_q (q_ldN rfl rfl rfl) ?_ | refine ax_q (q_loadN_ip rfl (Nat.le_refl _)) ?_
 refine ax_e (e_alloc (by decide) rfl rfl) ?_
 refine ax_e (e_st rfl rfl rfl rfl rfl rfl rfl) ?_
 refine ax_nil (cx_keep rfl rfl (cx_seq (cx_seq (cx_ops ?_))))
 refine ax_q (q_fadr_ptr rfl) ?_
 refine ax_q (q_load1_ptr rfl rfl rfl) ?_
 refine ax_q (q_not rfl) ?_
 refine ax_nil (cx_keep rfl rfl ?_)
 refine cx_cond rfl (fun h0 => ?_) (fun h0 => ?_)
 ·
  have h0 := bT h0
  have h0 : (fAt s k).Dirty = false := by simpa [fAt] using h0
  refine cx_seq (cx_ops ?_)
  refine ax_q (q_ldN rfl rfl rfl) ?_
  refine ax_e (e_st rfl rfl rfl rfl rfl rfl rfl) ?_
  refine ax_q (q_mov rfl) ?_
  refine ax_nil (cx_keep rfl rfl ?_)
  refine cx_ret (ret0 rfl rfl ?_)
  exact ⟨by rw [outF_1 h0]; rfl, rfl⟩
 ·
  have h0 := bF h0
  have h0 : (fAt s k).Dirty = true := by simpa [fAt] using h0
  refine cx_skip ?_
  refine cx_keep rfl rfl (cx_seq (cx_ops ?_))
  refine ax_q (q_ldN rfl rfl rfl) ?_
  refine ax_q (q_fadr_ptr rfl) ?_
  refine ax_q (q_fadr_ptr rfl) ?_
  refine ax_q (q_load1_ptr rfl rfl rfl) ?_
  refine ax_call rfl (vc_pure0 (c_l05Flush (s := s) (m := m) (n := (fAt s k).Page.lsn) ?_ ?_ ?_) hP rfl rfl ?_)
  ·
   assumption
  ·
   assumption
  ·
   assumption
  refine ax_q (q_mov rfl) ?_
  refine ax_q (q_ext rfl rfl) ?_
  refine ax_q (q_ext rfl rfl) ?_
  refine ax_e (e_st rfl rfl rfl rfl rfl rfl rfl) ?_
  refine ax_q (q_mov rfl) ?_
  refine ax_nil (cx_keep rfl rfl (cx_seq (cx_seq (cx_ops ?_))))
  refine ax_q (q_mov rfl) ?_
  refine ax_q (q_not rfl) ?_
  refine ax_nil (cx_keep rfl rfl ?_)
  refine cx_cond rfl (fun h1 => ?_) (fun h1 => ?_)
  ·
   have h1 := bT h1
   cases h1
  ·
   have h1 := bF h1
   refine cx_skip ?_
   refine cx_keep rfl rfl (cx_seq (cx_seq (cx_ops ?_)))
   refine ax_q (q_fadr_ptr rfl) ?_
   refine ax_q (q_fadr_ptr rfl) ?_
   refine ax_q (q_load1_ptr rfl rfl rfl) ?_
   refine ax_q (q_lenS_map rfl) ?_
   refine ax_q (q_ibin rfl rfl rfl) ?_
   refine ax_nil (cx_keep rfl rfl ?_)
   refine cx_cond rfl (fun h2 => ?_) (fun h2 => ?_)
   ·
    have h2 := dT h2
    exfalso; omega
   ·
    have h2 := dF h2
    refine cx_skip ?_
    refine cx_keep rfl rfl (cx_seq ?_)
    refine cx_drawL 0 46 (fun _ => false) (fun _ => true) [] ([]) [[2], [46], [6], [48], [49], [6], [51], [6], [53], [52, 54], [55]] [[], [], [], [], [], [], [], [], [], [], []] rfl ?_
    first | refine ⟨⟨46, _, []⟩, .inl ⟨rfl, rfl, rfl, locl_of (loc_q (q_fadr_ptr rfl))⟩, ?_⟩
    first | refine ⟨_, .inr ⟨rfl, _, rfl, .inr ⟨rfl, rfl, .inl rfl, rfl, rfl⟩, loc_q (q_ldN rfl rfl rfl)⟩, ?_⟩
    first | refine ⟨_, .inr ⟨rfl, _, rfl, .inr ⟨rfl, rfl, .inr rfl, rfl, rfl⟩, loc_q (q_fadr_ptr rfl)⟩, ?_⟩
    first | refine ⟨_, .inr ⟨rfl, _, rfl, .inr ⟨rfl, rfl, .inr rfl, rfl, rfl⟩, loc_q (q_load1_ptr rfl rfl rfl)⟩, ?_⟩
    first | refine ⟨_, .inr ⟨rfl, _, rfl, .inr ⟨rfl, rfl, .inr rfl, rfl, rfl⟩, loc_q (q_add rfl rfl (by omega))⟩, ?_⟩
    first | refine ⟨_, .inr ⟨rfl, _, rfl, .inr ⟨rfl, rfl, .inr rfl, rfl, rfl⟩, loc_q (q_fadr_ptr rfl)⟩, ?_⟩
    first | refine ⟨_, .inr ⟨rfl, _, rfl, .inr ⟨rfl, rfl, .inr rfl, rfl, rfl⟩, loc_q (q_load1_ptr rfl rfl rfl)⟩, ?_⟩
    first | refine ⟨_, .inr ⟨rfl, _, rfl, .inr ⟨rfl, rfl, .inr rfl, rfl, rfl⟩, loc_q (q_fadr_ptr rfl)⟩, ?_⟩
    first | refine ⟨_, .inr ⟨rfl, _, rfl, .inr ⟨rfl, rfl, .inr rfl, rfl, rfl⟩, loc_q (q_ldN rfl rfl rfl)⟩, ?_⟩
    refine ⟨_, .inr ⟨rfl, _, rfl, .inr ⟨rfl, rfl, .inr rfl, rfl, rfl⟩, loc_call (fun i => 55 + 200 * i) false rfl (c_l03Bytes (no := (fAt s k).No) (p := (fAt s k).Page) (by first | assumption | omega | (simp; done) | (simp; omega)) (by first | assumption | omega | (simp; done) | (simp; omega))) hP (.inr ⟨rfl, rfl, rfl⟩) rfl rfl (fun h => by cases h)⟩, ?_⟩
    first | refine ⟨_, .inr ⟨rfl, _, rfl, .inr ⟨rfl, rfl, .inr rfl, rfl, rfl⟩, loc_q (q_b2s (bs := pbF (fAt s k).No (fAt s k).Page) rfl (src_osl rfl (by simp)) rows_all ⟨55, 1, 0, _, .inl rfl⟩)⟩, ?_⟩
    refine ⟨rfl, ?_⟩
    refine ax_call rfl (vc_pure (c_l02Write (d := (flF s (fAt s k).Page.lsn).Disk) (a := 1 + (fAt s k).No) (x := pbF (fAt s k).No (fAt s k).Page) ?_ ?_ ?_) hP rfl ?_)
    ·
     assumption
    ·
     assumption
    ·
     assumption
    rintro r h ⟨rfl, rfl⟩
    refine ⟨fun i => 57 + 200 * i, [0], ⟨rfl, rfl, rfl, rfl, rfl, (by first | exact (fun h => absurd h Bool.false_ne_true) | exact (fun _ => ⟨rfl, (noisl_of (by repeat (first | exact trivial | refine ⟨noisl_map (fun _ => rfl), ?_⟩ | refine ⟨?_, ?_⟩)))⟩))⟩, ?_⟩
    skip
    refine ax_wk (wk_frz 57 57 rfl rfl (.agg (.cons (.same rfl) (.cons (.whole (List.length_map _).symm) (.cons (.same rfl) (.cons (.same rfl) .nil))))) rfl) ?_
    refine ax_q (q_fadr_ptr rfl) ?_
    refine ax_e (e_st rfl rfl rfl rfl rfl rfl rfl) ?_
    refine ax_nil (cx_keep rfl rfl (cx_seq (cx_ops ?_)))
    refine ax_e (e_bslice rfl (by decide) rfl rfl) ?_
    refine ax_q (q_fadr_ptr rfl) ?_
    refine ax_q (q_load1_ptr rfl rfl rfl) ?_
    refine ax_e (e_appn (n' := ((flF s (fAt s k).Page.lsn).Frames).length) (rs' := ((flF s (fAt s k).Page.lsn).Frames).map GFrame.row) rfl rfl (Nat.le_refl _) rfl (src_sl 5 _) (.inl (by decide)) (by simp only [List.length_map, List.length_nil]; omega) (by simp) (by simp)) ?_
    refine ax_q (q_fadr_ptr rfl) ?_
    refine ax_e (e_st rfl rfl rfl rfl rfl rfl rfl) ?_
    refine ax_nil (cx_keep rfl rfl (cx_seq (cx_ops ?_)))
    refine ax_q (q_fadr_ptr rfl) ?_
    refine ax_q (q_load1_ptr rfl rfl rfl) ?_
    refine ax_q (q_mov rfl) ?_
    refine ax_q (q_ixo rfl rfl hk1) ?_
    first | refine ax_q (q_fadr_ptr rfl) ?_ | refine ax_q (q_fadr_rptr rfl) ?_
    refine ax_e (e_str (rs' := ((flF s (fAt s k).Page.lsn).Frames.set k ⟨(fAt s k).No, (fAt s k).Page, false, (fAt s k).First⟩).map GFrame.row) (row := GFrame.row (fAt s k)) (q := GFrame.row ⟨(fAt s k).No, (fAt s k).Page, false, (fAt s k).First⟩) rfl rfl rfl rfl rfl rfl (hat) rfl rfl (List.map_set.symm)) ?_
    refine ax_nil (cx_keep rfl rfl (cx_seq (cx_ops ?_)))
    refine ax_q (q_fadr_ptr rfl) ?_
    refine ax_q (q_load1_ptr rfl rfl rfl) ?_
    refine ax_q (q_mov rfl) ?_
    refine ax_q (q_ixo rfl rfl hk1) ?_
    first | refine ax_q (q_fadr_ptr rfl) ?_ | refine ax_q (q_fadr_rptr rfl) ?_
    refine ax_e (e_str (rs' := ((flF s (fAt s k).Page.lsn).Frames.set k ⟨(fAt s k).No, (fAt s k).Page, false, 0⟩).map GFrame.row) (row := GFrame.row ⟨(fAt s k).No, (fAt s k).Page, false, (fAt s k).First⟩) (q := GFrame.row ⟨(fAt s k).No, (fAt s k).Page, false, 0⟩) rfl rfl rfl rfl rfl rfl (set_row hk1) rfl rfl (by rw [← List.map_set, List.set_set])) ?_
    refine ax_nil (cx_keep rfl rfl (cx_seq (cx_ops ?_)))
    refine ax_q (q_ldN rfl rfl rfl) ?_
    refine ax_wk (wk_frz 74 59 rfl rfl (.agg (.cons (.same rfl) (.cons (.same rfl) (.cons (.same rfl) (.cons (.same rfl) (.cons (.same rfl) (.cons (.same rfl) (.cons (.same rfl) (.cons (.whole (by rw [List.length_map, List.length_set])) (.cons (.same rfl) .nil)))))))))) rfl) ?_
    refine ax_e (e_st rfl rfl rfl rfl rfl rfl rfl) ?_
    refine ax_q (q_mov rfl) ?_
    refine ax_nil (cx_keep rfl rfl ?_)
    refine cx_ret (ret0 rfl rfl ?_)
    exact ⟨by rw [outW h0]; rfl, rfl⟩


/- loop.example/g00332/spec.l05Evict -/
def k_c_l05Evict : XCode :=
 .seq (.ops [.op (some 2) (.box (.t 0)),
   .op (some 4) (.alloc [.nils 1, .nils 2, .bool false, .nils 1, .int .i64 0, .nils 10, .int .i64 0, .nils 5, .int .i64 0]),
   .op (some 5) (.mov (.k (.bool false))),
   .op (some 6) (.mov (.k (.int .i64 0)))])
 (.keep [1, 2, 4] (.seq (.ops [.op (some 9) (.loadN 9 (.t 2)),
   .op (some 10) (.mov (.t 1)),
   .call (some 11) 48 [.t 9, .t 10],
   .op (some 7) (.mov (.t 11))])
 (.keep [2, 4, 7] (.seq (.seq (.ops [.op (some 12) (.mov (.t 7)),
   .op (some 13) (.bin .lss (.t 12) (.k (.int .i64 0)))])
  (.keep [2, 4, 7, 13] (.cond (.t 13)
  (.seq (.ops [.op (some 14) (.loadN 9 (.t 2)),
    .op none (.store 9 (.t 4) (.t 14)),
    .op (some 5) (.mov (.k (.bool true))),
    .op (some 6) (.mov (.k (.int .i64 5)))])
   (.keep [4, 5, 6] (.ret)))
  (.skip))))
 (.keep [2, 4, 7] (.seq (.ops [.op (some 16) (.loadN 9 (.t 2)),
   .op (some 17) (.mov (.t 7)),
   .call (some 18) 120 [.t 16, .t 17],
   .op (some 15) (.mov (.t 18)),
   .op (some 19) (.ext (.t 15) 0),
   .op (some 20) (.ext (.t 15) 1),
   .op none (.store 9 (.t 2) (.t 19)),
   .op (some 8) (.mov (.t 20))])
 (.keep [2, 4, 7, 8] (.seq (.seq (.ops [.op (some 21) (.mov (.t 8)),
   .op (some 22) (.not (.t 21))])
  (.keep [2, 4, 7, 22] (.cond (.t 22)
  (.seq (.ops [.op (some 23) (.loadN 9 (.t 2)),
    .op none (.store 9 (.t 4) (.t 23)),
    .op (some 5) (.mov (.k (.bool false))),
    .op (some 6) (.mov (.k (.int .i64 0)))])
   (.keep [4, 5, 6] (.ret)))
  (.skip))))
 (.keep [2, 4, 7] (.seq (.drawE [[], [], [1], [], [1, 2, 3], [0, 1, 2, 3, 4], [], [6], [], [8], [6, 7, 8, 9], [0, 1, 2, 3, 4, 5, 6, 7, 8, 9, 10], [0, 1, 2, 3, 4, 5, 6, 7, 8, 9, 10, 11], [0, 1, 2, 3, 4, 5, 6, 7, 8, 9, 10, 11, 12]] [.op (some 24) (.bslice 5 []),
   .op (some 25) (.fadr (.t 2) 7),
   .op (some 26) (.load1 (.t 25)),
   .op (some 27) (.mov (.t 7)),
   .op (some 28) (.slc 5 (.t 26) none (some (.t 27)) none),
   .op (some 29) (.app 5 56 [.int .i64 0, .int .i64 0, .nils 1, .bool false, .int .i64 0] (.t 24) (.t 28)),
   .op (some 30) (.fadr (.t 2) 7),
   .op (some 31) (.load1 (.t 30)),
   .op (some 32) (.mov (.t 7)),
   .op (some 33) (.bin .add (.t 32) (.k (.int .i64 1))),
   .op (some 34) (.slc 5 (.t 31) (some (.t 33)) none none)]
  [.op (some 35) (.app 5 56 [.int .i64 0, .int .i64 0, .nils 1, .bool false, .int .i64 0] (.t 29) (.t 34)),
   .op (some 36) (.fadr (.t 2) 7),
   .op none (.store 1 (.t 36) (.t 35))])
 (.keep [2, 4] (.seq (.seq (.ops [.op (some 37) (.fadr (.t 2) 7),
   .op (some 38) (.load1 (.t 37)),
   .op (some 39) (.lenS (.t 38)),
   .op (some 40) (.bin .lss (.t 39) (.k (.int .i64 3)))])
  (.keep [2, 4, 40] (.cond (.t 40)
  (.ops [.op (some 41) (.fadr (.t 2) 8),
    .op none (.store 1 (.t 41) (.k (.int .i64 0)))])
  (.skip))))
 (.keep [2, 4] (.seq (.ops [.op (some 42) (.loadN 9 (.t 2)),
   .op none (.store 9 (.t 4) (.t 42)),
   .op (some 5) (.mov (.k (.bool true))),
   .op (some 6) (.mov (.k (.int .i64 0)))])
 (.keep [4, 5, 6] (.ret))))))))))))))))
theorem k_c_l05Evict_fits : fitsF Tryz.prog 61 ⟨43, k_c_l05Evict, [.cN 4 9, .t 5, .t 6]⟩ = true := by kernel_rfl
set_option maxHeartbeats 2000000 in
theorem c_l05Evict {s : GStore} {m no : Nat} {z : Int} (h : DI s m) (hm : m ≤ 59) (hn : no < 8) (hz : z = (no : Int)) : Con Tryz.prog noMv 61 [s.av, int z] [] (fun r h => r = .tup [(evictF s no).1.av, bool true, int (evictF s no).2] ∧ h = []) := by
 refine con_of2 k_c_l05Evict_fits rfl fun C hP hmv => ?_
 unfold k_c_l05Evict
 subst hz
 obtain ⟨hw0, hw1, hw2, hw3, hwa, hw4, hw5, hw6⟩ := di_stb h (by omega)
 have hfl := h.fk.fl
 refine cx_seq (cx_ops ?_)
 refine ax_e (e_box rfl rfl (by decide) rfl rfl rfl) ?_
 refine ax_e (e_alloc (by decide) rfl rfl) ?_
 refine ax_q (q_mov rfl) ?_
 refine ax_q (q_mov rfl) ?_
 refine ax_nil (cx_keep rfl rfl (cx_seq (cx_ops ?_)))
 refine ax_q (q_ldN rfl rfl rfl) ?_
 refine ax_q (q_mov rfl) ?_
 refine ax_call rfl (vc_pure0 (c_l05Frame (s := s) (no := (no : Int)) ?_) hP rfl rfl ?_)
 ·
  assumption
 refine ax_q (q_mov rfl) ?_
 refine ax_nil (cx_keep rfl rfl (cx_seq (cx_seq (cx_ops ?_))))
 refine ax_q (q_mov rfl) ?_
 refine ax_q (q_ibin rfl rfl rfl) ?_
 refine ax_nil (cx_keep rfl rfl ?_)
 refine cx_cond rfl (fun h0 => ?_) (fun h0 => ?_)
 ·
  have h0 := dT h0
  refine cx_seq (cx_ops ?_)
  refine ax_q (q_ldN rfl rfl rfl) ?_
  refine ax_e (e_st rfl rfl rfl rfl rfl rfl rfl) ?_
  refine ax_q (q_mov rfl) ?_
  refine ax_q (q_mov rfl) ?_
  refine ax_nil (cx_keep rfl rfl ?_)
  refine cx_ret (ret0 rfl rfl ?_)
  exact ⟨by rw [evictF_1 h0]; rfl, rfl⟩
 ·
  have h0 := dF h0
  obtain ⟨k, ek, hk, _⟩ := frame_yes (s := s) (no := (no : Int)) (by omega)
  rw [ek]
  have hO := outF_di h (by omega) hk
  have o5 := outF_flen hk
  obtain ⟨u0, u1, u2, u3, ua, u4, u5, u6⟩ := di_stb hO (by omega)
  refine cx_skip ?_
  refine cx_keep rfl rfl (cx_seq (cx_ops ?_))
  refine ax_q (q_ldN rfl rfl rfl) ?_
  refine ax_q (q_mov rfl) ?_
  refine ax_call rfl (vc_pure0 (c_l05Out (s := s) (m := m) (k := k) ?_ ?_ ?_) hP rfl rfl ?_)
  ·
   assumption
  ·
   first | assumption | omega
  ·
   assumption
  refine ax_q (q_mov rfl) ?_
  refine ax_q (q_ext rfl rfl) ?_
  refine ax_q (q_ext rfl rfl) ?_
  refine ax_e (e_st rfl rfl rfl rfl rfl rfl rfl) ?_
  refine ax_q (q_mov rfl) ?_
  refine ax_nil (cx_keep rfl rfl (cx_seq (cx_seq (cx_ops ?_))))
  refine ax_q (q_mov rfl) ?_
  refine ax_q (q_not rfl) ?_
  refine ax_nil (cx_keep rfl rfl ?_)
  refine cx_cond rfl (fun h1 => ?_) (fun h1 => ?_)
  ·
   have h1 := bT h1
   cases h1
  ·
   have h1 := bF h1
   refine cx_skip ?_
   refine cx_keep rfl rfl (cx_seq ?_)
   refine cx_drawL 5 29 (Nat.beq 24) (nrA 24) [] ([(24, .rows 5 (((outF s k).Frames.take k).map GFrame.row))]) [[], [2], [25], [7], [26, 27], [24, 28], [2], [30], [7], [32], [31, 33]] [[], [], [], [], [], [24], [24], [24], [24], [24], [24]] rfl ?_
   first | refine ⟨_, .inr ⟨rfl, _, rfl, .inl rfl, loc_bslice rfl⟩, ?_⟩
   first | refine ⟨_, .inr ⟨rfl, _, rfl, .inl rfl, loc_q (q_fadr_ptr rfl)⟩, ?_⟩
   first | refine ⟨_, .inr ⟨rfl, _, rfl, .inl rfl, loc_q (q_load1_ptr rfl rfl rfl)⟩, ?_⟩
   first | refine ⟨_, .inr ⟨rfl, _, rfl, .inl rfl, loc_q (q_mov rfl)⟩, ?_⟩
   first | refine ⟨_, .inr ⟨rfl, _, rfl, .inl rfl, loc_q (q_as (q_slc rfl rfl rfl (by omega) (by omega) (by simp; omega)) slcR_take)⟩, ?_⟩
   refine ⟨⟨29, _, []⟩, .inl ⟨rfl, rfl, rfl, locl_app (n' := ((outF s k).Frames.take k).length) (rs' := ((outF s k).Frames.take k).map GFrame.row) rfl rfl (by simp) rfl (fun _ _ _ => src_sl 5 _) (.inl (by decide)) (hbnd (by simp) (by simp; omega) (by decide)) (by simp) (by simp)⟩, ?_⟩
   first | refine ⟨_, .inr ⟨rfl, _, rfl, .inr ⟨rfl, rfl, .inr rfl, rfl, rfl⟩, loc_q (q_fadr_ptr rfl)⟩, ?_⟩
   first | refine ⟨_, .inr ⟨rfl, _, rfl, .inr ⟨rfl, rfl, .inr rfl, rfl, rfl⟩, loc_q (q_load1_ptr rfl rfl rfl)⟩, ?_⟩
   first | refine ⟨_, .inr ⟨rfl, _, rfl, .inr ⟨rfl, rfl, .inr rfl, rfl, rfl⟩, loc_q (q_mov rfl)⟩, ?_⟩
   first | refine ⟨_, .inr ⟨rfl, _, rfl, .inr ⟨rfl, rfl, .inr rfl, rfl, rfl⟩, loc_q (q_as (q_add rfl rfl (by omega)) (congrArg AM.int (show _ = ((k + 1 : Nat) : Int) by omega)))⟩, ?_⟩
   first | refine ⟨_, .inr ⟨rfl, _, rfl, .inr ⟨rfl, rfl, .inr rfl, rfl, rfl⟩, loc_q (q_as (q_slc rfl rfl rfl (by omega) (by simp; omega) (by simp)) slcR_drop)⟩, ?_⟩
   refine ⟨rfl, ?_⟩
   refine ax_e (e_appn (n' := ((outF s k).Frames.take k ++ (outF s k).Frames.drop (k + 1)).length) (rs' := ((outF s k).Frames.take k ++ (outF s k).Frames.drop (k + 1)).map GFrame.row) rfl rfl (by simp) rfl (src_sl 5 _) (.inl (by decide)) (hbnd (by simp; omega) (by simp; omega) (by decide)) (by simp) app_row2) ?_
   refine ax_q (q_fadr_ptr rfl) ?_
   refine ax_e (e_st rfl rfl rfl rfl rfl rfl rfl) ?_
   refine ax_nil (cx_keep rfl rfl (cx_seq (cx_seq (cx_ops ?_))))
   refine ax_q (q_fadr_ptr rfl) ?_
   refine ax_q (q_load1_ptr rfl rfl rfl) ?_
   first | refine ax_q (q_lenS_map rfl) ?_ | refine ax_q (q_lenS_osl rfl) ?_
   refine ax_q (q_ibin rfl rfl rfl) ?_
   refine ax_nil (cx_keep rfl rfl ?_)
   refine cx_cond rfl (fun h2 => ?_) (fun h2 => ?_)
   ·
    have h2 := dT h2
    refine cx_ops ?_
    refine ax_q (q_fadr_ptr rfl) ?_
    refine ax_e (e_st rfl rfl rfl rfl rfl rfl rfl) ?_
    refine ax_nil (cx_keep rfl rfl (cx_seq (cx_ops ?_)))
    refine ax_q (q_ldN rfl rfl rfl) ?_
    refine ax_wk (wk_frz 42 24 rfl rfl (.agg (.cons (.same rfl) (.cons (.same rfl) (.cons (.same rfl) (.cons (.same rfl) (.cons (.same rfl) (.cons (.same rfl) (.cons (.same rfl) (.cons (.whole (List.length_map _).symm) (.cons (.same rfl) .nil)))))))))) rfl) ?_
    refine ax_e (e_st rfl rfl rfl rfl rfl rfl rfl) ?_
    refine ax_q (q_mov rfl) ?_
    refine ax_q (q_mov rfl) ?_
    refine ax_nil (cx_keep rfl rfl ?_)
    refine cx_ret (ret0 rfl rfl ?_)
    exact ⟨by rw [evictF_2 ek, delW]; rfl, rfl⟩
   ·
    have h2 := dF h2
    exfalso; have := del_len (xs := (outF s k).Frames) (k := k) (by omega); omega


/- loop.example/g00332/spec.l02Read -/
def k_c_l02Read : XCode :=
 .seq (.ops [.op (some 2) (.box (.t 0)),
   .op (some 4) (.mov (.k (.str [])))])
 (.keep [1, 2] (.seq (.seq (.ops [.op (some 6) (.fadr (.t 2) 1),
   .op (some 7) (.load1 (.t 6)),
   .op (some 8) (.lenS (.t 7)),
   .op (some 9) (.bin .sub (.t 8) (.k (.int .i64 1))),
   .op (some 5) (.mov (.t 9))])
  (.keep [1, 2, 5] (.block 0 (.loop (.seq (.seq (.ops [.op (some 10) (.mov (.t 5)),
     .op (some 11) (.bin .geq (.t 10) (.k (.int .i64 0)))])
   (.keep [1, 2, 5, 11] (.cond (.t 11)
    (.skip)
    (.exit 0))))
   (.keep [1, 2, 5] (.seq (.block 1 (.seq (.ops [.op (some 14) (.fadr (.t 2) 1),
     .op (some 15) (.load1 (.t 14)),
     .op (some 16) (.mov (.t 5)),
     .op (some 17) (.iadr 2 (.t 15) (.t 16)),
     .op (some 18) (.fadr (.t 17) 0),
     .op (some 19) (.load1 (.t 18)),
     .op (some 20) (.mov (.t 1)),
     .op (some 21) (.bin .eql (.t 19) (.t 20))])
    (.keep [1, 2, 5, 21] (.cond (.t 21)
    (.seq (.ops [.op (some 22) (.fadr (.t 2) 1),
      .op (some 23) (.load1 (.t 22)),
      .op (some 24) (.mov (.t 5)),
      .op (some 25) (.iadr 2 (.t 23) (.t 24)),
      .op (some 26) (.fadr (.t 25) 1),
      .op (some 27) (.load1 (.t 26)),
      .op (some 4) (.mov (.t 27))])
     (.keep [4] (.ret)))
    (.skip)))))
   (.keep [1, 2, 5] (.ops [.op (some 12) (.mov (.t 5)),
    .op (some 13) (.bin .sub (.t 12) (.k (.int .i64 1))),
    .op (some 5) (.mov (.t 13))])))))))))
 (.keep [1, 2] (.seq (.ops [.op (some 28) (.fadr (.t 2) 0),
   .op (some 29) (.load1 (.t 28)),
   .op (some 30) (.mov (.t 1)),
   .op (some 31) (.iadr 1 (.t 29) (.t 30)),
   .op (some 32) (.load1 (.t 31)),
   .op (some 4) (.mov (.t 32))])
 (.keep [4] (.ret))))))
theorem k_c_l02Read_fits : fitsF Tryz.prog 125 ⟨33, k_c_l02Read, [.t 4]⟩ = true := by kernel_rfl
theorem c_l02Read {d : GDisk} {i : Nat} (hi : i < d.Sectors.length) (hw0 : d.Sectors.length ≤ 1048576) (hw1 : d.Cache.length ≤ 1048576) (hw2 : d.Keep.length ≤ 1048576) : Con Tryz.prog noMv 125 [d.av, int (i : Nat)] [] (fun r h => r = str (txtD d i) ∧ h = []) := by
 refine con_of2 k_c_l02Read_fits rfl fun C hP hmv => ?_
 unfold k_c_l02Read
 refine cx_seq (cx_ops ?_)
 refine ax_e (e_box rfl rfl (by decide) rfl rfl rfl) ?_
 refine ax_q (q_mov rfl) ?_
 refine ax_nil (cx_keep rfl rfl (cx_seq (cx_seq (cx_ops ?_))))
 refine ax_q (q_fadr_ptr rfl) ?_
 refine ax_q (q_load1_ptr rfl rfl rfl) ?_
 refine ax_q (q_lenS_map rfl) ?_
 refine ax_qe (r' := int ((d.Cache.length : Int) - 1)) (q_ibin rfl rfl rfl) (by rw [wi (by omega) (by omega)]) ?_
 refine ax_q (q_mov rfl) ?_
 refine ax_nil (cx_keep rfl rfl (cx_block ?_))
 refine cx_loopU (fun m j => j ≤ d.Cache.length ∧ m = j ∧ txtD d i = lastW (d.Cache.take j) i (d.Sectors.getD i [])) (fun j : Nat => [(5, int ((j : Int) - 1))]) (fun _ => [(2, .box [.d (.sl 1 (d.Sectors.map strRow)), .d (.sl 2 (d.Cache.map GPending.row)), .d (.bool d.Armed), .d (.sl 1 (d.Keep.map intRow))])]) ⟨_, d.Cache.length, ⟨Nat.le_refl _, rfl, by rw [List.take_length]; rfl⟩, by repeat constructor⟩ ?_
 rintro m j ⟨hj, rfl, he⟩
 refine cx_seq (cx_seq (cx_ops ?_))
 refine ax_q (q_mov rfl) ?_
 refine ax_q (q_ibin rfl rfl rfl) ?_
 refine ax_nil (cx_keep rfl rfl ?_)
 refine cx_cond rfl (fun h0 => ?_) (fun h0 => ?_)
 ·
  have h0 := dT h0
  obtain ⟨m, rfl⟩ : ∃ n2, m = n2 + 1 := ⟨m - 1, by omega⟩
  have hjx : m < d.Cache.length := by omega
  rw [show (((m + 1 : Nat) : Int) - 1) = (m : Int) from by omega]
  refine cx_skip ?_
  refine cx_keep rfl rfl (cx_seq (cx_block (cx_seq (cx_ops ?_))))
  refine ax_q (q_fadr_ptr rfl) ?_
  refine ax_q (q_load1_ptr rfl rfl rfl) ?_
  refine ax_q (q_mov rfl) ?_
  refine ax_q (q_ix rfl rfl (mapAt hjx)) ?_
  first | refine ax_q (q_fadr_ptr rfl) ?_ | refine ax_q (q_fadr_rptr rfl) ?_ | refine ax_q (q_fadr_ip rfl) ?_
  first | refine ax_q (q_load1_ptr rfl rfl rfl) ?_ | refine ax_q (q_load1_ip rfl) ?_
  refine ax_q (q_mov rfl) ?_
  refine ax_q (q_ibin rfl rfl rfl) ?_
  refine ax_nil (cx_keep rfl rfl ?_)
  refine cx_cond rfl (fun h1 => ?_) (fun h1 => ?_)
  ·
   have h1 := dT h1
   refine cx_seq (cx_ops ?_)
   refine ax_q (q_fadr_ptr rfl) ?_
   refine ax_q (q_load1_ptr rfl rfl rfl) ?_
   refine ax_q (q_mov rfl) ?_
   refine ax_q (q_ix rfl rfl (mapAt hjx)) ?_
   first | refine ax_q (q_fadr_ptr rfl) ?_ | refine ax_q (q_fadr_rptr rfl) ?_ | refine ax_q (q_fadr_ip rfl) ?_
   first | refine ax_q (q_load1_ptr rfl rfl rfl) ?_ | refine ax_q (q_load1_ip rfl) ?_
   refine ax_q (q_mov rfl) ?_
   refine ax_nil (cx_keep rfl rfl ?_)
   refine cx_ret (ret0 rfl rfl ?_)
   exact ⟨by rw [he, lastW_yes hjx h1]; rfl, rfl⟩
  ·
   have h1 := dF h1
   refine cx_skip ?_
   refine cx_keep rfl rfl (cx_ops ?_)
   refine ax_q (q_mov rfl) ?_
   refine ax_qe (r' := int ((m : Int) - 1)) (q_ibin rfl rfl rfl) (by rw [wi (by omega) (by omega)]) ?_
   refine ax_q (q_mov rfl) ?_
   refine ax_nil ?_
   exact ⟨_, m, by omega, ⟨by omega, rfl, by rw [he, lastW_no hjx h1]⟩, by repeat constructor⟩
 ·
  have h0 := dF h0
  obtain rfl : m = 0 := by omega
  refine cx_exit rfl ?_
  refine cx_keep rfl rfl (cx_seq (cx_ops ?_))
  refine ax_q (q_fadr_ptr rfl) ?_
  refine ax_q (q_load1_ptr rfl rfl rfl) ?_
  refine ax_q (q_mov rfl) ?_
  refine ax_q (q_ix rfl rfl (mapAtZ (z := []) hi)) ?_
  first | refine ax_q (q_load1_ptr rfl rfl rfl) ?_ | refine ax_q (q_load1_ip rfl) ?_
  refine ax_q (q_mov rfl) ?_
  refine ax_nil (cx_keep rfl rfl ?_)
  refine cx_ret (ret0 rfl rfl ?_)
  exact ⟨by rw [he]; rfl, rfl⟩


/- loop.example/g00332/spec.NewPage -/
def k_c_sNewPage : XCode :=
 .seq (.ops [.op (some 0) (.alloc [.int .i64 0, .nils 1])])
 (.keep [0] (.seq (.ops [.op (some 1) (.mkslice 1 16 [.str []] (.k (.int .i64 4)) (.k (.int .i64 4))),
   .op (some 2) (.build [.int .i64 0, .nils 1] [(1, 1, .t 1)]),
   .op none (.store 2 (.t 0) (.t 2))])
 (.keep [0] (.ret))))
theorem k_c_sNewPage_fits : fitsF Tryz.prog 126 ⟨3, k_c_sNewPage, [.cN 0 2]⟩ = true := by kernel_rfl
theorem c_sNewPage  : Con Tryz.prog noMv 126 [] [] (fun r h => r = (⟨0, [[], [], [], []]⟩ : Page).avO 0 ∧ h = (⟨0, [[], [], [], []]⟩ : Page).hO 0) := by
 refine con_of2 k_c_sNewPage_fits rfl fun C hP hmv => ?_
 unfold k_c_sNewPage
 refine cx_seq (cx_ops ?_)
 refine ax_e (e_alloc (by decide) rfl rfl) ?_
 refine ax_nil (cx_keep rfl rfl (cx_seq (cx_ops ?_)))
 refine ax_e (e_mkslice rfl rfl rfl (by omega) (by omega) (by omega) (by decide) rfl rfl) ?_
 refine ax_q (q_build rfl) ?_
 refine ax_e (e_st rfl rfl rfl rfl rfl rfl rfl) ?_
 refine ax_nil (cx_keep rfl rfl ?_)
 refine cx_ret (retN (fun _ => 0) [1] rfl rfl rfl rfl rfl ?_)
 exact ⟨rfl, rfl⟩


/- loop.example/g00332/spec.l01In -/
def k_c_l01In : XCode :=
 .seq (.ops [.op (some 6) (.mov (.k (.bool false)))])
 (.keep [0, 1, 2] (.seq (.ops [.op (some 7) (.mov (.t 1)),
   .op (some 8) (.mov (.t 0)),
   .op (some 9) (.bin .leq (.t 7) (.t 8)),
   .op (some 10) (.mov (.t 9)),
   .andor 14 true 3 10 [.op (some 11) (.mov (.t 0)), .op (some 12) (.mov (.t 2)), .op (some 13) (.bin .leq (.t 11) (.t 12))] (.t 13),
   .op (some 6) (.mov (.t 14))])
 (.keep [6] (.ret))))
theorem k_c_l01In_fits : fitsF Tryz.prog 31 ⟨15, k_c_l01In, [.t 6]⟩ = true := by kernel_rfl
theorem c_l01In {n lo hi : Int} : Con Tryz.prog noMv 31 [int n, int lo, int hi] [] (fun r h => r = bool (inR n lo hi) ∧ h = []) := by
 refine con_of2 k_c_l01In_fits rfl fun C hP hmv => ?_
 unfold k_c_l01In
 refine cx_seq (cx_ops ?_)
 refine ax_q (q_mov rfl) ?_
 refine ax_nil (cx_keep rfl rfl (cx_seq (cx_ops ?_)))
 refine ax_q (q_mov rfl) ?_
 refine ax_q (q_mov rfl) ?_
 refine ax_q (q_ibin rfl rfl rfl) ?_
 refine ax_q (q_mov rfl) ?_
 apply ax_and rfl rfl
 ·
  intro g
  have g := dT g
  refine ax_q (q_mov rfl) ?_
  refine ax_q (q_mov rfl) ?_
  refine ax_q (q_ibin rfl rfl rfl) ?_
  exact ax_nil ⟨rfl, by repeat constructor⟩
 refine ax_q (q_mov rfl) ?_
 refine ax_nil (cx_keep rfl rfl ?_)
 refine cx_ret (ret0 rfl rfl ?_)
 exact ⟨rfl, rfl⟩


/- loop.example/g00332/spec.PageOK -/
def k_c_sPageOK : XCode :=
 .seq (.ops [.op (some 1) (.box (.t 0)),
   .op (some 2) (.mov (.k (.bool false)))])
 (.keep [1] (.seq (.seq (.ops [.op (some 4) (.fadr (.t 1) 0),
   .op (some 5) (.load1 (.t 4)),
   .call (some 6) 31 [.t 5, .k (.int .i64 0), .k (.int .i64 1000)],
   .op (some 7) (.not (.t 6)),
   .op (some 8) (.mov (.t 7)),
   .andor 13 false 4 8 [.op (some 9) (.fadr (.t 1) 1), .op (some 10) (.load1 (.t 9)), .op (some 11) (.lenS (.t 10)), .op (some 12) (.bin .neq (.t 11) (.k (.int .i64 4)))] (.t 12)])
  (.keep [1, 13] (.cond (.t 13)
  (.seq (.ops [.op (some 2) (.mov (.k (.bool false)))])
   (.keep [2] (.ret)))
  (.skip))))
 (.keep [1] (.seq (.seq (.ops [.op (some 3) (.mov (.k (.int .i64 0)))])
  (.keep [1, 3] (.block 0 (.loop (.seq (.seq (.ops [.op (some 14) (.mov (.t 3)),
     .op (some 15) (.bin .lss (.t 14) (.k (.int .i64 4)))])
   (.keep [1, 3, 15] (.cond (.t 15)
    (.skip)
    (.exit 0))))
   (.keep [1, 3] (.seq (.block 1 (.seq (.ops [.op (some 18) (.fadr (.t 1) 1),
     .op (some 19) (.load1 (.t 18)),
     .op (some 20) (.mov (.t 3)),
     .op (some 21) (.iadr 1 (.t 19) (.t 20)),
     .op (some 22) (.load1 (.t 21)),
     .op (some 23) (.lenT (.t 22)),
     .op (some 24) (.bin .gtr (.t 23) (.k (.int .i64 30)))])
    (.keep [1, 3, 24] (.cond (.t 24)
    (.seq (.ops [.op (some 2) (.mov (.k (.bool false)))])
     (.keep [2] (.ret)))
    (.skip)))))
   (.keep [1, 3] (.ops [.op (some 16) (.mov (.t 3)),
    .op (some 17) (.bin .add (.t 16) (.k (.int .i64 1))),
    .op (some 3) (.mov (.t 17))])))))))))
 (.keep [] (.seq (.ops [.op (some 2) (.mov (.k (.bool true)))])
 (.keep [2] (.ret))))))))
theorem k_c_sPageOK_fits : fitsF Tryz.prog 73 ⟨25, k_c_sPageOK, [.t 2]⟩ = true := by kernel_rfl
theorem c_sPageOK {p : Page} (hl : p.slots.length ≤ 1048576) : Con Tryz.prog noMv 73 [p.av] [] (fun r h => r = bool (pageOK p) ∧ h = []) := by
 refine con_of2 k_c_sPageOK_fits rfl fun C hP hmv => ?_
 unfold k_c_sPageOK
 refine cx_seq (cx_ops ?_)
 refine ax_e (e_box rfl rfl (by decide) rfl rfl rfl) ?_
 refine ax_q (q_mov rfl) ?_
 refine ax_nil (cx_keep rfl rfl (cx_seq (cx_seq (cx_ops ?_))))
 refine ax_q (q_fadr_ptr rfl) ?_
 refine ax_q (q_load1_ptr rfl rfl rfl) ?_
 refine ax_call rfl (vc_pure0 (c_l01In  ) hP rfl rfl ?_)
 refine ax_q (q_not rfl) ?_
 refine ax_q (q_mov rfl) ?_
 apply ax_or rfl rfl
 ·
  intro g
  have g := bF g
  refine ax_q (q_fadr_ptr rfl) ?_
  refine ax_q (q_load1_ptr rfl rfl rfl) ?_
  refine ax_q (q_lenS_map rfl) ?_
  refine ax_q (q_ibin rfl rfl rfl) ?_
  exact ax_nil ⟨rfl, by repeat constructor⟩
 refine ax_nil (cx_keep rfl rfl ?_)
 refine cx_cond rfl (fun h0 => ?_) (fun h0 => ?_)
 ·
  have h0 : hdP p = true := h0
  refine cx_seq (cx_ops ?_)
  refine ax_q (q_mov rfl) ?_
  refine ax_nil (cx_keep rfl rfl ?_)
  refine cx_ret (ret0 rfl rfl ?_)
  exact ⟨by rw [pageOK_hd h0]; rfl, rfl⟩
 ·
  have h0 : hdP p = false := h0
  have h4 := hdP_len h0
  refine cx_skip ?_
  refine cx_keep rfl rfl (cx_seq (cx_seq (cx_ops ?_)))
  refine ax_q (q_mov rfl) ?_
  refine ax_nil (cx_keep rfl rfl (cx_block ?_))
  refine cx_loopU (fun n k => k ≤ 4 ∧ n = 4 - k ∧ ∀ j, j < k → ∀ x, p.slots[j]? = some x → decide ((30 : Int) < (x.length : Int)) = false) (fun k : Nat => [(3, int k)]) (fun _ => [(1, .box [.d (.int .i64 p.lsn), .d (.sl 1 (p.slots.map strRow))])]) ⟨_, 0, ⟨Nat.zero_le _, rfl, fun j hj => by omega⟩, by repeat constructor⟩ ?_
  rintro n k ⟨hk, rfl, hb⟩
  refine cx_seq (cx_seq (cx_ops ?_))
  refine ax_q (q_mov rfl) ?_
  refine ax_q (q_ibin rfl rfl rfl) ?_
  refine ax_nil (cx_keep rfl rfl ?_)
  refine cx_cond rfl (fun h1 => ?_) (fun h1 => ?_)
  ·
   have h1 := dT h1
   have h1x : k < p.slots.length := by omega
   refine cx_skip ?_
   refine cx_keep rfl rfl (cx_seq (cx_block (cx_seq (cx_ops ?_))))
   refine ax_q (q_fadr_ptr rfl) ?_
   refine ax_q (q_load1_ptr rfl rfl rfl) ?_
   refine ax_q (q_mov rfl) ?_
   refine ax_q (q_ix rfl rfl (mapAt h1x)) ?_
   first | refine ax_q (q_load1_ptr rfl rfl rfl) ?_ | refine ax_q (q_load1_ip rfl) ?_
   refine ax_q (q_lenT rfl) ?_
   refine ax_q (q_ibin rfl rfl rfl) ?_
   refine ax_nil (cx_keep rfl rfl ?_)
   refine cx_cond rfl (fun h2 => ?_) (fun h2 => ?_)
   ·
    have h2 : decide ((30 : Int) < (p.slots[k].length : Int)) = true := h2
    refine cx_seq (cx_ops ?_)
    refine ax_q (q_mov rfl) ?_
    refine ax_nil (cx_keep rfl rfl ?_)
    refine cx_ret (ret0 rfl rfl ?_)
    exact ⟨by rw [pageOK_int, any_hit h1x h2, Bool.not_true, Bool.and_false]; rfl, rfl⟩
   ·
    have h2 : decide ((30 : Int) < (p.slots[k].length : Int)) = false := h2
    refine cx_skip ?_
    refine cx_keep rfl rfl (cx_ops ?_)
    refine ax_q (q_mov rfl) ?_
    refine ax_qe (r' := int ((k + 1 : Nat) : Int)) (q_ibin rfl rfl rfl) (by rw [wi (by omega) (by omega)]; rfl) ?_
    refine ax_q (q_mov rfl) ?_
    refine ax_nil ?_
    exact ⟨_, k + 1, by omega, ⟨by omega, rfl, before_step h1x hb h2⟩, by repeat constructor⟩
  ·
   have h1 := dF h1
   have h1x : k = p.slots.length := by omega
   subst h1x
   refine cx_exit rfl ?_
   refine cx_keep rfl rfl (cx_seq (cx_ops ?_))
   refine ax_q (q_mov rfl) ?_
   refine ax_nil (cx_keep rfl rfl ?_)
   refine cx_ret (ret0 rfl rfl ?_)
   exact ⟨by rw [pageOK_int, any_all (fun i hi => hb i (by omega)), hdP_in h0]; rfl, rfl⟩


/- loop.example/g00332/spec.l01Of -/
def k_c_l01Of : XCode :=
 .seq (.ops [.op (some 2) (.mov (.k (.int .i64 0)))])
 (.keep [0] (.seq (.ops [.op (some 3) (.mov (.k (.int .i64 0)))])
 (.keep [0, 3] (.seq (.seq (.ops [.op (some 4) (.mov (.k (.int .i64 0)))])
  (.keep [0, 3, 4] (.block 0 (.loop (.seq (.seq (.ops [.op (some 5) (.mov (.t 4)),
     .op (some 6) (.mov (.t 0)),
     .op (some 7) (.lenT (.t 6)),
     .op (some 8) (.bin .lss (.t 5) (.t 7))])
   (.keep [0, 3, 4, 8] (.cond (.t 8)
    (.skip)
    (.exit 0))))
   (.keep [0, 3, 4] (.seq (.block 1 (.ops [.op (some 11) (.mov (.t 3)),
     .op (some 12) (.bin .mul (.t 11) (.k (.int .i64 256))),
     .op (some 13) (.mov (.t 0)),
     .op (some 14) (.mov (.t 4)),
     .op (some 15) (.idxS (.t 13) (.t 14)),
     .op (some 16) (.conv .i64 (.t 15)),
     .op (some 17) (.bin .add (.t 12) (.t 16)),
     .op (some 3) (.mov (.t 17))]))
   (.keep [0, 3, 4] (.ops [.op (some 9) (.mov (.t 4)),
    .op (some 10) (.bin .add (.t 9) (.k (.int .i64 1))),
    .op (some 4) (.mov (.t 10))])))))))))
 (.keep [3] (.seq (.ops [.op (some 18) (.mov (.t 3)),
   .op (some 2) (.mov (.t 18))])
 (.keep [2] (.ret))))))))
theorem k_c_l01Of_fits : fitsF Tryz.prog 168 ⟨19, k_c_l01Of, [.t 2]⟩ = true := by kernel_rfl
theorem c_l01Of {t : Str} (hl : t.length ≤ 4) : Con Tryz.prog noMv 168 [str t] [] (fun r h => r = int (bigN t) ∧ h = []) := by
 refine con_of2 k_c_l01Of_fits rfl fun C hP hmv => ?_
 unfold k_c_l01Of
 refine cx_seq (cx_ops ?_)
 refine ax_q (q_mov rfl) ?_
 refine ax_nil (cx_keep rfl rfl (cx_seq (cx_ops ?_)))
 refine ax_q (q_mov rfl) ?_
 refine ax_nil (cx_keep rfl rfl (cx_seq (cx_seq (cx_ops ?_))))
 refine ax_q (q_mov rfl) ?_
 refine ax_nil (cx_keep rfl rfl (cx_block ?_))
 refine cx_loopU (fun n k => k ≤ t.length ∧ n = t.length - k) (fun k : Nat => [(3, int (bigN (t.take k))), (4, int k)]) (fun _ => []) ⟨_, 0, ⟨Nat.zero_le _, rfl⟩, by repeat constructor⟩ ?_
 rintro n k ⟨hk, rfl⟩
 refine cx_seq (cx_seq (cx_ops ?_))
 refine ax_q (q_mov rfl) ?_
 refine ax_q (q_mov rfl) ?_
 refine ax_q (q_lenT rfl) ?_
 refine ax_q (q_ibin rfl rfl rfl) ?_
 refine ax_nil (cx_keep rfl rfl ?_)
 refine cx_cond rfl (fun h0 => ?_) (fun h0 => ?_)
 ·
  have h0 := dT h0
  have h0x : k < t.length := by omega
  have hlt := bigN_lt3 hl h0x
  have hbt := t[k].toNat_lt
  refine cx_skip ?_
  refine cx_keep rfl rfl (cx_seq (cx_block (cx_ops ?_)))
  refine ax_q (q_mov rfl) ?_
  refine ax_qe (r' := int ((bigN (t.take k) * 256 : Nat) : Int)) (q_ibin rfl rfl rfl) (by rw [wi (by omega) (by omega)]; exact congrArg AM.int (by omega)) ?_
  refine ax_q (q_mov rfl) ?_
  refine ax_q (q_mov rfl) ?_
  refine ax_q (q_idxN rfl rfl h0x) ?_
  refine ax_q (q_convB rfl) ?_
  refine ax_qe (r' := int ((bigN (t.take k) * 256 + t[k].toNat : Nat) : Int)) (q_ibin rfl rfl rfl) (by rw [wi (by omega) (by omega)]; exact congrArg AM.int (by omega)) ?_
  refine ax_q (q_mov rfl) ?_
  refine ax_nil (cx_keep rfl rfl (cx_ops ?_))
  refine ax_q (q_mov rfl) ?_
  refine ax_qe (r' := int ((k + 1 : Nat) : Int)) (q_ibin rfl rfl rfl) (by rw [wi (by omega) (by omega)]; rfl) ?_
  refine ax_q (q_mov rfl) ?_
  refine ax_nil ?_
  exact ⟨_, k + 1, by omega, ⟨by omega, rfl⟩, by rw [bigN_succ h0x]; exact (by repeat constructor)⟩
 ·
  have h0 := dF h0
  obtain rfl : k = t.length := by omega
  rw [List.take_length]
  refine cx_exit rfl ?_
  refine cx_keep rfl rfl (cx_seq (cx_ops ?_))
  refine ax_q (q_mov rfl) ?_
  refine ax_q (q_mov rfl) ?_
  refine ax_nil (cx_keep rfl rfl ?_)
  refine cx_ret (ret0 rfl rfl ?_)
  exact ⟨rfl, rfl⟩


/- loop.example/g00332/spec.l03Unseal -/
def k_c_l03Unseal : XCode :=
 .seq (.ops [.op (some 2) (.mov (.k (.str []))),
   .op (some 3) (.mov (.k (.bool false)))])
 (.keep [0] (.seq (.ops [.op (some 5) (.mov (.t 0)),
   .op (some 6) (.lenT (.t 5)),
   .op (some 7) (.bin .sub (.t 6) (.k (.int .i64 4))),
   .op (some 4) (.mov (.t 7))])
 (.keep [0, 4] (.seq (.seq (.drawC [[], [0], [0, 1], [0, 1, 2], [0, 1, 2], [0, 1, 2, 3, 4], [0, 1, 2, 3, 4, 5], [0, 1, 2, 3, 4, 5, 6], [0, 1, 2], [0, 1, 2], [0, 1, 2, 8, 9], [0, 1, 2, 3, 4, 5, 6, 7, 8, 9, 10], [0, 1, 2, 3, 4, 5, 6, 7, 8, 9, 10, 11], [0, 1, 2, 3, 4, 5, 6, 7, 8, 9, 10, 11, 12]] [.op (some 8) (.mov (.t 4)),
   .op (some 9) (.bin .lss (.t 8) (.k (.int .i64 0))),
   .op (some 10) (.mov (.t 9))]
   [.op (some 11) (.mov (.t 0)),
   .op (some 12) (.mov (.t 4)),
   .op (some 13) (.slcT (.t 11) none (some (.t 12))),
   .op (some 14) (.s2b (.t 13)),
   .call (some 15) 170 [.t 14],
   .op (some 16) (.mov (.t 0)),
   .op (some 17) (.mov (.t 4)),
   .op (some 18) (.slcT (.t 16) (some (.t 17)) none)]
   [.andor 21 false 2 10 [.call (some 19) 168 [.t 18], .op (some 20) (.bin .neq (.t 15) (.t 19))] (.t 20)] 2 false 10)
  (.keep [0, 4, 21] (.cond (.t 21)
  (.seq (.ops [.op (some 2) (.mov (.k (.str []))),
    .op (some 3) (.mov (.k (.bool false)))])
   (.keep [2, 3] (.ret)))
  (.skip))))
 (.keep [0, 4] (.seq (.ops [.op (some 22) (.mov (.t 0)),
   .op (some 23) (.mov (.t 4)),
   .op (some 24) (.slcT (.t 22) none (some (.t 23))),
   .op (some 2) (.mov (.t 24)),
   .op (some 3) (.mov (.k (.bool true)))])
 (.keep [2, 3] (.ret))))))))
theorem k_c_l03Unseal_fits : fitsF Tryz.prog 166 ⟨25, k_c_l03Unseal, [.t 2, .t 3]⟩ = true := by kernel_rfl
set_option maxHeartbeats 4000000 in
theorem c_l03Unseal {t : Str} (hl : t.length ≤ 1048576) : Con Tryz.prog noMv 166 [str t] [] (fun r h => r = .tup [.d (.str (unsealF t).1), bool (unsealF t).2] ∧ h = []) := by
 refine con_of2 k_c_l03Unseal_fits rfl fun C hP hmv => ?_
 unfold k_c_l03Unseal
 refine cx_seq (cx_ops ?_)
 refine ax_q (q_mov rfl) ?_
 refine ax_q (q_mov rfl) ?_
 refine ax_nil (cx_keep rfl rfl (cx_seq (cx_ops ?_)))
 refine ax_q (q_mov rfl) ?_
 refine ax_q (q_lenT rfl) ?_
 refine ax_qe (r' := int ((t.length : Int) - 4)) (q_ibin rfl rfl rfl) (by rw [wi (by omega) (by omega)]) ?_
 refine ax_q (q_mov rfl) ?_
 refine ax_nil (cx_keep rfl rfl (cx_seq (cx_seq ?_)))
 refine cx_drawC (t := decide ((t.length : Int) - 4 < 0)) (fun g => ?_) (fun g => ?_)
 ·
  have g2 := dF g
  have hcl := @crcN_lt (t.take (t.length - 4))
  refine ⟨_, loc_q (q_mov rfl), ?_⟩
  refine ⟨_, loc_q (q_ibin rfl rfl rfl), ?_⟩
  refine ⟨_, loc_q (q_mov rfl), ?_⟩
  refine ⟨_, loc_q (q_mov rfl), ?_⟩
  refine ⟨_, loc_q (q_mov rfl), ?_⟩
  refine ⟨_, loc_qe (r' := .d (.str (t.take (t.length - 4)))) (q_slcT rfl rfl rfl (by omega) (by omega) (by omega)) (slcT_take (by omega)), ?_⟩
  refine ⟨_, loc_s2b rfl, ?_⟩
  refine ⟨_, loc_call (fun i => 15 + 200 * i) true rfl (c_l01Check (l := t.take (t.length - 4)) (by simp; omega)) hP (.inl ⟨rfl, .cons (.lend (lend_whole rfl (by simp))) .nil⟩) rfl rfl (fun _ => ⟨rfl, noisl_of trivial⟩), ?_⟩
  refine ⟨_, loc_q (q_mov rfl), ?_⟩
  refine ⟨_, loc_q (q_mov rfl), ?_⟩
  refine ⟨_, loc_qe (r' := .d (.str (t.drop (t.length - 4)))) (q_slcT rfl rfl rfl (by omega) (by omega) (by omega)) (slcT_drop (by omega)), ?_⟩
  refine ⟨⟨rfl, rfl⟩, ?_⟩
  apply ax_or rfl rfl
  ·
   intro g
   have g := dF g
   refine ax_call rfl (vc_pure0 (c_l01Of (t := t.drop (t.length - 4)) ?_) hP rfl rfl ?_)
   ·
    first | assumption | omega | (simp; done) | (simp; omega)
   refine ax_q (q_ibin rfl rfl rfl) ?_
   exact ax_nil ⟨rfl, by repeat constructor⟩
  refine ax_nil (cx_keep rfl rfl ?_)
  refine cx_cond rfl (fun h0 => ?_) (fun h0 => ?_)
  ·
   have h0 := (fun h => (or_T h).imp dT nT) h0
   refine cx_seq (cx_ops ?_)
   refine ax_q (q_mov rfl) ?_
   refine ax_q (q_mov rfl) ?_
   refine ax_nil (cx_keep rfl rfl ?_)
   refine cx_ret (ret0 rfl rfl ?_)
   exact ⟨by rw [unseal_1 h0]; rfl, rfl⟩
  ·
   have h0 := (fun h => And.intro (dF (or_F h).1) (nF (or_F h).2)) h0
   refine cx_skip ?_
   refine cx_keep rfl rfl (cx_seq (cx_ops ?_))
   refine ax_q (q_mov rfl) ?_
   refine ax_q (q_mov rfl) ?_
   refine ax_qe (r' := .d (.str (t.take (t.length - 4)))) (q_slcT rfl rfl rfl (by omega) (by omega) (by omega)) (slcT_take (by omega)) ?_
   refine ax_q (q_mov rfl) ?_
   refine ax_q (q_mov rfl) ?_
   refine ax_nil (cx_keep rfl rfl ?_)
   refine cx_ret (ret0 rfl rfl ?_)
   exact ⟨by rw [unseal_2 (fun h => h.elim h0.1 (fun q => q h0.2))]; rfl, rfl⟩
 ·
  have g2 := dT (bool_nf g)
  refine ⟨_, loc_q (q_mov rfl), ?_⟩
  refine ⟨_, loc_q (q_ibin rfl rfl rfl), ?_⟩
  refine ⟨_, loc_q (q_mov rfl), ?_⟩
  refine ⟨⟨⟨rfl, rfl⟩, rfl, rfl⟩, ?_⟩
  refine ax_or (y := false) rfl rfl (fun h => absurd h g) ?_
  refine ax_nil (cx_keep rfl rfl ?_)
  refine cx_cond rfl (fun h0 => ?_) (fun h0 => ?_)
  ·
   skip
   refine cx_seq (cx_ops ?_)
   refine ax_q (q_mov rfl) ?_
   refine ax_q (q_mov rfl) ?_
   refine ax_nil (cx_keep rfl rfl ?_)
   refine cx_ret (ret0 rfl rfl ?_)
   exact ⟨by rw [unseal_1 (.inl g2)]; rfl, rfl⟩
  ·
   skip
   rw [decide_eq_true g2] at h0; cases h0


/- loop.example/g00332/spec.l01Read -/
def k_c_l01Read : XCode :=
 .seq (.ops [.op (some 2) (.mov (.k (.nils 1))),
   .op (some 3) (.mov (.k (.bool false)))])
 (.keep [0] (.seq (.ops [.op (some 8) (.bslice 1 []),
   .op (some 4) (.mov (.t 8))])
 (.keep [0, 4] (.seq (.seq (.ops [.op (some 9) (.mov (.t 0)),
   .op (some 10) (.bin .eql (.t 9) (.k (.str []))),
   .op (some 11) (.mov (.t 10)),
   .andor 15 false 2 11 [.op (some 12) (.mov (.t 0)), .op (some 13) (.idxS (.t 12) (.k (.int .i64 0))), .op (some 14) (.bin .gtr (.t 13) (.k (.int .u8 100)))] (.t 14)])
  (.keep [0, 4, 15] (.cond (.t 15)
  (.seq (.ops [.op (some 16) (.mov (.t 4)),
    .op (some 2) (.mov (.t 16)),
    .op (some 3) (.mov (.k (.bool false)))])
   (.keep [2, 3] (.ret)))
  (.skip))))
 (.keep [0, 4] (.seq (.ops [.op (some 5) (.mov (.k (.int .i64 1)))])
 (.keep [0, 4, 5] (.seq (.seq (.ops [.op (some 17) (.mov (.t 0)),
   .op (some 18) (.idxS (.t 17) (.k (.int .i64 0))),
   .op (some 19) (.conv .i64 (.t 18)),
   .op (some 6) (.mov (.t 19))])
  (.keep [0, 4, 5, 6] (.block 0 (.loop (.seq (.seq (.ops [.op (some 20) (.mov (.t 6)),
     .op (some 21) (.bin .gtr (.t 20) (.k (.int .i64 0)))])
   (.keep [0, 4, 5, 6, 21] (.cond (.t 21)
    (.skip)
    (.exit 0))))
   (.keep [0, 4, 5, 6] (.seq (.block 1 (.seq (.seq (.ops [.op (some 24) (.mov (.t 5)),
      .op (some 25) (.mov (.t 0)),
      .op (some 26) (.lenT (.t 25)),
      .op (some 27) (.bin .geq (.t 24) (.t 26)),
      .op (some 28) (.mov (.t 27)),
      .andor 39 false 4 28 [.op (some 29) (.mov (.t 5)), .op (some 30) (.bin .add (.t 29) (.k (.int .i64 1))), .op (some 31) (.mov (.t 0)), .op (some 32) (.mov (.t 5)), .op (some 33) (.idxS (.t 31) (.t 32)), .op (some 34) (.conv .i64 (.t 33)), .op (some 35) (.bin .add (.t 30) (.t 34)), .op (some 36) (.mov (.t 0)), .op (some 37) (.lenT (.t 36)), .op (some 38) (.bin .gtr (.t 35) (.t 37))] (.t 38)])
    (.keep [0, 4, 5, 6, 39] (.cond (.t 39)
     (.seq (.ops [.op (some 40) (.bslice 1 []),
       .op (some 2) (.mov (.t 40)),
       .op (some 3) (.mov (.k (.bool false)))])
     (.keep [2, 3] (.ret)))
     (.skip))))
    (.keep [0, 4, 5, 6] (.seq (.ops [.op (some 41) (.mov (.t 0)),
     .op (some 42) (.mov (.t 5)),
     .op (some 43) (.idxS (.t 41) (.t 42)),
     .op (some 44) (.conv .i64 (.t 43)),
     .op (some 7) (.mov (.t 44))])
    (.keep [0, 4, 5, 6, 7] (.seq (.ops [.op (some 45) (.mov (.t 4)),
     .op (some 46) (.mov (.t 0)),
     .op (some 47) (.mov (.t 5)),
     .op (some 48) (.bin .add (.t 47) (.k (.int .i64 1))),
     .op (some 49) (.mov (.t 5)),
     .op (some 50) (.bin .add (.t 49) (.k (.int .i64 1))),
     .op (some 51) (.mov (.t 7)),
     .op (some 52) (.bin .add (.t 50) (.t 51)),
     .op (some 53) (.slcT (.t 46) (some (.t 48)) (some (.t 52))),
     .op (some 54) (.bslice 1 [.t 53]),
     .op (some 55) (.app 1 16 [.str []] (.t 45) (.t 54)),
     .op (some 4) (.mov (.t 55))])
    (.keep [0, 4, 5, 6, 7] (.ops [.op (some 56) (.mov (.t 5)),
     .op (some 57) (.mov (.t 7)),
     .op (some 58) (.bin .add (.k (.int .i64 1)) (.t 57)),
     .op (some 59) (.bin .add (.t 56) (.t 58)),
     .op (some 5) (.mov (.t 59))]))))))))
   (.keep [0, 4, 5, 6] (.ops [.op (some 22) (.mov (.t 6)),
    .op (some 23) (.bin .sub (.t 22) (.k (.int .i64 1))),
    .op (some 6) (.mov (.t 23))])))))))))
 (.keep [0, 4, 5] (.seq (.seq (.ops [.op (some 60) (.mov (.t 5)),
   .op (some 61) (.mov (.t 0)),
   .op (some 62) (.lenT (.t 61)),
   .op (some 63) (.bin .neq (.t 60) (.t 62))])
  (.keep [4, 63] (.cond (.t 63)
  (.seq (.ops [.op (some 64) (.bslice 1 []),
    .op (some 2) (.mov (.t 64)),
    .op (some 3) (.mov (.k (.bool false)))])
   (.keep [2, 3] (.ret)))
  (.skip))))
 (.keep [4] (.seq (.ops [.op (some 65) (.mov (.t 4)),
   .op (some 2) (.mov (.t 65)),
   .op (some 3) (.mov (.k (.bool true)))])
 (.keep [2, 3] (.ret))))))))))))))
theorem k_c_l01Read_fits : fitsF Tryz.prog 167 ⟨66, k_c_l01Read, [.t 2, .t 3]⟩ = true := by kernel_rfl
theorem c_l01Read {s : Str} (hl : s.length ≤ 1048576) : Con Tryz.prog noMv 167 [str s] [] (fun r h => r = .tup [.d (.sl 1 ((l01F s).1.map strRow)), bool (l01F s).2] ∧ h = []) := by
 refine con_of2 k_c_l01Read_fits rfl fun C hP hmv => ?_
 unfold k_c_l01Read
 refine cx_seq (cx_ops ?_)
 refine ax_q (q_mov rfl) ?_
 refine ax_q (q_mov rfl) ?_
 refine ax_nil (cx_keep rfl rfl (cx_seq (cx_ops ?_)))
 refine ax_e (e_bslice rfl (by decide) rfl rfl) ?_
 refine ax_q (q_mov rfl) ?_
 refine ax_nil (cx_keep rfl rfl (cx_seq (cx_seq (cx_ops ?_))))
 refine ax_q (q_mov rfl) ?_
 refine ax_q (q_sbin rfl rfl rfl) ?_
 refine ax_q (q_mov rfl) ?_
 apply ax_or rfl rfl
 ·
  intro g
  have g := dF g
  have h0s : 0 < s.length := List.length_pos_iff.2 g
  refine ax_q (q_mov rfl) ?_
  refine ax_qe (r' := .d (.int .u8 ((getN s 0 : Nat) : Int))) (q_idxN (n := 0) rfl rfl (by omega)) (by rw [getN_at (by omega)]) ?_
  refine ax_q (q_ibin rfl rfl rfl) ?_
  exact ax_nil ⟨rfl, by repeat constructor⟩
 refine ax_nil (cx_keep rfl rfl ?_)
 refine cx_cond rfl (fun h0 => ?_) (fun h0 => ?_)
 ·
  have h0 := (fun h => (or_T h).imp dT dT) h0
  refine cx_seq (cx_ops ?_)
  refine ax_q (q_mov rfl) ?_
  refine ax_q (q_mov rfl) ?_
  refine ax_q (q_mov rfl) ?_
  refine ax_nil (cx_keep rfl rfl ?_)
  refine cx_wk (wk_frz 2 8 rfl rfl (.whole (by simp)) rfl) ?_
  refine cx_ret (ret0 rfl rfl ?_)
  rw [l01_bad h0]; exact ⟨rfl, rfl⟩
 ·
  have h0 := (fun h => And.intro (dF (or_F h).1) (dF (or_F h).2)) h0
  have h0s : 0 < s.length := List.length_pos_iff.2 h0.1
  have hgo := l01_go h0
  have hg0 := @getN_lt s 0
  refine cx_skip ?_
  refine cx_keep rfl rfl (cx_seq (cx_ops ?_))
  refine ax_q (q_mov rfl) ?_
  refine ax_nil (cx_keep rfl rfl (cx_seq (cx_seq (cx_ops ?_))))
  refine ax_q (q_mov rfl) ?_
  refine ax_qe (r' := .d (.int .u8 ((getN s 0 : Nat) : Int))) (q_idxN (n := 0) rfl rfl (by omega)) (by rw [getN_at (by omega)]) ?_
  refine ax_qe (r' := int ((getN s 0 : Nat) : Int)) (q_convI rfl (by have := @getN_lt s 0; omega)) (rfl) ?_
  refine ax_q (q_mov rfl) ?_
  refine ax_nil (cx_keep rfl rfl (cx_block ?_))
  refine cx_loopU (fun m (p : Nat × Nat × List Str) => m = p.1 ∧ 1 ≤ p.2.1 ∧ p.2.1 ≤ s.length ∧ p.2.2.length + p.1 ≤ 255 ∧ loopR p.1 (s.drop p.2.1) p.2.2 = l01F s) (fun p => [(6, int (p.1 : Nat)), (5, int (p.2.1 : Nat)), (4, .osl 8 1 0 p.2.2.length)]) (fun p => [(8, .rows 1 (p.2.2.map strRow))])
   ⟨_, (getN s 0, 1, []), ⟨rfl, Nat.le_refl _, by simp only; omega, by simp only [List.length_nil]; omega, hgo⟩, by repeat constructor⟩ ?_
  rintro m ⟨n, pos, l⟩ ⟨rfl, hp1, hp, hn, he⟩
  simp only at hp1 hp hn he ⊢
  refine cx_seq (cx_seq (cx_ops ?_))
  refine ax_q (q_mov rfl) ?_
  refine ax_q (q_ibin rfl rfl rfl) ?_
  refine ax_nil (cx_keep rfl rfl ?_)
  refine cx_cond rfl (fun h1 => ?_) (fun h1 => ?_)
  ·
   have h1 := dT h1
   obtain ⟨m, rfl⟩ : ∃ n2, m = n2 + 1 := ⟨m - 1, by omega⟩
   have hgl := @getN_lt s pos
   refine cx_skip ?_
   refine cx_keep rfl rfl (cx_seq (cx_block (cx_seq (cx_seq (cx_ops ?_)))))
   refine ax_q (q_mov rfl) ?_
   refine ax_q (q_mov rfl) ?_
   refine ax_q (q_lenT rfl) ?_
   refine ax_q (q_ibin rfl rfl rfl) ?_
   refine ax_q (q_mov rfl) ?_
   apply ax_or rfl rfl
   ·
    intro g
    have g := dF g
    refine ax_q (q_mov rfl) ?_
    refine ax_qe (r' := int ((pos + 1 : Nat) : Int)) (q_ibin rfl rfl rfl) (by rw [wi (by omega) (by omega)]; rfl) ?_
    refine ax_q (q_mov rfl) ?_
    refine ax_q (q_mov rfl) ?_
    refine ax_qe (r' := .d (.int .u8 ((getN s pos : Nat) : Int))) (q_idxN rfl rfl (by omega)) (by rw [getN_at (by omega)]) ?_
    refine ax_qe (r' := int ((getN s pos : Nat) : Int)) (q_convI rfl (by have := @getN_lt s pos; omega)) (rfl) ?_
    refine ax_qe (r' := int ((pos + 1 + getN s pos : Nat) : Int)) (q_ibin rfl rfl rfl) (by rw [wi (by omega) (by omega)]; rfl) ?_
    refine ax_q (q_mov rfl) ?_
    refine ax_q (q_lenT rfl) ?_
    refine ax_q (q_ibin rfl rfl rfl) ?_
    exact ax_nil ⟨rfl, by repeat constructor⟩
   refine ax_nil (cx_keep rfl rfl ?_)
   refine cx_cond rfl (fun h2 => ?_) (fun h2 => ?_)
   ·
    have h2 := (fun h => (or_T h).imp dT dT) h2
    refine cx_seq (cx_ops ?_)
    refine ax_e (e_bslice rfl (by decide) rfl rfl) ?_
    refine ax_q (q_mov rfl) ?_
    refine ax_q (q_mov rfl) ?_
    refine ax_nil (cx_keep rfl rfl ?_)
    refine cx_wk (wk_frz 2 40 rfl rfl (.whole (by simp)) rfl) ?_
    refine cx_ret (ret0 rfl rfl ?_)
    have e : l01F s = ([], false) := by rw [← he]; exact loopR_bad h2
    rw [e]; exact ⟨rfl, rfl⟩
   ·
    have h2 := (fun h => And.intro (dF (or_F h).1) (dF (or_F h).2)) h2
    have hst := loopR_go (n := m) (l := l) (pos := pos) (s := s) (by omega) (by omega)
    refine cx_skip ?_
    refine cx_keep rfl rfl (cx_seq (cx_ops ?_))
    refine ax_q (q_mov rfl) ?_
    refine ax_q (q_mov rfl) ?_
    refine ax_qe (r' := .d (.int .u8 ((getN s pos : Nat) : Int))) (q_idxN rfl rfl (by omega)) (by rw [getN_at (by omega)]) ?_
    refine ax_qe (r' := int ((getN s pos : Nat) : Int)) (q_convI rfl (by have := @getN_lt s pos; omega)) (rfl) ?_
    refine ax_q (q_mov rfl) ?_
    refine ax_nil (cx_keep rfl rfl (cx_seq (cx_ops ?_)))
    refine ax_q (q_mov rfl) ?_
    refine ax_q (q_mov rfl) ?_
    refine ax_q (q_mov rfl) ?_
    refine ax_qe (r' := int ((pos + 1 : Nat) : Int)) (q_ibin rfl rfl rfl) (by rw [wi (by omega) (by omega)]; rfl) ?_
    refine ax_q (q_mov rfl) ?_
    refine ax_qe (r' := int ((pos + 1 : Nat) : Int)) (q_ibin rfl rfl rfl) (by rw [wi (by omega) (by omega)]; rfl) ?_
    refine ax_q (q_mov rfl) ?_
    refine ax_qe (r' := int ((pos + 1 + getN s pos : Nat) : Int)) (q_ibin rfl rfl rfl) (by rw [wi (by omega) (by omega)]; rfl) ?_
    refine ax_qe (r' := .d (.str ((s.drop (pos + 1)).take (getN s pos)))) (q_slcT rfl rfl rfl (by omega) (by omega) (by omega)) (slcT_mid (by omega) (by omega)) ?_
    refine ax_e (e_bsliceD (rows := [strRow ((s.drop (pos + 1)).take (getN s pos))]) rfl) ?_
    refine ax_e (e_appn (n' := (l ++ [((s.drop (pos + 1)).take (getN s pos))]).length) (rs' := (l ++ [((s.drop (pos + 1)).take (getN s pos))]).map strRow) rfl rfl (by simp) rfl (src_sl 1 _) (.inl (by decide)) (hbnd (by omega) (by simp) (by decide)) (by simp) app_one) ?_
    refine ax_q (q_mov rfl) ?_
    refine ax_nil (cx_keep rfl rfl (cx_ops ?_))
    refine ax_q (q_mov rfl) ?_
    refine ax_q (q_mov rfl) ?_
    refine ax_qe (r' := int ((1 + getN s pos : Nat) : Int)) (q_ibin rfl rfl rfl) (by rw [wi (by omega) (by omega)]; rfl) ?_
    refine ax_qe (r' := int ((pos + 1 + getN s pos : Nat) : Int)) (q_ibin rfl rfl rfl) (by rw [wi (by omega) (by omega)]; exact congrArg AM.int (by omega)) ?_
    refine ax_q (q_mov rfl) ?_
    refine ax_nil (cx_keep rfl rfl (cx_ops ?_))
    refine ax_q (q_mov rfl) ?_
    refine ax_qe (r' := int ((m : Nat) : Int)) (q_ibin rfl rfl rfl) (by rw [wi (by omega) (by omega)]; exact congrArg AM.int (by omega)) ?_
    refine ax_q (q_mov rfl) ?_
    refine ax_nil ?_
    exact ⟨_, (m, pos + 1 + getN s pos, l ++ [((s.drop (pos + 1)).take (getN s pos))]), by omega, ⟨rfl, by simp only; omega, by simp only; omega, by simp only [List.length_append, List.length_singleton]; omega, by rw [← hst]; exact he⟩, by repeat constructor⟩
  ·
   have h1 := dF h1
   obtain rfl : m = 0 := by omega
   refine cx_exit rfl ?_
   refine cx_keep rfl rfl (cx_seq (cx_seq (cx_ops ?_)))
   refine ax_q (q_mov rfl) ?_
   refine ax_q (q_mov rfl) ?_
   refine ax_q (q_lenT rfl) ?_
   refine ax_q (q_ibin rfl rfl rfl) ?_
   refine ax_nil (cx_keep rfl rfl ?_)
   refine cx_cond rfl (fun h3 => ?_) (fun h3 => ?_)
   ·
    have h3 := nT h3
    refine cx_seq (cx_ops ?_)
    refine ax_e (e_bslice rfl (by decide) rfl rfl) ?_
    refine ax_q (q_mov rfl) ?_
    refine ax_q (q_mov rfl) ?_
    refine ax_nil (cx_keep rfl rfl ?_)
    refine cx_wk (wk_frz 2 64 rfl rfl (.whole (by simp)) rfl) ?_
    refine cx_ret (ret0 rfl rfl ?_)
    have e : l01F s = ([], false) := by rw [← he]; exact loopR_0f (by omega)
    rw [e]; exact ⟨rfl, rfl⟩
   ·
    have h3 := nF h3
    refine cx_skip ?_
    refine cx_keep rfl rfl (cx_seq (cx_ops ?_))
    refine ax_q (q_mov rfl) ?_
    refine ax_q (q_mov rfl) ?_
    refine ax_q (q_mov rfl) ?_
    refine ax_nil (cx_keep rfl rfl ?_)
    refine cx_wk (wk_frz 2 8 rfl rfl (.whole (by simp)) rfl) ?_
    refine cx_ret (ret0 rfl rfl ?_)
    have e : l01F s = (l, true) := by rw [← he]; exact loopR_0t (by omega)
    rw [e]; exact ⟨rfl, rfl⟩


/- loop.example/g00332/spec.l03Read -/
def k_c_l03Read : XCode :=
 .seq (.ops [.op (some 4) (.alloc [.int .i64 0, .nils 1]),
   .op (some 5) (.mov (.k (.bool false)))])
 (.keep [0, 1, 4] (.seq (.ops [.op (some 12) (.mov (.t 1)),
   .call (some 13) 166 [.t 12],
   .op (some 11) (.mov (.t 13)),
   .op (some 14) (.ext (.t 11) 0),
   .op (some 15) (.ext (.t 11) 1),
   .op (some 6) (.mov (.t 14)),
   .op (some 7) (.mov (.t 15))])
 (.keep [0, 4, 6, 7] (.seq (.seq (.ops [.op (some 16) (.mov (.t 7)),
   .op (some 17) (.not (.t 16)),
   .op (some 18) (.mov (.t 17)),
   .andor 22 false 2 18 [.op (some 19) (.mov (.t 6)), .op (some 20) (.lenT (.t 19)), .op (some 21) (.bin .lss (.t 20) (.k (.int .i64 5)))] (.t 21),
   .op (some 23) (.mov (.t 22)),
   .andor 27 false 7 23 [.op (some 24) (.mov (.t 6)), .op (some 25) (.idxS (.t 24) (.k (.int .i64 0))), .op (some 26) (.bin .neq (.t 25) (.k (.int .u8 112)))] (.t 26),
   .op (some 28) (.mov (.t 27)),
   .andor 34 false 12 28 [.op (some 29) (.mov (.t 6)), .op (some 30) (.idxS (.t 29) (.k (.int .i64 1))), .op (some 31) (.conv .i64 (.t 30)), .op (some 32) (.mov (.t 0)), .op (some 33) (.bin .neq (.t 31) (.t 32))] (.t 33)])
  (.keep [4, 6, 34] (.cond (.t 34)
  (.seq (.ops [.op (some 35) (.build [.int .i64 0, .nils 1] []),
    .op none (.store 2 (.t 4) (.t 35)),
    .op (some 5) (.mov (.k (.bool false)))])
   (.keep [4, 5] (.ret)))
  (.skip))))
 (.keep [4, 6] (.seq (.ops [.op (some 37) (.mov (.t 6)),
   .op (some 38) (.slcT (.t 37) (some (.k (.int .i64 4))) none),
   .call (some 39) 167 [.t 38],
   .op (some 36) (.mov (.t 39)),
   .op (some 40) (.ext (.t 36) 0),
   .op (some 41) (.ext (.t 36) 1),
   .op (some 8) (.mov (.t 40)),
   .op (some 9) (.mov (.t 41))])
 (.keep [4, 6, 8, 9] (.seq (.ops [.op (some 42) (.mov (.t 6)),
   .op (some 43) (.slcT (.t 42) (some (.k (.int .i64 2))) (some (.k (.int .i64 4)))),
   .call (some 44) 168 [.t 43],
   .op (some 45) (.mov (.t 8)),
   .op (some 46) (.build [.int .i64 0, .nils 1] [(0, 1, .t 44), (1, 1, .t 45)]),
   .op (some 10) (.alloc [.int .i64 0, .nils 1]),
   .op none (.store 2 (.t 10) (.t 46))])
 (.keep [4, 9, 10] (.seq (.drawS [[], [], [1], [1, 2], [1, 2, 3], [1, 2, 3, 4], [0, 1, 2, 3, 4], [0, 1, 2, 3, 4, 5, 6]] [.op (some 47) (.loadN 2 (.t 10)),
   .op (some 48) (.mov (.t 9)),
   .op (some 49) (.mov (.t 48)),
   .andor 52 true 2 49 [.op (some 50) (.loadN 2 (.t 10)), .call (some 51) 73 [.t 50]] (.t 51)]
  [.op none (.store 2 (.t 4) (.t 47)),
   .op (some 5) (.mov (.t 52))])
 (.keep [4, 5] (.ret))))))))))))
theorem k_c_l03Read_fits : fitsF Tryz.prog 127 ⟨53, k_c_l03Read, [.cN 4 2, .t 5]⟩ = true := by kernel_rfl
set_option maxHeartbeats 4000000 in
theorem c_l03Read {no : Int} {t : Str} (hl : t.length ≤ 65536) : Con Tryz.prog noMv 127 [int no, str t] [] (fun r h => r = .tup [(l3F no t).1.av, bool (l3F no t).2] ∧ h = []) := by
 refine con_of2 k_c_l03Read_fits rfl fun C hP hmv => ?_
 unfold k_c_l03Read
 refine cx_seq (cx_ops ?_)
 refine ax_e (e_alloc (by decide) rfl rfl) ?_
 refine ax_q (q_mov rfl) ?_
 refine ax_nil (cx_keep rfl rfl (cx_seq (cx_ops ?_)))
 refine ax_q (q_mov rfl) ?_
 refine ax_call rfl (vc_pure0 (c_l03Unseal (t := t) ?_) hP rfl rfl ?_)
 ·
  first | assumption | omega
 have hul := @unseal_len t
 refine ax_q (q_mov rfl) ?_
 refine ax_q (q_ext rfl rfl) ?_
 refine ax_q (q_ext rfl rfl) ?_
 refine ax_q (q_mov rfl) ?_
 refine ax_q (q_mov rfl) ?_
 refine ax_nil (cx_keep rfl rfl (cx_seq (cx_seq (cx_ops ?_))))
 refine ax_q (q_mov rfl) ?_
 refine ax_q (q_not rfl) ?_
 refine ax_q (q_mov rfl) ?_
 apply ax_or rfl rfl
 ·
  intro g
  have g := bF g
  refine ax_q (q_mov rfl) ?_
  refine ax_q (q_lenT rfl) ?_
  refine ax_q (q_ibin rfl rfl rfl) ?_
  exact ax_nil ⟨rfl, by repeat constructor⟩
 refine ax_q (q_mov rfl) ?_
 apply ax_or rfl rfl
 ·
  intro g
  have g := (fun h => And.intro (bF (or_F h).1) (dF (or_F h).2)) g
  have g9 := g.2
  refine ax_q (q_mov rfl) ?_
  refine ax_qe (r' := .d (.int .u8 ((getN (unsealF t).1 0 : Nat) : Int))) (q_idxN (n := 0) rfl rfl (by omega)) (by rw [getN_at (by omega)]) ?_
  refine ax_q (q_ibin rfl rfl rfl) ?_
  exact ax_nil ⟨rfl, by repeat constructor⟩
 refine ax_q (q_mov rfl) ?_
 apply ax_or rfl rfl
 ·
  intro g
  have g := (fun h => And.intro ((fun h => And.intro (bF (or_F h).1) (dF (or_F h).2)) (or_F h).1) (nF (or_F h).2)) g
  have g9 := g.1.2
  refine ax_q (q_mov rfl) ?_
  refine ax_qe (r' := .d (.int .u8 ((getN (unsealF t).1 1 : Nat) : Int))) (q_idxN (n := 1) rfl rfl (by omega)) (by rw [getN_at (by omega)]) ?_
  refine ax_qe (r' := int ((getN (unsealF t).1 1 : Nat) : Int)) (q_convI rfl (by have := @getN_lt (unsealF t).1 1; omega)) (rfl) ?_
  refine ax_q (q_mov rfl) ?_
  refine ax_q (q_ibin rfl rfl rfl) ?_
  exact ax_nil ⟨rfl, by repeat constructor⟩
 refine ax_nil (cx_keep rfl rfl ?_)
 refine cx_cond rfl (fun h0 => ?_) (fun h0 => ?_)
 ·
  have h0 : bad3 no t = true := h0
  refine cx_seq (cx_ops ?_)
  refine ax_q (q_build rfl) ?_
  refine ax_wk (wk_virt 903 1 rfl rfl rfl) ?_
  refine ax_wk (wk_zs 35 903 [1] rfl rfl) ?_
  refine ax_wk (wk_frz 35 903 rfl rfl (.agg (.cons (.same rfl) (.cons (.whole rfl) .nil))) rfl) ?_
  refine ax_e (e_st rfl rfl rfl rfl rfl rfl rfl) ?_
  refine ax_q (q_mov rfl) ?_
  refine ax_nil (cx_keep rfl rfl ?_)
  refine cx_ret (ret0 rfl rfl ?_)
  exact ⟨by rw [l3F_1 h0]; rfl, rfl⟩
 ·
  have h0 : bad3 no t = false := h0
  have h5 : 5 ≤ (unsealF t).1.length := by
   have h1 := h0; unfold bad3 at h1; simp only [Bool.or_eq_false_iff, decide_eq_false_iff_not] at h1; have := h1.1.1.2; omega
  refine cx_skip ?_
  refine cx_keep rfl rfl (cx_seq (cx_ops ?_))
  refine ax_q (q_mov rfl) ?_
  refine ax_qe (r' := .d (.str ((unsealF t).1.drop 4))) (q_slcT rfl rfl rfl (by omega) (by omega) (by omega)) (slcT_drop rfl) ?_
  refine ax_call rfl (vc_pure0 (c_l01Read (s := (unsealF t).1.drop 4) ?_) hP rfl rfl ?_)
  ·
   first | assumption | omega | (simp; done) | (simp; omega)
  refine ax_q (q_mov rfl) ?_
  refine ax_q (q_ext rfl rfl) ?_
  refine ax_q (q_ext rfl rfl) ?_
  refine ax_q (q_mov rfl) ?_
  refine ax_q (q_mov rfl) ?_
  refine ax_nil (cx_keep rfl rfl (cx_seq (cx_ops ?_)))
  refine ax_q (q_mov rfl) ?_
  refine ax_qe (r' := .d (.str (((unsealF t).1.drop 2).take 2))) (q_slcT rfl rfl rfl (by omega) (by omega) (by omega)) (slcT_mid rfl rfl) ?_
  refine ax_call rfl (vc_pure0 (c_l01Of (t := ((unsealF t).1.drop 2).take 2) ?_) hP rfl rfl ?_)
  ·
   rw [List.length_take]; omega
  refine ax_q (q_mov rfl) ?_
  refine ax_q (q_build rfl) ?_
  refine ax_e (e_alloc (by decide) rfl rfl) ?_
  refine ax_e (e_st rfl rfl rfl rfl rfl rfl rfl) ?_
  refine ax_nil (cx_keep rfl rfl (cx_seq ?_))
  refine cx_drawS ?_
  refine ax_q (q_ldN rfl rfl rfl) ?_
  refine ax_q (q_mov rfl) ?_
  refine ax_q (q_mov rfl) ?_
  apply ax_and rfl rfl
  ·
   intro g
   refine ax_q (q_ldN rfl rfl rfl) ?_
   refine ax_callq rfl (c_sPageOK (p := pgR (unsealF t).1) ?_) hP (lal_id _ rfl) rfl ?_
   ·
    exact Nat.le_trans l01_255 (by decide)
   exact ax_nil ⟨rfl, by repeat constructor⟩
  refine ax_nil ?_
  refine ax_e (e_st rfl rfl rfl rfl rfl rfl rfl) ?_
  refine ax_q (q_mov rfl) ?_
  refine ax_nil (cx_keep rfl rfl ?_)
  refine cx_ret (ret0 rfl rfl ?_)
  exact ⟨by rw [l3F_2 h0]; rfl, rfl⟩


/- loop.example/g00332/spec.l05Page -/
def k_c_l05Page : XCode :=
 .seq (.ops [.op (some 2) (.box (.t 0)),
   .op (some 4) (.alloc [.int .i64 0, .nils 1]),
   .op (some 5) (.mov (.k (.bool false)))])
 (.keep [1, 2, 4] (.seq (.ops [.op (some 7) (.loadN 4 (.t 2)),
   .op (some 8) (.mov (.t 1)),
   .op (some 9) (.bin .add (.k (.int .i64 1)) (.t 8)),
   .call (some 10) 125 [.t 7, .t 9],
   .op (some 6) (.mov (.t 10))])
 (.keep [1, 4, 6] (.seq (.seq (.ops [.op (some 11) (.mov (.t 6)),
   .op (some 12) (.bin .eql (.t 11) (.k (.str [])))])
  (.keep [1, 4, 6, 12] (.cond (.t 12)
  (.seq (.ops [.call (some 13) 126 [],
    .op none (.store 2 (.t 4) (.t 13)),
    .op (some 5) (.mov (.k (.bool true)))])
   (.keep [4, 5] (.ret)))
  (.skip))))
 (.keep [1, 4, 6] (.seq (.ops [.op (some 14) (.mov (.t 1)),
   .op (some 15) (.mov (.t 6)),
   .call (some 16) 127 [.t 14, .t 15],
   .op (some 17) (.ext (.t 16) 0),
   .op (some 18) (.ext (.t 16) 1),
   .op none (.store 2 (.t 4) (.t 17)),
   .op (some 5) (.mov (.t 18))])
 (.keep [4, 5] (.ret))))))))
theorem k_c_l05Page_fits : fitsF Tryz.prog 74 ⟨19, k_c_l05Page, [.cN 4 2, .t 5]⟩ = true := by kernel_rfl
theorem c_l05Page {d : GDisk} {no : Nat} (hd : diskOK d = true) (hs : d.Sectors.length = 69) (hn : no < 8) : Con Tryz.prog noMv 74 [d.av, int (no : Nat)] [] (fun r h => r = .tup [(pageD d no).1.av, bool (pageD d no).2] ∧ h = []) := by
 refine con_of2 k_c_l05Page_fits rfl fun C hP hmv => ?_
 unfold k_c_l05Page
 obtain ⟨q1, q2, q3⟩ := diskOK_head hd
 have htl := diskOK_txt hd (1 + no)
 refine cx_seq (cx_ops ?_)
 refine ax_e (e_box rfl rfl (by decide) rfl rfl rfl) ?_
 refine ax_e (e_alloc (by decide) rfl rfl) ?_
 refine ax_q (q_mov rfl) ?_
 refine ax_nil (cx_keep rfl rfl (cx_seq (cx_ops ?_)))
 refine ax_q (q_ldN rfl rfl rfl) ?_
 refine ax_q (q_mov rfl) ?_
 refine ax_qe (r' := int ((1 + no : Nat) : Int)) (q_ibin rfl rfl rfl) (by rw [wi (by omega) (by omega)]; rfl) ?_
 refine ax_call rfl (vc_pure0 (c_l02Read (d := d) (i := 1 + no) ?_ ?_ ?_ ?_) hP rfl rfl ?_)
 ·
  first | assumption | omega
 ·
  first | assumption | omega
 ·
  first | assumption | omega
 ·
  first | assumption | omega
 refine ax_q (q_mov rfl) ?_
 refine ax_nil (cx_keep rfl rfl (cx_seq (cx_seq (cx_ops ?_))))
 refine ax_q (q_mov rfl) ?_
 refine ax_q (q_sbin rfl rfl rfl) ?_
 refine ax_nil (cx_keep rfl rfl ?_)
 refine cx_cond rfl (fun h0 => ?_) (fun h0 => ?_)
 ·
  have h0 := dT h0
  have h0 : txtD d (1 + no) = [] := h0
  refine cx_seq (cx_ops ?_)
  refine ax_call rfl (vc_pure (c_sNewPage  ) hP rfl ?_)
  rintro r h ⟨rfl, rfl⟩
  refine ⟨fun i => 13 + 200 * i, [0], ⟨rfl, rfl, rfl, rfl, rfl, (by first | exact (fun h => absurd h Bool.false_ne_true) | exact (fun _ => ⟨rfl, (noisl_of (by repeat (first | exact trivial | refine ⟨noisl_map (fun _ => rfl), ?_⟩ | refine ⟨?_, ?_⟩)))⟩))⟩, ?_⟩
  skip
  refine ax_wk (wk_frz 13 13 rfl rfl (.agg (.cons (.same rfl) (.cons (.whole rfl) .nil))) rfl) ?_
  refine ax_e (e_st rfl rfl rfl rfl rfl rfl rfl) ?_
  refine ax_q (q_mov rfl) ?_
  refine ax_nil (cx_keep rfl rfl ?_)
  refine cx_ret (ret0 rfl rfl ?_)
  exact ⟨by rw [show pageD d no = _ from pageT_0 h0]; rfl, rfl⟩
 ·
  have h0 := dF h0
  have h0 : ¬ txtD d (1 + no) = [] := h0
  refine cx_skip ?_
  refine cx_keep rfl rfl (cx_seq (cx_ops ?_))
  refine ax_q (q_mov rfl) ?_
  refine ax_q (q_mov rfl) ?_
  refine ax_call rfl (vc_pure0 (c_l03Read (t := txtD d (1 + no)) ?_) hP rfl rfl ?_)
  ·
   first | assumption | omega
  refine ax_q (q_ext rfl rfl) ?_
  refine ax_q (q_ext rfl rfl) ?_
  refine ax_e (e_st rfl rfl rfl rfl rfl rfl rfl) ?_
  refine ax_q (q_mov rfl) ?_
  refine ax_nil (cx_keep rfl rfl ?_)
  refine cx_ret (ret0 rfl rfl ?_)
  exact ⟨by rw [show pageD d no = _ from pageT_1 h0]; rfl, rfl⟩


/- loop.example/g00332/spec.l05Fetch -/
def k_c_l05Fetch : XCode :=
 .seq (.ops [.op (some 2) (.box (.t 0)),
   .op (some 4) (.alloc [.nils 1, .nils 2, .bool false, .nils 1, .int .i64 0, .nils 10, .int .i64 0, .nils 5, .int .i64 0]),
   .op (some 5) (.mov (.k (.int .i64 0))),
   .op (some 6) (.mov (.k (.bool false)))])
 (.keep [1, 2, 4] (.seq (.seq (.ops [.op (some 13) (.loadN 9 (.t 2)),
   .op (some 14) (.mov (.t 1)),
   .call (some 15) 48 [.t 13, .t 14],
   .op (some 7) (.mov (.t 15))])
  (.keep [1, 2, 4, 7] (.seq (.ops [.op (some 16) (.mov (.t 7)),
   .op (some 17) (.bin .geq (.t 16) (.k (.int .i64 0)))])
  (.keep [1, 2, 4, 7, 17] (.cond (.t 17)
  (.seq (.ops [.op (some 18) (.loadN 9 (.t 2)),
    .op (some 19) (.mov (.t 7)),
    .op none (.store 9 (.t 4) (.t 18)),
    .op (some 5) (.mov (.t 19)),
    .op (some 6) (.mov (.k (.bool true)))])
   (.keep [4, 5, 6] (.ret)))
  (.skip))))))
 (.keep [1, 2, 4] (.seq (.ops [.op (some 20) (.fadr (.t 2) 7),
   .op (some 21) (.load1 (.t 20)),
   .op (some 22) (.lenS (.t 21)),
   .op (some 8) (.mov (.t 22))])
 (.keep [1, 2, 4, 8] (.seq (.seq (.ops [.op (some 23) (.mov (.t 8)),
   .op (some 24) (.bin .eql (.t 23) (.k (.int .i64 3)))])
  (.keep [1, 2, 4, 8, 24] (.cond (.t 24)
  (.seq (.ops [.op (some 25) (.fadr (.t 2) 8),
    .op (some 26) (.load1 (.t 25)),
    .op (some 8) (.mov (.t 26))])
   (.keep [1, 2, 4, 8] (.seq (.ops [.op (some 28) (.loadN 9 (.t 2)),
    .op (some 29) (.mov (.t 8)),
    .call (some 30) 120 [.t 28, .t 29],
    .op (some 27) (.mov (.t 30)),
    .op (some 31) (.ext (.t 27) 0),
    .op (some 32) (.ext (.t 27) 1),
    .op (some 9) (.alloc [.nils 1, .nils 2, .bool false, .nils 1, .int .i64 0, .nils 10, .int .i64 0, .nils 5, .int .i64 0]),
    .op none (.store 9 (.t 9) (.t 31)),
    .op (some 10) (.mov (.t 32))])
   (.keep [1, 2, 4, 8, 9, 10] (.seq (.ops [.op (some 33) (.loadN 9 (.t 9)),
    .op none (.store 9 (.t 2) (.t 33))])
   (.keep [1, 2, 4, 8, 10] (.seq (.seq (.ops [.op (some 34) (.mov (.t 10)),
     .op (some 35) (.not (.t 34))])
   (.keep [1, 2, 4, 8, 35] (.cond (.t 35)
    (.seq (.ops [.op (some 36) (.loadN 9 (.t 2)),
      .op none (.store 9 (.t 4) (.t 36)),
      .op (some 5) (.mov (.k (.int .i64 0))),
      .op (some 6) (.mov (.k (.bool false)))])
    (.keep [4, 5, 6] (.ret)))
    (.skip))))
   (.keep [1, 2, 4, 8] (.ops [.op (some 37) (.fadr (.t 2) 8),
    .op (some 38) (.load1 (.t 37)),
    .op (some 39) (.bin .add (.t 38) (.k (.int .i64 1))),
    .op (some 40) (.bin .rem (.t 39) (.k (.int .i64 3))),
    .op (some 41) (.fadr (.t 2) 8),
    .op none (.store 1 (.t 41) (.t 40))])))))))))
  (.ops [.op (some 42) (.bslice 5 []),
    .op (some 43) (.fadr (.t 2) 7),
    .op (some 44) (.load1 (.t 43)),
    .op (some 45) (.app 5 56 [.int .i64 0, .int .i64 0, .nils 1, .bool false, .int .i64 0] (.t 42) (.t 44)),
    .op (some 46) (.build [.int .i64 0, .int .i64 0, .nils 1, .bool false, .int .i64 0] []),
    .op (some 47) (.bslice 5 [.t 46]),
    .op (some 48) (.app 5 56 [.int .i64 0, .int .i64 0, .nils 1, .bool false, .int .i64 0] (.t 45) (.t 47)),
    .op (some 49) (.fadr (.t 2) 7),
    .op none (.store 1 (.t 49) (.t 48))]))))
 (.keep [1, 2, 4, 8] (.seq (.ops [.op (some 51) (.fadr (.t 2) 0),
   .op (some 52) (.loadN 4 (.t 51)),
   .op (some 53) (.mov (.t 1)),
   .call (some 54) 74 [.t 52, .t 53],
   .op (some 50) (.mov (.t 54)),
   .op (some 55) (.ext (.t 50) 0),
   .op (some 56) (.ext (.t 50) 1),
   .op (some 11) (.alloc [.int .i64 0, .nils 1]),
   .op none (.store 2 (.t 11) (.t 55)),
   .op (some 12) (.mov (.t 56))])
 (.keep [1, 2, 4, 8, 11] (.seq (.ops [.op (some 57) (.bslice 5 []),
   .op (some 58) (.fadr (.t 2) 7),
   .op (some 59) (.load1 (.t 58)),
   .op (some 60) (.app 5 56 [.int .i64 0, .int .i64 0, .nils 1, .bool false, .int .i64 0] (.t 57) (.t 59)),
   .op (some 61) (.fadr (.t 2) 7),
   .op none (.store 1 (.t 61) (.t 60))])
 (.keep [1, 2, 4, 8, 11] (.seq (.ops [.op (some 62) (.fadr (.t 2) 7),
   .op (some 63) (.load1 (.t 62)),
   .op (some 64) (.mov (.t 8)),
   .op (some 65) (.mov (.t 1)),
   .op (some 66) (.loadN 2 (.t 11)),
   .op (some 67) (.build [.int .i64 0, .int .i64 0, .nils 1, .bool false, .int .i64 0] [(0, 1, .t 65), (1, 2, .t 66)]),
   .op (some 68) (.iadr 5 (.t 63) (.t 64)),
   .op none (.store 5 (.t 68) (.t 67))])
 (.keep [2, 4, 8] (.seq (.ops [.op (some 69) (.loadN 9 (.t 2)),
   .op (some 70) (.mov (.t 8)),
   .op none (.store 9 (.t 4) (.t 69)),
   .op (some 5) (.mov (.t 70)),
   .op (some 6) (.mov (.k (.bool true)))])
 (.keep [4, 5, 6] (.ret))))))))))))))))
theorem k_c_l05Fetch_fits : fitsF Tryz.prog 62 ⟨71, k_c_l05Fetch, [.cN 4 9, .t 5, .t 6]⟩ = true := by kernel_rfl
theorem c_l05Fetch {s : GStore} {m no : Nat} {z : Int} (h : DI s m) (hm : m ≤ 59) (hn : no < 8) (hz : z = (no : Int)) : Con Tryz.prog noMv 62 [s.av, int z] [] (fun r h => r = .tup [(fetchF s no).1.av, int (fetchF s no).2, bool true] ∧ h = []) := by
 refine con_of2 k_c_l05Fetch_fits rfl fun C hP hmv => ?_
 unfold k_c_l05Fetch
 subst hz
 obtain ⟨hw0, hw1, hw2, hw3, hwa, hw4, hw5, hw6⟩ := di_stb h (by omega)
 have hhd := h.hd
 have hds := h.dk.dok.ok
 have hse := h.dk.se
 have hfl := h.fk.fl
 refine cx_seq (cx_ops ?_)
 refine ax_e (e_box rfl rfl (by decide) rfl rfl rfl) ?_
 refine ax_e (e_alloc (by decide) rfl rfl) ?_
 refine ax_q (q_mov rfl) ?_
 refine ax_q (q_mov rfl) ?_
 refine ax_nil (cx_keep rfl rfl (cx_seq (cx_seq (cx_ops ?_))))
 refine ax_q (q_ldN rfl rfl rfl) ?_
 refine ax_q (q_mov rfl) ?_
 refine ax_call rfl (vc_pure0 (c_l05Frame (s := s) (no := (no : Int)) ?_) hP rfl rfl ?_)
 ·
  assumption
 refine ax_q (q_mov rfl) ?_
 refine ax_nil (cx_keep rfl rfl (cx_seq (cx_ops ?_)))
 refine ax_q (q_mov rfl) ?_
 refine ax_q (q_ibin rfl rfl rfl) ?_
 refine ax_nil (cx_keep rfl rfl ?_)
 refine cx_cond rfl (fun h0 => ?_) (fun h0 => ?_)
 ·
  have h0 := dT h0
  refine cx_seq (cx_ops ?_)
  refine ax_q (q_ldN rfl rfl rfl) ?_
  refine ax_q (q_mov rfl) ?_
  refine ax_e (e_st rfl rfl rfl rfl rfl rfl rfl) ?_
  refine ax_q (q_mov rfl) ?_
  refine ax_q (q_mov rfl) ?_
  refine ax_nil (cx_keep rfl rfl ?_)
  refine cx_ret (ret0 rfl rfl ?_)
  exact ⟨by rw [fetchF_1 h0]; rfl, rfl⟩
 ·
  have h0 := dF h0
  refine cx_skip ?_
  refine cx_keep rfl rfl (cx_seq (cx_ops ?_))
  refine ax_q (q_fadr_ptr rfl) ?_
  refine ax_q (q_load1_ptr rfl rfl rfl) ?_
  refine ax_q (q_lenS_map rfl) ?_
  refine ax_q (q_mov rfl) ?_
  refine ax_nil (cx_keep rfl rfl (cx_seq (cx_seq (cx_ops ?_))))
  refine ax_q (q_mov rfl) ?_
  refine ax_q (q_ibin rfl rfl rfl) ?_
  refine ax_nil (cx_keep rfl rfl ?_)
  refine cx_cond rfl (fun h1 => ?_) (fun h1 => ?_)
  ·
   have h1 := dT h1
   have hkH : s.Hand.toNat < s.Frames.length := by omega
   have hO := outF_di h (by omega) hkH
   obtain ⟨o1, o2, o3, o4⟩ := outF_same hkH
   have o5 := outF_flen hkH
   obtain ⟨u0, u1, u2, u3, ua, u4, u5, u6⟩ := di_stb hO (by omega)
   have hdO := hO.dk.dok.ok
   have hseO := hO.dk.se
   refine cx_seq (cx_ops ?_)
   refine ax_q (q_fadr_ptr rfl) ?_
   refine ax_q (q_load1_ptr rfl rfl rfl) ?_
   refine ax_q (q_mov rfl) ?_
   refine ax_nil (cx_keep rfl rfl (cx_seq (cx_ops ?_)))
   refine ax_q (q_ldN rfl rfl rfl) ?_
   refine ax_qe (r' := int ((s.Hand.toNat : Nat) : Int)) (q_mov rfl) (congrArg AM.int (by omega)) ?_
   refine ax_call rfl (vc_pure0 (c_l05Out (s := s) (m := m) (k := s.Hand.toNat) ?_ ?_ ?_) hP rfl rfl ?_)
   ·
    assumption
   ·
    first | assumption | omega
   ·
    assumption
   refine ax_q (q_mov rfl) ?_
   refine ax_q (q_ext rfl rfl) ?_
   refine ax_q (q_ext rfl rfl) ?_
   refine ax_e (e_alloc (by decide) rfl rfl) ?_
   refine ax_e (e_st rfl rfl rfl rfl rfl rfl rfl) ?_
   refine ax_q (q_mov rfl) ?_
   refine ax_nil (cx_keep rfl rfl (cx_seq (cx_ops ?_)))
   refine ax_q (q_ldN rfl rfl rfl) ?_
   refine ax_e (e_st rfl rfl rfl rfl rfl rfl rfl) ?_
   refine ax_nil (cx_keep rfl rfl (cx_seq (cx_seq (cx_ops ?_))))
   refine ax_q (q_mov rfl) ?_
   refine ax_q (q_not rfl) ?_
   refine ax_nil (cx_keep rfl rfl ?_)
   refine cx_cond rfl (fun h2 => ?_) (fun h2 => ?_)
   ·
    have h2 := bT h2
    cases h2
   ·
    have h2 := bF h2
    refine cx_skip ?_
    refine cx_keep rfl rfl (cx_ops ?_)
    refine ax_q (q_fadr_ptr rfl) ?_
    refine ax_q (q_load1_ptr rfl rfl rfl) ?_
    refine ax_qe (r' := int (s.Hand + 1)) (q_ibin rfl rfl rfl) (by rw [o3, wi (by omega) (by omega)]) ?_
    refine ax_q (q_mod rfl rfl (by omega) (by omega)) ?_
    refine ax_q (q_fadr_ptr rfl) ?_
    refine ax_e (e_st rfl rfl rfl rfl rfl rfl rfl) ?_
    refine ax_nil (cx_keep rfl rfl (cx_seq (cx_ops ?_)))
    refine ax_q (q_fadr_ptr rfl) ?_
    refine ax_q (q_ldN rfl rfl rfl) ?_
    refine ax_q (q_mov rfl) ?_
    refine ax_call rfl (vc_pure0 (c_l05Page (d := (outF s s.Hand.toNat).Disk) (no := no) ?_ ?_ ?_) hP rfl rfl ?_)
    ·
     assumption
    ·
     assumption
    ·
     assumption
    refine ax_q (q_mov rfl) ?_
    refine ax_q (q_ext rfl rfl) ?_
    refine ax_q (q_ext rfl rfl) ?_
    refine ax_e (e_alloc (by decide) rfl rfl) ?_
    refine ax_e (e_st rfl rfl rfl rfl rfl rfl rfl) ?_
    refine ax_q (q_mov rfl) ?_
    refine ax_nil (cx_keep rfl rfl (cx_seq (cx_ops ?_)))
    refine ax_e (e_bslice rfl (by decide) rfl rfl) ?_
    refine ax_q (q_fadr_ptr rfl) ?_
    refine ax_q (q_load1_ptr rfl rfl rfl) ?_
    refine ax_e (e_appn (n' := ((outF s s.Hand.toNat).Frames).length) (rs' := ((outF s s.Hand.toNat).Frames).map GFrame.row) rfl rfl (Nat.le_refl _) rfl (src_sl 5 _) (.inl (by decide)) (by simp only [List.length_map, List.length_nil]; omega) (by simp) (by simp)) ?_
    refine ax_q (q_fadr_ptr rfl) ?_
    refine ax_e (e_st rfl rfl rfl rfl rfl rfl rfl) ?_
    refine ax_nil (cx_keep rfl rfl (cx_seq (cx_ops ?_)))
    refine ax_q (q_fadr_ptr rfl) ?_
    refine ax_q (q_load1_ptr rfl rfl rfl) ?_
    refine ax_q (q_mov rfl) ?_
    refine ax_q (q_mov rfl) ?_
    refine ax_q (q_ldN rfl rfl rfl) ?_
    refine ax_q (q_build rfl) ?_
    refine ax_q (q_ixoI rfl rfl (by omega) (by rw [o5]; omega)) ?_
    refine ax_e (e_str (rs' := ((outF s s.Hand.toNat).Frames.set s.Hand.toNat (⟨(no : Int), (pageD (outF s s.Hand.toNat).Disk no).1, false, 0⟩ : GFrame)).map GFrame.row) (row := GFrame.row ((outF s s.Hand.toNat).Frames.getD s.Hand.toNat GFrame.zero)) (q := GFrame.row (⟨(no : Int), (pageD (outF s s.Hand.toNat).Disk no).1, false, 0⟩ : GFrame)) rfl rfl rfl rfl rfl rfl (mapAtZ (z := GFrame.zero) (by rw [o5]; exact hkH)) rfl rfl (List.map_set.symm)) ?_
    refine ax_nil (cx_keep rfl rfl (cx_seq (cx_ops ?_)))
    refine ax_q (q_ldN rfl rfl rfl) ?_
    refine ax_wk (wk_frz 69 57 rfl rfl (.agg (.cons (.same rfl) (.cons (.same rfl) (.cons (.same rfl) (.cons (.same rfl) (.cons (.same rfl) (.cons (.same rfl) (.cons (.same rfl) (.cons (.whole (by rw [List.length_map, List.length_set])) (.cons (.same rfl) .nil)))))))))) rfl) ?_
    refine ax_q (q_mov rfl) ?_
    refine ax_e (e_st rfl rfl rfl rfl rfl rfl rfl) ?_
    refine ax_q (q_mov rfl) ?_
    refine ax_q (q_mov rfl) ?_
    refine ax_nil (cx_keep rfl rfl ?_)
    refine cx_ret (ret0 rfl rfl ?_)
    exact ⟨by rw [fetchF_2 h0 h1, putW]; rfl, rfl⟩
  ·
   have h1 := dF h1
   refine cx_ops ?_
   refine ax_e (e_bslice rfl (by decide) rfl rfl) ?_
   refine ax_q (q_fadr_ptr rfl) ?_
   refine ax_q (q_load1_ptr rfl rfl rfl) ?_
   refine ax_e (e_appn (n' := (s.Frames).length) (rs' := (s.Frames).map GFrame.row) rfl rfl (Nat.le_refl _) rfl (src_sl 5 _) (.inl (by decide)) (by simp only [List.length_map, List.length_nil]; omega) (by simp) (by simp)) ?_
   refine ax_q (q_build rfl) ?_
   refine ax_e (e_bslice rfl (by decide) rfl rfl) ?_
   refine ax_e (e_appn (n' := (s.Frames ++ [GFrame.zero]).length) (rs' := (s.Frames ++ [GFrame.zero]).map GFrame.row) rfl rfl (by simp) rfl (src_osl rfl (by simp)) (.inl (by decide)) (hbnd (by omega) (by simp) (by decide)) (by simp) (app1 rfl)) ?_
   refine ax_wk (wk_frz 48 42 rfl rfl (.whole (List.length_map _).symm) rfl) ?_
   refine ax_q (q_fadr_ptr rfl) ?_
   refine ax_e (e_st rfl rfl rfl rfl rfl rfl rfl) ?_
   refine ax_nil (cx_keep rfl rfl (cx_seq (cx_ops ?_)))
   refine ax_q (q_fadr_ptr rfl) ?_
   refine ax_q (q_ldN rfl rfl rfl) ?_
   refine ax_q (q_mov rfl) ?_
   refine ax_call rfl (vc_pure0 (c_l05Page (d := s.Disk) (no := no) ?_ ?_ ?_) hP rfl rfl ?_)
   ·
    assumption
   ·
    assumption
   ·
    assumption
   refine ax_q (q_mov rfl) ?_
   refine ax_q (q_ext rfl rfl) ?_
   refine ax_q (q_ext rfl rfl) ?_
   refine ax_e (e_alloc (by decide) rfl rfl) ?_
   refine ax_e (e_st rfl rfl rfl rfl rfl rfl rfl) ?_
   refine ax_q (q_mov rfl) ?_
   refine ax_nil (cx_keep rfl rfl (cx_seq (cx_ops ?_)))
   refine ax_e (e_bslice rfl (by decide) rfl rfl) ?_
   refine ax_q (q_fadr_ptr rfl) ?_
   refine ax_q (q_load1_ptr rfl rfl rfl) ?_
   refine ax_e (e_appn (n' := ((s.Frames ++ [GFrame.zero])).length) (rs' := ((s.Frames ++ [GFrame.zero])).map GFrame.row) rfl rfl (Nat.le_refl _) rfl (src_sl 5 _) (.inl (by decide)) (by simp only [List.length_map, List.length_nil, List.length_append, List.length_cons]; omega) (by simp) (by simp)) ?_
   refine ax_q (q_fadr_ptr rfl) ?_
   refine ax_e (e_st rfl rfl rfl rfl rfl rfl rfl) ?_
   refine ax_nil (cx_keep rfl rfl (cx_seq (cx_ops ?_)))
   refine ax_q (q_fadr_ptr rfl) ?_
   refine ax_q (q_load1_ptr rfl rfl rfl) ?_
   refine ax_q (q_mov rfl) ?_
   refine ax_q (q_mov rfl) ?_
   refine ax_q (q_ldN rfl rfl rfl) ?_
   refine ax_q (q_build rfl) ?_
   refine ax_q (q_ixo rfl rfl (by simp)) ?_
   refine ax_e (e_str (rs' := ((s.Frames ++ [(⟨(no : Int), (pageD s.Disk no).1, false, 0⟩ : GFrame)])).map GFrame.row) (row := GFrame.row GFrame.zero) (q := GFrame.row (⟨(no : Int), (pageD s.Disk no).1, false, 0⟩ : GFrame)) rfl rfl rfl rfl rfl rfl (appz_at) rfl rfl (appz_set)) ?_
   refine ax_nil (cx_keep rfl rfl (cx_seq (cx_ops ?_)))
   refine ax_q (q_ldN rfl rfl rfl) ?_
   refine ax_wk (wk_frz 69 57 rfl rfl (.agg (.cons (.same rfl) (.cons (.same rfl) (.cons (.same rfl) (.cons (.same rfl) (.cons (.same rfl) (.cons (.same rfl) (.cons (.same rfl) (.cons (.whole (by simp)) (.cons (.same rfl) .nil)))))))))) rfl) ?_
   refine ax_q (q_mov rfl) ?_
   refine ax_e (e_st rfl rfl rfl rfl rfl rfl rfl) ?_
   refine ax_q (q_mov rfl) ?_
   refine ax_q (q_mov rfl) ?_
   refine ax_nil (cx_keep rfl rfl ?_)
   refine cx_ret (ret0 rfl rfl ?_)
   exact ⟨by rw [fetchF_3 h0 h1]; rfl, rfl⟩


/- (ptr loop.example/g00332/spec.l00Src).pick -/
def k_c_pick : XCode :=
 .seq (.ops [.op (some 4) (.mov (.k (.str [])))])
 (.keep [0, 1] (.seq (.seq (.ops [.op (some 5) (.mov (.t 1)),
   .op (some 6) (.lenS (.t 5)),
   .op (some 7) (.bin .eql (.t 6) (.k (.int .i64 0)))])
  (.keep [0, 1, 7] (.cond (.t 7)
  (.seq (.ops [.op (some 4) (.mov (.k (.str [])))])
   (.keep [4] (.ret)))
  (.skip))))
 (.keep [0, 1] (.seq (.ops [.op (some 8) (.mov (.t 1)),
   .op (some 9) (.mov (.t 0)),
   .op (some 10) (.mov (.t 1)),
   .op (some 11) (.lenS (.t 10)),
   .call (some 12) 60 [.t 9, .t 11],
   .op (some 13) (.iadr 1 (.t 8) (.t 12)),
   .op (some 14) (.load1 (.t 13)),
   .op (some 4) (.mov (.t 14))])
 (.keep [4] (.ret))))))
theorem k_c_pick_fits : fitsF Tryz.prog 63 ⟨15, k_c_pick, [.t 4]⟩ = true := by kernel_rfl
theorem c_pick {s : Src} {ts : List Str} {n : Nat} (hs : s.ok (n + 3)) (ht : 1 ≤ ts.length ∧ ts.length ≤ 1000) : Con Tryz.prog noMv 63 [.ptr 1000 0, .d (.sl 1 (ts.map strRow))] (s.h 1000) (fun r h => r = str (pickF s ts).1 ∧ h = ((pickF s ts).2).h 1000) := by
 refine con_of2 k_c_pick_fits rfl fun C hP hmv => ?_
 unfold k_c_pick
 refine cx_seq (cx_ops ?_)
 refine ax_q (q_mov rfl) ?_
 refine ax_nil (cx_keep rfl rfl (cx_seq (cx_seq (cx_ops ?_))))
 refine ax_q (q_mov rfl) ?_
 refine ax_q (q_lenS_map rfl) ?_
 refine ax_q (q_ibin rfl rfl rfl) ?_
 refine ax_nil (cx_keep rfl rfl ?_)
 refine cx_cond rfl (fun h0 => ?_) (fun h0 => ?_)
 ·
  have h0 := dT h0
  exfalso; omega
 ·
  have h0 := dF h0
  refine cx_skip ?_
  refine cx_keep rfl rfl (cx_seq (cx_ops ?_))
  refine ax_q (q_mov rfl) ?_
  refine ax_q (q_mov rfl) ?_
  refine ax_q (q_mov rfl) ?_
  refine ax_q (q_lenS_map rfl) ?_
  obtain ⟨k1, k2, k3⟩ := nextF_ok (s := s) (n := ts.length) (k := n) hs
  have k3 := k3 (by omega)
  have hk : (nextF s ts.length).1.toNat < ts.length := by omega
  refine ax_call rfl (vcall_own (c_next (n := n) ?_) hP hmv false (fun _ => 1000) [1000] ⟨rfl, rfl, rfl, rfl, ⟨rfl, trivial⟩, rfl, rfl, rfl⟩ (.pass rfl rfl (.pass rfl rfl .nil)) ?_)
  ·
   assumption
  rintro r h ⟨rfl, rfl⟩
  refine ⟨fun _ => 1000, [], ⟨rfl, rfl, rfl, rfl, mem1 rfl, rfl, rfl, fun h => absurd h Bool.false_ne_true⟩, ?_⟩
  refine ax_q (q_ixI rfl rfl (by omega) (strAt hk)) ?_
  first | refine ax_q (q_load1_ptr rfl rfl rfl) ?_ | refine ax_q (q_load1_ip rfl) ?_
  refine ax_q (q_mov rfl) ?_
  refine ax_nil (cx_keep rfl rfl ?_)
  refine cx_ret (retN id [1000] rfl rfl rfl rfl rfl ?_)
  exact ⟨rfl, rfl⟩


/- loop.example/g00332/spec.l05Append -/
def k_c_l05Append : XCode :=
 .seq (.ops [.op (some 2) (.box (.t 0)),
   .op (some 3) (.box (.t 1)),
   .op (some 4) (.alloc [.nils 1, .nils 2, .bool false, .nils 1, .int .i64 0, .nils 10, .int .i64 0, .nils 5, .int .i64 0]),
   .op (some 5) (.mov (.k (.int .i64 0)))])
 (.keep [2, 3, 4] (.seq (.ops [.op (some 6) (.fadr (.t 2) 5),
   .op (some 7) (.load1 (.t 6)),
   .op (some 8) (.lenS (.t 7)),
   .op (some 9) (.bin .add (.t 8) (.k (.int .i64 1))),
   .op (some 10) (.fadr (.t 3) 1),
   .op none (.store 1 (.t 10) (.t 9))])
 (.keep [2, 3, 4] (.seq (.ops [.op (some 11) (.fadr (.t 2) 4),
   .op (some 12) (.load1 (.t 11)),
   .op (some 13) (.fadr (.t 3) 0),
   .op none (.store 1 (.t 13) (.t 12))])
 (.keep [2, 3, 4] (.seq (.drawE [[], [], [1], [0, 1, 2], [], [4], [0, 1, 2, 3, 4, 5], [0, 1, 2, 3, 4, 5, 6], [0, 1, 2, 3, 4, 5, 6, 7]] [.op (some 14) (.bslice 10 []),
   .op (some 15) (.fadr (.t 2) 5),
   .op (some 16) (.load1 (.t 15)),
   .op (some 17) (.app 10 96 [.int .i64 0, .int .i64 0, .int .i64 0, .int .i64 0, .int .i64 0, .int .i64 0, .int .i64 0, .int .i64 0, .str [], .str []] (.t 14) (.t 16)),
   .op (some 18) (.loadN 10 (.t 3)),
   .op (some 19) (.bslice 10 [.t 18])]
  [.op (some 20) (.app 10 96 [.int .i64 0, .int .i64 0, .int .i64 0, .int .i64 0, .int .i64 0, .int .i64 0, .int .i64 0, .int .i64 0, .str [], .str []] (.t 17) (.t 19)),
   .op (some 21) (.fadr (.t 2) 5),
   .op none (.store 1 (.t 21) (.t 20))])
 (.keep [2, 3, 4] (.seq (.drawE [[], [], [1], [0], [0, 1, 2, 3]] [.op (some 22) (.loadN 9 (.t 2)),
   .op (some 23) (.fadr (.t 3) 1),
   .op (some 24) (.load1 (.t 23)),
   .op none (.store 9 (.t 4) (.t 22))]
  [.op (some 5) (.mov (.t 24))])
 (.keep [4, 5] (.ret))))))))))
theorem k_c_l05Append_fits : fitsF Tryz.prog 64 ⟨25, k_c_l05Append, [.cN 4 9, .t 5]⟩ = true := by kernel_rfl
theorem c_l05Append {s : GStore} {rc : GLogRecord} {m : Nat} (h : DI s m) (hm : m ≤ 60) : Con Tryz.prog noMv 64 [s.av, rc.av] [] (fun r h => r = .tup [(appS s rc).av, int ((s.Log.length : Int) + 1)] ∧ h = []) := by
 refine con_of2 k_c_l05Append_fits rfl fun C hP hmv => ?_
 unfold k_c_l05Append
 obtain ⟨hw0, hw1, hw2, hw3, hwa, hw4, hw5, hw6⟩ := di_stb h hm
 refine cx_seq (cx_ops ?_)
 refine ax_e (e_box rfl rfl (by decide) rfl rfl rfl) ?_
 refine ax_e (e_box rfl rfl (by decide) rfl rfl rfl) ?_
 refine ax_e (e_alloc (by decide) rfl rfl) ?_
 refine ax_q (q_mov rfl) ?_
 refine ax_nil (cx_keep rfl rfl (cx_seq (cx_ops ?_)))
 refine ax_q (q_fadr_ptr rfl) ?_
 refine ax_q (q_load1_ptr rfl rfl rfl) ?_
 refine ax_q (q_lenS_map rfl) ?_
 refine ax_qe (r' := int ((s.Log.length : Int) + 1)) (q_ibin rfl rfl rfl) (wi (by omega) (by omega)) ?_
 refine ax_q (q_fadr_ptr rfl) ?_
 refine ax_e (e_st rfl rfl rfl rfl rfl rfl rfl) ?_
 refine ax_nil (cx_keep rfl rfl (cx_seq (cx_ops ?_)))
 refine ax_q (q_fadr_ptr rfl) ?_
 refine ax_q (q_load1_ptr rfl rfl rfl) ?_
 refine ax_q (q_fadr_ptr rfl) ?_
 refine ax_e (e_st rfl rfl rfl rfl rfl rfl rfl) ?_
 refine ax_nil (cx_keep rfl rfl (cx_seq ?_))
 refine cx_drawL 3 17 (Nat.beq 14) (nrA 14) [] ([(14, .rows 10 (s.Log.map GLogRecord.row))]) [[], [2], [15], [14, 16], [3], [18]] [[], [], [], [14], [14], [14]] rfl ?_
 first | refine ⟨_, .inr ⟨rfl, _, rfl, .inl rfl, loc_bslice rfl⟩, ?_⟩
 first | refine ⟨_, .inr ⟨rfl, _, rfl, .inl rfl, loc_q (q_fadr_ptr rfl)⟩, ?_⟩
 first | refine ⟨_, .inr ⟨rfl, _, rfl, .inl rfl, loc_q (q_load1_ptr rfl rfl rfl)⟩, ?_⟩
 refine ⟨⟨17, _, []⟩, .inl ⟨rfl, rfl, rfl, locl_app (n' := s.Log.length) (rs' := s.Log.map GLogRecord.row) rfl rfl (by simp) rfl (fun _ _ _ => src_sl 10 _) (.inl (by decide)) (hbnd (by simp) (by simp; omega) (by decide)) (by simp) (by simp)⟩, ?_⟩
 first | refine ⟨_, .inr ⟨rfl, _, rfl, .inr ⟨rfl, rfl, .inr rfl, rfl, rfl⟩, loc_q (q_ldN rfl rfl rfl)⟩, ?_⟩
 first | refine ⟨_, .inr ⟨rfl, _, rfl, .inr ⟨rfl, rfl, .inr rfl, rfl, rfl⟩, loc_bslice rfl⟩, ?_⟩
 refine ⟨rfl, ?_⟩
 refine ax_e (e_appn (n' := (s.Log ++ [appR s rc]).length) (rs' := (s.Log ++ [appR s rc]).map GLogRecord.row) rfl rfl (by simp) rfl (src_osl rfl (by simp)) (.inl (by decide)) (hbnd (by omega) (by simp) (by decide)) (by simp) (app1 rfl)) ?_
 refine ax_wk (wk_frz 20 14 rfl rfl (.whole (List.length_map _).symm) rfl) ?_
 refine ax_q (q_fadr_ptr rfl) ?_
 refine ax_e (e_st rfl rfl rfl rfl rfl rfl rfl) ?_
 refine ax_nil (cx_keep rfl rfl (cx_seq ?_))
 refine cx_drawL 3 5000 (fun _ => false) (fun _ => true) [] ([(4, .box ((appS s rc).row.map .d))]) [[2], [3], [23], [4, 22]] [[], [4], [4], [4]] rfl ?_
 first | refine ⟨_, .inr ⟨rfl, _, rfl, .inl rfl, loc_q (q_ldN rfl rfl rfl)⟩, ?_⟩
 first | refine ⟨_, .inr ⟨rfl, _, rfl, .inr ⟨rfl, rfl, .inr rfl, rfl, rfl⟩, loc_q (q_fadr_ptr rfl)⟩, ?_⟩
 first | refine ⟨_, .inr ⟨rfl, _, rfl, .inr ⟨rfl, rfl, .inr rfl, rfl, rfl⟩, loc_q (q_load1_ptr rfl rfl rfl)⟩, ?_⟩
 refine ⟨⟨5000, .dead, []⟩, .inl ⟨rfl, rfl, rfl, locl_st rfl rfl rfl rfl rfl rfl rfl⟩, ?_⟩
 refine ⟨rfl, ?_⟩
 refine ax_q (q_mov rfl) ?_
 refine ax_nil (cx_keep rfl rfl ?_)
 refine cx_ret (ret0 rfl rfl ?_)
 exact ⟨rfl, rfl⟩


/- loop.example/g00332/spec.l03Set -/
def k_c_l03Set : XCode :=
 .seq (.ops [.op (some 4) (.box (.t 0)),
   .op (some 8) (.alloc [.int .i64 0, .nils 1])])
 (.keep [1, 2, 3, 4, 8] (.seq (.ops [.op (some 10) (.loadN 2 (.t 4)),
   .call (some 11) 79 [.t 10],
   .op (some 9) (.alloc [.int .i64 0, .nils 1]),
   .op none (.store 2 (.t 9) (.t 11))])
 (.keep [1, 2, 3, 8, 9] (.seq (.ops [.op (some 12) (.fadr (.t 9) 1),
   .op (some 13) (.load1 (.t 12)),
   .op (some 14) (.mov (.t 1)),
   .op (some 15) (.mov (.t 2)),
   .op (some 16) (.iadr 1 (.t 13) (.t 14)),
   .op none (.store 1 (.t 16) (.t 15))])
 (.keep [3, 8, 9] (.seq (.ops [.op (some 17) (.mov (.t 3)),
   .op (some 18) (.fadr (.t 9) 0),
   .op none (.store 1 (.t 18) (.t 17))])
 (.keep [8, 9] (.seq (.ops [.op (some 19) (.loadN 2 (.t 9)),
   .op none (.store 2 (.t 8) (.t 19))])
 (.keep [8] (.ret))))))))))
theorem k_c_l03Set_fits : fitsF Tryz.prog 121 ⟨20, k_c_l03Set, [.cN 8 2]⟩ = true := by kernel_rfl
theorem c_l03Set {p : Page} {slot : Nat} {x : Str} {lsn : Int} (hl : p.slots.length ≤ 1048576) (hs : slot < p.slots.length) : Con Tryz.prog noMv 121 [p.av, int (slot : Nat), str x, int lsn] [] (fun r h => r = (⟨lsn, p.slots.set slot x⟩ : Page).avO 0 ∧ h = (⟨lsn, p.slots.set slot x⟩ : Page).hO 0) := by
 refine con_of2 k_c_l03Set_fits rfl fun C hP hmv => ?_
 unfold k_c_l03Set
 refine cx_seq (cx_ops ?_)
 refine ax_e (e_box rfl rfl (by decide) rfl rfl rfl) ?_
 refine ax_e (e_alloc (by decide) rfl rfl) ?_
 refine ax_nil (cx_keep rfl rfl (cx_seq (cx_ops ?_)))
 refine ax_q (q_ldN rfl rfl rfl) ?_
 refine ax_call rfl (vc_pure (c_l03Own  ?_) hP rfl ?_)
 ·
  assumption
 rintro r h ⟨rfl, rfl⟩
 refine ⟨fun i => 11 + 200 * i, [0], ⟨rfl, rfl, rfl, rfl, rfl, (by first | exact (fun h => absurd h Bool.false_ne_true) | exact (fun _ => ⟨rfl, (noisl_of (by repeat (first | exact trivial | refine ⟨noisl_map (fun _ => rfl), ?_⟩ | refine ⟨?_, ?_⟩)))⟩))⟩, ?_⟩
 skip
 refine ax_e (e_alloc (by decide) rfl rfl) ?_
 refine ax_e (e_st rfl rfl rfl rfl rfl rfl rfl) ?_
 refine ax_nil (cx_keep rfl rfl (cx_seq (cx_ops ?_)))
 refine ax_q (q_fadr_ptr rfl) ?_
 refine ax_q (q_load1_ptr rfl rfl rfl) ?_
 refine ax_q (q_mov rfl) ?_
 refine ax_q (q_mov rfl) ?_
 refine ax_q (q_ixo rfl rfl hs) ?_
 refine ax_e (e_str (rs' := (p.slots.set slot x).map strRow) (q := strRow x) rfl rfl rfl rfl rfl rfl (mapAt hs) rfl rfl List.map_set.symm) ?_
 refine ax_nil (cx_keep rfl rfl (cx_seq (cx_ops ?_)))
 refine ax_q (q_mov rfl) ?_
 refine ax_q (q_fadr_ptr rfl) ?_
 refine ax_e (e_st rfl rfl rfl rfl rfl rfl rfl) ?_
 refine ax_nil (cx_keep rfl rfl (cx_seq (cx_ops ?_)))
 refine ax_q (q_ldN rfl rfl rfl) ?_
 refine ax_e (e_st rfl rfl rfl rfl rfl rfl rfl) ?_
 refine ax_nil (cx_keep rfl rfl ?_)
 refine cx_ret (retN (fun _ => 0) [11] rfl rfl rfl rfl rfl ?_)
 exact ⟨by show AV.agg [int lsn, .osl 0 1 0 p.slots.length] = AV.agg [int lsn, .osl 0 1 0 (p.slots.set slot x).length]; rw [List.length_set], rfl⟩


/- loop.example/g00332/spec.l05Apply -/
def k_c_l05Apply : XCode :=
 .seq (.ops [.op (some 2) (.box (.t 0)),
   .op (some 4) (.alloc [.nils 1, .nils 2, .bool false, .nils 1, .int .i64 0, .nils 10, .int .i64 0, .nils 5, .int .i64 0]),
   .op (some 5) (.mov (.k (.bool false)))])
 (.keep [1, 2, 4] (.seq (.ops [.op (some 10) (.fadr (.t 2) 5),
   .op (some 11) (.load1 (.t 10)),
   .op (some 12) (.mov (.t 1)),
   .op (some 13) (.bin .sub (.t 12) (.k (.int .i64 1))),
   .op (some 14) (.iadr 10 (.t 11) (.t 13)),
   .op (some 15) (.loadN 10 (.t 14)),
   .op (some 6) (.alloc [.int .i64 0, .int .i64 0, .int .i64 0, .int .i64 0, .int .i64 0, .int .i64 0, .int .i64 0, .int .i64 0, .str [], .str []]),
   .op none (.store 10 (.t 6) (.t 15))])
 (.keep [1, 2, 4, 6] (.seq (.ops [.op (some 17) (.loadN 9 (.t 2)),
   .op (some 18) (.fadr (.t 6) 6),
   .op (some 19) (.load1 (.t 18)),
   .call (some 20) 62 [.t 17, .t 19],
   .op (some 16) (.mov (.t 20)),
   .op (some 21) (.ext (.t 16) 0),
   .op (some 22) (.ext (.t 16) 1),
   .op (some 23) (.ext (.t 16) 2),
   .op none (.store 9 (.t 2) (.t 21)),
   .op (some 7) (.mov (.t 22)),
   .op (some 8) (.mov (.t 23))])
 (.keep [1, 2, 4, 6, 7, 8] (.seq (.seq (.ops [.op (some 24) (.mov (.t 8)),
   .op (some 25) (.not (.t 24))])
  (.keep [1, 2, 4, 6, 7, 25] (.cond (.t 25)
  (.seq (.ops [.op (some 26) (.loadN 9 (.t 2)),
    .op none (.store 9 (.t 4) (.t 26)),
    .op (some 5) (.mov (.k (.bool false)))])
   (.keep [4, 5] (.ret)))
  (.skip))))
 (.keep [1, 2, 4, 6, 7] (.seq (.ops [.op (some 27) (.bslice 5 []),
   .op (some 28) (.fadr (.t 2) 7),
   .op (some 29) (.load1 (.t 28)),
   .op (some 30) (.app 5 56 [.int .i64 0, .int .i64 0, .nils 1, .bool false, .int .i64 0] (.t 27) (.t 29)),
   .op (some 31) (.fadr (.t 2) 7),
   .op none (.store 1 (.t 31) (.t 30))])
 (.keep [1, 2, 4, 6, 7] (.seq (.ops [.op (some 32) (.fadr (.t 2) 7),
   .op (some 33) (.load1 (.t 32)),
   .op (some 34) (.mov (.t 7)),
   .op (some 35) (.iadr 5 (.t 33) (.t 34)),
   .op (some 9) (.mov (.t 35))])
 (.keep [1, 2, 4, 6, 9] (.seq (.drawE [[], [], [1], [1, 2], [1, 2, 3], [], [5], [], [7], [], [1, 2, 3, 4, 5, 6, 7, 8, 9], [0, 1, 2, 3, 4, 5, 6, 7, 8, 9, 10], [0, 1, 2, 3, 4, 5, 6, 7, 8, 9, 10, 11], [0, 1, 2, 3, 4, 5, 6, 7, 8, 9, 10, 11, 12]] [.op (some 36) (.mov (.t 9)),
   .op (some 37) (.mov (.t 9)),
   .op (some 38) (.nilck (.t 37)),
   .op (some 39) (.fadr (.t 38) 1),
   .op (some 40) (.loadN 2 (.t 39)),
   .op (some 41) (.fadr (.t 6) 7),
   .op (some 42) (.load1 (.t 41)),
   .op (some 43) (.fadr (.t 6) 9),
   .op (some 44) (.load1 (.t 43)),
   .op (some 45) (.mov (.t 1)),
   .call (some 46) 121 [.t 40, .t 42, .t 44, .t 45]]
  [.op (some 47) (.nilck (.t 36)),
   .op (some 48) (.fadr (.t 47) 1),
   .op none (.store 2 (.t 48) (.t 46))])
 (.keep [1, 2, 4, 9] (.seq (.seq (.ops [.op (some 49) (.mov (.t 9)),
   .op (some 50) (.nilck (.t 49)),
   .op (some 51) (.fadr (.t 50) 3),
   .op (some 52) (.load1 (.t 51)),
   .op (some 53) (.not (.t 52))])
  (.keep [1, 2, 4, 9, 53] (.cond (.t 53)
  (.seq (.ops [.op (some 54) (.mov (.t 9)),
    .op (some 55) (.nilck (.t 54)),
    .op (some 56) (.fadr (.t 55) 3),
    .op none (.store 1 (.t 56) (.k (.bool true)))])
   (.keep [1, 2, 4, 9] (.ops [.op (some 57) (.mov (.t 9)),
    .op (some 58) (.mov (.t 1)),
    .op (some 59) (.nilck (.t 57)),
    .op (some 60) (.fadr (.t 59) 4),
    .op none (.store 1 (.t 60) (.t 58))])))
  (.skip))))
 (.keep [2, 4] (.seq (.ops [.op (some 61) (.loadN 9 (.t 2)),
   .op none (.store 9 (.t 4) (.t 61)),
   .op (some 5) (.mov (.k (.bool true)))])
 (.keep [4, 5] (.ret))))))))))))))))))
theorem k_c_l05Apply_fits : fitsF Tryz.prog 65 ⟨62, k_c_l05Apply, [.cN 4 9, .t 5]⟩ = true := by kernel_rfl
set_option maxHeartbeats 4000000 in
theorem c_l05Apply {s : GStore} {m k : Nat} (h : DI s m) (hm : m ≤ 59) (hk : k < s.Log.length) (h2 : s.Log[k].Kind = 2) : Con Tryz.prog noMv 65 [s.av, int ((k : Int) + 1)] [] (fun r h => r = .tup [(applyF s k).av, bool true] ∧ h = []) := by
 refine con_of2 k_c_l05Apply_fits rfl fun C hP hmv => ?_
 unfold k_c_l05Apply
 obtain ⟨hw0, hw1, hw2, hw3, hwa, hw4, hw5, hw6⟩ := di_stb h (by omega)
 have hrow : (s.Log.map GLogRecord.row)[k]? = some (GLogRecord.row (recAt s k)) := mapAtZ (z := GLogRecord.zero) hk
 have hpr := rec_upd (h.rc k hk) h2
 rw [show s.Log[k] = recAt s k from (getD_z hk).symm] at hpr
 obtain ⟨p1, p2, p3, p4, p5⟩ := hpr
 obtain ⟨hF, eL, j, hj, hjl, _⟩ := fetchF_di (no := (recAt s k).Page.toNat) h (by omega) (by omega)
 obtain ⟨v0, v1, v2, v3, va, v4, v5, v6⟩ := di_stb hF (by omega)
 have hfr := hF.fk.fr _ (List.getElem_mem hjl)
 rw [← fAt_eq hjl] at hfr
 have hln := hfr.pg.ln
 have hrw2 : ((fetchF s (recAt s k).Page.toNat).1.Frames.map GFrame.row)[j]? = some (GFrame.row (fAt (fetchF s (recAt s k).Page.toNat).1 j)) := mapAtZ (z := GFrame.zero) hjl
 refine cx_seq (cx_ops ?_)
 refine ax_e (e_box rfl rfl (by decide) rfl rfl rfl) ?_
 refine ax_e (e_alloc (by decide) rfl rfl) ?_
 refine ax_q (q_mov rfl) ?_
 refine ax_nil (cx_keep rfl rfl (cx_seq (cx_ops ?_)))
 refine ax_q (q_fadr_ptr rfl) ?_
 refine ax_q (q_load1_ptr rfl rfl rfl) ?_
 refine ax_q (q_mov rfl) ?_
 refine ax_qe (r' := int (k : Nat)) (q_ibin rfl rfl rfl) (by rw [wi (by omega) (by omega)]; exact congrArg AM.int (by omega)) ?_
 refine ax_q (q_ix rfl rfl hrow) ?_
 first | refine ax_q (q_ldN rfl rfl rfl) ?_ | refine ax_q (q_loadN_ip rfl (Nat.le_refl _)) ?_
 refine ax_e (e_alloc (by decide) rfl rfl) ?_
 refine ax_e (e_st rfl rfl rfl rfl rfl rfl rfl) ?_
 refine ax_nil (cx_keep rfl rfl (cx_seq (cx_ops ?_)))
 refine ax_q (q_ldN rfl rfl rfl) ?_
 refine ax_q (q_fadr_ptr rfl) ?_
 refine ax_qe (r' := int (((recAt s k).Page.toNat : Nat) : Int)) (q_load1_ptr rfl rfl rfl) (congrArg AM.int (by omega)) ?_
 refine ax_call rfl (vc_pure0 (c_l05Fetch (s := s) (m := m) (no := (recAt s k).Page.toNat) ?_ ?_ ?_ ?_) hP rfl rfl ?_)
 ·
  assumption
 ·
  assumption
 ·
  omega
 ·
  first | assumption | omega
 rw [hj]
 refine ax_q (q_mov rfl) ?_
 refine ax_q (q_ext rfl rfl) ?_
 refine ax_q (q_ext rfl rfl) ?_
 refine ax_q (q_ext rfl rfl) ?_
 refine ax_e (e_st rfl rfl rfl rfl rfl rfl rfl) ?_
 refine ax_q (q_mov rfl) ?_
 refine ax_q (q_mov rfl) ?_
 refine ax_nil (cx_keep rfl rfl (cx_seq (cx_seq (cx_ops ?_))))
 refine ax_q (q_mov rfl) ?_
 refine ax_q (q_not rfl) ?_
 refine ax_nil (cx_keep rfl rfl ?_)
 refine cx_cond rfl (fun h0 => ?_) (fun h0 => ?_)
 ·
  have h0 := bT h0
  cases h0
 ·
  have h0 := bF h0
  refine cx_skip ?_
  refine cx_keep rfl rfl (cx_seq (cx_ops ?_))
  refine ax_e (e_bslice rfl (by decide) rfl rfl) ?_
  refine ax_q (q_fadr_ptr rfl) ?_
  refine ax_q (q_load1_ptr rfl rfl rfl) ?_
  refine ax_e (e_appn (n' := ((fetchF s (recAt s k).Page.toNat).1.Frames).length) (rs' := ((fetchF s (recAt s k).Page.toNat).1.Frames).map GFrame.row) rfl rfl (Nat.le_refl _) rfl (src_sl 5 _) (.inl (by decide)) (by simp only [List.length_map, List.length_nil]; omega) (by simp) (by simp)) ?_
  refine ax_q (q_fadr_ptr rfl) ?_
  refine ax_e (e_st rfl rfl rfl rfl rfl rfl rfl) ?_
  refine ax_nil (cx_keep rfl rfl (cx_seq (cx_ops ?_)))
  refine ax_q (q_fadr_ptr rfl) ?_
  refine ax_q (q_load1_ptr rfl rfl rfl) ?_
  refine ax_q (q_mov rfl) ?_
  refine ax_q (q_ixo rfl rfl hjl) ?_
  refine ax_q (q_mov rfl) ?_
  refine ax_nil (cx_keep rfl rfl (cx_seq ?_))
  refine cx_drawL 0 36 (fun _ => false) (fun _ => true) [] ([]) [[9], [9], [37], [38], [39], [6], [41], [6], [43], [1], [40, 42, 44, 45]] [[], [], [], [], [], [], [], [], [], [], []] rfl ?_
  first | refine ⟨⟨36, _, []⟩, .inl ⟨rfl, rfl, rfl, locl_of (loc_q (q_mov rfl))⟩, ?_⟩
  first | refine ⟨_, .inr ⟨rfl, _, rfl, .inr ⟨rfl, rfl, .inr rfl, rfl, rfl⟩, loc_q (q_mov rfl)⟩, ?_⟩
  first | refine ⟨_, .inr ⟨rfl, _, rfl, .inr ⟨rfl, rfl, .inr rfl, rfl, rfl⟩, loc_q (q_nilck_ptr rfl)⟩, ?_⟩ | refine ⟨_, .inr ⟨rfl, _, rfl, .inr ⟨rfl, rfl, .inr rfl, rfl, rfl⟩, loc_q (q_nilck_rptr rfl)⟩, ?_⟩
  first | refine ⟨_, .inr ⟨rfl, _, rfl, .inr ⟨rfl, rfl, .inr rfl, rfl, rfl⟩, loc_q (q_fadr_ptr rfl)⟩, ?_⟩ | refine ⟨_, .inr ⟨rfl, _, rfl, .inr ⟨rfl, rfl, .inr rfl, rfl, rfl⟩, loc_q (q_fadr_rptr rfl)⟩, ?_⟩
  first | refine ⟨_, .inr ⟨rfl, _, rfl, .inr ⟨rfl, rfl, .inr rfl, rfl, rfl⟩, loc_q (q_loadN_rptr rfl rfl hrw2 (by decide))⟩, ?_⟩
  first | refine ⟨_, .inr ⟨rfl, _, rfl, .inr ⟨rfl, rfl, .inr rfl, rfl, rfl⟩, loc_q (q_fadr_ptr rfl)⟩, ?_⟩
  first | refine ⟨_, .inr ⟨rfl, _, rfl, .inr ⟨rfl, rfl, .inr rfl, rfl, rfl⟩, loc_q (q_as (q_load1_ptr rfl rfl rfl) (congrArg AM.int (show _ = (((recAt s k).Slot.toNat : Nat) : Int) by omega)))⟩, ?_⟩
  first | refine ⟨_, .inr ⟨rfl, _, rfl, .inr ⟨rfl, rfl, .inr rfl, rfl, rfl⟩, loc_q (q_fadr_ptr rfl)⟩, ?_⟩
  first | refine ⟨_, .inr ⟨rfl, _, rfl, .inr ⟨rfl, rfl, .inr rfl, rfl, rfl⟩, loc_q (q_load1_ptr rfl rfl rfl)⟩, ?_⟩
  first | refine ⟨_, .inr ⟨rfl, _, rfl, .inr ⟨rfl, rfl, .inr rfl, rfl, rfl⟩, loc_q (q_mov rfl)⟩, ?_⟩
  refine ⟨_, .inr ⟨rfl, _, rfl, .inr ⟨rfl, rfl, .inr rfl, rfl, rfl⟩, loc_call (fun i => 46 + 200 * i) false rfl (c_l03Set (p := (fAt (fetchF s (recAt s k).Page.toNat).1 j).Page) (slot := (recAt s k).Slot.toNat) (x := (recAt s k).After) (lsn := ((k : Int) + 1)) (by first | assumption | omega | (simp; done) | (simp; omega)) (by first | assumption | omega | (simp; done) | (simp; omega))) hP (.inr ⟨rfl, rfl, rfl⟩) rfl rfl (fun h => by cases h)⟩, ?_⟩
  refine ⟨rfl, ?_⟩
  first | refine ax_q (q_nilck_ptr rfl) ?_ | refine ax_q (q_nilck_rptr rfl) ?_
  refine ax_wk (wk_frz 46 46 rfl rfl (.agg (.cons (.same rfl) (.cons (.whole (List.length_map _).symm) .nil))) rfl) ?_
  first | refine ax_q (q_fadr_ptr rfl) ?_ | refine ax_q (q_fadr_rptr rfl) ?_
  refine ax_e (e_str (rs' := ((fetchF s (recAt s k).Page.toNat).1.Frames.set j (⟨(fAt (fetchF s (recAt s k).Page.toNat).1 j).No, (⟨((k : Int) + 1), (fAt (fetchF s (recAt s k).Page.toNat).1 j).Page.slots.set (recAt s k).Slot.toNat (recAt s k).After⟩ : Page), (fAt (fetchF s (recAt s k).Page.toNat).1 j).Dirty, (fAt (fetchF s (recAt s k).Page.toNat).1 j).First⟩ : GFrame)).map GFrame.row) (row := GFrame.row (fAt (fetchF s (recAt s k).Page.toNat).1 j)) (q := GFrame.row (⟨(fAt (fetchF s (recAt s k).Page.toNat).1 j).No, (⟨((k : Int) + 1), (fAt (fetchF s (recAt s k).Page.toNat).1 j).Page.slots.set (recAt s k).Slot.toNat (recAt s k).After⟩ : Page), (fAt (fetchF s (recAt s k).Page.toNat).1 j).Dirty, (fAt (fetchF s (recAt s k).Page.toNat).1 j).First⟩ : GFrame)) rfl rfl rfl rfl rfl rfl (hrw2) rfl rfl (List.map_set.symm)) ?_
  refine ax_nil (cx_keep rfl rfl (cx_seq (cx_seq (cx_ops ?_))))
  refine ax_q (q_mov rfl) ?_
  first | refine ax_q (q_nilck_ptr rfl) ?_ | refine ax_q (q_nilck_rptr rfl) ?_
  first | refine ax_q (q_fadr_ptr rfl) ?_ | refine ax_q (q_fadr_rptr rfl) ?_
  refine ax_q (q_load1_rptr rfl rfl (set_row hjl) rfl) ?_
  refine ax_q (q_not rfl) ?_
  refine ax_nil (cx_keep rfl rfl ?_)
  refine cx_cond rfl (fun h1 => ?_) (fun h1 => ?_)
  ·
   have h1 := bT h1
   have hq : (fAt (fetchF s (recAt s k).Page.toNat).1 j).Dirty = false := by simpa using h1
   refine cx_seq (cx_ops ?_)
   refine ax_q (q_mov rfl) ?_
   first | refine ax_q (q_nilck_ptr rfl) ?_ | refine ax_q (q_nilck_rptr rfl) ?_
   first | refine ax_q (q_fadr_ptr rfl) ?_ | refine ax_q (q_fadr_rptr rfl) ?_
   refine ax_e (e_str (rs' := ((fetchF s (recAt s k).Page.toNat).1.Frames.set j (⟨(fAt (fetchF s (recAt s k).Page.toNat).1 j).No, (⟨((k : Int) + 1), (fAt (fetchF s (recAt s k).Page.toNat).1 j).Page.slots.set (recAt s k).Slot.toNat (recAt s k).After⟩ : Page), true, (fAt (fetchF s (recAt s k).Page.toNat).1 j).First⟩ : GFrame)).map GFrame.row) (row := GFrame.row (⟨(fAt (fetchF s (recAt s k).Page.toNat).1 j).No, (⟨((k : Int) + 1), (fAt (fetchF s (recAt s k).Page.toNat).1 j).Page.slots.set (recAt s k).Slot.toNat (recAt s k).After⟩ : Page), (fAt (fetchF s (recAt s k).Page.toNat).1 j).Dirty, (fAt (fetchF s (recAt s k).Page.toNat).1 j).First⟩ : GFrame)) (q := GFrame.row (⟨(fAt (fetchF s (recAt s k).Page.toNat).1 j).No, (⟨((k : Int) + 1), (fAt (fetchF s (recAt s k).Page.toNat).1 j).Page.slots.set (recAt s k).Slot.toNat (recAt s k).After⟩ : Page), true, (fAt (fetchF s (recAt s k).Page.toNat).1 j).First⟩ : GFrame)) rfl rfl rfl rfl rfl rfl (set_row hjl) rfl rfl (by rw [← List.map_set, List.set_set])) ?_
   refine ax_nil (cx_keep rfl rfl (cx_ops ?_))
   refine ax_q (q_mov rfl) ?_
   refine ax_q (q_mov rfl) ?_
   first | refine ax_q (q_nilck_ptr rfl) ?_ | refine ax_q (q_nilck_rptr rfl) ?_
   first | refine ax_q (q_fadr_ptr rfl) ?_ | refine ax_q (q_fadr_rptr rfl) ?_
   refine ax_e (e_str (rs' := ((fetchF s (recAt s k).Page.toNat).1.Frames.set j (⟨(fAt (fetchF s (recAt s k).Page.toNat).1 j).No, (⟨((k : Int) + 1), (fAt (fetchF s (recAt s k).Page.toNat).1 j).Page.slots.set (recAt s k).Slot.toNat (recAt s k).After⟩ : Page), true, ((k : Int) + 1)⟩ : GFrame)).map GFrame.row) (row := GFrame.row (⟨(fAt (fetchF s (recAt s k).Page.toNat).1 j).No, (⟨((k : Int) + 1), (fAt (fetchF s (recAt s k).Page.toNat).1 j).Page.slots.set (recAt s k).Slot.toNat (recAt s k).After⟩ : Page), true, (fAt (fetchF s (recAt s k).Page.toNat).1 j).First⟩ : GFrame)) (q := GFrame.row (⟨(fAt (fetchF s (recAt s k).Page.toNat).1 j).No, (⟨((k : Int) + 1), (fAt (fetchF s (recAt s k).Page.toNat).1 j).Page.slots.set (recAt s k).Slot.toNat (recAt s k).After⟩ : Page), true, ((k : Int) + 1)⟩ : GFrame)) rfl rfl rfl rfl rfl rfl (set_row hjl) rfl rfl (by rw [← List.map_set, List.set_set])) ?_
   refine ax_nil (cx_keep rfl rfl (cx_seq (cx_ops ?_)))
   refine ax_q (q_ldN rfl rfl rfl) ?_
   refine ax_wk (wk_frz 61 27 rfl rfl (.agg (.cons (.same rfl) (.cons (.same rfl) (.cons (.same rfl) (.cons (.same rfl) (.cons (.same rfl) (.cons (.same rfl) (.cons (.same rfl) (.cons (.whole (by rw [List.length_map, List.length_set])) (.cons (.same rfl) .nil)))))))))) rfl) ?_
   refine ax_e (e_st rfl rfl rfl rfl rfl rfl rfl) ?_
   refine ax_q (q_mov rfl) ?_
   refine ax_nil (cx_keep rfl rfl ?_)
   refine cx_ret (ret0 rfl rfl ?_)
   exact ⟨by rw [applyF_f hj hq]; rfl, rfl⟩
  ·
   have h1 := bF h1
   have hq : (fAt (fetchF s (recAt s k).Page.toNat).1 j).Dirty = true := by simpa using h1
   refine cx_skip ?_
   refine cx_keep rfl rfl (cx_seq (cx_ops ?_))
   refine ax_q (q_ldN rfl rfl rfl) ?_
   refine ax_wk (wk_frz 61 27 rfl rfl (.agg (.cons (.same rfl) (.cons (.same rfl) (.cons (.same rfl) (.cons (.same rfl) (.cons (.same rfl) (.cons (.same rfl) (.cons (.same rfl) (.cons (.whole (by rw [List.length_map, List.length_set])) (.cons (.same rfl) .nil)))))))))) rfl) ?_
   refine ax_e (e_st rfl rfl rfl rfl rfl rfl rfl) ?_
   refine ax_q (q_mov rfl) ?_
   refine ax_nil (cx_keep rfl rfl ?_)
   refine cx_ret (ret0 rfl rfl ?_)
   exact ⟨by rw [applyF_t hj hq]; rfl, rfl⟩


/- (ptr loop.example/g00332/spec.l00Src).store -/
def k_c_store : XCode :=
 .seq (.ops [.op (some 2) (.alloc [.nils 1, .nils 2, .bool false, .nils 1, .int .i64 0, .nils 10, .int .i64 0, .nils 5, .int .i64 0])])
 (.keep [0, 2] (.seq (.ops [.call (some 7) 59 [],
   .op (some 3) (.alloc [.nils 1, .nils 2, .bool false, .nils 1, .int .i64 0, .nils 10, .int .i64 0, .nils 5, .int .i64 0]),
   .op none (.store 9 (.t 3) (.t 7))])
 (.keep [0, 2, 3] (.seq (.ops [.op (some 4) (.mov (.k (.int .i64 0)))])
 (.keep [0, 2, 3, 4] (.seq (.seq (.ops [.op (some 8) (.mov (.t 0)),
   .call (some 9) 60 [.t 8, .k (.int .i64 14)],
   .op (some 5) (.mov (.t 9))])
  (.keep [0, 2, 3, 4, 5] (.block 0 (.loop (.seq (.seq (.ops [.op (some 10) (.mov (.t 5)),
     .op (some 11) (.bin .gtr (.t 10) (.k (.int .i64 0)))])
   (.keep [0, 2, 3, 4, 5, 11] (.cond (.t 11)
    (.skip)
    (.exit 0))))
   (.keep [0, 2, 3, 4, 5] (.seq (.block 1 (.seq (.ops [.op (some 14) (.mov (.t 0)),
     .call (some 15) 60 [.t 14, .k (.int .i64 6)]])
    (.keep [0, 2, 3, 4, 5, 15] (.block 2 (.seq (.ops [.op (some 44) (.bin .eql (.t 15) (.k (.int .i64 0))),
      .op (some 43) (.mov (.t 44))])
    (.keep [0, 2, 3, 4, 5, 15, 43] (.cond (.t 43)
     (.drawE [[], [], [], [2], [2, 3], [2, 3, 4], [1, 2, 3, 4, 5], [0, 1, 2, 3, 4, 5, 6], [0, 1, 2, 3, 4, 5, 6, 7], [0, 1, 2, 3, 4, 5, 6, 7, 8], [0, 1, 2, 3, 4, 5, 6, 7, 8], [0, 1, 2, 3, 4, 5, 6, 7, 8, 9]] [.op (some 46) (.loadN 9 (.t 3)),
      .op (some 47) (.mov (.t 0)),
      .op (some 48) (.fadr (.t 3) 5),
      .op (some 49) (.load1 (.t 48)),
      .op (some 50) (.lenS (.t 49)),
      .op (some 51) (.bin .add (.t 50) (.k (.int .i64 1))),
      .call (some 52) 60 [.t 47, .t 51],
      .call (some 53) 32 [.t 46, .t 52],
      .op (some 45) (.mov (.t 53)),
      .op (some 54) (.ext (.t 45) 0),
      .op (some 55) (.ext (.t 45) 1),
      .op none (.store 9 (.t 3) (.t 54))]
      [])
     (.seq (.ops [.op (some 57) (.bin .eql (.t 15) (.k (.int .i64 1))),
       .op (some 56) (.mov (.t 57))])
     (.keep [0, 2, 3, 4, 5, 15, 56] (.cond (.t 56)
      (.drawE [[], [], [1], [0, 1, 2], [0, 1, 2, 3], [0, 1, 2, 3, 4], [0, 1, 2, 3, 4], [0, 1, 2, 3, 4], [0, 1, 2, 3, 4, 5]] [.op (some 59) (.loadN 9 (.t 3)),
       .op (some 60) (.mov (.t 0)),
       .call (some 61) 60 [.t 60, .k (.int .i64 8)],
       .call (some 62) 61 [.t 59, .t 61],
       .op (some 58) (.mov (.t 62)),
       .op (some 63) (.ext (.t 58) 0),
       .op (some 64) (.ext (.t 58) 1),
       .op (some 65) (.ext (.t 58) 2),
       .op none (.store 9 (.t 3) (.t 63))]
       [])
      (.seq (.ops [.op (some 67) (.bin .eql (.t 15) (.k (.int .i64 2))),
        .op (some 66) (.mov (.t 67))])
      (.keep [0, 2, 3, 4, 5, 66] (.cond (.t 66)
       (.drawE [[], [], [1], [0, 1, 2], [0, 1, 2, 3], [0, 1, 2, 3, 4], [0, 1, 2, 3, 4], [0, 1, 2, 3, 4], [0, 1, 2, 3, 4, 5]] [.op (some 69) (.loadN 9 (.t 3)),
        .op (some 70) (.mov (.t 0)),
        .call (some 71) 60 [.t 70, .k (.int .i64 8)],
        .call (some 72) 62 [.t 69, .t 71],
        .op (some 68) (.mov (.t 72)),
        .op (some 73) (.ext (.t 68) 0),
        .op (some 74) (.ext (.t 68) 1),
        .op (some 75) (.ext (.t 68) 2),
        .op none (.store 9 (.t 3) (.t 73))]
        [])
       (.seq (.ops [.op (some 16) (.mov (.t 4)),
         .op (some 17) (.mov (.t 0)),
         .call (some 18) 60 [.t 17, .k (.int .i64 8)],
         .op (some 19) (.mov (.t 0)),
         .call (some 20) 60 [.t 19, .k (.int .i64 4)],
         .op (some 21) (.mov (.t 0)),
         .op (some 22) (.bslice 1 [.k (.str []), .k (.str [114, 101, 99]), .k (.str [114, 101, 99, 111, 114, 100])]),
         .call (some 23) 63 [.t 21, .t 22],
         .op (some 24) (.build [.int .i64 0, .int .i64 0, .int .i64 0, .int .i64 0, .int .i64 0, .int .i64 0, .int .i64 0, .int .i64 0, .str [], .str []] [(2, 1, .k (.int .i64 1)), (3, 1, .k (.int .i64 2)), (4, 1, .t 16), (6, 1, .t 18), (7, 1, .t 20), (8, 1, .k (.str [111, 108, 100])), (9, 1, .t 23)]),
         .op (some 6) (.alloc [.int .i64 0, .int .i64 0, .int .i64 0, .int .i64 0, .int .i64 0, .int .i64 0, .int .i64 0, .int .i64 0, .str [], .str []]),
         .op none (.store 10 (.t 6) (.t 24))])
       (.keep [0, 2, 3, 4, 5, 6] (.seq (.seq (.ops [.op (some 25) (.mov (.t 4)),
         .op (some 26) (.bin .eql (.t 25) (.k (.int .i64 0)))])
        (.keep [0, 2, 3, 5, 6, 26] (.cond (.t 26)
        (.ops [.op (some 27) (.build [.int .i64 0, .int .i64 0, .int .i64 0, .int .i64 0, .int .i64 0, .int .i64 0, .int .i64 0, .int .i64 0, .str [], .str []] [(2, 1, .k (.int .i64 1)), (3, 1, .k (.int .i64 1))]),
          .op none (.store 10 (.t 6) (.t 27))])
        (.skip))))
       (.keep [0, 2, 3, 5, 6] (.seq (.ops [.op (some 29) (.loadN 9 (.t 3)),
         .op (some 30) (.loadN 10 (.t 6)),
         .call (some 31) 64 [.t 29, .t 30],
         .op (some 28) (.mov (.t 31)),
         .op (some 32) (.ext (.t 28) 0),
         .op (some 33) (.ext (.t 28) 1),
         .op none (.store 9 (.t 3) (.t 32)),
         .op (some 4) (.mov (.t 33))])
       (.keep [0, 2, 3, 4, 5, 6] (.seq (.ops [.op (some 34) (.fadr (.t 6) 3),
         .op (some 35) (.load1 (.t 34)),
         .op (some 36) (.bin .eql (.t 35) (.k (.int .i64 2)))])
       (.keep [0, 2, 3, 4, 5, 36] (.cond (.t 36)
        (.ops [.op (some 38) (.loadN 9 (.t 3)),
         .op (some 39) (.mov (.t 4)),
         .call (some 40) 65 [.t 38, .t 39],
         .op (some 37) (.mov (.t 40)),
         .op (some 41) (.ext (.t 37) 0),
         .op (some 42) (.ext (.t 37) 1),
         .op none (.store 9 (.t 3) (.t 41))])
        (.skip)))))))))))))))))))))))
   (.keep [0, 2, 3, 4, 5] (.ops [.op (some 12) (.mov (.t 5)),
    .op (some 13) (.bin .sub (.t 12) (.k (.int .i64 1))),
    .op (some 5) (.mov (.t 13))])))))))))
 (.keep [2, 3] (.seq (.ops [.op (some 76) (.loadN 9 (.t 3)),
   .call (some 77) 33 [.t 76],
   .op none (.store 9 (.t 2) (.t 77))])
 (.keep [2] (.ret))))))))))
theorem k_c_store_fits : fitsF Tryz.prog 25 ⟨78, k_c_store, [.cN 2 9]⟩ = true := by kernel_rfl
set_option maxHeartbeats 4000000 in
theorem c_store {s : Src} (hs : s.ok 100000) : Con Tryz.prog noMv 25 [.ptr 1000 0] [(1000, s.box)] (fun r h => ∃ (x : GStore) (s2 : Src), DI x 26 ∧ r = x.av ∧ h = [(1000, s2.box)]) := by
 refine con_of2 k_c_store_fits rfl fun C hP hmv => ?_
 unfold k_c_store
 refine cx_seq (cx_ops ?_)
 refine ax_e (e_alloc (by decide) rfl rfl) ?_
 refine ax_nil (cx_keep rfl rfl (cx_seq (cx_ops ?_)))
 refine ax_call rfl (vc_pure0 (c_NewStore  ) hP rfl rfl ?_)
 refine ax_e (e_alloc (by decide) rfl rfl) ?_
 refine ax_e (e_st rfl rfl rfl rfl rfl rfl rfl) ?_
 refine ax_nil (cx_keep rfl rfl (cx_seq (cx_ops ?_)))
 refine ax_q (q_mov rfl) ?_
 refine ax_nil (cx_keep rfl rfl (cx_seq (cx_seq (cx_ops ?_))))
 refine ax_q (q_mov rfl) ?_
 obtain ⟨q1, q2, q3⟩ := nextF_ok (s := s) (n := 14) (k := 99997) hs
 have q3 := q3 (by omega)
 refine ax_call rfl (vcall_own (c_next (n := 99997) ?_) hP hmv false (fun _ => 1000) [1000] ⟨rfl, rfl, rfl, rfl, ⟨rfl, trivial⟩, rfl, rfl, rfl⟩ (.pass rfl rfl (.pass rfl rfl .nil)) ?_)
 ·
  assumption
 rintro r h ⟨rfl, rfl⟩
 refine ⟨fun _ => 1000, [], ⟨rfl, rfl, rfl, rfl, mem1 rfl, rfl, rfl, fun h => absurd h Bool.false_ne_true⟩, ?_⟩
 refine ax_q (q_mov rfl) ?_
 refine ax_nil (cx_keep rfl rfl (cx_block ?_))
 refine cx_loopU (fun n1 (p : Nat × Src × GStore) => n1 = p.1 ∧ p.1 ≤ 13 ∧ p.2.1.ok (1000 + 100 * p.1) ∧ DI p.2.2 (26 - 2 * p.1)) (fun p => [(5, int p.1), (4, int p.2.2.Log.length)]) (fun p => [(1000, (p.2.1).box), (2, .box [.zs 1, .zs 2, .d (.bool false), .zs 1, .d (.int .i64 0), .zs 10, .d (.int .i64 0), .zs 5, .d (.int .i64 0)]), (3, .box ((p.2.2).row.map .d))])
  ⟨_, ((nextF s 14).1.toNat, (nextF s 14).2, newS), ⟨rfl, by simp only; omega, q1.mono (by simp only; omega), newS_di.mono (by simp only; omega)⟩, by rw [show (((nextF s 14).1.toNat : Nat) : Int) = (nextF s 14).1 from by omega]; exact (by repeat constructor)⟩ ?_
 rintro n1 ⟨j, u, x⟩ ⟨rfl, hj, hu, hd⟩
 simp only at hj hu hd ⊢
 refine cx_seq (cx_seq (cx_ops ?_))
 refine ax_q (q_mov rfl) ?_
 refine ax_q (q_ibin rfl rfl rfl) ?_
 refine ax_nil (cx_keep rfl rfl ?_)
 refine cx_cond rfl (fun h0 => ?_) (fun h0 => ?_)
 ·
  have h0 := dT h0
  obtain ⟨j, rfl⟩ : ∃ m2, n1 = m2 + 1 := ⟨n1 - 1, by omega⟩
  obtain ⟨k1, k2, k3⟩ := nextF_ok (s := u) (n := 6) (k := 1000 + 100 * j + 97) (hu.mono (by omega))
  obtain ⟨hw0, hw1, hw2, hw3, hwa, hw4, hw5, hw6⟩ := di_stb hd (by omega)
  have hlm := hd.lm
  refine cx_skip ?_
  refine cx_keep rfl rfl (cx_seq (cx_block (cx_seq (cx_ops ?_))))
  refine ax_q (q_mov rfl) ?_
  refine ax_call rfl (vcall_own (c_next (n := 1000 + 100 * j + 97) ?_) hP hmv false (fun _ => 1000) [1000] ⟨rfl, rfl, rfl, rfl, ⟨rfl, trivial⟩, rfl, rfl, rfl⟩ (.pass rfl rfl (.pass rfl rfl .nil)) ?_)
  ·
   exact hu.mono (by omega)
  rintro r h ⟨rfl, rfl⟩
  refine ⟨fun _ => 1000, [], ⟨rfl, rfl, rfl, rfl, mem1 rfl, rfl, rfl, fun h => absurd h Bool.false_ne_true⟩, ?_⟩
  refine ax_nil (cx_keep rfl rfl (cx_block (cx_seq (cx_ops ?_))))
  refine ax_q (q_ibin rfl rfl rfl) ?_
  refine ax_q (q_mov rfl) ?_
  refine ax_nil (cx_keep rfl rfl ?_)
  refine cx_cond rfl (fun h1 => ?_) (fun h1 => ?_)
  ·
   have h1 := dT h1
   obtain ⟨g1, g2, g3⟩ := nextF_ok (s := (nextF u 6).2) (n := ((x.Log.length : Int) + 1)) (k := 1000 + 100 * j + 94) k1
   have g3 := g3 (by omega)
   have hX := flF_di hd (by omega) (n := (nextF (nextF u 6).2 ((x.Log.length : Int) + 1)).1) (by omega)
   refine cx_drawM2 [(6, ((nextF (nextF u 6).2 ((x.Log.length : Int) + 1)).2.h 1000)), (11, [(3, .box ((flF x (nextF (nextF u 6).2 ((x.Log.length : Int) + 1)).1).row.map .d)), (1000, (nextF (nextF u 6).2 ((x.Log.length : Int) + 1)).2.box)])] [3, 1000] [[3], [0], [3], [48], [49], [50], [47, 51], [46, 52], [53], [45], [45], [3, 54]] ?_
   first | refine ⟨_, .inr ⟨rfl, rfl, _, rfl, loc_q (q_ldN rfl rfl rfl)⟩, ?_⟩
   first | refine ⟨_, .inr ⟨rfl, rfl, _, rfl, loc_q (q_mov rfl)⟩, ?_⟩
   first | refine ⟨_, .inr ⟨rfl, rfl, _, rfl, loc_q (q_fadr_ptr rfl)⟩, ?_⟩
   first | refine ⟨_, .inr ⟨rfl, rfl, _, rfl, loc_q (q_load1_ptr rfl rfl rfl)⟩, ?_⟩
   refine ⟨_, .inr ⟨rfl, rfl, _, rfl, loc_q (q_lenS_map rfl)⟩, ?_⟩
   first | refine ⟨_, .inr ⟨rfl, rfl, _, rfl, loc_q (q_add rfl rfl (by omega))⟩, ?_⟩
   refine ⟨⟨52, _, []⟩, .inl ⟨_, _, rfl, rfl, rfl, locl_call (fun _ => 1000) [1000] id [] rfl (c_next (m := ((x.Log.length : Int) + 1)) (n := 1000 + 100 * j + 94) k1) hP hmv rfl rfl rfl rfl ⟨rfl, trivial⟩ rfl rfl rfl (.pass rfl rfl (.pass rfl rfl .nil)) rfl rfl rfl rfl (mem1 rfl) rfl⟩, ?_⟩
   refine ⟨_, .inr ⟨rfl, rfl, _, rfl, loc_call (fun i => 53 + 200 * i) false rfl (c_l05Flush (s := x) (m := 26 - 2 * (j + 1)) (n := (nextF (nextF u 6).2 ((x.Log.length : Int) + 1)).1) (by first | assumption | omega | (simp; done) | (simp; omega)) (by first | assumption | omega | (simp; done) | (simp; omega)) (by first | assumption | omega | (simp; done) | (simp; omega))) hP (.inr ⟨rfl, rfl, rfl⟩) rfl rfl (fun h => by cases h)⟩, ?_⟩
   first | refine ⟨_, .inr ⟨rfl, rfl, _, rfl, loc_q (q_mov rfl)⟩, ?_⟩
   first | refine ⟨_, .inr ⟨rfl, rfl, _, rfl, loc_q (q_ext rfl rfl)⟩, ?_⟩
   first | refine ⟨_, .inr ⟨rfl, rfl, _, rfl, loc_q (q_ext rfl rfl)⟩, ?_⟩
   refine ⟨⟨5000, _, []⟩, .inl ⟨_, _, rfl, rfl, rfl, locl_keep 1000 (locl_st rfl rfl rfl rfl rfl rfl rfl) rfl rfl⟩, ?_⟩
   refine ⟨rfl, ?_⟩
   refine ax_nil (cx_keep rfl rfl (cx_ops ?_))
   refine ax_q (q_mov rfl) ?_
   refine ax_qe (r' := int (j : Int)) (q_ibin rfl rfl rfl) (by rw [wi (by omega) (by omega)]; exact congrArg AM.int (by omega)) ?_
   refine ax_q (q_mov rfl) ?_
   refine ax_nil ?_
   exact ⟨_, (j, (nextF (nextF u 6).2 (x.Log.length + 1)).2, flF x (nextF (nextF u 6).2 (x.Log.length + 1)).1), by omega, ⟨rfl, by simp only; omega, g1.mono (by simp only; omega), hX.mono (by simp only; omega)⟩, by simp only [flF_log]; exact (by repeat constructor)⟩
  ·
   have h1 := dF h1
   refine cx_seq (cx_ops ?_)
   refine ax_q (q_ibin rfl rfl rfl) ?_
   refine ax_q (q_mov rfl) ?_
   refine ax_nil (cx_keep rfl rfl ?_)
   refine cx_cond rfl (fun h2 => ?_) (fun h2 => ?_)
   ·
    have h2 := dT h2
    obtain ⟨g1, g2, g3⟩ := nextF_ok (s := (nextF u 6).2) (n := 8) (k := 1000 + 100 * j + 94) k1
    have g3 := g3 (by omega)
    have hX := evictF_di (no := (nextF (nextF u 6).2 8).1.toNat) hd (by omega)
    refine cx_drawM2 [(2, ((nextF (nextF u 6).2 8).2.h 1000)), (8, [(3, .box ((evictF x (nextF (nextF u 6).2 8).1.toNat).1.row.map .d)), (1000, (nextF (nextF u 6).2 8).2.box)])] [3, 1000] [[3], [0], [60], [59, 61], [62], [58], [58], [58], [3, 63]] ?_
    first | refine ⟨_, .inr ⟨rfl, rfl, _, rfl, loc_q (q_ldN rfl rfl rfl)⟩, ?_⟩
    first | refine ⟨_, .inr ⟨rfl, rfl, _, rfl, loc_q (q_mov rfl)⟩, ?_⟩
    refine ⟨⟨61, _, []⟩, .inl ⟨_, _, rfl, rfl, rfl, locl_call (fun _ => 1000) [1000] id [] rfl (c_next (m := 8) (n := 1000 + 100 * j + 94) k1) hP hmv rfl rfl rfl rfl ⟨rfl, trivial⟩ rfl rfl rfl (.pass rfl rfl (.pass rfl rfl .nil)) rfl rfl rfl rfl (mem1 rfl) rfl⟩, ?_⟩
    refine ⟨_, .inr ⟨rfl, rfl, _, rfl, loc_call (fun i => 62 + 200 * i) false rfl (c_l05Evict (s := x) (m := 26 - 2 * (j + 1)) (no := (nextF (nextF u 6).2 8).1.toNat) (by first | assumption | omega | (simp; done) | (simp; omega)) (by first | assumption | omega | (simp; done) | (simp; omega)) (by first | assumption | omega | (simp; done) | (simp; omega)) (by first | assumption | omega | (simp; done) | (simp; omega))) hP (.inr ⟨rfl, rfl, rfl⟩) rfl rfl (fun h => by cases h)⟩, ?_⟩
    first | refine ⟨_, .inr ⟨rfl, rfl, _, rfl, loc_q (q_mov rfl)⟩, ?_⟩
    first | refine ⟨_, .inr ⟨rfl, rfl, _, rfl, loc_q (q_ext rfl rfl)⟩, ?_⟩
    first | refine ⟨_, .inr ⟨rfl, rfl, _, rfl, loc_q (q_ext rfl rfl)⟩, ?_⟩
    first | refine ⟨_, .inr ⟨rfl, rfl, _, rfl, loc_q (q_ext rfl rfl)⟩, ?_⟩
    refine ⟨⟨5000, _, []⟩, .inl ⟨_, _, rfl, rfl, rfl, locl_keep 1000 (locl_st rfl rfl rfl rfl rfl rfl rfl) rfl rfl⟩, ?_⟩
    refine ⟨rfl, ?_⟩
    refine ax_nil (cx_keep rfl rfl (cx_ops ?_))
    refine ax_q (q_mov rfl) ?_
    refine ax_qe (r' := int (j : Int)) (q_ibin rfl rfl rfl) (by rw [wi (by omega) (by omega)]; exact congrArg AM.int (by omega)) ?_
    refine ax_q (q_mov rfl) ?_
    refine ax_nil ?_
    exact ⟨_, (j, (nextF (nextF u 6).2 8).2, (evictF x (nextF (nextF u 6).2 8).1.toNat).1), by omega, ⟨rfl, by simp only; omega, g1.mono (by simp only; omega), hX.mono (by simp only; omega)⟩, by simp only [evictF_log]; exact (by repeat constructor)⟩
   ·
    have h2 := dF h2
    refine cx_seq (cx_ops ?_)
    refine ax_q (q_ibin rfl rfl rfl) ?_
    refine ax_q (q_mov rfl) ?_
    refine ax_nil (cx_keep rfl rfl ?_)
    refine cx_cond rfl (fun h3 => ?_) (fun h3 => ?_)
    ·
     have h3 := dT h3
     obtain ⟨g1, g2, g3⟩ := nextF_ok (s := (nextF u 6).2) (n := 8) (k := 1000 + 100 * j + 94) k1
     have g3 := g3 (by omega)
     obtain ⟨hX, hXl, _⟩ := fetchF_di (no := (nextF (nextF u 6).2 8).1.toNat) hd (by omega) (by omega)
     refine cx_drawM2 [(2, ((nextF (nextF u 6).2 8).2.h 1000)), (8, [(3, .box ((fetchF x (nextF (nextF u 6).2 8).1.toNat).1.row.map .d)), (1000, (nextF (nextF u 6).2 8).2.box)])] [3, 1000] [[3], [0], [70], [69, 71], [72], [68], [68], [68], [3, 73]] ?_
     first | refine ⟨_, .inr ⟨rfl, rfl, _, rfl, loc_q (q_ldN rfl rfl rfl)⟩, ?_⟩
     first | refine ⟨_, .inr ⟨rfl, rfl, _, rfl, loc_q (q_mov rfl)⟩, ?_⟩
     refine ⟨⟨71, _, []⟩, .inl ⟨_, _, rfl, rfl, rfl, locl_call (fun _ => 1000) [1000] id [] rfl (c_next (m := 8) (n := 1000 + 100 * j + 94) k1) hP hmv rfl rfl rfl rfl ⟨rfl, trivial⟩ rfl rfl rfl (.pass rfl rfl (.pass rfl rfl .nil)) rfl rfl rfl rfl (mem1 rfl) rfl⟩, ?_⟩
     refine ⟨_, .inr ⟨rfl, rfl, _, rfl, loc_call (fun i => 72 + 200 * i) false rfl (c_l05Fetch (s := x) (m := 26 - 2 * (j + 1)) (no := (nextF (nextF u 6).2 8).1.toNat) (by first | assumption | omega | (simp; done) | (simp; omega)) (by first | assumption | omega | (simp; done) | (simp; omega)) (by first | assumption | omega | (simp; done) | (simp; omega)) (by first | assumption | omega | (simp; done) | (simp; omega))) hP (.inr ⟨rfl, rfl, rfl⟩) rfl rfl (fun h => by cases h)⟩, ?_⟩
     first | refine ⟨_, .inr ⟨rfl, rfl, _, rfl, loc_q (q_mov rfl)⟩, ?_⟩
     first | refine ⟨_, .inr ⟨rfl, rfl, _, rfl, loc_q (q_ext rfl rfl)⟩, ?_⟩
     first | refine ⟨_, .inr ⟨rfl, rfl, _, rfl, loc_q (q_ext rfl rfl)⟩, ?_⟩
     first | refine ⟨_, .inr ⟨rfl, rfl, _, rfl, loc_q (q_ext rfl rfl)⟩, ?_⟩
     refine ⟨⟨5000, _, []⟩, .inl ⟨_, _, rfl, rfl, rfl, locl_keep 1000 (locl_st rfl rfl rfl rfl rfl rfl rfl) rfl rfl⟩, ?_⟩
     refine ⟨rfl, ?_⟩
     refine ax_nil (cx_keep rfl rfl (cx_ops ?_))
     refine ax_q (q_mov rfl) ?_
     refine ax_qe (r' := int (j : Int)) (q_ibin rfl rfl rfl) (by rw [wi (by omega) (by omega)]; exact congrArg AM.int (by omega)) ?_
     refine ax_q (q_mov rfl) ?_
     refine ax_nil ?_
     exact ⟨_, (j, (nextF (nextF u 6).2 8).2, (fetchF x (nextF (nextF u 6).2 8).1.toNat).1), by omega, ⟨rfl, by simp only; omega, g1.mono (by simp only; omega), hX.mono (by simp only; omega)⟩, by simp only [hXl]; exact (by repeat constructor)⟩
    ·
     have h3 := dF h3
     obtain ⟨a1, a2, a3⟩ := nextF_ok (s := (nextF u 6).2) (n := 8) (k := 1000 + 100 * j + 94) k1
     have a3 := a3 (by omega)
     obtain ⟨b1, b2, b3⟩ := nextF_ok (s := (nextF (nextF u 6).2 8).2) (n := 4) (k := 1000 + 100 * j + 91) a1
     have b3 := b3 (by omega)
     obtain ⟨p1, p2⟩ := pickF_ok (s := (nextF (nextF (nextF u 6).2 8).2 4).2) (ts := rTexts) (n := 1000 + 100 * j + 88) b1 (by decide)
     refine cx_seq (cx_ops ?_)
     refine ax_q (q_mov rfl) ?_
     refine ax_q (q_mov rfl) ?_
     refine ax_call rfl (vcall_own (c_next (s := (nextF u 6).2) (n := 1000 + 100 * j + 94) ?_) hP hmv false (fun _ => 1000) [1000] ⟨rfl, rfl, rfl, rfl, ⟨rfl, trivial⟩, rfl, rfl, rfl⟩ (.pass rfl rfl (.pass rfl rfl .nil)) ?_)
     ·
      assumption
     rintro r h ⟨rfl, rfl⟩
     refine ⟨fun _ => 1000, [], ⟨rfl, rfl, rfl, rfl, mem1 rfl, rfl, rfl, fun h => absurd h Bool.false_ne_true⟩, ?_⟩
     refine ax_q (q_mov rfl) ?_
     refine ax_call rfl (vcall_own (c_next (s := (nextF (nextF u 6).2 8).2) (n := 1000 + 100 * j + 91) ?_) hP hmv false (fun _ => 1000) [1000] ⟨rfl, rfl, rfl, rfl, ⟨rfl, trivial⟩, rfl, rfl, rfl⟩ (.pass rfl rfl (.pass rfl rfl .nil)) ?_)
     ·
      assumption
     rintro r h ⟨rfl, rfl⟩
     refine ⟨fun _ => 1000, [], ⟨rfl, rfl, rfl, rfl, mem1 rfl, rfl, rfl, fun h => absurd h Bool.false_ne_true⟩, ?_⟩
     refine ax_q (q_mov rfl) ?_
     refine ax_e (e_bslice rfl (by decide) rfl rfl) ?_
     refine ax_wk (wk_frz 22 22 rfl rfl (.whole rfl) rfl) ?_
     refine ax_call rfl (vcall_own (c_pick (s := (nextF (nextF (nextF u 6).2 8).2 4).2) (ts := rTexts) (n := 1000 + 100 * j + 88) b1 (by decide)) hP hmv false (fun _ => 1000) [1000] ⟨rfl, rfl, rfl, rfl, ⟨rfl, trivial⟩, rfl, rfl, rfl⟩ (.pass rfl rfl (.pass rfl rfl .nil)) ?_)
     rintro r h ⟨rfl, rfl⟩
     refine ⟨fun _ => 1000, [], ⟨rfl, rfl, rfl, rfl, mem1 rfl, rfl, rfl, fun h => absurd h Bool.false_ne_true⟩, ?_⟩
     refine ax_q (q_build rfl) ?_
     refine ax_e (e_alloc (by decide) rfl rfl) ?_
     refine ax_e (e_st rfl rfl rfl rfl rfl rfl rfl) ?_
     refine ax_nil (cx_keep rfl rfl (cx_seq (cx_seq (cx_ops ?_))))
     refine ax_q (q_mov rfl) ?_
     refine ax_q (q_ibin rfl rfl rfl) ?_
     refine ax_nil (cx_keep rfl rfl ?_)
     refine cx_cond rfl (fun h4 => ?_) (fun h4 => ?_)
     ·
      have h4 := dT h4
      refine cx_ops ?_
      refine ax_q (q_build rfl) ?_
      refine ax_e (e_st rfl rfl rfl rfl rfl rfl rfl) ?_
      refine ax_nil (cx_keep rfl rfl (cx_seq (cx_ops ?_)))
      refine ax_q (q_ldN rfl rfl rfl) ?_
      refine ax_q (q_ldN rfl rfl rfl) ?_
      refine ax_call rfl (vc_pure0 (c_l05Append (s := x) (rc := begR) (m := 26 - 2 * (j + 1)) ?_ ?_) hP rfl rfl ?_)
      ·
       assumption
      ·
       first | assumption | omega
      refine ax_q (q_mov rfl) ?_
      refine ax_q (q_ext rfl rfl) ?_
      refine ax_q (q_ext rfl rfl) ?_
      refine ax_e (e_st rfl rfl rfl rfl rfl rfl rfl) ?_
      refine ax_q (q_mov rfl) ?_
      refine ax_nil (cx_keep rfl rfl (cx_seq (cx_ops ?_)))
      refine ax_q (q_fadr_ptr rfl) ?_
      refine ax_q (q_load1_ptr rfl rfl rfl) ?_
      refine ax_q (q_ibin rfl rfl rfl) ?_
      refine ax_nil (cx_keep rfl rfl ?_)
      refine cx_cond rfl (fun h5 => ?_) (fun h5 => ?_)
      ·
       have h5 := dT h5
       exact absurd h5 (by decide)
      ·
       have h5 := dF h5
       refine cx_skip ?_
       refine cx_keep rfl rfl (cx_ops ?_)
       refine ax_q (q_mov rfl) ?_
       refine ax_qe (r' := int (j : Int)) (q_ibin rfl rfl rfl) (by rw [wi (by omega) (by omega)]; exact congrArg AM.int (by omega)) ?_
       refine ax_q (q_mov rfl) ?_
       refine ax_nil ?_
       exact ⟨_, (j, (pickF (nextF (nextF (nextF u 6).2 8).2 4).2 rTexts).2, appS x begR), by omega, ⟨rfl, by simp only; omega, p1.mono (by simp only; omega), (beg_di hd (by omega)).mono (by simp only; omega)⟩, by simp only [appS_len]; exact (by repeat constructor)⟩
     ·
      have h4 := dF h4
      have hU := upd_di (pg := (nextF (nextF u 6).2 8).1) (slot := (nextF (nextF (nextF u 6).2 8).2 4).1) (x := (pickF (nextF (nextF (nextF u 6).2 8).2 4).2 rTexts).1) hd (by omega) h4 (by omega) (by omega) p2
      obtain ⟨hX, hXl⟩ := applyF_di (k := x.Log.length) hU (by omega) appS_at upd_kind
      have hlen : (((applyF (appS x (updR x (nextF (nextF u 6).2 8).1 (nextF (nextF (nextF u 6).2 8).2 4).1 (pickF (nextF (nextF (nextF u 6).2 8).2 4).2 rTexts).1)) x.Log.length).Log.length : Nat) : Int) = (x.Log.length : Int) + 1 := by rw [hXl, appS_len]
      refine cx_skip ?_
      refine cx_keep rfl rfl (cx_seq (cx_ops ?_))
      refine ax_q (q_ldN rfl rfl rfl) ?_
      refine ax_q (q_ldN rfl rfl rfl) ?_
      refine ax_call rfl (vc_pure0 (c_l05Append (s := x) (rc := (updR x (nextF (nextF u 6).2 8).1 (nextF (nextF (nextF u 6).2 8).2 4).1 (pickF (nextF (nextF (nextF u 6).2 8).2 4).2 rTexts).1)) (m := 26 - 2 * (j + 1)) ?_ ?_) hP rfl rfl ?_)
      ·
       assumption
      ·
       first | assumption | omega
      refine ax_q (q_mov rfl) ?_
      refine ax_q (q_ext rfl rfl) ?_
      refine ax_q (q_ext rfl rfl) ?_
      refine ax_e (e_st rfl rfl rfl rfl rfl rfl rfl) ?_
      refine ax_q (q_mov rfl) ?_
      refine ax_nil (cx_keep rfl rfl (cx_seq (cx_ops ?_)))
      refine ax_q (q_fadr_ptr rfl) ?_
      refine ax_q (q_load1_ptr rfl rfl rfl) ?_
      refine ax_q (q_ibin rfl rfl rfl) ?_
      refine ax_nil (cx_keep rfl rfl ?_)
      refine cx_cond rfl (fun h5 => ?_) (fun h5 => ?_)
      ·
       have h5 := dT h5
       refine cx_ops ?_
       refine ax_q (q_ldN rfl rfl rfl) ?_
       refine ax_q (q_mov rfl) ?_
       refine ax_call rfl (vc_pure0 (c_l05Apply (s := appS x (updR x (nextF (nextF u 6).2 8).1 (nextF (nextF (nextF u 6).2 8).2 4).1 (pickF (nextF (nextF (nextF u 6).2 8).2 4).2 rTexts).1)) (m := 26 - 2 * (j + 1) + 1) (k := x.Log.length) ?_ ?_ ?_ ?_) hP rfl rfl ?_)
       ·
        assumption
       ·
        first | assumption | omega
       ·
        exact appS_at
       ·
        exact upd_kind
       refine ax_q (q_mov rfl) ?_
       refine ax_q (q_ext rfl rfl) ?_
       refine ax_q (q_ext rfl rfl) ?_
       refine ax_e (e_st rfl rfl rfl rfl rfl rfl rfl) ?_
       refine ax_nil (cx_keep rfl rfl (cx_ops ?_))
       refine ax_q (q_mov rfl) ?_
       refine ax_qe (r' := int (j : Int)) (q_ibin rfl rfl rfl) (by rw [wi (by omega) (by omega)]; exact congrArg AM.int (by omega)) ?_
       refine ax_q (q_mov rfl) ?_
       refine ax_nil ?_
       exact ⟨_, (j, (pickF (nextF (nextF (nextF u 6).2 8).2 4).2 rTexts).2, applyF (appS x (updR x (nextF (nextF u 6).2 8).1 (nextF (nextF (nextF u 6).2 8).2 4).1 (pickF (nextF (nextF (nextF u 6).2 8).2 4).2 rTexts).1)) x.Log.length), by omega, ⟨rfl, by simp only; omega, p1.mono (by simp only; omega), hX.mono (by simp only; omega)⟩, by simp only [hlen]; exact (by repeat constructor)⟩
      ·
       have h5 := dF h5
       exact absurd rfl h5
 ·
  have h0 := dF h0
  obtain rfl : n1 = 0 := by omega
  refine cx_exit rfl ?_
  refine cx_keep rfl rfl (cx_seq (cx_ops ?_))
  refine ax_q (q_ldN rfl rfl rfl) ?_
  refine ax_call rfl (vc_pure0 (c_l05Own (s := x) (m := 26) ?_ ?_) hP rfl rfl ?_)
  ·
   exact hd
  ·
   first | assumption | omega
  refine ax_e (e_st rfl rfl rfl rfl rfl rfl rfl) ?_
  refine ax_nil (cx_keep rfl rfl ?_)
  refine cx_ret (retN id [1000] rfl rfl rfl rfl rfl ?_)
  exact ⟨x, u, hd, rfl, rfl⟩


/- loop.example/g00332/spec.StoreOf -/
def k_c_StoreOf : XCode :=
 .seq (.ops [.op (some 2) (.alloc [.nils 1, .nils 2, .bool false, .nils 1, .int .i64 0, .nils 10, .int .i64 0, .nils 5, .int .i64 0])])
 (.keep [0, 2] (.seq (.ops [.op (some 3) (.mov (.t 0)),
   .call (some 4) 24 [.t 3],
   .call (some 5) 25 [.t 4],
   .op none (.store 9 (.t 2) (.t 5))])
 (.keep [2] (.ret))))
theorem k_c_StoreOf_fits : fitsF Tryz.prog 5 ⟨6, k_c_StoreOf, [.cN 2 9]⟩ = true := by kernel_rfl
theorem c_StoreOf {code : Str} (hl : code.length ≤ 1048576) : Con Tryz.prog noMv 5 [.d (.sl 1 (code.map byteRow))] [] (fun r h => ∃ x : GStore, DI x 26 ∧ r = x.av ∧ h = []) := by
 refine con_of2 k_c_StoreOf_fits rfl fun C hP hmv => ?_
 unfold k_c_StoreOf
 refine cx_seq (cx_ops ?_)
 refine ax_e (e_alloc (by decide) rfl rfl) ?_
 refine ax_nil (cx_keep rfl rfl (cx_seq (cx_ops ?_)))
 refine ax_q (q_mov rfl) ?_
 refine ax_call rfl (vc_pure (c_l00Source hl) hP rfl ?_)
 rintro r h ⟨rfl, rfl⟩
 refine ⟨fun _ => 4, [0], ⟨rfl, rfl, rfl, rfl, rfl, fun h => absurd h Bool.false_ne_true⟩, ?_⟩
 refine ax_call rfl (vcall_own (c_store ((srcOf_ok hl).mono (by omega))) hP hmv false (fun _ => 4) [1000] ⟨rfl, rfl, rfl, rfl, ⟨rfl, trivial⟩, rfl, rfl, rfl⟩ (.pass rfl rfl .nil) ?_)
 rintro r h ⟨x, s2, hd, rfl, rfl⟩
 refine ⟨fun _ => 4, [], ⟨rfl, rfl, rfl, rfl, mem1 rfl, rfl, rfl, fun h => absurd h Bool.false_ne_true⟩, ?_⟩
 refine ax_e (e_st rfl rfl rfl rfl rfl rfl rfl) ?_
 refine ax_nil (cx_keep rfl rfl ?_)
 refine cx_ret (ret0 rfl rfl ?_)
 exact ⟨x, hd, rfl, rfl⟩


/- loop.example/g00332/laws.at -/
def k_c_at : XCode :=
 .seq (.ops [.op (some 6) (.mov (.k (.int .i64 0)))])
 (.keep [0, 1, 2] (.seq (.seq (.ops [.op (some 7) (.mov (.t 2)),
   .op (some 8) (.bin .leq (.t 7) (.k (.int .i64 1)))])
  (.keep [0, 1, 2, 8] (.cond (.t 8)
  (.seq (.ops [.op (some 6) (.mov (.k (.int .i64 0)))])
   (.keep [6] (.ret)))
  (.skip))))
 (.keep [0, 1, 2] (.seq (.seq (.ops [.op (some 9) (.mov (.t 0)),
   .op (some 10) (.lenS (.t 9)),
   .op (some 11) (.bin .eql (.t 10) (.k (.int .i64 0)))])
  (.keep [0, 1, 2, 11] (.cond (.t 11)
  (.seq (.ops [.op (some 12) (.mov (.t 1)),
    .op (some 13) (.bin .mul (.t 12) (.k (.int .i64 7))),
    .op (some 14) (.mov (.t 2)),
    .op (some 15) (.bin .rem (.t 13) (.t 14)),
    .op (some 6) (.mov (.t 15))])
   (.keep [6] (.ret)))
  (.skip))))
 (.keep [0, 1, 2] (.seq (.draw [.op (some 16) (.mov (.t 0)),
   .op (some 17) (.mov (.t 1)),
   .op (some 18) (.mov (.t 0)),
   .op (some 19) (.lenS (.t 18)),
   .op (some 20) (.bin .rem (.t 17) (.t 19)),
   .op (some 21) (.iadr 1 (.t 16) (.t 20)),
   .op (some 22) (.load1 (.t 21)),
   .op (some 23) (.conv .i64 (.t 22)),
   .op (some 24) (.bin .mul (.t 23) (.k (.int .i64 31))),
   .op (some 25) (.mov (.t 0)),
   .op (some 26) (.mov (.t 1)),
   .op (some 27) (.bin .add (.t 26) (.k (.int .i64 1))),
   .op (some 28) (.mov (.t 0)),
   .op (some 29) (.lenS (.t 28)),
   .op (some 30) (.bin .rem (.t 27) (.t 29)),
   .op (some 31) (.iadr 1 (.t 25) (.t 30)),
   .op (some 32) (.load1 (.t 31)),
   .op (some 33) (.conv .i64 (.t 32)),
   .op (some 34) (.bin .add (.t 24) (.t 33)),
   .op (some 35) (.mov (.t 1)),
   .op (some 36) (.mov (.t 0)),
   .op (some 37) (.lenS (.t 36)),
   .op (some 38) (.bin .quo (.t 35) (.t 37)),
   .op (some 39) (.bin .add (.t 34) (.t 38)),
   .op (some 40) (.mov (.t 2)),
   .op (some 41) (.bin .rem (.t 39) (.t 40)),
   .op (some 6) (.mov (.t 41))])
 (.keep [6] (.ret))))))))
theorem k_c_at_fits : fitsF Tryz.prog 6 ⟨42, k_c_at, [.t 6]⟩ = true := by kernel_rfl
theorem c_at {more : Str} {i n : Int} (hl : more.length ≤ 1048576) (hi : 0 ≤ i ∧ i ≤ 1000) (hn : n ≤ 1000000000) : Con Tryz.prog noMv 6 [.d (.sl 1 (more.map byteRow)), int i, int n] [] (fun r h => r = int (atF more i n) ∧ h = []) := by
 refine con_of2 k_c_at_fits rfl fun C hP hmv => ?_
 unfold k_c_at
 refine cx_seq (cx_ops ?_)
 refine ax_q (q_mov rfl) ?_
 refine ax_nil (cx_keep rfl rfl (cx_seq (cx_seq (cx_ops ?_))))
 refine ax_q (q_mov rfl) ?_
 refine ax_q (q_ibin rfl rfl rfl) ?_
 refine ax_nil (cx_keep rfl rfl ?_)
 refine cx_cond rfl (fun h0 => ?_) (fun h0 => ?_)
 ·
  have h0 := dT h0
  refine cx_seq (cx_ops ?_)
  refine ax_q (q_mov rfl) ?_
  refine ax_nil (cx_keep rfl rfl ?_)
  refine cx_ret (ret0 rfl rfl ?_)
  exact ⟨by unfold atF; rw [if_pos h0]; rfl, rfl⟩
 ·
  have h0 := dF h0
  refine cx_skip ?_
  refine cx_keep rfl rfl (cx_seq (cx_seq (cx_ops ?_)))
  refine ax_q (q_mov rfl) ?_
  refine ax_q (q_lenS_map rfl) ?_
  refine ax_q (q_ibin rfl rfl rfl) ?_
  refine ax_nil (cx_keep rfl rfl ?_)
  refine cx_cond rfl (fun h1 => ?_) (fun h1 => ?_)
  ·
   have h1 := dT h1
   have hm0 : more = [] := List.eq_nil_of_length_eq_zero (by omega)
   refine cx_seq (cx_ops ?_)
   refine ax_q (q_mov rfl) ?_
   refine ax_q (q_mul rfl rfl (by omega)) ?_
   refine ax_q (q_mov rfl) ?_
   refine ax_q (q_mod rfl rfl (by omega) (by omega)) ?_
   refine ax_q (q_mov rfl) ?_
   refine ax_nil (cx_keep rfl rfl ?_)
   refine cx_ret (ret0 rfl rfl ?_)
   exact ⟨by unfold atF; rw [if_neg h0, if_pos hm0]; rfl, rfl⟩
  ·
   have h1 := dF h1
   have hm0 : more ≠ [] := fun h => h1 (by rw [h]; rfl)
   have hm1 : 0 < more.length := List.length_pos_iff.2 hm0
   have hi1 : (i % more.length).toNat < more.length := by have := Int.emod_nonneg i (show (more.length : Int) ≠ 0 by omega); have := Int.emod_lt_of_pos i (show 0 < (more.length : Int) by omega); omega
   have hi2 : ((i + 1) % more.length).toNat < more.length := by have := Int.emod_nonneg (i + 1) (show (more.length : Int) ≠ 0 by omega); have := Int.emod_lt_of_pos (i + 1) (show 0 < (more.length : Int) by omega); omega
   have hb1 := (more[(i % more.length).toNat]).toNat_lt
   have hb2 := (more[((i + 1) % more.length).toNat]).toNat_lt
   have hdv := ediv_bounds (a := i) (b := more.length) hi.1 (by omega)
   refine cx_skip ?_
   refine cx_keep rfl rfl (cx_seq (cx_draw ?_))
   refine ax_q (q_mov rfl) ?_
   refine ax_q (q_mov rfl) ?_
   refine ax_q (q_mov rfl) ?_
   refine ax_q (q_lenS_map rfl) ?_
   refine ax_q (q_mod rfl rfl (by omega) (by omega)) ?_
   refine ax_q (q_ixI rfl rfl (Int.emod_nonneg _ (by omega)) (mapAt hi1)) ?_
   first | refine ax_q (q_load1_ptr rfl rfl rfl) ?_ | refine ax_q (q_load1_ip rfl) ?_
   refine ax_q (q_convB rfl) ?_
   refine ax_q (q_mul rfl rfl (by omega)) ?_
   refine ax_q (q_mov rfl) ?_
   refine ax_q (q_mov rfl) ?_
   refine ax_q (q_add rfl rfl (by omega)) ?_
   refine ax_q (q_mov rfl) ?_
   refine ax_q (q_lenS_map rfl) ?_
   refine ax_q (q_mod rfl rfl (by omega) (by omega)) ?_
   refine ax_q (q_ixI rfl rfl (Int.emod_nonneg _ (by omega)) (mapAt hi2)) ?_
   first | refine ax_q (q_load1_ptr rfl rfl rfl) ?_ | refine ax_q (q_load1_ip rfl) ?_
   refine ax_q (q_convB rfl) ?_
   refine ax_q (q_add rfl rfl (by omega)) ?_
   refine ax_q (q_mov rfl) ?_
   refine ax_q (q_mov rfl) ?_
   refine ax_q (q_lenS_map rfl) ?_
   refine ax_q (q_div rfl rfl (by omega) (by omega) (by omega)) ?_
   refine ax_q (q_add rfl rfl (by omega)) ?_
   refine ax_q (q_mov rfl) ?_
   refine ax_q (q_mod rfl rfl (by omega) (by omega)) ?_
   refine ax_q (q_mov rfl) ?_
   refine ax_nil (cx_keep rfl rfl ?_)
   refine cx_ret (ret0 rfl rfl ?_)
   exact ⟨by unfold atF; rw [if_neg h0, if_neg hm0, getD_at hi1, getD_at hi2]; rfl, rfl⟩


/- loop.example/g00332/impl.inRange -/
def k_c_inRange : XCode :=
 .seq (.ops [.op (some 6) (.mov (.k (.bool false)))])
 (.keep [0, 1, 2] (.seq (.ops [.op (some 7) (.mov (.t 1)),
   .op (some 8) (.mov (.t 0)),
   .op (some 9) (.bin .leq (.t 7) (.t 8)),
   .op (some 10) (.mov (.t 9)),
   .andor 14 true 3 10 [.op (some 11) (.mov (.t 0)), .op (some 12) (.mov (.t 2)), .op (some 13) (.bin .leq (.t 11) (.t 12))] (.t 13),
   .op (some 6) (.mov (.t 14))])
 (.keep [6] (.ret))))
theorem k_c_inRange_fits : fitsF Tryz.prog 26 ⟨15, k_c_inRange, [.t 6]⟩ = true := by kernel_rfl
theorem c_inRange {n lo hi : Int} : Con Tryz.prog noMv 26 [int n, int lo, int hi] [] (fun r h => r = bool (inR n lo hi) ∧ h = []) := by
 refine con_of2 k_c_inRange_fits rfl fun C hP hmv => ?_
 unfold k_c_inRange
 refine cx_seq (cx_ops ?_)
 refine ax_q (q_mov rfl) ?_
 refine ax_nil (cx_keep rfl rfl (cx_seq (cx_ops ?_)))
 refine ax_q (q_mov rfl) ?_
 refine ax_q (q_mov rfl) ?_
 refine ax_q (q_ibin rfl rfl rfl) ?_
 refine ax_q (q_mov rfl) ?_
 apply ax_and rfl rfl
 ·
  intro g
  have g := dT g
  refine ax_q (q_mov rfl) ?_
  refine ax_q (q_mov rfl) ?_
  refine ax_q (q_ibin rfl rfl rfl) ?_
  exact ax_nil ⟨rfl, by repeat constructor⟩
 refine ax_q (q_mov rfl) ?_
 refine ax_nil (cx_keep rfl rfl ?_)
 refine cx_ret (ret0 rfl rfl ?_)
 exact ⟨rfl, rfl⟩


/- slices.IndexFunc[[]string,string] -/
def k_c_IndexFunc_Str : XCode :=
 .seq (.ops [.op (some 4) (.mov (.k (.int .i64 0)))])
 (.keep [0, 1] (.seq (.seq (.ops [.op (some 6) (.mov (.t 0)),
   .op (some 7) (.lenS (.t 6)),
   .op (some 8) (.mov (.k (.int .i64 0)))])
  (.keep [0, 1, 7, 8] (.block 0 (.loop (.seq (.ops [.op (some 9) (.bin .lss (.t 8) (.t 7))])
   (.keep [0, 1, 7, 8, 9] (.seq (.cond (.t 9)
    (.skip)
    (.exit 0))
   (.keep [0, 1, 7, 8] (.seq (.block 1 (.seq (.ops [.op (some 10) (.mov (.t 8)),
     .op (some 5) (.mov (.t 10))])
    (.keep [0, 1, 5, 7, 8] (.seq (.ops [.op (some 11) (.mov (.t 1)),
     .op (some 12) (.mov (.t 0)),
     .op (some 13) (.mov (.t 5)),
     .op (some 14) (.iadr 1 (.t 12) (.t 13)),
     .op (some 15) (.load1 (.t 14)),
     .callv (some 16) (.t 11) [.t 15]])
    (.keep [0, 1, 5, 7, 8, 16] (.cond (.t 16)
    (.seq (.ops [.op (some 17) (.mov (.t 5)),
      .op (some 4) (.mov (.t 17))])
     (.keep [4] (.ret)))
    (.skip)))))))
   (.keep [0, 1, 7, 8] (.ops [.op (some 18) (.bin .add (.t 8) (.k (.int .i64 1))),
    .op (some 8) (.mov (.t 18))])))))))))))
 (.keep [] (.seq (.ops [.op (some 4) (.mov (.k (.int .i64 (-1))))])
 (.keep [4] (.ret))))))
theorem k_c_IndexFunc_Str_fits : fitsF Tryz.prog 131 ⟨19, k_c_IndexFunc_Str, [.t 4]⟩ = true := by kernel_rfl
theorem c_IndexFunc_Str {xs : List Str} {f : Nat} {ds : List D} (p : Str → Bool) (hw : xs.length ≤ 9223372036854775807) (hb : hasBody Tryz.prog f = true) (hf : ∀ s ∈ xs, Con Tryz.prog noMv f (str s :: ds.map AV.d) [] (fun r h => r = bool (p s) ∧ h = [])) : Con Tryz.prog noMv 131 [.d (.sl 1 (xs.map strRow)), .d (.fn (.func f) ds)] [] (fun r h => r = int (idxOf p xs 0) ∧ h = []) := by
 refine con_of2 k_c_IndexFunc_Str_fits rfl fun C hP hmv => ?_
 unfold k_c_IndexFunc_Str
 refine cx_seq (cx_ops ?_)
 refine ax_q (q_mov rfl) ?_
 refine ax_nil (cx_keep rfl rfl (cx_seq (cx_seq (cx_ops ?_))))
 refine ax_q (q_mov rfl) ?_
 refine ax_q (q_lenS_map rfl) ?_
 refine ax_q (q_mov rfl) ?_
 refine ax_nil (cx_keep rfl rfl (cx_block ?_))
 refine cx_loopU (fun n k => k ≤ xs.length ∧ n = xs.length - k ∧ ∀ i, i < k → ∀ x, xs[i]? = some x → p x = false) (fun k : Nat => [(8, int k)]) (fun _ => []) ⟨_, 0, ⟨by omega, rfl, fun i hi => by omega⟩, by repeat constructor⟩ ?_
 rintro n k ⟨hk, rfl, ht⟩
 refine cx_seq (cx_ops ?_)
 refine ax_q (q_ibin rfl rfl rfl) ?_
 refine ax_nil (cx_keep rfl rfl (cx_seq ?_))
 refine cx_cond rfl (fun h0 => ?_) (fun h0 => ?_)
 ·
  have h0 := dT h0
  have h0x : k < xs.length := by omega
  refine cx_skip ?_
  refine cx_keep rfl rfl (cx_seq (cx_block (cx_seq (cx_ops ?_))))
  refine ax_q (q_mov rfl) ?_
  refine ax_q (q_mov rfl) ?_
  refine ax_nil (cx_keep rfl rfl (cx_seq (cx_ops ?_)))
  refine ax_q (q_mov rfl) ?_
  refine ax_q (q_mov rfl) ?_
  refine ax_q (q_mov rfl) ?_
  refine ax_q (q_ix rfl rfl (mapAt h0x)) ?_
  first | refine ax_q (q_load1_ptr rfl rfl rfl) ?_ | refine ax_q (q_load1_ip rfl) ?_
  refine ax_callvD rfl (by rw [hP]; exact hb) rfl (vc_pure0 (hf _ (List.getElem_mem h0x)) hP (refs_cons rfl ds) rfl ?_)
  refine ax_nil (cx_keep rfl rfl ?_)
  refine cx_cond rfl (fun h1 => ?_) (fun h1 => ?_)
  ·
   skip
   refine cx_seq (cx_ops ?_)
   refine ax_q (q_mov rfl) ?_
   refine ax_q (q_mov rfl) ?_
   refine ax_nil (cx_keep rfl rfl ?_)
   refine cx_ret (ret0 rfl rfl ?_)
   exact ⟨by rw [idxOf_hit h0x ht h1]; rfl, rfl⟩
  ·
   skip
   refine cx_skip ?_
   refine cx_keep rfl rfl (cx_ops ?_)
   refine ax_qe (r' := int ((k + 1 : Nat) : Int)) (q_ibin rfl rfl rfl) (by rw [wi (by omega) (by omega)]; rfl) ?_
   refine ax_q (q_mov rfl) ?_
   refine ax_nil ?_
   exact ⟨_, k + 1, by omega, ⟨by omega, rfl, before_step h0x ht h1⟩, by repeat constructor⟩
 ·
  have h0 := dF h0
  have h0x : k = xs.length := by omega
  refine cx_exit rfl ?_
  refine cx_keep rfl rfl (cx_seq (cx_ops ?_))
  refine ax_q (q_mov rfl) ?_
  refine ax_nil (cx_keep rfl rfl ?_)
  refine cx_ret (ret0 rfl rfl ?_)
  exact ⟨by rw [idxOf_none (fun i hi => ht i (by omega))]; rfl, rfl⟩


/- slices.ContainsFunc[[]string,string] -/
def k_c_ContainsFunc_Str : XCode :=
 .seq (.ops [.op (some 4) (.mov (.k (.bool false)))])
 (.keep [0, 1] (.seq (.ops [.op (some 5) (.mov (.t 0)),
   .op (some 6) (.mov (.t 1)),
   .call (some 7) 131 [.t 5, .t 6],
   .op (some 8) (.bin .geq (.t 7) (.k (.int .i64 0))),
   .op (some 4) (.mov (.t 8))])
 (.keep [4] (.ret))))
theorem k_c_ContainsFunc_Str_fits : fitsF Tryz.prog 82 ⟨9, k_c_ContainsFunc_Str, [.t 4]⟩ = true := by kernel_rfl
theorem c_ContainsFunc_Str {xs : List Str} {f : Nat} {ds : List D} (p : Str → Bool) (hw : xs.length ≤ 9223372036854775807) (hb : hasBody Tryz.prog f = true) (hf : ∀ s ∈ xs, Con Tryz.prog noMv f (str s :: ds.map AV.d) [] (fun r h => r = bool (p s) ∧ h = [])) : Con Tryz.prog noMv 82 [.d (.sl 1 (xs.map strRow)), .d (.fn (.func f) ds)] [] (fun r h => r = bool (xs.any p) ∧ h = []) := by
 refine con_of2 k_c_ContainsFunc_Str_fits rfl fun C hP hmv => ?_
 unfold k_c_ContainsFunc_Str
 refine cx_seq (cx_ops ?_)
 refine ax_q (q_mov rfl) ?_
 refine ax_nil (cx_keep rfl rfl (cx_seq (cx_ops ?_)))
 refine ax_q (q_mov rfl) ?_
 refine ax_q (q_mov rfl) ?_
 refine ax_call rfl (vc_pure0 (c_IndexFunc_Str p hw hb hf) hP rfl rfl ?_)
 refine ax_qe (r' := bool (xs.any p)) (q_ibin rfl rfl rfl) (congrArg AM.bool any_idxOf) ?_
 refine ax_q (q_mov rfl) ?_
 refine ax_nil (cx_keep rfl rfl ?_)
 refine cx_ret (ret0 rfl rfl ?_)
 exact ⟨rfl, rfl⟩


/- loop.example/g00332/impl.DiskOK$1 -/
def k_c_DiskOK1 : XCode :=
 .seq (.ops [.op (some 2) (.mov (.k (.bool false)))])
 (.keep [0] (.seq (.ops [.op (some 3) (.mov (.t 0)),
   .op (some 4) (.lenT (.t 3)),
   .op (some 5) (.bin .gtr (.t 4) (.k (.int .i64 160))),
   .op (some 2) (.mov (.t 5))])
 (.keep [2] (.ret))))
theorem k_c_DiskOK1_fits : fitsF Tryz.prog 83 ⟨6, k_c_DiskOK1, [.t 2]⟩ = true := by kernel_rfl
theorem c_DiskOK1 {s : Str} : Con Tryz.prog noMv 83 [str s] [] (fun r h => r = bool (long160 s) ∧ h = []) := by
 refine con_of2 k_c_DiskOK1_fits rfl fun C hP hmv => ?_
 unfold k_c_DiskOK1
 refine cx_seq (cx_ops ?_)
 refine ax_q (q_mov rfl) ?_
 refine ax_nil (cx_keep rfl rfl (cx_seq (cx_ops ?_)))
 refine ax_q (q_mov rfl) ?_
 refine ax_q (q_lenT rfl) ?_
 refine ax_q (q_ibin rfl rfl rfl) ?_
 refine ax_q (q_mov rfl) ?_
 refine ax_nil (cx_keep rfl rfl ?_)
 refine cx_ret (ret0 rfl rfl ?_)
 exact ⟨rfl, rfl⟩


/- slices.IndexFunc[[]loop.example/g00332/impl.Pending,loop.example/g00332/impl.Pending] -/
def k_c_IndexFunc_Pending : XCode :=
 .seq (.ops [.op (some 4) (.mov (.k (.int .i64 0)))])
 (.keep [0, 1] (.seq (.seq (.ops [.op (some 6) (.mov (.t 0)),
   .op (some 7) (.lenS (.t 6)),
   .op (some 8) (.mov (.k (.int .i64 0)))])
  (.keep [0, 1, 7, 8] (.block 0 (.loop (.seq (.ops [.op (some 9) (.bin .lss (.t 8) (.t 7))])
   (.keep [0, 1, 7, 8, 9] (.seq (.cond (.t 9)
    (.skip)
    (.exit 0))
   (.keep [0, 1, 7, 8] (.seq (.block 1 (.seq (.ops [.op (some 10) (.mov (.t 8)),
     .op (some 5) (.mov (.t 10))])
    (.keep [0, 1, 5, 7, 8] (.seq (.ops [.op (some 11) (.mov (.t 1)),
     .op (some 12) (.mov (.t 0)),
     .op (some 13) (.mov (.t 5)),
     .op (some 14) (.iadr 2 (.t 12) (.t 13)),
     .op (some 15) (.loadN 2 (.t 14)),
     .callv (some 16) (.t 11) [.t 15]])
    (.keep [0, 1, 5, 7, 8, 16] (.cond (.t 16)
    (.seq (.ops [.op (some 17) (.mov (.t 5)),
      .op (some 4) (.mov (.t 17))])
     (.keep [4] (.ret)))
    (.skip)))))))
   (.keep [0, 1, 7, 8] (.ops [.op (some 18) (.bin .add (.t 8) (.k (.int .i64 1))),
    .op (some 8) (.mov (.t 18))])))))))))))
 (.keep [] (.seq (.ops [.op (some 4) (.mov (.k (.int .i64 (-1))))])
 (.keep [4] (.ret))))))
theorem k_c_IndexFunc_Pending_fits : fitsF Tryz.prog 132 ⟨19, k_c_IndexFunc_Pending, [.t 4]⟩ = true := by kernel_rfl
theorem c_IndexFunc_Pending {xs : List GPending} {f : Nat} {ds : List D} (p : GPending → Bool) (hw : xs.length ≤ 9223372036854775807) (hb : hasBody Tryz.prog f = true) (hf : ∀ s ∈ xs, Con Tryz.prog noMv f (s.av :: ds.map AV.d) [] (fun r h => r = bool (p s) ∧ h = [])) : Con Tryz.prog noMv 132 [.d (.sl 2 (xs.map GPending.row)), .d (.fn (.func f) ds)] [] (fun r h => r = int (idxOf p xs 0) ∧ h = []) := by
 refine con_of2 k_c_IndexFunc_Pending_fits rfl fun C hP hmv => ?_
 unfold k_c_IndexFunc_Pending
 refine cx_seq (cx_ops ?_)
 refine ax_q (q_mov rfl) ?_
 refine ax_nil (cx_keep rfl rfl (cx_seq (cx_seq (cx_ops ?_))))
 refine ax_q (q_mov rfl) ?_
 refine ax_q (q_lenS_map rfl) ?_
 refine ax_q (q_mov rfl) ?_
 refine ax_nil (cx_keep rfl rfl (cx_block ?_))
 refine cx_loopU (fun n k => k ≤ xs.length ∧ n = xs.length - k ∧ ∀ i, i < k → ∀ x, xs[i]? = some x → p x = false) (fun k : Nat => [(8, int k)]) (fun _ => []) ⟨_, 0, ⟨by omega, rfl, fun i hi => by omega⟩, by repeat constructor⟩ ?_
 rintro n k ⟨hk, rfl, ht⟩
 refine cx_seq (cx_ops ?_)
 refine ax_q (q_ibin rfl rfl rfl) ?_
 refine ax_nil (cx_keep rfl rfl (cx_seq ?_))
 refine cx_cond rfl (fun h0 => ?_) (fun h0 => ?_)
 ·
  have h0 := dT h0
  have h0x : k < xs.length := by omega
  refine cx_skip ?_
  refine cx_keep rfl rfl (cx_seq (cx_block (cx_seq (cx_ops ?_))))
  refine ax_q (q_mov rfl) ?_
  refine ax_q (q_mov rfl) ?_
  refine ax_nil (cx_keep rfl rfl (cx_seq (cx_ops ?_)))
  refine ax_q (q_mov rfl) ?_
  refine ax_q (q_mov rfl) ?_
  refine ax_q (q_mov rfl) ?_
  refine ax_q (q_ix rfl rfl (mapAt h0x)) ?_
  first | refine ax_q (q_ldN rfl rfl rfl) ?_ | refine ax_q (q_loadN_ip rfl (Nat.le_refl _)) ?_
  refine ax_callvD rfl (by rw [hP]; exact hb) rfl (vc_pure0 (hf _ (List.getElem_mem h0x)) hP (refs_cons rfl ds) rfl ?_)
  refine ax_nil (cx_keep rfl rfl ?_)
  refine cx_cond rfl (fun h1 => ?_) (fun h1 => ?_)
  ·
   skip
   refine cx_seq (cx_ops ?_)
   refine ax_q (q_mov rfl) ?_
   refine ax_q (q_mov rfl) ?_
   refine ax_nil (cx_keep rfl rfl ?_)
   refine cx_ret (ret0 rfl rfl ?_)
   exact ⟨by rw [idxOf_hit h0x ht h1]; rfl, rfl⟩
  ·
   skip
   refine cx_skip ?_
   refine cx_keep rfl rfl (cx_ops ?_)
   refine ax_qe (r' := int ((k + 1 : Nat) : Int)) (q_ibin rfl rfl rfl) (by rw [wi (by omega) (by omega)]; rfl) ?_
   refine ax_q (q_mov rfl) ?_
   refine ax_nil ?_
   exact ⟨_, k + 1, by omega, ⟨by omega, rfl, before_step h0x ht h1⟩, by repeat constructor⟩
 ·
  have h0 := dF h0
  have h0x : k = xs.length := by omega
  refine cx_exit rfl ?_
  refine cx_keep rfl rfl (cx_seq (cx_ops ?_))
  refine ax_q (q_mov rfl) ?_
  refine ax_nil (cx_keep rfl rfl ?_)
  refine cx_ret (ret0 rfl rfl ?_)
  exact ⟨by rw [idxOf_none (fun i hi => ht i (by omega))]; rfl, rfl⟩


/- slices.ContainsFunc[[]loop.example/g00332/impl.Pending,loop.example/g00332/impl.Pending] -/
def k_c_ContainsFunc_Pending : XCode :=
 .seq (.ops [.op (some 4) (.mov (.k (.bool false)))])
 (.keep [0, 1] (.seq (.ops [.op (some 5) (.mov (.t 0)),
   .op (some 6) (.mov (.t 1)),
   .call (some 7) 132 [.t 5, .t 6],
   .op (some 8) (.bin .geq (.t 7) (.k (.int .i64 0))),
   .op (some 4) (.mov (.t 8))])
 (.keep [4] (.ret))))
theorem k_c_ContainsFunc_Pending_fits : fitsF Tryz.prog 84 ⟨9, k_c_ContainsFunc_Pending, [.t 4]⟩ = true := by kernel_rfl
theorem c_ContainsFunc_Pending {xs : List GPending} {f : Nat} {ds : List D} (p : GPending → Bool) (hw : xs.length ≤ 9223372036854775807) (hb : hasBody Tryz.prog f = true) (hf : ∀ s ∈ xs, Con Tryz.prog noMv f (s.av :: ds.map AV.d) [] (fun r h => r = bool (p s) ∧ h = [])) : Con Tryz.prog noMv 84 [.d (.sl 2 (xs.map GPending.row)), .d (.fn (.func f) ds)] [] (fun r h => r = bool (xs.any p) ∧ h = []) := by
 refine con_of2 k_c_ContainsFunc_Pending_fits rfl fun C hP hmv => ?_
 unfold k_c_ContainsFunc_Pending
 refine cx_seq (cx_ops ?_)
 refine ax_q (q_mov rfl) ?_
 refine ax_nil (cx_keep rfl rfl (cx_seq (cx_ops ?_)))
 refine ax_q (q_mov rfl) ?_
 refine ax_q (q_mov rfl) ?_
 refine ax_call rfl (vc_pure0 (c_IndexFunc_Pending p hw hb hf) hP rfl rfl ?_)
 refine ax_qe (r' := bool (xs.any p)) (q_ibin rfl rfl rfl) (congrArg AM.bool any_idxOf) ?_
 refine ax_q (q_mov rfl) ?_
 refine ax_nil (cx_keep rfl rfl ?_)
 refine cx_ret (ret0 rfl rfl ?_)
 exact ⟨rfl, rfl⟩


/- loop.example/g00332/impl.isPlace -/
def k_c_isPlace : XCode :=
 .seq (.ops [.op (some 4) (.mov (.k (.bool false)))])
 (.keep [0, 1] (.seq (.ops [.op (some 5) (.mov (.t 0)),
   .op (some 6) (.mov (.t 1)),
   .op (some 7) (.bin .sub (.t 6) (.k (.int .i64 1))),
   .call (some 8) 26 [.t 5, .k (.int .i64 0), .t 7],
   .op (some 4) (.mov (.t 8))])
 (.keep [4] (.ret))))
theorem k_c_isPlace_fits : fitsF Tryz.prog 40 ⟨9, k_c_isPlace, [.t 4]⟩ = true := by kernel_rfl
theorem c_isPlace {n k : Int} (hk : 0 ≤ k ∧ k ≤ 1048576) : Con Tryz.prog noMv 40 [int n, int k] [] (fun r h => r = bool (inR n 0 (k - 1)) ∧ h = []) := by
 refine con_of2 k_c_isPlace_fits rfl fun C hP hmv => ?_
 unfold k_c_isPlace
 refine cx_seq (cx_ops ?_)
 refine ax_q (q_mov rfl) ?_
 refine ax_nil (cx_keep rfl rfl (cx_seq (cx_ops ?_)))
 refine ax_q (q_mov rfl) ?_
 refine ax_q (q_mov rfl) ?_
 refine ax_q (q_sub rfl rfl (by omega)) ?_
 refine ax_call rfl (vc_pure0 (c_inRange  ) hP rfl rfl ?_)
 refine ax_q (q_mov rfl) ?_
 refine ax_nil (cx_keep rfl rfl ?_)
 refine cx_ret (ret0 rfl rfl ?_)
 exact ⟨rfl, rfl⟩


/- loop.example/g00332/impl.DiskOK$2 -/
def k_c_DiskOK2 : XCode :=
 .seq (.ops [.op (some 2) (.box (.t 0)),
   .op (some 3) (.mov (.k (.bool false)))])
 (.keep [1, 2] (.seq (.ops [.op (some 4) (.fadr (.t 2) 0),
   .op (some 5) (.load1 (.t 4)),
   .op (some 6) (.fadr (.t 1) 0),
   .op (some 7) (.load1 (.t 6)),
   .op (some 8) (.lenS (.t 7)),
   .call (some 9) 40 [.t 5, .t 8],
   .op (some 10) (.not (.t 9)),
   .op (some 11) (.mov (.t 10)),
   .andor 16 false 7 11 [.op (some 12) (.fadr (.t 2) 1), .op (some 13) (.load1 (.t 12)), .op (some 14) (.lenT (.t 13)), .op (some 15) (.bin .gtr (.t 14) (.k (.int .i64 160)))] (.t 15),
   .op (some 3) (.mov (.t 16))])
 (.keep [3] (.ret))))
theorem k_c_DiskOK2_fits : fitsF Tryz.prog 85 ⟨17, k_c_DiskOK2, [.t 3]⟩ = true := by kernel_rfl
theorem c_DiskOK2 {a : GPending} {d : GDisk} (hw0 : d.Sectors.length ≤ 1048576) : Con Tryz.prog noMv 85 [a.av, .d (.ip d.row)] [] (fun r h => r = bool (badAt d.Sectors.length a) ∧ h = []) := by
 refine con_of2 k_c_DiskOK2_fits rfl fun C hP hmv => ?_
 unfold k_c_DiskOK2
 refine cx_seq (cx_ops ?_)
 refine ax_e (e_box rfl rfl (by decide) rfl rfl rfl) ?_
 refine ax_q (q_mov rfl) ?_
 refine ax_nil (cx_keep rfl rfl (cx_seq (cx_ops ?_)))
 refine ax_q (q_fadr_ptr rfl) ?_
 refine ax_q (q_load1_ptr rfl rfl rfl) ?_
 first | refine ax_q (q_fadr_ptr rfl) ?_ | refine ax_q (q_fadr_rptr rfl) ?_ | refine ax_q (q_fadr_ip rfl) ?_
 first | refine ax_q (q_load1_ptr rfl rfl rfl) ?_ | refine ax_q (q_load1_ip rfl) ?_
 refine ax_q (q_lenS_map rfl) ?_
 refine ax_call rfl (vc_pure0 (c_isPlace  ?_) hP rfl rfl ?_)
 ·
  first | assumption | omega
 refine ax_q (q_not rfl) ?_
 refine ax_q (q_mov rfl) ?_
 apply ax_or rfl rfl
 ·
  intro g
  have g := bF g
  refine ax_q (q_fadr_ptr rfl) ?_
  refine ax_q (q_load1_ptr rfl rfl rfl) ?_
  refine ax_q (q_lenT rfl) ?_
  refine ax_q (q_ibin rfl rfl rfl) ?_
  exact ax_nil ⟨rfl, by repeat constructor⟩
 refine ax_q (q_mov rfl) ?_
 refine ax_nil (cx_keep rfl rfl ?_)
 refine cx_ret (ret0 rfl rfl ?_)
 exact ⟨rfl, rfl⟩

end Go.Proofs.YtcloaaakhojjgaaGreat
