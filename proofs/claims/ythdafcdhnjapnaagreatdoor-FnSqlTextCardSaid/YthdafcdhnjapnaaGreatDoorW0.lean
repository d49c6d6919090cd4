/- The walks: what each function computes, as a contract without a world (part 0). -/
import Derived.Test.YthdafcdhnjapnaaGreatDoorProg
import Derived.Test.YthdafcdhnjapnaaGreatDoorR
namespace Go.Proofs.YthdafcdhnjapnaaGreatDoor
open Go Go.AM
set_option maxRecDepth 10000
set_option linter.unusedVariables false
set_option linter.unusedSimpArgs false
/- loop.example/g00332/spec.l00Source -/
def k_c_l00Source : XCode :=
 .seq (.ops [.op (some 2) (.mov (.k (.nilp)))])
 (.keep [0] (.seq (.ops [.op (some 3) (.mov (.t 0)),
   .op (some 4) (.mov (.t 0)),
   .op (some 5) (.lenS (.t 4)),
   .op (some 6) (.bin .rem (.t 5) (.k (.int .i64 1000))),
   .op (some 7) (.build [.nils 1, .int .i64 0, .int .i64 0] [(0, 1, .t 3), (2, 1, .t 6)]),
   .op (some 8) (.box (.t 7)),
   .op (some 2) (.mov (.t 8))])
 (.keep [2] (.ret))))
theorem k_c_l00Source_fits : fitsF Tryz.prog 23 ⟨9, k_c_l00Source, [.t 2]⟩ = true := by kernel_rfl
theorem c_l00Source {code : Str} (hl : code.length ≤ 1048576) : Con Tryz.prog noMv 23 [.d (.sl 1 (code.map byteRow))] [] (fun r h => r = .ptr 0 0 ∧ h = (srcOf code).h 0) := by
 refine con_of2 k_c_l00Source_fits rfl fun C hP hmv => ?_
 unfold k_c_l00Source
 refine cx_seq (cx_ops ?_)
 refine ax_q (q_mov rfl) ?_
 refine ax_nil (cx_keep rfl rfl (cx_seq (cx_ops ?_)))
 refine ax_q (q_mov rfl) ?_
 refine ax_q (q_mov rfl) ?_
 refine ax_q (q_lenS_map rfl) ?_
 refine ax_q (q_mod rfl rfl (by omega) (by omega)) ?_
 refine ax_q (q_build rfl) ?_
 refine ax_e (e_box rfl rfl (by decide) rfl rfl rfl) ?_
 refine ax_q (q_mov rfl) ?_
 refine ax_nil (cx_keep rfl rfl ?_)
 refine cx_ret (retN (fun _ => 0) [8] rfl rfl rfl rfl rfl ?_)
 exact ⟨rfl, rfl⟩


/- (ptr loop.example/g00332/spec.l00Src).byte -/
def k_c_byte : XCode :=
 .seq (.ops [.op (some 2) (.mov (.k (.int .i64 0)))])
 (.keep [0] (.seq (.ops [.op (some 3) (.mov (.t 0)),
   .op (some 4) (.nilck (.t 3)),
   .op (some 5) (.fadr (.t 4) 1),
   .op (some 6) (.load1 (.t 5)),
   .op (some 7) (.bin .add (.t 6) (.k (.int .i64 1))),
   .op (some 8) (.nilck (.t 3)),
   .op (some 9) (.fadr (.t 8) 1),
   .op none (.store 1 (.t 9) (.t 7))])
 (.keep [0] (.seq (.seq (.draw [.op (some 10) (.mov (.t 0)),
   .op (some 11) (.nilck (.t 10)),
   .op (some 12) (.fadr (.t 11) 1),
   .op (some 13) (.load1 (.t 12)),
   .op (some 14) (.mov (.t 0)),
   .op (some 15) (.nilck (.t 14)),
   .op (some 16) (.fadr (.t 15) 0),
   .op (some 17) (.load1 (.t 16)),
   .op (some 18) (.lenS (.t 17)),
   .op (some 19) (.bin .leq (.t 13) (.t 18))])
  (.keep [0, 19] (.cond (.t 19)
  (.seq (.drawE [[], [], [1], [1, 2], [1, 2, 3], [1, 2, 3, 4], [], [6], [6, 7], [6, 7, 8], [], [10], [10, 11], [10, 11, 12], [10, 11, 12, 13], [6, 7, 8, 9, 10, 11, 12, 13, 14], [6, 7, 8, 9, 10, 11, 12, 13, 14, 15], [6, 7, 8, 9, 10, 11, 12, 13, 14, 15, 16], [1, 2, 3, 4, 5, 6, 7, 8, 9, 10, 11, 12, 13, 14, 15, 16, 17], [1, 2, 3, 4, 5, 6, 7, 8, 9, 10, 11, 12, 13, 14, 15, 16, 17, 18], [1, 2, 3, 4, 5, 6, 7, 8, 9, 10, 11, 12, 13, 14, 15, 16, 17, 18, 19], [0, 1, 2, 3, 4, 5, 6, 7, 8, 9, 10, 11, 12, 13, 14, 15, 16, 17, 18, 19, 20], [0, 1, 2, 3, 4, 5, 6, 7, 8, 9, 10, 11, 12, 13, 14, 15, 16, 17, 18, 19, 20, 21], [0, 1, 2, 3, 4, 5, 6, 7, 8, 9, 10, 11, 12, 13, 14, 15, 16, 17, 18, 19, 20, 21, 22]] [.op (some 20) (.mov (.t 0)),
    .op (some 21) (.mov (.t 0)),
    .op (some 22) (.nilck (.t 21)),
    .op (some 23) (.fadr (.t 22) 2),
    .op (some 24) (.load1 (.t 23)),
    .op (some 25) (.bin .mul (.t 24) (.k (.int .i64 31))),
    .op (some 26) (.mov (.t 0)),
    .op (some 27) (.nilck (.t 26)),
    .op (some 28) (.fadr (.t 27) 0),
    .op (some 29) (.load1 (.t 28)),
    .op (some 30) (.mov (.t 0)),
    .op (some 31) (.nilck (.t 30)),
    .op (some 32) (.fadr (.t 31) 1),
    .op (some 33) (.load1 (.t 32)),
    .op (some 34) (.bin .sub (.t 33) (.k (.int .i64 1))),
    .op (some 35) (.iadr 1 (.t 29) (.t 34)),
    .op (some 36) (.load1 (.t 35)),
    .op (some 37) (.conv .i64 (.t 36)),
    .op (some 38) (.bin .add (.t 25) (.t 37)),
    .op (some 39) (.bin .add (.t 38) (.k (.int .i64 7))),
    .op (some 40) (.bin .rem (.t 39) (.k (.int .i64 2147483648)))]
    [.op (some 41) (.nilck (.t 20)),
    .op (some 42) (.fadr (.t 41) 2),
    .op none (.store 1 (.t 42) (.t 40))])
   (.keep [0] (.seq (.draw [.op (some 43) (.mov (.t 0)),
    .op (some 44) (.nilck (.t 43)),
    .op (some 45) (.fadr (.t 44) 0),
    .op (some 46) (.load1 (.t 45)),
    .op (some 47) (.mov (.t 0)),
    .op (some 48) (.nilck (.t 47)),
    .op (some 49) (.fadr (.t 48) 1),
    .op (some 50) (.load1 (.t 49)),
    .op (some 51) (.bin .sub (.t 50) (.k (.int .i64 1))),
    .op (some 52) (.iadr 1 (.t 46) (.t 51)),
    .op (some 53) (.load1 (.t 52)),
    .op (some 54) (.conv .i64 (.t 53)),
    .op (some 2) (.mov (.t 54))])
   (.keep [2] (.ret)))))
  (.skip))))
 (.keep [0] (.seq (.seq (.ops [.op (some 55) (.mov (.t 0)),
   .op (some 56) (.nilck (.t 55)),
   .op (some 57) (.fadr (.t 56) 1),
   .op (some 58) (.load1 (.t 57)),
   .op (some 59) (.bin .gtr (.t 58) (.k (.int .i64 3000)))])
  (.keep [0, 59] (.cond (.t 59)
  (.seq (.ops [.op (some 2) (.mov (.k (.int .i64 0)))])
   (.keep [2] (.ret)))
  (.skip))))
 (.keep [0] (.seq (.ops [.op (some 60) (.mov (.t 0)),
   .op (some 61) (.mov (.t 0)),
   .op (some 62) (.nilck (.t 61)),
   .op (some 63) (.fadr (.t 62) 2),
   .op (some 64) (.load1 (.t 63)),
   .op (some 65) (.bin .mul (.t 64) (.k (.int .i64 1103515245))),
   .op (some 66) (.bin .add (.t 65) (.k (.int .i64 12345))),
   .op (some 67) (.bin .rem (.t 66) (.k (.int .i64 2147483648))),
   .op (some 68) (.nilck (.t 60)),
   .op (some 69) (.fadr (.t 68) 2),
   .op none (.store 1 (.t 69) (.t 67))])
 (.keep [0] (.seq (.ops [.op (some 70) (.mov (.t 0)),
   .op (some 71) (.nilck (.t 70)),
   .op (some 72) (.fadr (.t 71) 2),
   .op (some 73) (.load1 (.t 72)),
   .op (some 74) (.bin .quo (.t 73) (.k (.int .i64 65536))),
   .op (some 75) (.bin .rem (.t 74) (.k (.int .i64 256))),
   .op (some 2) (.mov (.t 75))])
 (.keep [2] (.ret))))))))))))
theorem k_c_byte_fits : fitsF Tryz.prog 85 ⟨76, k_c_byte, [.t 2]⟩ = true := by kernel_rfl
set_option maxHeartbeats 2000000 in
theorem c_byte {s : Src} {n : Nat} (hs : s.ok (n + 1)) : Con Tryz.prog noMv 85 [.ptr 1000 0] (s.h 1000) (fun r h => r = int (byteF s).1 ∧ h = ((byteF s).2).h 1000) := by
 refine con_of2 k_c_byte_fits rfl fun C hP hmv => ?_
 unfold k_c_byte
 have hp := hs.pos; have hd := hs.seed; have hl := hs.len
 refine cx_seq (cx_ops ?_)
 refine ax_q (q_mov rfl) ?_
 refine ax_nil (cx_keep rfl rfl (cx_seq (cx_ops ?_)))
 refine ax_q (q_mov rfl) ?_
 refine ax_q (q_nilck_ptr rfl) ?_
 refine ax_q (q_fadr_ptr rfl) ?_
 refine ax_q (q_load1_ptr rfl rfl rfl) ?_
 refine ax_q (q_add rfl rfl (by omega)) ?_
 refine ax_q (q_nilck_ptr rfl) ?_
 refine ax_q (q_fadr_ptr rfl) ?_
 refine ax_e (e_st rfl rfl rfl rfl rfl rfl rfl) ?_
 refine ax_nil (cx_keep rfl rfl (cx_seq (cx_seq (cx_draw ?_))))
 refine ax_q (q_mov rfl) ?_
 refine ax_q (q_nilck_ptr rfl) ?_
 refine ax_q (q_fadr_ptr rfl) ?_
 refine ax_q (q_load1_ptr rfl rfl rfl) ?_
 refine ax_q (q_mov rfl) ?_
 refine ax_q (q_nilck_ptr rfl) ?_
 refine ax_q (q_fadr_ptr rfl) ?_
 refine ax_q (q_load1_ptr rfl rfl rfl) ?_
 refine ax_q (q_lenS_map rfl) ?_
 refine ax_q (q_ibin rfl rfl rfl) ?_
 refine ax_nil (cx_keep rfl rfl ?_)
 refine cx_cond rfl (fun h0 => ?_) (fun h0 => ?_)
 ·
  have h0 := dT h0
  have hi : (s.pos + 1 - 1).toNat < s.code.length := by omega
  have hb := (s.code[(s.pos + 1 - 1).toNat]).toNat_lt
  have hg : s.code.getD s.pos.toNat 0 = s.code[(s.pos + 1 - 1).toNat] := by
   rw [← getD_at hi]; congr 2; omega
  refine cx_seq ?_
  refine cx_drawL 0 20 (fun _ => false) (fun _ => true) [] ([]) [[0], [0], [21], [22], [23], [24], [0], [26], [27], [28], [0], [30], [31], [32], [33], [29, 34], [35], [36], [25, 37], [38], [39]] [[], [], [], [], [], [], [], [], [], [], [], [], [], [], [], [], [], [], [], [], []] rfl ?_
  first | refine ⟨⟨20, _, []⟩, .inl ⟨rfl, rfl, rfl, locl_of (loc_q (q_mov rfl))⟩, ?_⟩
  first | refine ⟨_, .inr ⟨rfl, _, rfl, .inr ⟨rfl, rfl, .inr rfl, rfl, rfl⟩, loc_q (q_mov rfl)⟩, ?_⟩
  refine ⟨_, .inr ⟨rfl, _, rfl, .inr ⟨rfl, rfl, .inr rfl, rfl, rfl⟩, loc_q (q_nilck_ptr rfl)⟩, ?_⟩
  refine ⟨_, .inr ⟨rfl, _, rfl, .inr ⟨rfl, rfl, .inr rfl, rfl, rfl⟩, loc_q (q_fadr_ptr rfl)⟩, ?_⟩
  refine ⟨_, .inr ⟨rfl, _, rfl, .inr ⟨rfl, rfl, .inr rfl, rfl, rfl⟩, loc_q (q_load1_ptr rfl rfl rfl)⟩, ?_⟩
  first | refine ⟨_, .inr ⟨rfl, _, rfl, .inr ⟨rfl, rfl, .inr rfl, rfl, rfl⟩, loc_q (q_mul rfl rfl (by omega))⟩, ?_⟩
  first | refine ⟨_, .inr ⟨rfl, _, rfl, .inr ⟨rfl, rfl, .inr rfl, rfl, rfl⟩, loc_q (q_mov rfl)⟩, ?_⟩
  refine ⟨_, .inr ⟨rfl, _, rfl, .inr ⟨rfl, rfl, .inr rfl, rfl, rfl⟩, loc_q (q_nilck_ptr rfl)⟩, ?_⟩
  refine ⟨_, .inr ⟨rfl, _, rfl, .inr ⟨rfl, rfl, .inr rfl, rfl, rfl⟩, loc_q (q_fadr_ptr rfl)⟩, ?_⟩
  refine ⟨_, .inr ⟨rfl, _, rfl, .inr ⟨rfl, rfl, .inr rfl, rfl, rfl⟩, loc_q (q_load1_ptr rfl rfl rfl)⟩, ?_⟩
  first | refine ⟨_, .inr ⟨rfl, _, rfl, .inr ⟨rfl, rfl, .inr rfl, rfl, rfl⟩, loc_q (q_mov rfl)⟩, ?_⟩
  refine ⟨_, .inr ⟨rfl, _, rfl, .inr ⟨rfl, rfl, .inr rfl, rfl, rfl⟩, loc_q (q_nilck_ptr rfl)⟩, ?_⟩
  refine ⟨_, .inr ⟨rfl, _, rfl, .inr ⟨rfl, rfl, .inr rfl, rfl, rfl⟩, loc_q (q_fadr_ptr rfl)⟩, ?_⟩
  refine ⟨_, .inr ⟨rfl, _, rfl, .inr ⟨rfl, rfl, .inr rfl, rfl, rfl⟩, loc_q (q_load1_ptr rfl rfl rfl)⟩, ?_⟩
  first | refine ⟨_, .inr ⟨rfl, _, rfl, .inr ⟨rfl, rfl, .inr rfl, rfl, rfl⟩, loc_q (q_sub rfl rfl (by omega))⟩, ?_⟩
  first | refine ⟨_, .inr ⟨rfl, _, rfl, .inr ⟨rfl, rfl, .inr rfl, rfl, rfl⟩, loc_q (q_ixI rfl rfl (by omega) (mapAt hi))⟩, ?_⟩
  first | refine ⟨_, .inr ⟨rfl, _, rfl, .inr ⟨rfl, rfl, .inr rfl, rfl, rfl⟩, loc_q (q_load1_ptr rfl rfl rfl)⟩, ?_⟩ | refine ⟨_, .inr ⟨rfl, _, rfl, .inr ⟨rfl, rfl, .inr rfl, rfl, rfl⟩, loc_q (q_load1_ip rfl)⟩, ?_⟩
  refine ⟨_, .inr ⟨rfl, _, rfl, .inr ⟨rfl, rfl, .inr rfl, rfl, rfl⟩, loc_q (q_convB rfl)⟩, ?_⟩
  first | refine ⟨_, .inr ⟨rfl, _, rfl, .inr ⟨rfl, rfl, .inr rfl, rfl, rfl⟩, loc_q (q_add rfl rfl (by omega))⟩, ?_⟩
  first | refine ⟨_, .inr ⟨rfl, _, rfl, .inr ⟨rfl, rfl, .inr rfl, rfl, rfl⟩, loc_q (q_add rfl rfl (by omega))⟩, ?_⟩
  first | refine ⟨_, .inr ⟨rfl, _, rfl, .inr ⟨rfl, rfl, .inr rfl, rfl, rfl⟩, loc_q (q_mod rfl rfl (by omega) (by omega))⟩, ?_⟩
  refine ⟨rfl, ?_⟩
  refine ax_q (q_nilck_ptr rfl) ?_
  refine ax_q (q_fadr_ptr rfl) ?_
  refine ax_e (e_st rfl rfl rfl rfl rfl rfl rfl) ?_
  refine ax_nil (cx_keep rfl rfl (cx_seq (cx_draw ?_)))
  refine ax_q (q_mov rfl) ?_
  refine ax_q (q_nilck_ptr rfl) ?_
  refine ax_q (q_fadr_ptr rfl) ?_
  refine ax_q (q_load1_ptr rfl rfl rfl) ?_
  refine ax_q (q_mov rfl) ?_
  refine ax_q (q_nilck_ptr rfl) ?_
  refine ax_q (q_fadr_ptr rfl) ?_
  refine ax_q (q_load1_ptr rfl rfl rfl) ?_
  refine ax_q (q_sub rfl rfl (by omega)) ?_
  refine ax_q (q_ixI rfl rfl (by omega) (mapAt hi)) ?_
  first | refine ax_q (q_load1_ptr rfl rfl rfl) ?_ | refine ax_q (q_load1_ip rfl) ?_
  refine ax_q (q_convB rfl) ?_
  refine ax_q (q_mov rfl) ?_
  refine ax_nil (cx_keep rfl rfl ?_)
  refine cx_ret (retN id [1000] rfl rfl rfl rfl rfl ?_)
  rw [byteF_1 h0, hg]; exact ⟨rfl, rfl⟩
 ·
  have h0 := dF h0
  refine cx_skip ?_
  refine cx_keep rfl rfl (cx_seq (cx_seq (cx_ops ?_)))
  refine ax_q (q_mov rfl) ?_
  refine ax_q (q_nilck_ptr rfl) ?_
  refine ax_q (q_fadr_ptr rfl) ?_
  refine ax_q (q_load1_ptr rfl rfl rfl) ?_
  refine ax_q (q_ibin rfl rfl rfl) ?_
  refine ax_nil (cx_keep rfl rfl ?_)
  refine cx_cond rfl (fun h1 => ?_) (fun h1 => ?_)
  ·
   have h1 := dT h1
   refine cx_seq (cx_ops ?_)
   refine ax_q (q_mov rfl) ?_
   refine ax_nil (cx_keep rfl rfl ?_)
   refine cx_ret (retN id [1000] rfl rfl rfl rfl rfl ?_)
   rw [byteF_2 h0 h1]; exact ⟨rfl, rfl⟩
  ·
   have h1 := dF h1
   refine cx_skip ?_
   refine cx_keep rfl rfl (cx_seq (cx_ops ?_))
   refine ax_q (q_mov rfl) ?_
   refine ax_q (q_mov rfl) ?_
   refine ax_q (q_nilck_ptr rfl) ?_
   refine ax_q (q_fadr_ptr rfl) ?_
   refine ax_q (q_load1_ptr rfl rfl rfl) ?_
   refine ax_q (q_mul rfl rfl (by omega)) ?_
   refine ax_q (q_add rfl rfl (by omega)) ?_
   refine ax_q (q_mod rfl rfl (by omega) (by omega)) ?_
   refine ax_q (q_nilck_ptr rfl) ?_
   refine ax_q (q_fadr_ptr rfl) ?_
   refine ax_e (e_st rfl rfl rfl rfl rfl rfl rfl) ?_
   refine ax_nil (cx_keep rfl rfl (cx_seq (cx_ops ?_)))
   refine ax_q (q_mov rfl) ?_
   refine ax_q (q_nilck_ptr rfl) ?_
   refine ax_q (q_fadr_ptr rfl) ?_
   refine ax_q (q_load1_ptr rfl rfl rfl) ?_
   refine ax_q (q_div rfl rfl (by omega) (by omega) (by omega)) ?_
   refine ax_q (q_mod rfl rfl (by omega) (by omega)) ?_
   refine ax_q (q_mov rfl) ?_
   refine ax_nil (cx_keep rfl rfl ?_)
   refine cx_ret (retN id [1000] rfl rfl rfl rfl rfl ?_)
   rw [byteF_3 h0 h1]; exact ⟨rfl, rfl⟩


/- (ptr loop.example/g00332/spec.l00Src).next -/
def k_c_next : XCode :=
 .seq (.ops [.op (some 4) (.mov (.k (.int .i64 0)))])
 (.keep [0, 1] (.seq (.seq (.ops [.op (some 8) (.mov (.t 1)),
   .op (some 9) (.bin .leq (.t 8) (.k (.int .i64 1)))])
  (.keep [0, 1, 9] (.cond (.t 9)
  (.seq (.ops [.op (some 4) (.mov (.k (.int .i64 0)))])
   (.keep [4] (.ret)))
  (.skip))))
 (.keep [0, 1] (.seq (.seq (.ops [.op (some 10) (.mov (.t 1)),
   .op (some 11) (.bin .leq (.t 10) (.k (.int .i64 256)))])
  (.keep [0, 1, 11] (.cond (.t 11)
  (.seq (.ops [.op (some 12) (.mov (.t 0)),
    .call (some 13) 85 [.t 12],
    .op (some 14) (.mov (.t 1)),
    .op (some 15) (.bin .rem (.t 13) (.t 14)),
    .op (some 4) (.mov (.t 15))])
   (.keep [4] (.ret)))
  (.skip))))
 (.keep [0, 1] (.seq (.ops [.op (some 16) (.mov (.t 0)),
   .call (some 17) 85 [.t 16],
   .op (some 5) (.mov (.t 17))])
 (.keep [0, 1, 5] (.seq (.ops [.op (some 18) (.mov (.t 0)),
   .call (some 19) 85 [.t 18],
   .op (some 6) (.mov (.t 19))])
 (.keep [0, 1, 5, 6] (.seq (.ops [.op (some 20) (.mov (.t 0)),
   .call (some 21) 85 [.t 20],
   .op (some 7) (.mov (.t 21))])
 (.keep [1, 5, 6, 7] (.seq (.ops [.op (some 22) (.mov (.t 5)),
   .op (some 23) (.bin .mul (.t 22) (.k (.int .i64 65536))),
   .op (some 24) (.mov (.t 6)),
   .op (some 25) (.bin .mul (.t 24) (.k (.int .i64 256))),
   .op (some 26) (.bin .add (.t 23) (.t 25)),
   .op (some 27) (.mov (.t 7)),
   .op (some 28) (.bin .add (.t 26) (.t 27)),
   .op (some 29) (.mov (.t 1)),
   .op (some 30) (.bin .rem (.t 28) (.t 29)),
   .op (some 4) (.mov (.t 30))])
 (.keep [4] (.ret))))))))))))))
theorem k_c_next_fits : fitsF Tryz.prog 48 ⟨31, k_c_next, [.t 4]⟩ = true := by kernel_rfl
theorem c_next {s : Src} {m : Int} {n : Nat} (hs : s.ok (n + 3)) : Con Tryz.prog noMv 48 [.ptr 1000 0, int m] (s.h 1000) (fun r h => r = int (nextF s m).1 ∧ h = ((nextF s m).2).h 1000) := by
 refine con_of2 k_c_next_fits rfl fun C hP hmv => ?_
 unfold k_c_next
 refine cx_seq (cx_ops ?_)
 refine ax_q (q_mov rfl) ?_
 refine ax_nil (cx_keep rfl rfl (cx_seq (cx_seq (cx_ops ?_))))
 refine ax_q (q_mov rfl) ?_
 refine ax_q (q_ibin rfl rfl rfl) ?_
 refine ax_nil (cx_keep rfl rfl ?_)
 refine cx_cond rfl (fun h0 => ?_) (fun h0 => ?_)
 ·
  have h0 := dT h0
  refine cx_seq (cx_ops ?_)
  refine ax_q (q_mov rfl) ?_
  refine ax_nil (cx_keep rfl rfl ?_)
  refine cx_ret (retN id [1000] rfl rfl rfl rfl rfl ?_)
  rw [nextF_1 h0]; exact ⟨rfl, rfl⟩
 ·
  have h0 := dF h0
  refine cx_skip ?_
  refine cx_keep rfl rfl (cx_seq (cx_seq (cx_ops ?_)))
  refine ax_q (q_mov rfl) ?_
  refine ax_q (q_ibin rfl rfl rfl) ?_
  refine ax_nil (cx_keep rfl rfl ?_)
  refine cx_cond rfl (fun h1 => ?_) (fun h1 => ?_)
  ·
   have h1 := dT h1
   refine cx_seq (cx_ops ?_)
   refine ax_q (q_mov rfl) ?_
   obtain ⟨k1, k2, k3⟩ := byteF_ok (n := n + 2) hs
   refine ax_call rfl (vcall_own (c_byte (n := n + 2) ?_) hP hmv false (fun _ => 1000) [1000] ⟨rfl, rfl, rfl, rfl, ⟨rfl, trivial⟩, rfl, rfl, rfl⟩ (.pass rfl rfl .nil) ?_)
   ·
    assumption
   rintro r h ⟨rfl, rfl⟩
   refine ⟨fun _ => 1000, [], ⟨rfl, rfl, rfl, rfl, mem1 rfl, rfl, rfl, fun h => absurd h Bool.false_ne_true⟩, ?_⟩
   refine ax_q (q_mov rfl) ?_
   refine ax_q (q_mod rfl rfl (by omega) (by omega)) ?_
   refine ax_q (q_mov rfl) ?_
   refine ax_nil (cx_keep rfl rfl ?_)
   refine cx_ret (retN id [1000] rfl rfl rfl rfl rfl ?_)
   rw [nextF_2 h0 h1]; exact ⟨rfl, rfl⟩
  ·
   have h1 := dF h1
   refine cx_skip ?_
   refine cx_keep rfl rfl (cx_seq (cx_ops ?_))
   refine ax_q (q_mov rfl) ?_
   obtain ⟨k1, k2, k3⟩ := byteF_ok (n := n + 2) hs
   obtain ⟨k4, k5, k6⟩ := byteF_ok (n := n + 1) k1
   obtain ⟨k7, k8, k9⟩ := byteF_ok (n := n) k4
   refine ax_call rfl (vcall_own (c_byte (n := n + 2) ?_) hP hmv false (fun _ => 1000) [1000] ⟨rfl, rfl, rfl, rfl, ⟨rfl, trivial⟩, rfl, rfl, rfl⟩ (.pass rfl rfl .nil) ?_)
   ·
    assumption
   rintro r h ⟨rfl, rfl⟩
   refine ⟨fun _ => 1000, [], ⟨rfl, rfl, rfl, rfl, mem1 rfl, rfl, rfl, fun h => absurd h Bool.false_ne_true⟩, ?_⟩
   refine ax_q (q_mov rfl) ?_
   refine ax_nil (cx_keep rfl rfl (cx_seq (cx_ops ?_)))
   refine ax_q (q_mov rfl) ?_
   refine ax_call rfl (vcall_own (c_byte (n := n + 1) ?_) hP hmv false (fun _ => 1000) [1000] ⟨rfl, rfl, rfl, rfl, ⟨rfl, trivial⟩, rfl, rfl, rfl⟩ (.pass rfl rfl .nil) ?_)
   ·
    assumption
   rintro r h ⟨rfl, rfl⟩
   refine ⟨fun _ => 1000, [], ⟨rfl, rfl, rfl, rfl, mem1 rfl, rfl, rfl, fun h => absurd h Bool.false_ne_true⟩, ?_⟩
   refine ax_q (q_mov rfl) ?_
   refine ax_nil (cx_keep rfl rfl (cx_seq (cx_ops ?_)))
   refine ax_q (q_mov rfl) ?_
   refine ax_call rfl (vcall_own (c_byte (n := n) ?_) hP hmv false (fun _ => 1000) [1000] ⟨rfl, rfl, rfl, rfl, ⟨rfl, trivial⟩, rfl, rfl, rfl⟩ (.pass rfl rfl .nil) ?_)
   ·
    assumption
   rintro r h ⟨rfl, rfl⟩
   refine ⟨fun _ => 1000, [], ⟨rfl, rfl, rfl, rfl, mem1 rfl, rfl, rfl, fun h => absurd h Bool.false_ne_true⟩, ?_⟩
   refine ax_q (q_mov rfl) ?_
   refine ax_nil (cx_keep rfl rfl (cx_seq (cx_ops ?_)))
   refine ax_q (q_mov rfl) ?_
   refine ax_q (q_mul rfl rfl (by omega)) ?_
   refine ax_q (q_mov rfl) ?_
   refine ax_q (q_mul rfl rfl (by omega)) ?_
   refine ax_q (q_add rfl rfl (by omega)) ?_
   refine ax_q (q_mov rfl) ?_
   refine ax_q (q_add rfl rfl (by omega)) ?_
   refine ax_q (q_mov rfl) ?_
   refine ax_q (q_mod rfl rfl (by omega) (by omega)) ?_
   refine ax_q (q_mov rfl) ?_
   refine ax_nil (cx_keep rfl rfl ?_)
   refine cx_ret (retN id [1000] rfl rfl rfl rfl rfl ?_)
   rw [nextF_3 h0 h1]; exact ⟨rfl, rfl⟩


/- (ptr loop.example/g00332/spec.l00Src).chance -/
def k_c_chance : XCode :=
 .seq (.ops [.op (some 4) (.mov (.k (.bool false)))])
 (.keep [0, 1] (.seq (.ops [.op (some 5) (.mov (.t 0)),
   .op (some 6) (.mov (.t 1)),
   .call (some 7) 48 [.t 5, .t 6],
   .op (some 8) (.mov (.t 1)),
   .op (some 9) (.bin .sub (.t 8) (.k (.int .i64 1))),
   .op (some 10) (.bin .eql (.t 7) (.t 9)),
   .op (some 4) (.mov (.t 10))])
 (.keep [4] (.ret))))
theorem k_c_chance_fits : fitsF Tryz.prog 69 ⟨11, k_c_chance, [.t 4]⟩ = true := by kernel_rfl
theorem c_chance {s : Src} {m : Int} {n : Nat} (hs : s.ok (n + 3)) (hm : 0 ≤ m ∧ m ≤ 1000000000) : Con Tryz.prog noMv 69 [.ptr 1000 0, int m] (s.h 1000) (fun r h => r = bool (chanceF s m).1 ∧ h = ((chanceF s m).2).h 1000) := by
 refine con_of2 k_c_chance_fits rfl fun C hP hmv => ?_
 unfold k_c_chance
 refine cx_seq (cx_ops ?_)
 refine ax_q (q_mov rfl) ?_
 refine ax_nil (cx_keep rfl rfl (cx_seq (cx_ops ?_)))
 refine ax_q (q_mov rfl) ?_
 refine ax_q (q_mov rfl) ?_
 refine ax_call rfl (vcall_own (c_next (n := n) ?_) hP hmv false (fun _ => 1000) [1000] ⟨rfl, rfl, rfl, rfl, ⟨rfl, trivial⟩, rfl, rfl, rfl⟩ (.pass rfl rfl (.pass rfl rfl .nil)) ?_)
 ·
  assumption
 rintro r h ⟨rfl, rfl⟩
 refine ⟨fun _ => 1000, [], ⟨rfl, rfl, rfl, rfl, mem1 rfl, rfl, rfl, fun h => absurd h Bool.false_ne_true⟩, ?_⟩
 refine ax_q (q_mov rfl) ?_
 refine ax_q (q_sub rfl rfl (by omega)) ?_
 refine ax_q (q_ibin rfl rfl rfl) ?_
 refine ax_q (q_mov rfl) ?_
 refine ax_nil (cx_keep rfl rfl ?_)
 refine cx_ret (retN id [1000] rfl rfl rfl rfl rfl ?_)
 exact ⟨rfl, rfl⟩


/- (ptr loop.example/g00332/spec.l00Src).pick -/
def k_c_pick : XCode :=
 .seq (.ops [.op (some 4) (.mov (.k (.str [])))])
 (.keep [0, 1] (.seq (.seq (.ops [.op (some 5) (.mov (.t 1)),
   .op (some 6) (.lenS (.t 5)),
   .op (some 7) (.bin .eql (.t 6) (.k (.int .i64 0)))])
  (.keep [0, 1, 7] (.cond (.t 7)
  (.seq (.ops [.op (some 4) (.mov (.k (.str [])))])
   (.keep [4] (.ret)))
  (.skip))))
 (.keep [0, 1] (.seq (.ops [.op (some 8) (.mov (.t 1)),
   .op (some 9) (.mov (.t 0)),
   .op (some 10) (.mov (.t 1)),
   .op (some 11) (.lenS (.t 10)),
   .call (some 12) 48 [.t 9, .t 11],
   .op (some 13) (.iadr 1 (.t 8) (.t 12)),
   .op (some 14) (.load1 (.t 13)),
   .op (some 4) (.mov (.t 14))])
 (.keep [4] (.ret))))))
theorem k_c_pick_fits : fitsF Tryz.prog 71 ⟨15, k_c_pick, [.t 4]⟩ = true := by kernel_rfl
theorem c_pick {s : Src} {ts : List Str} {n : Nat} (hs : s.ok (n + 3)) (ht : 1 ≤ ts.length ∧ ts.length ≤ 1000) : Con Tryz.prog noMv 71 [.ptr 1000 0, .d (.sl 1 (ts.map strRow))] (s.h 1000) (fun r h => r = str (pickF s ts).1 ∧ h = ((pickF s ts).2).h 1000) := by
 refine con_of2 k_c_pick_fits rfl fun C hP hmv => ?_
 unfold k_c_pick
 refine cx_seq (cx_ops ?_)
 refine ax_q (q_mov rfl) ?_
 refine ax_nil (cx_keep rfl rfl (cx_seq (cx_seq (cx_ops ?_))))
 refine ax_q (q_mov rfl) ?_
 refine ax_q (q_lenS_map rfl) ?_
 refine ax_q (q_ibin rfl rfl rfl) ?_
 refine ax_nil (cx_keep rfl rfl ?_)
 refine cx_cond rfl (fun h0 => ?_) (fun h0 => ?_)
 ·
  have h0 := dT h0
  exfalso; omega
 ·
  have h0 := dF h0
  refine cx_skip ?_
  refine cx_keep rfl rfl (cx_seq (cx_ops ?_))
  refine ax_q (q_mov rfl) ?_
  refine ax_q (q_mov rfl) ?_
  refine ax_q (q_mov rfl) ?_
  refine ax_q (q_lenS_map rfl) ?_
  obtain ⟨k1, k2, k3⟩ := nextF_ok (s := s) (n := ts.length) (k := n) hs
  have k3 := k3 (by omega)
  have hk : (nextF s ts.length).1.toNat < ts.length := by omega
  refine ax_call rfl (vcall_own (c_next (n := n) ?_) hP hmv false (fun _ => 1000) [1000] ⟨rfl, rfl, rfl, rfl, ⟨rfl, trivial⟩, rfl, rfl, rfl⟩ (.pass rfl rfl (.pass rfl rfl .nil)) ?_)
  ·
   assumption
  rintro r h ⟨rfl, rfl⟩
  refine ⟨fun _ => 1000, [], ⟨rfl, rfl, rfl, rfl, mem1 rfl, rfl, rfl, fun h => absurd h Bool.false_ne_true⟩, ?_⟩
  refine ax_q (q_ixI rfl rfl (by omega) (strAt hk)) ?_
  first | refine ax_q (q_load1_ptr rfl rfl rfl) ?_ | refine ax_q (q_load1_ip rfl) ?_
  refine ax_q (q_mov rfl) ?_
  refine ax_nil (cx_keep rfl rfl ?_)
  refine cx_ret (retN id [1000] rfl rfl rfl rfl rfl ?_)
  exact ⟨rfl, rfl⟩


/- (ptr loop.example/g00332/spec.l00Src).value -/
def k_c_value : XCode :=
 .seq (.ops [.op (some 2) (.alloc [.int .i64 0, .int .i64 0, .str []])])
 (.keep [0, 2] (.seq (.seq (.ops [.op (some 3) (.mov (.t 0)),
   .call (some 4) 48 [.t 3, .k (.int .i64 4)]])
  (.keep [0, 2, 4] (.block 0 (.seq (.ops [.op (some 6) (.bin .eql (.t 4) (.k (.int .i64 0))),
    .op (some 5) (.mov (.t 6))])
  (.keep [0, 2, 4, 5] (.cond (.t 5)
   (.seq (.ops [.op (some 7) (.build [.int .i64 0, .int .i64 0, .str []] []),
     .op none (.store 3 (.t 2) (.t 7))])
   (.keep [2] (.ret)))
   (.seq (.ops [.op (some 9) (.bin .eql (.t 4) (.k (.int .i64 1))),
     .op (some 8) (.mov (.t 9))])
   (.keep [0, 2, 8] (.cond (.t 8)
    (.seq (.ops [.op (some 10) (.mov (.t 0)),
      .op (some 11) (.bslice 1 [.k (.str []), .k (.str [97]), .k (.str [97, 98]), .k (.str [97, 98, 99]), .k (.str [98]), .k (.str [122, 122])]),
      .call (some 12) 71 [.t 10, .t 11],
      .op (some 13) (.build [.int .i64 0, .int .i64 0, .str []] [(0, 1, .k (.int .i64 2)), (2, 1, .t 12)]),
      .op none (.store 3 (.t 2) (.t 13))])
    (.keep [2] (.ret)))
    (.skip))))))))))
 (.keep [0, 2] (.seq (.ops [.op (some 14) (.mov (.t 0)),
   .call (some 15) 48 [.t 14, .k (.int .i64 20)],
   .op (some 16) (.bin .sub (.t 15) (.k (.int .i64 5))),
   .op (some 17) (.mov (.t 0)),
   .call (some 18) 48 [.t 17, .k (.int .i64 20)],
   .op (some 19) (.bslice 1 [.t 16, .t 18, .k (.int .i64 1000000000), .k (.int .i64 (-1000000000))]),
   .op (some 20) (.mov (.t 0)),
   .call (some 21) 48 [.t 20, .k (.int .i64 8)],
   .op (some 22) (.bin .quo (.t 21) (.k (.int .i64 2))),
   .op (some 23) (.iadr 1 (.t 19) (.t 22)),
   .op (some 24) (.load1 (.t 23)),
   .op (some 25) (.build [.int .i64 0, .int .i64 0, .str []] [(0, 1, .k (.int .i64 1)), (1, 1, .t 24)]),
   .op none (.store 3 (.t 2) (.t 25))])
 (.keep [2] (.ret))))))
theorem k_c_value_fits : fitsF Tryz.prog 84 ⟨26, k_c_value, [.cN 2 3]⟩ = true := by kernel_rfl
theorem c_value {s : Src} {n : Nat} (hs : s.ok (n + 12)) : Con Tryz.prog noMv 84 [.ptr 1000 0] (s.h 1000) (fun r h => r = (valueF s).1.av ∧ h = ((valueF s).2).h 1000) := by
 refine con_of2 k_c_value_fits rfl fun C hP hmv => ?_
 unfold k_c_value
 obtain ⟨k1, k2, k3⟩ := nextF_ok (s := s) (n := 4) (k := n + 9) hs
 have k3 := k3 (by omega)
 refine cx_seq (cx_ops ?_)
 refine ax_e (e_alloc (by decide) rfl rfl) ?_
 refine ax_nil (cx_keep rfl rfl (cx_seq (cx_seq (cx_ops ?_))))
 refine ax_q (q_mov rfl) ?_
 refine ax_call rfl (vcall_own (c_next (n := n + 9) ?_) hP hmv false (fun _ => 1000) [1000] ⟨rfl, rfl, rfl, rfl, ⟨rfl, trivial⟩, rfl, rfl, rfl⟩ (.pass rfl rfl (.pass rfl rfl .nil)) ?_)
 ·
  assumption
 rintro r h ⟨rfl, rfl⟩
 refine ⟨fun _ => 1000, [], ⟨rfl, rfl, rfl, rfl, mem1 rfl, rfl, rfl, fun h => absurd h Bool.false_ne_true⟩, ?_⟩
 refine ax_nil (cx_keep rfl rfl (cx_block (cx_seq (cx_ops ?_))))
 refine ax_q (q_ibin rfl rfl rfl) ?_
 refine ax_q (q_mov rfl) ?_
 refine ax_nil (cx_keep rfl rfl ?_)
 refine cx_cond rfl (fun h0 => ?_) (fun h0 => ?_)
 ·
  have h0 := dT h0
  refine cx_seq (cx_ops ?_)
  refine ax_q (q_build rfl) ?_
  refine ax_e (e_st rfl rfl rfl rfl rfl rfl rfl) ?_
  refine ax_nil (cx_keep rfl rfl ?_)
  refine cx_ret (retN id [1000] rfl rfl rfl rfl rfl ?_)
  unfold valueF; rw [if_pos h0]; exact ⟨rfl, rfl⟩
 ·
  have h0 := dF h0
  refine cx_seq (cx_ops ?_)
  refine ax_q (q_ibin rfl rfl rfl) ?_
  refine ax_q (q_mov rfl) ?_
  refine ax_nil (cx_keep rfl rfl ?_)
  refine cx_cond rfl (fun h1 => ?_) (fun h1 => ?_)
  ·
   have h1 := dT h1
   refine cx_seq (cx_ops ?_)
   refine ax_q (q_mov rfl) ?_
   refine ax_e (e_bslice rfl (by decide) rfl rfl) ?_
   refine ax_wk (wk_frz 11 11 rfl rfl (.whole rfl) rfl) ?_
   refine ax_call rfl (vcall_own (c_pick (ts := vTexts) (n := n) (k1.mono (by omega)) (by decide)) hP hmv false (fun _ => 1000) [1000] ⟨rfl, rfl, rfl, rfl, ⟨rfl, trivial⟩, rfl, rfl, rfl⟩ (.pass rfl rfl (.pass rfl rfl .nil)) ?_)
   rintro r h ⟨rfl, rfl⟩
   refine ⟨fun _ => 1000, [], ⟨rfl, rfl, rfl, rfl, mem1 rfl, rfl, rfl, fun h => absurd h Bool.false_ne_true⟩, ?_⟩
   refine ax_q (q_build rfl) ?_
   refine ax_e (e_st rfl rfl rfl rfl rfl rfl rfl) ?_
   refine ax_nil (cx_keep rfl rfl ?_)
   refine cx_ret (retN id [1000] rfl rfl rfl rfl rfl ?_)
   unfold valueF; rw [if_neg h0, if_pos h1]; exact ⟨rfl, rfl⟩
  ·
   have h1 := dF h1
   refine cx_skip ?_
   refine cx_keep rfl rfl (cx_seq (cx_ops ?_))
   refine ax_q (q_mov rfl) ?_
   obtain ⟨a1, a2, a3⟩ := nextF_ok (s := (nextF s 4).2) (n := 20) (k := n + 6) (k1.mono (by omega))
   have a3 := a3 (by omega)
   obtain ⟨b1, b2, b3⟩ := nextF_ok (s := (nextF (nextF s 4).2 20).2) (n := 20) (k := n + 3) (a1.mono (by omega))
   have b3 := b3 (by omega)
   obtain ⟨d1, d2, d3⟩ := nextF_ok (s := vSrc (nextF s 4).2) (n := 8) (k := n) b1
   have d3 := d3 (by omega)
   refine ax_call rfl (vcall_own (c_next (n := n + 6) ?_) hP hmv false (fun _ => 1000) [1000] ⟨rfl, rfl, rfl, rfl, ⟨rfl, trivial⟩, rfl, rfl, rfl⟩ (.pass rfl rfl (.pass rfl rfl .nil)) ?_)
   ·
    assumption
   rintro r h ⟨rfl, rfl⟩
   refine ⟨fun _ => 1000, [], ⟨rfl, rfl, rfl, rfl, mem1 rfl, rfl, rfl, fun h => absurd h Bool.false_ne_true⟩, ?_⟩
   refine ax_q (q_sub rfl rfl (by omega)) ?_
   refine ax_q (q_mov rfl) ?_
   refine ax_call rfl (vcall_own (c_next (n := n + 3) ?_) hP hmv false (fun _ => 1000) [1000] ⟨rfl, rfl, rfl, rfl, ⟨rfl, trivial⟩, rfl, rfl, rfl⟩ (.pass rfl rfl (.pass rfl rfl .nil)) ?_)
   ·
    assumption
   rintro r h ⟨rfl, rfl⟩
   refine ⟨fun _ => 1000, [], ⟨rfl, rfl, rfl, rfl, mem1 rfl, rfl, rfl, fun h => absurd h Bool.false_ne_true⟩, ?_⟩
   refine ax_e (e_bslice rfl (by decide) rfl rfl) ?_
   refine ax_q (q_mov rfl) ?_
   refine ax_call rfl (vcall_own (c_next (s := vSrc (nextF s 4).2) (n := n) ?_) hP hmv false (fun _ => 1000) [1000] ⟨rfl, rfl, rfl, rfl, ⟨rfl, trivial⟩, rfl, rfl, rfl⟩ (.pass rfl rfl (.pass rfl rfl .nil)) ?_)
   ·
    assumption
   rintro r h ⟨rfl, rfl⟩
   refine ⟨fun _ => 1000, [], ⟨rfl, rfl, rfl, rfl, mem1 rfl, rfl, rfl, fun h => absurd h Bool.false_ne_true⟩, ?_⟩
   refine ax_q (q_div rfl rfl (by omega) (by omega) (by omega)) ?_
   refine ax_q (q_ixoI rfl rfl (by omega) (by simp only [List.length_cons, List.length_nil]; omega)) ?_
   refine ax_q (q_load1_rptr rfl rfl (dAt (ds := vNums (nextF s 4).2) (by unfold vNums; simp only [List.length_cons, List.length_nil]; omega)) rfl) ?_
   refine ax_q (q_build rfl) ?_
   refine ax_e (e_st rfl rfl rfl rfl rfl rfl rfl) ?_
   refine ax_nil (cx_keep rfl rfl ?_)
   refine cx_ret (retN id [1000] rfl rfl rfl rfl rfl ?_)
   unfold valueF; rw [if_neg h0, if_neg h1]; exact ⟨rfl, rfl⟩


/- (ptr loop.example/g00332/spec.l00Src).node -/
def k_c_node : XCode :=
 .seq (.ops [.op (some 6) (.mov (.k (.nils 7)))])
 (.keep [0, 1, 2] (.seq (.seq (.ops [.op (some 8) (.mov (.t 2)),
   .op (some 9) (.bin .eql (.t 8) (.k (.int .i64 0))),
   .op (some 10) (.mov (.t 9)),
   .andor 13 false 2 10 [.op (some 11) (.mov (.t 0)), .call (some 12) 69 [.t 11, .k (.int .i64 3)]] (.t 12)])
  (.keep [0, 1, 2, 13] (.cond (.t 13)
  (.seq (.seq (.ops [.op (some 14) (.mov (.t 0)),
     .call (some 15) 69 [.t 14, .k (.int .i64 2)]])
   (.keep [0, 1, 15] (.cond (.t 15)
    (.seq (.ops [.op (some 16) (.mov (.t 1)),
      .op (some 17) (.mov (.t 0)),
      .call (some 18) 48 [.t 17, .k (.int .i64 3)],
      .op (some 19) (.build [.int .i64 0, .int .i64 0, .int .i64 0, .int .i64 0, .int .i64 0, .int .i64 0, .str []] [(0, 1, .k (.int .i64 2)), (3, 1, .t 18)]),
      .op (some 20) (.bslice 7 [.t 19]),
      .op (some 21) (.app 7 64 [.int .i64 0, .int .i64 0, .int .i64 0, .int .i64 0, .int .i64 0, .int .i64 0, .str []] (.t 16) (.t 20)),
      .op (some 6) (.mov (.t 21))])
    (.keep [6] (.ret)))
    (.skip))))
   (.keep [0, 1] (.seq (.ops [.op (some 22) (.mov (.t 1)),
    .op (some 23) (.mov (.t 0)),
    .call (some 24) 84 [.t 23],
    .op (some 25) (.build [.int .i64 0, .int .i64 0, .int .i64 0, .int .i64 0, .int .i64 0, .int .i64 0, .str []] [(0, 1, .k (.int .i64 1)), (4, 3, .t 24)]),
    .op (some 26) (.bslice 7 [.t 25]),
    .op (some 27) (.app 7 64 [.int .i64 0, .int .i64 0, .int .i64 0, .int .i64 0, .int .i64 0, .int .i64 0, .str []] (.t 22) (.t 26)),
    .op (some 6) (.mov (.t 27))])
   (.keep [6] (.ret)))))
  (.skip))))
 (.keep [0, 1, 2] (.seq (.seq (.ops [.op (some 28) (.mov (.t 0)),
   .call (some 29) 69 [.t 28, .k (.int .i64 4)]])
  (.keep [0, 1, 2, 29] (.cond (.t 29)
  (.seq (.ops [.op (some 30) (.mov (.t 0)),
    .op (some 31) (.mov (.t 1)),
    .op (some 32) (.mov (.t 2)),
    .op (some 33) (.bin .sub (.t 32) (.k (.int .i64 1))),
    .call (some 34) 47 [.t 30, .t 31, .t 33],
    .op (some 1) (.mov (.t 34))])
   (.keep [0, 1] (.seq (.ops [.op (some 35) (.mov (.t 1)),
    .op (some 36) (.mov (.t 0)),
    .call (some 37) 48 [.t 36, .k (.int .i64 3)],
    .op (some 38) (.bin .add (.k (.int .i64 3)) (.t 37)),
    .op (some 39) (.mov (.t 1)),
    .op (some 40) (.lenS (.t 39)),
    .op (some 41) (.bin .sub (.t 40) (.k (.int .i64 1))),
    .op (some 42) (.build [.int .i64 0, .int .i64 0, .int .i64 0, .int .i64 0, .int .i64 0, .int .i64 0, .str []] [(0, 1, .t 38), (1, 1, .t 41)]),
    .op (some 43) (.bslice 7 [.t 42]),
    .op (some 44) (.app 7 64 [.int .i64 0, .int .i64 0, .int .i64 0, .int .i64 0, .int .i64 0, .int .i64 0, .str []] (.t 35) (.t 43)),
    .op (some 6) (.mov (.t 44))])
   (.keep [6] (.ret)))))
  (.skip))))
 (.keep [0, 1, 2] (.seq (.ops [.op (some 45) (.mov (.t 0)),
   .op (some 46) (.mov (.t 1)),
   .op (some 47) (.mov (.t 2)),
   .op (some 48) (.bin .sub (.t 47) (.k (.int .i64 1))),
   .call (some 49) 47 [.t 45, .t 46, .t 48],
   .op (some 1) (.mov (.t 49))])
 (.keep [0, 1, 2] (.seq (.ops [.op (some 50) (.mov (.t 1)),
   .op (some 51) (.lenS (.t 50)),
   .op (some 52) (.bin .sub (.t 51) (.k (.int .i64 1))),
   .op (some 7) (.mov (.t 52))])
 (.keep [0, 1, 2, 7] (.seq (.ops [.op (some 53) (.mov (.t 0)),
   .op (some 54) (.mov (.t 1)),
   .op (some 55) (.mov (.t 2)),
   .op (some 56) (.bin .sub (.t 55) (.k (.int .i64 1))),
   .call (some 57) 47 [.t 53, .t 54, .t 56],
   .op (some 1) (.mov (.t 57))])
 (.keep [0, 1, 7] (.seq (.ops [.op (some 58) (.mov (.t 1)),
   .op (some 59) (.mov (.t 0)),
   .call (some 60) 48 [.t 59, .k (.int .i64 8)],
   .op (some 61) (.bin .add (.k (.int .i64 6)) (.t 60)),
   .op (some 62) (.mov (.t 7)),
   .op (some 63) (.mov (.t 1)),
   .op (some 64) (.lenS (.t 63)),
   .op (some 65) (.bin .sub (.t 64) (.k (.int .i64 1))),
   .op (some 66) (.build [.int .i64 0, .int .i64 0, .int .i64 0, .int .i64 0, .int .i64 0, .int .i64 0, .str []] [(0, 1, .t 61), (1, 1, .t 62), (2, 1, .t 65)]),
   .op (some 67) (.bslice 7 [.t 66]),
   .op (some 68) (.app 7 64 [.int .i64 0, .int .i64 0, .int .i64 0, .int .i64 0, .int .i64 0, .int .i64 0, .str []] (.t 58) (.t 67)),
   .op (some 6) (.mov (.t 68))])
 (.keep [6] (.ret))))))))))))))
theorem k_c_node_fits : fitsF Tryz.prog 47 ⟨69, k_c_node, [.t 6]⟩ = true := by kernel_rfl
set_option maxHeartbeats 4000000 in
theorem c_node {f d : Nat} {s : Src} {out : List GExprNode} {n : Nat} (hf : d < f) (hs : s.ok (n + bud d)) (hl : out.length + szB d ≤ 1000000) (hdb : d ≤ 1000) : Con Tryz.prog (fun e => Nat.beq e 1001) 47 [.ptr 1000 0, .osl 1001 7 0 out.length, int d] [(1000, s.box), (1001, .rows 7 (out.map GExprNode.row))] (fun r h => r = .osl 1001 7 0 (nodeF d s out).1.length ∧ h = [(1000, (nodeF d s out).2.box), (1001, .rows 7 ((nodeF d s out).1.map GExprNode.row))]) := by
 induction f generalizing d s out n with
 | zero => exact absurd hf (by omega)
 | succ f ih =>
  refine con_of2 k_c_node_fits rfl fun C hP hmv => ?_
  unfold k_c_node
  have hbu := bud_le d
  have hsz := szB_le d
  have hu := chanceF_ok (m := 3) (n := n + (bud d - 3)) (hs.mono (by omega))
  refine cx_seq (cx_ops ?_)
  refine ax_q (q_mov rfl) ?_
  refine ax_nil (cx_keep rfl rfl (cx_seq (cx_seq (cx_ops ?_))))
  refine ax_q (q_mov rfl) ?_
  refine ax_q (q_ibin rfl rfl rfl) ?_
  refine ax_q (q_mov rfl) ?_
  refine ax_orE rfl rfl (fun g => ?_) (fun g => ?_)
  ·
   have g := dT g
   refine ax_nil (cx_keep rfl rfl ?_)
   refine cx_cond rfl (fun h0 => ?_) (fun h0 => ?_)
   ·
    skip
    have hL : Src.ok s (n + 15) := hs.mono (by omega)
    have hd0 : d = 0 := by omega
    refine cx_seq (cx_seq (cx_ops ?_))
    refine ax_q (q_mov rfl) ?_
    have hL2 := chanceF_ok (m := 2) (n := n + 12) hL
    refine ax_call rfl (vcall_own (c_chance (s := s) (n := n + 12) ?_ ?_) hP hmv false (fun _ => 1000) [1000] ⟨rfl, rfl, rfl, rfl, ⟨rfl, trivial⟩, rfl, rfl, rfl⟩ (.pass rfl rfl (.pass rfl rfl .nil)) ?_)
    ·
     assumption
    ·
     first | assumption | omega
    rintro r h ⟨rfl, rfl⟩
    refine ⟨fun _ => 1000, [], ⟨rfl, rfl, rfl, rfl, mem1 rfl, rfl, rfl, fun h => absurd h Bool.false_ne_true⟩, ?_⟩
    refine ax_nil (cx_keep rfl rfl ?_)
    refine cx_cond rfl (fun h1 => ?_) (fun h1 => ?_)
    ·
     skip
     refine cx_seq (cx_ops ?_)
     refine ax_q (q_mov rfl) ?_
     refine ax_q (q_mov rfl) ?_
     refine ax_call rfl (vcall_own (c_next (s := (chanceF s 2).2) (n := n) ?_) hP hmv false (fun _ => 1000) [1000] ⟨rfl, rfl, rfl, rfl, ⟨rfl, trivial⟩, rfl, rfl, rfl⟩ (.pass rfl rfl (.pass rfl rfl .nil)) ?_)
     ·
      exact hL2.mono (by omega)
     rintro r h ⟨rfl, rfl⟩
     refine ⟨fun _ => 1000, [], ⟨rfl, rfl, rfl, rfl, mem1 rfl, rfl, rfl, fun h => absurd h Bool.false_ne_true⟩, ?_⟩
     refine ax_q (q_build rfl) ?_
     refine ax_e (e_bslice rfl (by decide) rfl rfl) ?_
     refine ax_e (e_appn (n' := (out ++ [(⟨2, 0, 0, (nextF (chanceF s 2).2 3).1, .zero⟩ : GExprNode)]).length) (rs' := (out ++ [(⟨2, 0, 0, (nextF (chanceF s 2).2 3).1, .zero⟩ : GExprNode)]).map GExprNode.row) rfl rfl (by simp) rfl (src_osl rfl (by simp)) (.inr (by rw [hmv]; rfl)) (hbnd (by omega) (by simp) (by decide)) (by simp) (app1 rfl)) ?_
     refine ax_q (q_mov rfl) ?_
     refine ax_nil (cx_keep rfl rfl ?_)
     refine cx_ret (retN id [1000, 1001] rfl rfl rfl rfl rfl ?_)
     rw [nodeF_0 hd0, leafF_1 h1]; exact ⟨rfl, rfl⟩
    ·
     skip
     refine cx_skip ?_
     refine cx_keep rfl rfl (cx_seq (cx_ops ?_))
     refine ax_q (q_mov rfl) ?_
     refine ax_q (q_mov rfl) ?_
     refine ax_call rfl (vcall_own (c_value (s := (chanceF s 2).2) (n := n) ?_) hP hmv false (fun _ => 1000) [1000] ⟨rfl, rfl, rfl, rfl, ⟨rfl, trivial⟩, rfl, rfl, rfl⟩ (.pass rfl rfl .nil) ?_)
     ·
      exact hL2
     rintro r h ⟨rfl, rfl⟩
     refine ⟨fun _ => 1000, [], ⟨rfl, rfl, rfl, rfl, mem1 rfl, rfl, rfl, fun h => absurd h Bool.false_ne_true⟩, ?_⟩
     refine ax_q (q_build rfl) ?_
     refine ax_e (e_bslice rfl (by decide) rfl rfl) ?_
     refine ax_e (e_appn (n' := (out ++ [(⟨1, 0, 0, 0, (valueF (chanceF s 2).2).1⟩ : GExprNode)]).length) (rs' := (out ++ [(⟨1, 0, 0, 0, (valueF (chanceF s 2).2).1⟩ : GExprNode)]).map GExprNode.row) rfl rfl (by simp) rfl (src_osl rfl (by simp)) (.inr (by rw [hmv]; rfl)) (hbnd (by omega) (by simp) (by decide)) (by simp) (app1 rfl)) ?_
     refine ax_q (q_mov rfl) ?_
     refine ax_nil (cx_keep rfl rfl ?_)
     refine cx_ret (retN id [1000, 1001] rfl rfl rfl rfl rfl ?_)
     rw [nodeF_0 hd0, leafF_2 h1]; exact ⟨rfl, rfl⟩
   ·
    skip
    exact absurd h0 (by decide)
  ·
   have g := dF g
   refine ax_q (q_mov rfl) ?_
   refine ax_call rfl (vcall_own (c_chance (n := n + (bud d - 3)) ?_ ?_) hP hmv false (fun _ => 1000) [1000] ⟨rfl, rfl, rfl, rfl, ⟨rfl, trivial⟩, rfl, rfl, rfl⟩ (.pass rfl rfl (.pass rfl rfl .nil)) ?_)
   ·
    exact hs.mono (by omega)
   ·
    first | assumption | omega
   rintro r h ⟨rfl, rfl⟩
   refine ⟨fun _ => 1000, [], ⟨rfl, rfl, rfl, rfl, mem1 rfl, rfl, rfl, fun h => absurd h Bool.false_ne_true⟩, ?_⟩
   refine ax_nil ⟨_, [(1000, (chanceF s 3).2.box), (1001, .rows 7 (out.map GExprNode.row))], rfl, by repeat constructor, ?_⟩
   refine ax_nil (cx_keep rfl rfl ?_)
   refine cx_cond rfl (fun h0 => ?_) (fun h0 => ?_)
   ·
    skip
    have hL : Src.ok (chanceF s 3).2 (n + 15) := hu.mono (by omega)
    have hd0 : ¬ d = 0 := by omega
    refine cx_seq (cx_seq (cx_ops ?_))
    refine ax_q (q_mov rfl) ?_
    have hL2 := chanceF_ok (m := 2) (n := n + 12) hL
    refine ax_call rfl (vcall_own (c_chance (s := (chanceF s 3).2) (n := n + 12) ?_ ?_) hP hmv false (fun _ => 1000) [1000] ⟨rfl, rfl, rfl, rfl, ⟨rfl, trivial⟩, rfl, rfl, rfl⟩ (.pass rfl rfl (.pass rfl rfl .nil)) ?_)
    ·
     assumption
    ·
     first | assumption | omega
    rintro r h ⟨rfl, rfl⟩
    refine ⟨fun _ => 1000, [], ⟨rfl, rfl, rfl, rfl, mem1 rfl, rfl, rfl, fun h => absurd h Bool.false_ne_true⟩, ?_⟩
    refine ax_nil (cx_keep rfl rfl ?_)
    refine cx_cond rfl (fun h1 => ?_) (fun h1 => ?_)
    ·
     skip
     refine cx_seq (cx_ops ?_)
     refine ax_q (q_mov rfl) ?_
     refine ax_q (q_mov rfl) ?_
     refine ax_call rfl (vcall_own (c_next (s := (chanceF (chanceF s 3).2 2).2) (n := n) ?_) hP hmv false (fun _ => 1000) [1000] ⟨rfl, rfl, rfl, rfl, ⟨rfl, trivial⟩, rfl, rfl, rfl⟩ (.pass rfl rfl (.pass rfl rfl .nil)) ?_)
     ·
      exact hL2.mono (by omega)
     rintro r h ⟨rfl, rfl⟩
     refine ⟨fun _ => 1000, [], ⟨rfl, rfl, rfl, rfl, mem1 rfl, rfl, rfl, fun h => absurd h Bool.false_ne_true⟩, ?_⟩
     refine ax_q (q_build rfl) ?_
     refine ax_e (e_bslice rfl (by decide) rfl rfl) ?_
     refine ax_e (e_appn (n' := (out ++ [(⟨2, 0, 0, (nextF (chanceF (chanceF s 3).2 2).2 3).1, .zero⟩ : GExprNode)]).length) (rs' := (out ++ [(⟨2, 0, 0, (nextF (chanceF (chanceF s 3).2 2).2 3).1, .zero⟩ : GExprNode)]).map GExprNode.row) rfl rfl (by simp) rfl (src_osl rfl (by simp)) (.inr (by rw [hmv]; rfl)) (hbnd (by omega) (by simp) (by decide)) (by simp) (app1 rfl)) ?_
     refine ax_q (q_mov rfl) ?_
     refine ax_nil (cx_keep rfl rfl ?_)
     refine cx_ret (retN id [1000, 1001] rfl rfl rfl rfl rfl ?_)
     rw [nodeF_1 hd0 h0, leafF_1 h1]; exact ⟨rfl, rfl⟩
    ·
     skip
     refine cx_skip ?_
     refine cx_keep rfl rfl (cx_seq (cx_ops ?_))
     refine ax_q (q_mov rfl) ?_
     refine ax_q (q_mov rfl) ?_
     refine ax_call rfl (vcall_own (c_value (s := (chanceF (chanceF s 3).2 2).2) (n := n) ?_) hP hmv false (fun _ => 1000) [1000] ⟨rfl, rfl, rfl, rfl, ⟨rfl, trivial⟩, rfl, rfl, rfl⟩ (.pass rfl rfl .nil) ?_)
     ·
      exact hL2
     rintro r h ⟨rfl, rfl⟩
     refine ⟨fun _ => 1000, [], ⟨rfl, rfl, rfl, rfl, mem1 rfl, rfl, rfl, fun h => absurd h Bool.false_ne_true⟩, ?_⟩
     refine ax_q (q_build rfl) ?_
     refine ax_e (e_bslice rfl (by decide) rfl rfl) ?_
     refine ax_e (e_appn (n' := (out ++ [(⟨1, 0, 0, 0, (valueF (chanceF (chanceF s 3).2 2).2).1⟩ : GExprNode)]).length) (rs' := (out ++ [(⟨1, 0, 0, 0, (valueF (chanceF (chanceF s 3).2 2).2).1⟩ : GExprNode)]).map GExprNode.row) rfl rfl (by simp) rfl (src_osl rfl (by simp)) (.inr (by rw [hmv]; rfl)) (hbnd (by omega) (by simp) (by decide)) (by simp) (app1 rfl)) ?_
     refine ax_q (q_mov rfl) ?_
     refine ax_nil (cx_keep rfl rfl ?_)
     refine cx_ret (retN id [1000, 1001] rfl rfl rfl rfl rfl ?_)
     rw [nodeF_1 hd0 h0, leafF_2 h1]; exact ⟨rfl, rfl⟩
   ·
    skip
    obtain ⟨k, rfl⟩ : ∃ k, d = k + 1 := ⟨d - 1, by omega⟩
    rw [bud] at hs hu hbu
    rw [szB] at hl hsz
    have hbk := bud_le k
    have hzk := szB_le k
    refine cx_skip ?_
    refine cx_keep rfl rfl (cx_seq (cx_seq (cx_ops ?_)))
    refine ax_q (q_mov rfl) ?_
    refine ax_call rfl (vcall_own (c_chance (s := (chanceF s 3).2) (n := n + (2 * bud k + 3)) ?_ ?_) hP hmv false (fun _ => 1000) [1000] ⟨rfl, rfl, rfl, rfl, ⟨rfl, trivial⟩, rfl, rfl, rfl⟩ (.pass rfl rfl (.pass rfl rfl .nil)) ?_)
    ·
     exact hu.mono (by omega)
    ·
     first | assumption | omega
    rintro r h ⟨rfl, rfl⟩
    refine ⟨fun _ => 1000, [], ⟨rfl, rfl, rfl, rfl, mem1 rfl, rfl, rfl, fun h => absurd h Bool.false_ne_true⟩, ?_⟩
    have hv : Src.ok (uS s) (n + (2 * bud k + 3)) := chanceF_ok (m := 4) (n := n + (2 * bud k + 3)) (hu.mono (by omega))
    obtain ⟨p1, p2, p3⟩ := nodeF_ok (d := k) (s := uS s) (out := out) (n := n + (bud k + 3)) (hv.mono (by omega))
    refine ax_nil (cx_keep rfl rfl ?_)
    refine cx_cond rfl (fun h2 => ?_) (fun h2 => ?_)
    ·
     skip
     refine cx_seq (cx_ops ?_)
     refine ax_q (q_mov rfl) ?_
     refine ax_q (q_mov rfl) ?_
     refine ax_q (q_mov rfl) ?_
     refine ax_qe (r' := int ((k : Nat) : Int)) (q_ibin rfl rfl rfl) (by rw [wi (by omega) (by omega)]; exact congrArg AM.int (by omega)) ?_
     refine ax_call rfl (vcall_own (ih (d := k) (s := uS s) (out := out) (n := n + (bud k + 3)) (by omega) (by exact hv.mono (by omega)) (by omega) (by omega)) hP hmv false (fun e => bif Nat.beq e 1000 then 1000 else 1001) [1000, 1001] ⟨rfl, rfl, rfl, rfl, ⟨rfl, rfl, trivial⟩, rfl, rfl, rfl⟩ (.pass rfl rfl (.pass rfl rfl (.pass rfl rfl .nil))) ?_)
     rintro r h ⟨rfl, rfl⟩
     refine ⟨(fun e => bif Nat.beq e 1000 then 1000 else 1001), [], ⟨rfl, rfl, rfl, rfl, mem2 rfl rfl, rfl, rfl, fun h => absurd h Bool.false_ne_true⟩, ?_⟩
     refine ax_q (q_mov rfl) ?_
     refine ax_nil (cx_keep rfl rfl (cx_seq (cx_ops ?_)))
     refine ax_q (q_mov rfl) ?_
     refine ax_q (q_mov rfl) ?_
     refine ax_call rfl (vcall_own (c_next (s := (nodeF k (uS s) out).2) (n := n) ?_) hP hmv false (fun _ => 1000) [1000] ⟨rfl, rfl, rfl, rfl, ⟨rfl, trivial⟩, rfl, rfl, rfl⟩ (.pass rfl rfl (.pass rfl rfl .nil)) ?_)
     ·
      exact p1.mono (by omega)
     rintro r h ⟨rfl, rfl⟩
     refine ⟨fun _ => 1000, [], ⟨rfl, rfl, rfl, rfl, mem1 rfl, rfl, rfl, fun h => absurd h Bool.false_ne_true⟩, ?_⟩
     obtain ⟨x1, x2, x3⟩ := nextF_ok (s := (nodeF k (uS s) out).2) (n := 3) (k := n) (p1.mono (by omega))
     have x3 := x3 (by omega)
     refine ax_q (q_add rfl rfl (by omega)) ?_
     refine ax_q (q_mov rfl) ?_
     first | refine ax_q (q_lenS_map rfl) ?_ | refine ax_q (q_lenS_osl rfl) ?_
     refine ax_q (q_sub rfl rfl (by omega)) ?_
     refine ax_q (q_build rfl) ?_
     refine ax_e (e_bslice rfl (by decide) rfl rfl) ?_
     refine ax_e (e_appn (n' := ((nodeF k (uS s) out).1 ++ [(⟨3 + (nextF (nodeF k (uS s) out).2 3).1, ((nodeF k (uS s) out).1.length : Int) - 1, 0, 0, .zero⟩ : GExprNode)]).length) (rs' := ((nodeF k (uS s) out).1 ++ [(⟨3 + (nextF (nodeF k (uS s) out).2 3).1, ((nodeF k (uS s) out).1.length : Int) - 1, 0, 0, .zero⟩ : GExprNode)]).map GExprNode.row) rfl rfl (by simp) rfl (src_osl rfl (by simp)) (.inr (by rw [hmv]; rfl)) (hbnd (by omega) (by simp) (by decide)) (by simp) (app1 rfl)) ?_
     refine ax_q (q_mov rfl) ?_
     refine ax_nil (cx_keep rfl rfl ?_)
     refine cx_ret (retN id [1000, 1001] rfl rfl rfl rfl rfl ?_)
     rw [nodeF_2 h0 h2]; exact ⟨rfl, rfl⟩
    ·
     skip
     refine cx_skip ?_
     refine cx_keep rfl rfl (cx_seq (cx_ops ?_))
     refine ax_q (q_mov rfl) ?_
     refine ax_q (q_mov rfl) ?_
     refine ax_q (q_mov rfl) ?_
     refine ax_qe (r' := int ((k : Nat) : Int)) (q_ibin rfl rfl rfl) (by rw [wi (by omega) (by omega)]; exact congrArg AM.int (by omega)) ?_
     refine ax_call rfl (vcall_own (ih (d := k) (s := uS s) (out := out) (n := n + (bud k + 3)) (by omega) (by exact hv.mono (by omega)) (by omega) (by omega)) hP hmv false (fun e => bif Nat.beq e 1000 then 1000 else 1001) [1000, 1001] ⟨rfl, rfl, rfl, rfl, ⟨rfl, rfl, trivial⟩, rfl, rfl, rfl⟩ (.pass rfl rfl (.pass rfl rfl (.pass rfl rfl .nil))) ?_)
     rintro r h ⟨rfl, rfl⟩
     refine ⟨(fun e => bif Nat.beq e 1000 then 1000 else 1001), [], ⟨rfl, rfl, rfl, rfl, mem2 rfl rfl, rfl, rfl, fun h => absurd h Bool.false_ne_true⟩, ?_⟩
     refine ax_q (q_mov rfl) ?_
     refine ax_nil (cx_keep rfl rfl (cx_seq (cx_ops ?_)))
     refine ax_q (q_mov rfl) ?_
     first | refine ax_q (q_lenS_map rfl) ?_ | refine ax_q (q_lenS_osl rfl) ?_
     refine ax_q (q_sub rfl rfl (by omega)) ?_
     refine ax_q (q_mov rfl) ?_
     refine ax_nil (cx_keep rfl rfl (cx_seq (cx_ops ?_)))
     refine ax_q (q_mov rfl) ?_
     refine ax_q (q_mov rfl) ?_
     refine ax_q (q_mov rfl) ?_
     obtain ⟨w1, w2, w3⟩ := nodeF_ok (d := k) (s := (nodeF k (uS s) out).2) (out := (nodeF k (uS s) out).1) (n := n + 3) (p1.mono (by omega))
     refine ax_qe (r' := int ((k : Nat) : Int)) (q_ibin rfl rfl rfl) (by rw [wi (by omega) (by omega)]; exact congrArg AM.int (by omega)) ?_
     refine ax_call rfl (vcall_own (ih (d := k) (s := (nodeF k (uS s) out).2) (out := (nodeF k (uS s) out).1) (n := n + 3) (by omega) (by exact p1.mono (by omega)) (by omega) (by omega)) hP hmv false (fun e => bif Nat.beq e 1000 then 1000 else 1001) [1000, 1001] ⟨rfl, rfl, rfl, rfl, ⟨rfl, rfl, trivial⟩, rfl, rfl, rfl⟩ (.pass rfl rfl (.pass rfl rfl (.pass rfl rfl .nil))) ?_)
     rintro r h ⟨rfl, rfl⟩
     refine ⟨(fun e => bif Nat.beq e 1000 then 1000 else 1001), [], ⟨rfl, rfl, rfl, rfl, mem2 rfl rfl, rfl, rfl, fun h => absurd h Bool.false_ne_true⟩, ?_⟩
     refine ax_q (q_mov rfl) ?_
     refine ax_nil (cx_keep rfl rfl (cx_seq (cx_ops ?_)))
     refine ax_q (q_mov rfl) ?_
     refine ax_q (q_mov rfl) ?_
     refine ax_call rfl (vcall_own (c_next (s := (nodeF k (nodeF k (uS s) out).2 (nodeF k (uS s) out).1).2) (n := n) ?_) hP hmv false (fun _ => 1000) [1000] ⟨rfl, rfl, rfl, rfl, ⟨rfl, trivial⟩, rfl, rfl, rfl⟩ (.pass rfl rfl (.pass rfl rfl .nil)) ?_)
     ·
      exact w1
     rintro r h ⟨rfl, rfl⟩
     refine ⟨fun _ => 1000, [], ⟨rfl, rfl, rfl, rfl, mem1 rfl, rfl, rfl, fun h => absurd h Bool.false_ne_true⟩, ?_⟩
     obtain ⟨x1, x2, x3⟩ := nextF_ok (s := (nodeF k (nodeF k (uS s) out).2 (nodeF k (uS s) out).1).2) (n := 8) (k := n) w1
     have x3 := x3 (by omega)
     refine ax_q (q_add rfl rfl (by omega)) ?_
     refine ax_q (q_mov rfl) ?_
     refine ax_q (q_mov rfl) ?_
     first | refine ax_q (q_lenS_map rfl) ?_ | refine ax_q (q_lenS_osl rfl) ?_
     refine ax_q (q_sub rfl rfl (by omega)) ?_
     refine ax_q (q_build rfl) ?_
     refine ax_e (e_bslice rfl (by decide) rfl rfl) ?_
     refine ax_e (e_appn (n' := ((nodeF k (nodeF k (uS s) out).2 (nodeF k (uS s) out).1).1 ++ [(⟨6 + (nextF (nodeF k (nodeF k (uS s) out).2 (nodeF k (uS s) out).1).2 8).1, ((nodeF k (uS s) out).1.length : Int) - 1, ((nodeF k (nodeF k (uS s) out).2 (nodeF k (uS s) out).1).1.length : Int) - 1, 0, .zero⟩ : GExprNode)]).length) (rs' := ((nodeF k (nodeF k (uS s) out).2 (nodeF k (uS s) out).1).1 ++ [(⟨6 + (nextF (nodeF k (nodeF k (uS s) out).2 (nodeF k (uS s) out).1).2 8).1, ((nodeF k (uS s) out).1.length : Int) - 1, ((nodeF k (nodeF k (uS s) out).2 (nodeF k (uS s) out).1).1.length : Int) - 1, 0, .zero⟩ : GExprNode)]).map GExprNode.row) rfl rfl (by simp) rfl (src_osl rfl (by simp)) (.inr (by rw [hmv]; rfl)) (hbnd (by omega) (by simp) (by decide)) (by simp) (app1 rfl)) ?_
     refine ax_q (q_mov rfl) ?_
     refine ax_nil (cx_keep rfl rfl ?_)
     refine cx_ret (retN id [1000, 1001] rfl rfl rfl rfl rfl ?_)
     rw [nodeF_3 h0 h2]; exact ⟨rfl, rfl⟩


/- (ptr loop.example/g00332/spec.l00Src).expr -/
def k_c_expr : XCode :=
 .seq (.ops [.op (some 2) (.alloc [.nils 7])])
 (.keep [0, 2] (.seq (.ops [.op (some 3) (.mov (.t 0)),
   .op (some 4) (.bslice 7 []),
   .op (some 5) (.mov (.t 0)),
   .call (some 6) 48 [.t 5, .k (.int .i64 4)],
   .op (some 7) (.bin .add (.k (.int .i64 1)) (.t 6)),
   .call (some 8) 47 [.t 3, .t 4, .t 7],
   .op (some 9) (.build [.nils 7] [(0, 1, .t 8)]),
   .op none (.store 1 (.t 2) (.t 9))])
 (.keep [2] (.ret))))
theorem k_c_expr_fits : fitsF Tryz.prog 24 ⟨10, k_c_expr, [.cN 2 1]⟩ = true := by kernel_rfl
theorem c_expr {s : Src} (hs : s.ok 1000) : Con Tryz.prog noMv 24 [.ptr 1000 0] [(1000, s.box)] (fun r h => r = .agg [.osl 0 7 0 (exprG s).1.length] ∧ h = [(0, .rows 7 ((exprG s).1.map GExprNode.row)), (1000, (exprG s).2.box)]) := by
 refine con_of2 k_c_expr_fits rfl fun C hP hmv => ?_
 unfold k_c_expr
 obtain ⟨k1, k2, k3, k4⟩ := exD_ok (n := 997) hs
 have hbd := bud4 k4
 refine cx_seq (cx_ops ?_)
 refine ax_e (e_alloc (by decide) rfl rfl) ?_
 refine ax_nil (cx_keep rfl rfl (cx_seq (cx_ops ?_)))
 refine ax_q (q_mov rfl) ?_
 refine ax_e (e_bslice rfl (by decide) rfl rfl) ?_
 refine ax_q (q_mov rfl) ?_
 refine ax_call rfl (vcall_own (c_next (n := 997) ?_) hP hmv false (fun _ => 1000) [1000] ⟨rfl, rfl, rfl, rfl, ⟨rfl, trivial⟩, rfl, rfl, rfl⟩ (.pass rfl rfl (.pass rfl rfl .nil)) ?_)
 ·
  assumption
 rintro r h ⟨rfl, rfl⟩
 refine ⟨fun _ => 1000, [], ⟨rfl, rfl, rfl, rfl, mem1 rfl, rfl, rfl, fun h => absurd h Bool.false_ne_true⟩, ?_⟩
 refine ax_qe (r' := int ((exD s : Nat) : Int)) (q_ibin rfl rfl rfl) (by rw [wi (by omega) (by omega)]; exact congrArg AM.int k2.symm) ?_
 refine ax_call rfl (vcall_own (c_node (f := exD s + 1) (d := exD s) (s := (nextF s 4).2) (out := []) (n := 0) (by omega) (k1.mono (by omega)) (by simp only [List.length_nil]; omega) (by omega)) hP hmv false (fun e => bif Nat.beq e 1000 then 1000 else 4) [1000, 1001] ⟨rfl, rfl, rfl, rfl, ⟨rfl, rfl, trivial⟩, rfl, rfl, rfl⟩ (.pass rfl rfl (.pass rfl rfl (.pass rfl rfl .nil))) ?_)
 rintro r h ⟨rfl, rfl⟩
 refine ⟨(fun e => bif Nat.beq e 1000 then 1000 else 4), [], ⟨rfl, rfl, rfl, rfl, mem2 rfl rfl, rfl, rfl, fun h => absurd h Bool.false_ne_true⟩, ?_⟩
 refine ax_q (q_build rfl) ?_
 refine ax_e (e_st rfl rfl rfl rfl rfl rfl rfl) ?_
 refine ax_nil (cx_keep rfl rfl ?_)
 refine cx_ret (retN (fun e => bif Nat.beq e 4 then 0 else e) [4, 1000] rfl rfl rfl rfl rfl ?_)
 exact ⟨rfl, rfl⟩


/- (ptr loop.example/g00332/spec.l00Src).row -/
def k_c_row : XCode :=
 .seq (.ops [.op (some 2) (.alloc [.int .i64 0, .int .i64 0, .int .i64 0, .str [], .int .i64 0, .int .i64 0, .str []])])
 (.keep [0, 2] (.seq (.ops [.op (some 4) (.mov (.t 0)),
   .call (some 5) 48 [.t 4, .k (.int .i64 6)],
   .op (some 6) (.mov (.t 0)),
   .call (some 7) 84 [.t 6],
   .op (some 8) (.mov (.t 0)),
   .call (some 9) 84 [.t 8],
   .op (some 10) (.build [.int .i64 0, .int .i64 0, .int .i64 0, .str [], .int .i64 0, .int .i64 0, .str []] [(0, 1, .t 5), (1, 3, .t 7), (4, 3, .t 9)]),
   .op (some 3) (.alloc [.int .i64 0, .int .i64 0, .int .i64 0, .str [], .int .i64 0, .int .i64 0, .str []]),
   .op none (.store 7 (.t 3) (.t 10))])
 (.keep [0, 2, 3] (.seq (.seq (.ops [.op (some 11) (.fadr (.t 3) 1),
   .op (some 12) (.fadr (.t 11) 0),
   .op (some 13) (.load1 (.t 12)),
   .op (some 14) (.bin .eql (.t 13) (.k (.int .i64 2)))])
  (.keep [0, 2, 3, 14] (.cond (.t 14)
  (.ops [.op (some 15) (.mov (.t 0)),
    .call (some 16) 48 [.t 15, .k (.int .i64 9)],
    .op (some 17) (.build [.int .i64 0, .int .i64 0, .str []] [(0, 1, .k (.int .i64 1)), (1, 1, .t 16)]),
    .op (some 18) (.fadr (.t 3) 1),
    .op none (.store 3 (.t 18) (.t 17))])
  (.skip))))
 (.keep [0, 2, 3] (.seq (.seq (.ops [.op (some 19) (.fadr (.t 3) 4),
   .op (some 20) (.fadr (.t 19) 0),
   .op (some 21) (.load1 (.t 20)),
   .op (some 22) (.bin .eql (.t 21) (.k (.int .i64 1)))])
  (.keep [0, 2, 3, 22] (.cond (.t 22)
  (.ops [.op (some 23) (.mov (.t 0)),
    .op (some 24) (.bslice 1 [.k (.str [97]), .k (.str [98]), .k (.str [110, 97, 109, 101])]),
    .call (some 25) 71 [.t 23, .t 24],
    .op (some 26) (.build [.int .i64 0, .int .i64 0, .str []] [(0, 1, .k (.int .i64 2)), (2, 1, .t 25)]),
    .op (some 27) (.fadr (.t 3) 4),
    .op none (.store 3 (.t 27) (.t 26))])
  (.skip))))
 (.keep [2, 3] (.seq (.ops [.op (some 28) (.loadN 7 (.t 3)),
   .op none (.store 7 (.t 2) (.t 28))])
 (.keep [2] (.ret))))))))))
theorem k_c_row_fits : fitsF Tryz.prog 68 ⟨29, k_c_row, [.cN 2 7]⟩ = true := by kernel_rfl
theorem c_row {s : Src} {n : Nat} (hs : s.ok (n + 33)) : Con Tryz.prog noMv 68 [.ptr 1000 0] (s.h 1000) (fun r h => r = (rowF s).1.av ∧ h = ((rowF s).2).h 1000) := by
 refine con_of2 k_c_row_fits rfl fun C hP hmv => ?_
 unfold k_c_row
 obtain ⟨k1, k2, k3⟩ := nextF_ok (s := s) (n := 6) (k := n + 30) hs
 obtain ⟨k4, k5⟩ := valueF_ok (n := n + 18) k1
 obtain ⟨k6, k7⟩ := valueF_ok (n := n + 6) k4
 obtain ⟨k8, k9, k10⟩ := rowN_ok (s := rowS0 s) (n := n + 3) k5 k6
 refine cx_seq (cx_ops ?_)
 refine ax_e (e_alloc (by decide) rfl rfl) ?_
 refine ax_nil (cx_keep rfl rfl (cx_seq (cx_ops ?_)))
 refine ax_q (q_mov rfl) ?_
 refine ax_call rfl (vcall_own (c_next (n := n + 30) ?_) hP hmv false (fun _ => 1000) [1000] ⟨rfl, rfl, rfl, rfl, ⟨rfl, trivial⟩, rfl, rfl, rfl⟩ (.pass rfl rfl (.pass rfl rfl .nil)) ?_)
 ·
  assumption
 rintro r h ⟨rfl, rfl⟩
 refine ⟨fun _ => 1000, [], ⟨rfl, rfl, rfl, rfl, mem1 rfl, rfl, rfl, fun h => absurd h Bool.false_ne_true⟩, ?_⟩
 refine ax_q (q_mov rfl) ?_
 refine ax_call rfl (vcall_own (c_value (n := n + 18) ?_) hP hmv false (fun _ => 1000) [1000] ⟨rfl, rfl, rfl, rfl, ⟨rfl, trivial⟩, rfl, rfl, rfl⟩ (.pass rfl rfl .nil) ?_)
 ·
  assumption
 rintro r h ⟨rfl, rfl⟩
 refine ⟨fun _ => 1000, [], ⟨rfl, rfl, rfl, rfl, mem1 rfl, rfl, rfl, fun h => absurd h Bool.false_ne_true⟩, ?_⟩
 refine ax_q (q_mov rfl) ?_
 refine ax_call rfl (vcall_own (c_value (n := n + 6) ?_) hP hmv false (fun _ => 1000) [1000] ⟨rfl, rfl, rfl, rfl, ⟨rfl, trivial⟩, rfl, rfl, rfl⟩ (.pass rfl rfl .nil) ?_)
 ·
  assumption
 rintro r h ⟨rfl, rfl⟩
 refine ⟨fun _ => 1000, [], ⟨rfl, rfl, rfl, rfl, mem1 rfl, rfl, rfl, fun h => absurd h Bool.false_ne_true⟩, ?_⟩
 refine ax_q (q_build rfl) ?_
 refine ax_e (e_alloc (by decide) rfl rfl) ?_
 refine ax_e (e_st rfl rfl rfl rfl rfl rfl rfl) ?_
 refine ax_nil (cx_keep rfl rfl (cx_seq (cx_seq (cx_ops ?_))))
 refine ax_q (q_fadr_ptr rfl) ?_
 refine ax_q (q_fadr_ptr rfl) ?_
 refine ax_q (q_load1_ptr rfl rfl rfl) ?_
 refine ax_q (q_ibin rfl rfl rfl) ?_
 refine ax_nil (cx_keep rfl rfl ?_)
 refine cx_cond rfl (fun h0 => ?_) (fun h0 => ?_)
 ·
  have h0 := dT h0
  have e0 : rowN (valueF (nextF s 6).2).1 (rowS0 s) = (vI (nextF (rowS0 s) 9).1, (nextF (rowS0 s) 9).2) := by unfold rowN; rw [if_pos h0]
  have e1 : rowS1 s = (nextF (rowS0 s) 9).2 := by unfold rowS1; rw [e0]
  refine cx_ops ?_
  refine ax_q (q_mov rfl) ?_
  refine ax_call rfl (vcall_own (c_next (s := rowS0 s) (n := n + 3) ?_) hP hmv false (fun _ => 1000) [1000] ⟨rfl, rfl, rfl, rfl, ⟨rfl, trivial⟩, rfl, rfl, rfl⟩ (.pass rfl rfl (.pass rfl rfl .nil)) ?_)
  ·
   exact Src.ok.mono k6 (by omega)
  rintro r h ⟨rfl, rfl⟩
  refine ⟨fun _ => 1000, [], ⟨rfl, rfl, rfl, rfl, mem1 rfl, rfl, rfl, fun h => absurd h Bool.false_ne_true⟩, ?_⟩
  refine ax_q (q_build rfl) ?_
  refine ax_q (q_fadr_ptr rfl) ?_
  refine ax_e (e_st rfl rfl rfl rfl rfl rfl rfl) ?_
  refine ax_nil (cx_keep rfl rfl (cx_seq (cx_seq (cx_ops ?_))))
  refine ax_q (q_fadr_ptr rfl) ?_
  refine ax_q (q_fadr_ptr rfl) ?_
  refine ax_q (q_load1_ptr rfl rfl rfl) ?_
  refine ax_q (q_ibin rfl rfl rfl) ?_
  refine ax_nil (cx_keep rfl rfl ?_)
  refine cx_cond rfl (fun h1 => ?_) (fun h1 => ?_)
  ·
   have h1 := dT h1
   refine cx_ops ?_
   refine ax_q (q_mov rfl) ?_
   refine ax_e (e_bslice rfl (by decide) rfl rfl) ?_
   refine ax_wk (wk_frz 24 24 rfl rfl (.whole rfl) rfl) ?_
   refine ax_call rfl (vcall_own (c_pick (s := (nextF (rowS0 s) 9).2) (ts := nTexts) (n := n) (by rw [← e1]; exact k8) (by decide)) hP hmv false (fun _ => 1000) [1000] ⟨rfl, rfl, rfl, rfl, ⟨rfl, trivial⟩, rfl, rfl, rfl⟩ (.pass rfl rfl (.pass rfl rfl .nil)) ?_)
   rintro r h ⟨rfl, rfl⟩
   refine ⟨fun _ => 1000, [], ⟨rfl, rfl, rfl, rfl, mem1 rfl, rfl, rfl, fun h => absurd h Bool.false_ne_true⟩, ?_⟩
   refine ax_q (q_build rfl) ?_
   refine ax_q (q_fadr_ptr rfl) ?_
   refine ax_e (e_st rfl rfl rfl rfl rfl rfl rfl) ?_
   refine ax_nil (cx_keep rfl rfl (cx_seq (cx_ops ?_)))
   refine ax_q (q_ldN rfl rfl rfl) ?_
   refine ax_e (e_st rfl rfl rfl rfl rfl rfl rfl) ?_
   refine ax_nil (cx_keep rfl rfl ?_)
   refine cx_ret (retN id [1000] rfl rfl rfl rfl rfl ?_)
   have e : rowF s = (⟨(nextF s 6).1, vI (nextF (rowS0 s) 9).1, ⟨2, 0, (pickF (nextF (rowS0 s) 9).2 nTexts).1⟩⟩, (pickF (nextF (rowS0 s) 9).2 nTexts).2) := by unfold rowF; rw [e0]; unfold rowM; rw [if_pos (by exact h1), e1]
   rw [e]; exact ⟨rfl, rfl⟩
  ·
   have h1 := dF h1
   refine cx_skip ?_
   refine cx_keep rfl rfl (cx_seq (cx_ops ?_))
   refine ax_q (q_ldN rfl rfl rfl) ?_
   refine ax_e (e_st rfl rfl rfl rfl rfl rfl rfl) ?_
   refine ax_nil (cx_keep rfl rfl ?_)
   refine cx_ret (retN id [1000] rfl rfl rfl rfl rfl ?_)
   have e : rowF s = (⟨(nextF s 6).1, vI (nextF (rowS0 s) 9).1, (valueF (valueF (nextF s 6).2).2).1⟩, (nextF (rowS0 s) 9).2) := by unfold rowF; rw [e0]; unfold rowM; rw [if_neg (by exact h1), e1]
   rw [e]; exact ⟨rfl, rfl⟩
 ·
  have h0 := dF h0
  have e0 : rowN (valueF (nextF s 6).2).1 (rowS0 s) = ((valueF (nextF s 6).2).1, rowS0 s) := by unfold rowN; rw [if_neg h0]
  have e1 : rowS1 s = rowS0 s := by unfold rowS1; rw [e0]
  refine cx_skip ?_
  refine cx_keep rfl rfl (cx_seq (cx_seq (cx_ops ?_)))
  refine ax_q (q_fadr_ptr rfl) ?_
  refine ax_q (q_fadr_ptr rfl) ?_
  refine ax_q (q_load1_ptr rfl rfl rfl) ?_
  refine ax_q (q_ibin rfl rfl rfl) ?_
  refine ax_nil (cx_keep rfl rfl ?_)
  refine cx_cond rfl (fun h1 => ?_) (fun h1 => ?_)
  ·
   have h1 := dT h1
   refine cx_ops ?_
   refine ax_q (q_mov rfl) ?_
   refine ax_e (e_bslice rfl (by decide) rfl rfl) ?_
   refine ax_wk (wk_frz 24 24 rfl rfl (.whole rfl) rfl) ?_
   refine ax_call rfl (vcall_own (c_pick (s := rowS0 s) (ts := nTexts) (n := n) (by rw [← e1]; exact k8) (by decide)) hP hmv false (fun _ => 1000) [1000] ⟨rfl, rfl, rfl, rfl, ⟨rfl, trivial⟩, rfl, rfl, rfl⟩ (.pass rfl rfl (.pass rfl rfl .nil)) ?_)
   rintro r h ⟨rfl, rfl⟩
   refine ⟨fun _ => 1000, [], ⟨rfl, rfl, rfl, rfl, mem1 rfl, rfl, rfl, fun h => absurd h Bool.false_ne_true⟩, ?_⟩
   refine ax_q (q_build rfl) ?_
   refine ax_q (q_fadr_ptr rfl) ?_
   refine ax_e (e_st rfl rfl rfl rfl rfl rfl rfl) ?_
   refine ax_nil (cx_keep rfl rfl (cx_seq (cx_ops ?_)))
   refine ax_q (q_ldN rfl rfl rfl) ?_
   refine ax_e (e_st rfl rfl rfl rfl rfl rfl rfl) ?_
   refine ax_nil (cx_keep rfl rfl ?_)
   refine cx_ret (retN id [1000] rfl rfl rfl rfl rfl ?_)
   have e : rowF s = (⟨(nextF s 6).1, (valueF (nextF s 6).2).1, ⟨2, 0, (pickF (rowS0 s) nTexts).1⟩⟩, (pickF (rowS0 s) nTexts).2) := by unfold rowF; rw [e0]; unfold rowM; rw [if_pos (by exact h1), e1]
   rw [e]; exact ⟨rfl, rfl⟩
  ·
   have h1 := dF h1
   refine cx_skip ?_
   refine cx_keep rfl rfl (cx_seq (cx_ops ?_))
   refine ax_q (q_ldN rfl rfl rfl) ?_
   refine ax_e (e_st rfl rfl rfl rfl rfl rfl rfl) ?_
   refine ax_nil (cx_keep rfl rfl ?_)
   refine cx_ret (retN id [1000] rfl rfl rfl rfl rfl ?_)
   have e : rowF s = (⟨(nextF s 6).1, (valueF (nextF s 6).2).1, (valueF (valueF (nextF s 6).2).2).1⟩, rowS0 s) := by unfold rowF; rw [e0]; unfold rowM; rw [if_neg (by exact h1), e1]
   rw [e]; exact ⟨rfl, rfl⟩


/- loop.example/g00332/spec.l10Int -/
def k_c_sInt : XCode :=
 .seq (.ops [.op (some 2) (.alloc [.int .i64 0, .int .i64 0, .str []])])
 (.keep [0, 2] (.seq (.ops [.op (some 3) (.mov (.t 0)),
   .op (some 4) (.build [.int .i64 0, .int .i64 0, .str []] [(0, 1, .k (.int .i64 1)), (1, 1, .t 3)]),
   .op none (.store 3 (.t 2) (.t 4))])
 (.keep [2] (.ret))))
theorem k_c_sInt_fits : fitsF Tryz.prog 70 ⟨5, k_c_sInt, [.cN 2 3]⟩ = true := by kernel_rfl
theorem c_sInt {n : Int} : Con Tryz.prog noMv 70 [int n] [] (fun r h => r = (vI n).av ∧ h = []) := by
 refine con_of2 k_c_sInt_fits rfl fun C hP hmv => ?_
 unfold k_c_sInt
 refine cx_seq (cx_ops ?_)
 refine ax_e (e_alloc (by decide) rfl rfl) ?_
 refine ax_nil (cx_keep rfl rfl (cx_seq (cx_ops ?_)))
 refine ax_q (q_mov rfl) ?_
 refine ax_q (q_build rfl) ?_
 refine ax_e (e_st rfl rfl rfl rfl rfl rfl rfl) ?_
 refine ax_nil (cx_keep rfl rfl ?_)
 refine cx_ret (ret0 rfl rfl ?_)
 exact ⟨rfl, rfl⟩


/- (ptr loop.example/g00332/spec.l00Src).stmt -/
def k_c_dstmt : XCode :=
 .seq (.ops [.op (some 2) (.alloc [.int .i64 0, .int .i64 0, .int .i64 0, .int .i64 0, .int .i64 0, .str [], .int .i64 0, .int .i64 0, .str [], .int .i64 0, .nils 7, .nils 7, .int .i64 0, .bool false])])
 (.keep [0, 2] (.seq (.ops [.op (some 4) (.mov (.t 0)),
   .call (some 5) 48 [.t 4, .k (.int .i64 4)],
   .op (some 6) (.bin .add (.k (.int .i64 1)) (.t 5)),
   .op (some 7) (.mov (.t 0)),
   .call (some 8) 48 [.t 7, .k (.int .i64 2)],
   .op (some 9) (.bin .add (.k (.int .i64 1)) (.t 8)),
   .op (some 10) (.bslice 7 []),
   .op (some 11) (.build [.nils 7] [(0, 1, .t 10)]),
   .op (some 12) (.bslice 7 []),
   .op (some 13) (.build [.nils 7] [(0, 1, .t 12)]),
   .op (some 14) (.build [.int .i64 0, .int .i64 0, .int .i64 0, .int .i64 0, .int .i64 0, .str [], .int .i64 0, .int .i64 0, .str [], .int .i64 0, .nils 7, .nils 7, .int .i64 0, .bool false] [(0, 1, .t 6), (1, 1, .t 9), (10, 1, .t 11), (11, 1, .t 13)]),
   .op (some 3) (.alloc [.int .i64 0, .int .i64 0, .int .i64 0, .int .i64 0, .int .i64 0, .str [], .int .i64 0, .int .i64 0, .str [], .int .i64 0, .nils 7, .nils 7, .int .i64 0, .bool false]),
   .op none (.store 14 (.t 3) (.t 14))])
 (.keep [0, 2, 3] (.seq (.seq (.ops [.op (some 15) (.fadr (.t 3) 0),
   .op (some 16) (.load1 (.t 15))])
  (.keep [0, 2, 3, 16] (.block 0 (.seq (.ops [.op (some 18) (.bin .eql (.t 16) (.k (.int .i64 2))),
    .op (some 17) (.mov (.t 18))])
  (.keep [0, 2, 3, 16, 17] (.cond (.t 17)
   (.seq (.ops [.op (some 19) (.mov (.t 0)),
     .call (some 20) 68 [.t 19],
     .op (some 21) (.fadr (.t 3) 2),
     .op none (.store 7 (.t 21) (.t 20))])
   (.keep [2, 3] (.seq (.ops [.op (some 22) (.loadN 14 (.t 3)),
     .op none (.store 14 (.t 2) (.t 22))])
   (.keep [2] (.ret)))))
   (.seq (.ops [.op (some 24) (.bin .eql (.t 16) (.k (.int .i64 3))),
     .op (some 23) (.mov (.t 24))])
   (.keep [0, 2, 3, 16, 23] (.cond (.t 23)
    (.seq (.ops [.op (some 25) (.mov (.t 0)),
      .call (some 26) 48 [.t 25, .k (.int .i64 2)],
      .op (some 27) (.bin .add (.k (.int .i64 1)) (.t 26)),
      .op (some 28) (.fadr (.t 3) 9),
      .op none (.store 1 (.t 28) (.t 27))])
    (.keep [0, 2, 3] (.seq (.ops [.op (some 29) (.mov (.t 0)),
      .call (some 30) 24 [.t 29],
      .op (some 31) (.fadr (.t 3) 10),
      .op none (.store 1 (.t 31) (.t 30))])
    (.keep [0, 2, 3] (.seq (.ops [.op (some 32) (.mov (.t 0)),
      .call (some 33) 69 [.t 32, .k (.int .i64 2)]])
    (.keep [0, 2, 3, 33] (.cond (.t 33)
     (.seq (.ops [.op (some 34) (.mov (.t 0)),
       .call (some 35) 48 [.t 34, .k (.int .i64 9)],
       .call (some 36) 70 [.t 35],
       .op (some 37) (.build [.int .i64 0, .int .i64 0, .int .i64 0, .int .i64 0, .int .i64 0, .int .i64 0, .str []] [(0, 1, .k (.int .i64 1)), (4, 3, .t 36)]),
       .op (some 38) (.bslice 7 [.t 37]),
       .op (some 39) (.build [.nils 7] [(0, 1, .t 38)]),
       .op (some 40) (.fadr (.t 3) 10),
       .op none (.store 1 (.t 40) (.t 39))])
     (.keep [0, 2, 3] (.seq (.ops [.op (some 41) (.fadr (.t 3) 9),
       .op (some 42) (.load1 (.t 41)),
       .op (some 43) (.bin .eql (.t 42) (.k (.int .i64 2)))])
     (.keep [0, 2, 3, 43] (.cond (.t 43)
      (.drawE [[], [0], [0, 1], [], [], [3, 4], [3, 4, 5], [0, 1, 2, 3, 4, 5, 6], [0, 1, 2, 3, 4, 5, 6, 7], [0, 1, 2, 3, 4, 5, 6, 7, 8]] [.op (some 44) (.fadr (.t 3) 10),
       .op (some 45) (.fadr (.t 44) 0),
       .op (some 46) (.load1 (.t 45)),
       .op (some 47) (.mov (.t 0)),
       .op (some 48) (.bslice 1 [.k (.str [97]), .k (.str [98])]),
       .call (some 49) 71 [.t 47, .t 48],
       .op (some 50) (.build [.int .i64 0, .int .i64 0, .str []] [(0, 1, .k (.int .i64 2)), (2, 1, .t 49)])]
       [.op (some 51) (.iadr 7 (.t 46) (.k (.int .i64 0))),
       .op (some 52) (.fadr (.t 51) 4),
       .op none (.store 3 (.t 52) (.t 50))])
      (.skip))))))
     (.skip))))))))
    (.seq (.ops [.op (some 54) (.bin .eql (.t 16) (.k (.int .i64 1))),
      .op (some 53) (.mov (.t 54))])
    (.keep [0, 2, 3, 53] (.cond (.t 53)
     (.seq (.ops [.op (some 55) (.mov (.t 0)),
       .call (some 56) 48 [.t 55, .k (.int .i64 3)],
       .op (some 57) (.fadr (.t 3) 12),
       .op none (.store 1 (.t 57) (.t 56))])
     (.keep [0, 2, 3] (.ops [.op (some 58) (.mov (.t 0)),
      .call (some 59) 69 [.t 58, .k (.int .i64 3)],
      .op (some 60) (.fadr (.t 3) 13),
      .op none (.store 1 (.t 60) (.t 59))])))
     (.skip)))))))))))))
 (.keep [0, 2, 3] (.seq (.seq (.ops [.op (some 61) (.mov (.t 0)),
   .call (some 62) 69 [.t 61, .k (.int .i64 2)]])
  (.keep [0, 2, 3, 62] (.cond (.t 62)
  (.seq (.ops [.op (some 63) (.mov (.t 0)),
    .call (some 64) 24 [.t 63],
    .op (some 65) (.fadr (.t 3) 11),
    .op none (.store 1 (.t 65) (.t 64))])
   (.keep [0, 2, 3] (.seq (.ops [.op (some 66) (.mov (.t 0)),
    .call (some 67) 69 [.t 66, .k (.int .i64 2)]])
   (.keep [0, 2, 3, 67] (.cond (.t 67)
   (.ops [.op (some 68) (.build [.int .i64 0, .int .i64 0, .int .i64 0, .int .i64 0, .int .i64 0, .int .i64 0, .str []] [(0, 1, .k (.int .i64 2))]),
     .op (some 69) (.mov (.t 0)),
     .call (some 70) 48 [.t 69, .k (.int .i64 6)],
     .call (some 71) 70 [.t 70],
     .op (some 72) (.build [.int .i64 0, .int .i64 0, .int .i64 0, .int .i64 0, .int .i64 0, .int .i64 0, .str []] [(0, 1, .k (.int .i64 1)), (4, 3, .t 71)]),
     .op (some 73) (.mov (.t 0)),
     .call (some 74) 48 [.t 73, .k (.int .i64 2)],
     .op (some 75) (.bin .add (.k (.int .i64 10)) (.t 74)),
     .op (some 76) (.build [.int .i64 0, .int .i64 0, .int .i64 0, .int .i64 0, .int .i64 0, .int .i64 0, .str []] [(0, 1, .t 75), (2, 1, .k (.int .i64 1))]),
     .op (some 77) (.bslice 7 [.t 68, .t 72, .t 76]),
     .op (some 78) (.build [.nils 7] [(0, 1, .t 77)]),
     .op (some 79) (.fadr (.t 3) 11),
     .op none (.store 1 (.t 79) (.t 78))])
   (.skip))))))
  (.skip))))
 (.keep [2, 3] (.seq (.ops [.op (some 80) (.loadN 14 (.t 3)),
   .op none (.store 14 (.t 2) (.t 80))])
 (.keep [2] (.ret))))))))))
theorem k_c_dstmt_fits : fitsF Tryz.prog 37 ⟨81, k_c_dstmt, [.cN 2 14]⟩ = true := by kernel_rfl
set_option maxHeartbeats 8000000 in
theorem c_dstmt {s : Src} (hs : s.ok 5000) : Con Tryz.prog noMv 37 [.ptr 1000 0] [(1000, s.box)] (fun r h => r = (stmtG s).1.av ∧ h = [(1000, (stmtG s).2.box)]) := by
 refine con_of2 k_c_dstmt_fits rfl fun C hP hmv => ?_
 unfold k_c_dstmt
 obtain ⟨k1, k2, k3⟩ := nextF_ok (s := s) (n := 4) (k := 4997) hs
 have k3 := k3 (by omega)
 obtain ⟨k4, k5, k6⟩ := nextF_ok (s := (nextF s 4).2) (n := 2) (k := 4994) k1
 have k6 := k6 (by omega)
 refine cx_seq (cx_ops ?_)
 refine ax_e (e_alloc (by decide) rfl rfl) ?_
 refine ax_nil (cx_keep rfl rfl (cx_seq (cx_ops ?_)))
 refine ax_q (q_mov rfl) ?_
 refine ax_call rfl (vcall_own (c_next (s := s) (n := 4997) ?_) hP hmv false (fun _ => 1000) [1000] ⟨rfl, rfl, rfl, rfl, ⟨rfl, trivial⟩, rfl, rfl, rfl⟩ (.pass rfl rfl (.pass rfl rfl .nil)) ?_)
 ·
  first | assumption | omega | (simp; done) | (simp; omega)
 rintro r h ⟨rfl, rfl⟩
 refine ⟨fun _ => 1000, [], ⟨rfl, rfl, rfl, rfl, mem1 rfl, rfl, rfl, fun h => absurd h Bool.false_ne_true⟩, ?_⟩
 refine ax_q (q_add rfl rfl (by omega)) ?_
 refine ax_q (q_mov rfl) ?_
 refine ax_call rfl (vcall_own (c_next (s := (nextF s 4).2) (n := 4994) ?_) hP hmv false (fun _ => 1000) [1000] ⟨rfl, rfl, rfl, rfl, ⟨rfl, trivial⟩, rfl, rfl, rfl⟩ (.pass rfl rfl (.pass rfl rfl .nil)) ?_)
 ·
  first | assumption | omega | (simp; done) | (simp; omega)
 rintro r h ⟨rfl, rfl⟩
 refine ⟨fun _ => 1000, [], ⟨rfl, rfl, rfl, rfl, mem1 rfl, rfl, rfl, fun h => absurd h Bool.false_ne_true⟩, ?_⟩
 refine ax_q (q_add rfl rfl (by omega)) ?_
 refine ax_e (e_bsliceD (rows := []) rfl) ?_
 refine ax_q (q_build rfl) ?_
 refine ax_e (e_bsliceD (rows := []) rfl) ?_
 refine ax_q (q_build rfl) ?_
 refine ax_q (q_build rfl) ?_
 refine ax_e (e_alloc (by decide) rfl rfl) ?_
 refine ax_e (e_st rfl rfl rfl rfl rfl rfl rfl) ?_
 refine ax_nil (cx_keep rfl rfl (cx_seq (cx_seq (cx_ops ?_))))
 refine ax_q (q_fadr_ptr rfl) ?_
 refine ax_q (q_load1_ptr rfl rfl rfl) ?_
 refine ax_nil (cx_keep rfl rfl (cx_block (cx_seq (cx_ops ?_))))
 refine ax_q (q_ibin rfl rfl rfl) ?_
 refine ax_q (q_mov rfl) ?_
 refine ax_nil (cx_keep rfl rfl ?_)
 refine cx_cond rfl (fun h0 => ?_) (fun h0 => ?_)
 ·
  have h0 := dT h0
  refine cx_seq (cx_ops ?_)
  refine ax_q (q_mov rfl) ?_
  refine ax_call rfl (vcall_own (c_row (s := (nextF (nextF s 4).2 2).2) (n := 4900) ?_) hP hmv false (fun _ => 1000) [1000] ⟨rfl, rfl, rfl, rfl, ⟨rfl, trivial⟩, rfl, rfl, rfl⟩ (.pass rfl rfl .nil) ?_)
  ·
   exact k4.mono (by omega)
  rintro r h ⟨rfl, rfl⟩
  refine ⟨fun _ => 1000, [], ⟨rfl, rfl, rfl, rfl, mem1 rfl, rfl, rfl, fun h => absurd h Bool.false_ne_true⟩, ?_⟩
  refine ax_q (q_fadr_ptr rfl) ?_
  refine ax_e (e_st rfl rfl rfl rfl rfl rfl rfl) ?_
  refine ax_nil (cx_keep rfl rfl (cx_seq (cx_ops ?_)))
  refine ax_q (q_ldN rfl rfl rfl) ?_
  refine ax_e (e_st rfl rfl rfl rfl rfl rfl rfl) ?_
  refine ax_nil (cx_keep rfl rfl ?_)
  refine cx_ret (retN id [1000] rfl rfl rfl rfl rfl ?_)
  rw [stG_2 h0]; exact ⟨rfl, rfl⟩
 ·
  have h0 := dF h0
  refine cx_seq (cx_ops ?_)
  refine ax_q (q_ibin rfl rfl rfl) ?_
  refine ax_q (q_mov rfl) ?_
  refine ax_nil (cx_keep rfl rfl ?_)
  refine cx_cond rfl (fun h1 => ?_) (fun h1 => ?_)
  ·
   have h1 := dT h1
   obtain ⟨c1, c2, c3⟩ := nextF_ok (s := (nextF (nextF s 4).2 2).2) (n := 2) (k := 4991) k4
   have c3 := c3 (by omega)
   have e1 := exprG_src (s := (nextF (nextF (nextF s 4).2 2).2 2).2) (n := 3991) c1
   have e2 := chanceF_ok (s := (exprG (nextF (nextF (nextF s 4).2 2).2 2).2).2) (m := 2) (n := 3988) e1
   refine cx_seq (cx_ops ?_)
   refine ax_q (q_mov rfl) ?_
   refine ax_call rfl (vcall_own (c_next (s := (nextF (nextF s 4).2 2).2) (n := 4991) ?_) hP hmv false (fun _ => 1000) [1000] ⟨rfl, rfl, rfl, rfl, ⟨rfl, trivial⟩, rfl, rfl, rfl⟩ (.pass rfl rfl (.pass rfl rfl .nil)) ?_)
   ·
    first | assumption | omega | (simp; done) | (simp; omega)
   rintro r h ⟨rfl, rfl⟩
   refine ⟨fun _ => 1000, [], ⟨rfl, rfl, rfl, rfl, mem1 rfl, rfl, rfl, fun h => absurd h Bool.false_ne_true⟩, ?_⟩
   refine ax_q (q_add rfl rfl (by omega)) ?_
   refine ax_q (q_fadr_ptr rfl) ?_
   refine ax_e (e_st rfl rfl rfl rfl rfl rfl rfl) ?_
   refine ax_nil (cx_keep rfl rfl (cx_seq (cx_ops ?_)))
   refine ax_q (q_mov rfl) ?_
   refine ax_call rfl (vcall_own (c_expr (s := (nextF (nextF (nextF s 4).2 2).2 2).2) (c1.mono (by omega))) hP hmv false (fun _ => 1000) [1000] ⟨rfl, rfl, rfl, rfl, ⟨rfl, trivial⟩, rfl, rfl, rfl⟩ (.pass rfl rfl .nil) ?_)
   rintro r h ⟨rfl, rfl⟩
   refine ⟨fun e => bif Nat.beq e 1000 then 1000 else 30, [0], ⟨rfl, rfl, rfl, rfl, mem1 rfl, rfl, rfl, fun h => absurd h Bool.false_ne_true⟩, ?_⟩
   refine ax_wk (wk_frz 30 30 rfl rfl (.agg (.cons (.whole (List.length_map _).symm) .nil)) rfl) ?_
   refine ax_q (q_fadr_ptr rfl) ?_
   refine ax_e (e_st rfl rfl rfl rfl rfl rfl rfl) ?_
   refine ax_nil (cx_keep rfl rfl (cx_seq (cx_ops ?_)))
   refine ax_q (q_mov rfl) ?_
   refine ax_call rfl (vcall_own (c_chance (s := (exprG (nextF (nextF (nextF s 4).2 2).2 2).2).2) (n := 3988) ?_ ?_) hP hmv false (fun _ => 1000) [1000] ⟨rfl, rfl, rfl, rfl, ⟨rfl, trivial⟩, rfl, rfl, rfl⟩ (.pass rfl rfl (.pass rfl rfl .nil)) ?_)
   ·
    first | assumption | omega | (simp; done) | (simp; omega)
   ·
    first | assumption | omega | (simp; done) | (simp; omega)
   rintro r h ⟨rfl, rfl⟩
   refine ⟨fun _ => 1000, [], ⟨rfl, rfl, rfl, rfl, mem1 rfl, rfl, rfl, fun h => absurd h Bool.false_ne_true⟩, ?_⟩
   refine ax_nil (cx_keep rfl rfl ?_)
   refine cx_cond rfl (fun h2 => ?_) (fun h2 => ?_)
   ·
    skip
    obtain ⟨d1, d2, d3⟩ := nextF_ok (s := (chanceF (exprG (nextF (nextF (nextF s 4).2 2).2 2).2).2 2).2) (n := 9) (k := 3985) e2
    have d3 := d3 (by omega)
    refine cx_seq (cx_ops ?_)
    refine ax_q (q_mov rfl) ?_
    refine ax_call rfl (vcall_own (c_next (s := (chanceF (exprG (nextF (nextF (nextF s 4).2 2).2 2).2).2 2).2) (n := 3985) ?_) hP hmv false (fun _ => 1000) [1000] ⟨rfl, rfl, rfl, rfl, ⟨rfl, trivial⟩, rfl, rfl, rfl⟩ (.pass rfl rfl (.pass rfl rfl .nil)) ?_)
    ·
     first | assumption | omega | (simp; done) | (simp; omega)
    rintro r h ⟨rfl, rfl⟩
    refine ⟨fun _ => 1000, [], ⟨rfl, rfl, rfl, rfl, mem1 rfl, rfl, rfl, fun h => absurd h Bool.false_ne_true⟩, ?_⟩
    first | refine ax_call rfl (vc_pure0 (c_sInt (n := (nextF (chanceF (exprG (nextF (nextF (nextF s 4).2 2).2 2).2).2 2).2 9).1) ) hP rfl rfl ?_) | refine ax_call rfl (vc_lend0 (c_sInt (n := (nextF (chanceF (exprG (nextF (nextF (nextF s 4).2 2).2 2).2).2 2).2 9).1) ) hP (by repeat (first | exact lal_id _ rfl | exact LAL.nil | refine LAL.cons ?_ ?_ | exact la_id _ rfl | exact LA.lend (lend_whole rfl (by first | (simp; done) | (rw [List.length_map]; rfl))) | refine LA.agg ?_ | refine LA.fn ?_ | refine LA.lend ?_ | exact Lend.d _ | exact Lend.zs _ | exact lend_whole rfl (by first | (simp; done) | (rw [List.length_map]; rfl)) | refine Lend.ptr rfl ?_ | refine Lend.fn ?_ | exact LendL.nil | refine LendL.cons ?_ ?_)) rfl rfl ?_)
    refine ax_q (q_build rfl) ?_
    refine ax_e (e_bslice rfl (by decide) rfl rfl) ?_
    refine ax_q (q_build rfl) ?_
    refine ax_q (q_fadr_ptr rfl) ?_
    refine ax_e (e_st rfl rfl rfl rfl rfl rfl rfl) ?_
    refine ax_nil (cx_keep rfl rfl (cx_seq (cx_ops ?_)))
    refine ax_q (q_fadr_ptr rfl) ?_
    refine ax_q (q_load1_ptr rfl rfl rfl) ?_
    refine ax_q (q_ibin rfl rfl rfl) ?_
    refine ax_nil (cx_keep rfl rfl ?_)
    refine cx_cond rfl (fun h3 => ?_) (fun h3 => ?_)
    ·
     have h3 := dT h3
     obtain ⟨p1, p2⟩ := pickF_ok (s := (nextF (chanceF (exprG (nextF (nextF (nextF s 4).2 2).2 2).2).2 2).2 9).2) (ts := abT) (n := 3982) d1 (by decide)
     refine cx_drawL 5 49 (fun _ => false) (fun _ => true) [] (((pickF (nextF (chanceF (exprG (nextF (nextF (nextF s 4).2 2).2 2).2).2 2).2 9).2 abT).2.h 1000)) [[3], [44], [45], [0], [], [47, 48], [49]] [[1000], [1000], [1000], [], [], [1000], []] rfl ?_
     first | refine ⟨_, .inr ⟨rfl, _, rfl, .inr ⟨rfl, rfl, .inr rfl, rfl, rfl⟩, loc_q (q_fadr_ptr rfl)⟩, ?_⟩
     first | refine ⟨_, .inr ⟨rfl, _, rfl, .inr ⟨rfl, rfl, .inr rfl, rfl, rfl⟩, loc_q (q_fadr_ptr rfl)⟩, ?_⟩
     first | refine ⟨_, .inr ⟨rfl, _, rfl, .inr ⟨rfl, rfl, .inr rfl, rfl, rfl⟩, loc_q (q_load1_ptr rfl rfl rfl)⟩, ?_⟩
     first | refine ⟨_, .inr ⟨rfl, _, rfl, .inl rfl, loc_q (q_mov rfl)⟩, ?_⟩
     first | refine ⟨_, .inr ⟨rfl, _, rfl, .inl rfl, loc_bsliceD (rows := abT.map strRow) rfl⟩, ?_⟩
     refine ⟨⟨49, _, []⟩, .inl ⟨rfl, rfl, rfl, locl_call (fun _ => 1000) [1000] id [] rfl (c_pick (s := (nextF (chanceF (exprG (nextF (nextF (nextF s 4).2 2).2 2).2).2 2).2 9).2) (ts := abT) (n := 3982) d1 (by decide)) hP hmv rfl rfl rfl rfl ⟨rfl, trivial⟩ rfl rfl rfl (.pass rfl rfl (.pass rfl rfl .nil)) rfl rfl rfl rfl (mem1 rfl) rfl⟩, ?_⟩
     first | refine ⟨_, .inr ⟨rfl, _, rfl, .inr ⟨rfl, rfl, .inl rfl, rfl, rfl⟩, loc_q (q_build rfl)⟩, ?_⟩
     refine ⟨rfl, ?_⟩
     refine ax_q (q_ixoI rfl rfl (by omega) (by simp only [List.length_cons, List.length_nil]; omega)) ?_
     first | refine ax_q (q_fadr_ptr rfl) ?_ | refine ax_q (q_fadr_rptr rfl) ?_ | refine ax_q (q_fadr_ip rfl) ?_
     refine ax_e (e_str (rs' := [GExprNode.row ⟨1, 0, 0, 0, ⟨2, 0, (pickF (nextF (chanceF (exprG (nextF (nextF (nextF s 4).2 2).2 2).2).2 2).2 9).2 abT).1⟩⟩]) (q := GExprNode.row ⟨1, 0, 0, 0, ⟨2, 0, (pickF (nextF (chanceF (exprG (nextF (nextF (nextF s 4).2 2).2 2).2).2 2).2 9).2 abT).1⟩⟩) rfl rfl rfl rfl rfl rfl rfl rfl rfl rfl) ?_
     refine ax_nil (cx_keep rfl rfl (cx_seq (cx_seq (cx_ops ?_))))
     refine ax_q (q_mov rfl) ?_
     have q0 : Src.ok (pickF (nextF (chanceF (exprG (nextF (nextF (nextF s 4).2 2).2 2).2).2 2).2 9).2 abT).2 (2497 + 3) := p1.mono (by omega)
     have q1 := chanceF_ok (s := (pickF (nextF (chanceF (exprG (nextF (nextF (nextF s 4).2 2).2 2).2).2 2).2 9).2 abT).2) (m := 2) (n := 2497) q0
     have q2 := exprG_src (s := (chanceF (pickF (nextF (chanceF (exprG (nextF (nextF (nextF s 4).2 2).2 2).2).2 2).2 9).2 abT).2 2).2) (n := 1497) q1
     have q3 := chanceF_ok (s := (exprG (chanceF (pickF (nextF (chanceF (exprG (nextF (nextF (nextF s 4).2 2).2 2).2).2 2).2 9).2 abT).2 2).2).2) (m := 2) (n := 1494) q2
     obtain ⟨f1, f2, f3⟩ := nextF_ok (s := (chanceF (exprG (chanceF (pickF (nextF (chanceF (exprG (nextF (nextF (nextF s 4).2 2).2 2).2).2 2).2 9).2 abT).2 2).2).2 2).2) (n := 6) (k := 1491) q3
     have f3 := f3 (by omega)
     obtain ⟨g1, g2, g3⟩ := nextF_ok (s := (nextF (chanceF (exprG (chanceF (pickF (nextF (chanceF (exprG (nextF (nextF (nextF s 4).2 2).2 2).2).2 2).2 9).2 abT).2 2).2).2 2).2 6).2) (n := 2) (k := 1488) f1
     have g3 := g3 (by omega)
     refine ax_call rfl (vcall_own (c_chance (s := (pickF (nextF (chanceF (exprG (nextF (nextF (nextF s 4).2 2).2 2).2).2 2).2 9).2 abT).2) (n := 2497) ?_ ?_) hP hmv false (fun _ => 1000) [1000] ⟨rfl, rfl, rfl, rfl, ⟨rfl, trivial⟩, rfl, rfl, rfl⟩ (.pass rfl rfl (.pass rfl rfl .nil)) ?_)
     ·
      first | assumption | omega | (simp; done) | (simp; omega)
     ·
      first | assumption | omega | (simp; done) | (simp; omega)
     rintro r h ⟨rfl, rfl⟩
     refine ⟨fun _ => 1000, [], ⟨rfl, rfl, rfl, rfl, mem1 rfl, rfl, rfl, fun h => absurd h Bool.false_ne_true⟩, ?_⟩
     refine ax_nil (cx_keep rfl rfl ?_)
     refine cx_cond rfl (fun h5 => ?_) (fun h5 => ?_)
     ·
      skip
      refine cx_seq (cx_ops ?_)
      refine ax_q (q_mov rfl) ?_
      refine ax_call rfl (vcall_own (c_expr (s := (chanceF (pickF (nextF (chanceF (exprG (nextF (nextF (nextF s 4).2 2).2 2).2).2 2).2 9).2 abT).2 2).2) (q1.mono (by omega))) hP hmv false (fun _ => 1000) [1000] ⟨rfl, rfl, rfl, rfl, ⟨rfl, trivial⟩, rfl, rfl, rfl⟩ (.pass rfl rfl .nil) ?_)
      rintro r h ⟨rfl, rfl⟩
      refine ⟨fun e => bif Nat.beq e 1000 then 1000 else 64, [0], ⟨rfl, rfl, rfl, rfl, mem1 rfl, rfl, rfl, fun h => absurd h Bool.false_ne_true⟩, ?_⟩
      refine ax_wk (wk_frz 64 64 rfl rfl (.agg (.cons (.whole (List.length_map _).symm) .nil)) rfl) ?_
      refine ax_q (q_fadr_ptr rfl) ?_
      refine ax_e (e_st rfl rfl rfl rfl rfl rfl rfl) ?_
      refine ax_nil (cx_keep rfl rfl (cx_seq (cx_ops ?_)))
      refine ax_q (q_mov rfl) ?_
      refine ax_call rfl (vcall_own (c_chance (s := (exprG (chanceF (pickF (nextF (chanceF (exprG (nextF (nextF (nextF s 4).2 2).2 2).2).2 2).2 9).2 abT).2 2).2).2) (n := 1494) ?_ ?_) hP hmv false (fun _ => 1000) [1000] ⟨rfl, rfl, rfl, rfl, ⟨rfl, trivial⟩, rfl, rfl, rfl⟩ (.pass rfl rfl (.pass rfl rfl .nil)) ?_)
      ·
       first | assumption | omega | (simp; done) | (simp; omega)
      ·
       first | assumption | omega | (simp; done) | (simp; omega)
      rintro r h ⟨rfl, rfl⟩
      refine ⟨fun _ => 1000, [], ⟨rfl, rfl, rfl, rfl, mem1 rfl, rfl, rfl, fun h => absurd h Bool.false_ne_true⟩, ?_⟩
      refine ax_nil (cx_keep rfl rfl ?_)
      refine cx_cond rfl (fun h6 => ?_) (fun h6 => ?_)
      ·
       skip
       refine cx_ops ?_
       refine ax_q (q_build rfl) ?_
       refine ax_q (q_mov rfl) ?_
       refine ax_call rfl (vcall_own (c_next (s := (chanceF (exprG (chanceF (pickF (nextF (chanceF (exprG (nextF (nextF (nextF s 4).2 2).2 2).2).2 2).2 9).2 abT).2 2).2).2 2).2) (n := 1491) ?_) hP hmv false (fun _ => 1000) [1000] ⟨rfl, rfl, rfl, rfl, ⟨rfl, trivial⟩, rfl, rfl, rfl⟩ (.pass rfl rfl (.pass rfl rfl .nil)) ?_)
       ·
        first | assumption | omega | (simp; done) | (simp; omega)
       rintro r h ⟨rfl, rfl⟩
       refine ⟨fun _ => 1000, [], ⟨rfl, rfl, rfl, rfl, mem1 rfl, rfl, rfl, fun h => absurd h Bool.false_ne_true⟩, ?_⟩
       first | refine ax_call rfl (vc_pure0 (c_sInt (n := (nextF (chanceF (exprG (chanceF (pickF (nextF (chanceF (exprG (nextF (nextF (nextF s 4).2 2).2 2).2).2 2).2 9).2 abT).2 2).2).2 2).2 6).1) ) hP rfl rfl ?_) | refine ax_call rfl (vc_lend0 (c_sInt (n := (nextF (chanceF (exprG (chanceF (pickF (nextF (chanceF (exprG (nextF (nextF (nextF s 4).2 2).2 2).2).2 2).2 9).2 abT).2 2).2).2 2).2 6).1) ) hP (by repeat (first | exact lal_id _ rfl | exact LAL.nil | refine LAL.cons ?_ ?_ | exact la_id _ rfl | exact LA.lend (lend_whole rfl (by first | (simp; done) | (rw [List.length_map]; rfl))) | refine LA.agg ?_ | refine LA.fn ?_ | refine LA.lend ?_ | exact Lend.d _ | exact Lend.zs _ | exact lend_whole rfl (by first | (simp; done) | (rw [List.length_map]; rfl)) | refine Lend.ptr rfl ?_ | refine Lend.fn ?_ | exact LendL.nil | refine LendL.cons ?_ ?_)) rfl rfl ?_)
       refine ax_q (q_build rfl) ?_
       refine ax_q (q_mov rfl) ?_
       refine ax_call rfl (vcall_own (c_next (s := (nextF (chanceF (exprG (chanceF (pickF (nextF (chanceF (exprG (nextF (nextF (nextF s 4).2 2).2 2).2).2 2).2 9).2 abT).2 2).2).2 2).2 6).2) (n := 1488) ?_) hP hmv false (fun _ => 1000) [1000] ⟨rfl, rfl, rfl, rfl, ⟨rfl, trivial⟩, rfl, rfl, rfl⟩ (.pass rfl rfl (.pass rfl rfl .nil)) ?_)
       ·
        first | assumption | omega | (simp; done) | (simp; omega)
       rintro r h ⟨rfl, rfl⟩
       refine ⟨fun _ => 1000, [], ⟨rfl, rfl, rfl, rfl, mem1 rfl, rfl, rfl, fun h => absurd h Bool.false_ne_true⟩, ?_⟩
       refine ax_q (q_add rfl rfl (by omega)) ?_
       refine ax_q (q_build rfl) ?_
       refine ax_e (e_bsliceD (rows := [GExprNode.row ⟨2, 0, 0, 0, .zero⟩, GExprNode.row ⟨1, 0, 0, 0, vI (nextF (chanceF (exprG (chanceF (pickF (nextF (chanceF (exprG (nextF (nextF (nextF s 4).2 2).2 2).2).2 2).2 9).2 abT).2 2).2).2 2).2 6).1⟩, GExprNode.row ⟨10 + (nextF (nextF (chanceF (exprG (chanceF (pickF (nextF (chanceF (exprG (nextF (nextF (nextF s 4).2 2).2 2).2).2 2).2 9).2 abT).2 2).2).2 2).2 6).2 2).1, 0, 1, 0, .zero⟩]) rfl) ?_
       refine ax_q (q_build rfl) ?_
       refine ax_q (q_fadr_ptr rfl) ?_
       refine ax_e (e_st rfl rfl rfl rfl rfl rfl rfl) ?_
       refine ax_nil (cx_keep rfl rfl (cx_seq (cx_ops ?_)))
       refine ax_q (q_ldN rfl rfl rfl) ?_
       refine ax_wk (wk_frz 80 38 rfl rfl (.agg (.cons (.same rfl) (.cons (.same rfl) (.cons (.same rfl) (.cons (.same rfl) (.cons (.same rfl) (.cons (.same rfl) (.cons (.same rfl) (.cons (.same rfl) (.cons (.same rfl) (.cons (.same rfl) (.cons (.whole rfl) (.cons (.same rfl) (.cons (.same rfl) (.cons (.same rfl) .nil))))))))))))))) rfl) ?_
       refine ax_e (e_st rfl rfl rfl rfl rfl rfl rfl) ?_
       refine ax_nil (cx_keep rfl rfl ?_)
       refine cx_ret (retN id [1000] rfl rfl rfl rfl rfl ?_)
       rw [stG_3 h0 h1 (setG_1 h2 h3) (whrG_1 h5 h6)]; exact ⟨rfl, rfl⟩
      ·
       skip
       refine cx_skip ?_
       refine cx_keep rfl rfl (cx_seq (cx_ops ?_))
       refine ax_q (q_ldN rfl rfl rfl) ?_
       refine ax_wk (wk_frz 80 38 rfl rfl (.agg (.cons (.same rfl) (.cons (.same rfl) (.cons (.same rfl) (.cons (.same rfl) (.cons (.same rfl) (.cons (.same rfl) (.cons (.same rfl) (.cons (.same rfl) (.cons (.same rfl) (.cons (.same rfl) (.cons (.whole rfl) (.cons (.same rfl) (.cons (.same rfl) (.cons (.same rfl) .nil))))))))))))))) rfl) ?_
       refine ax_e (e_st rfl rfl rfl rfl rfl rfl rfl) ?_
       refine ax_nil (cx_keep rfl rfl ?_)
       refine cx_ret (retN id [1000] rfl rfl rfl rfl rfl ?_)
       rw [stG_3 h0 h1 (setG_1 h2 h3) (whrG_2 h5 h6)]; exact ⟨rfl, rfl⟩
     ·
      skip
      refine cx_skip ?_
      refine cx_keep rfl rfl (cx_seq (cx_ops ?_))
      refine ax_q (q_ldN rfl rfl rfl) ?_
      refine ax_wk (wk_frz 80 38 rfl rfl (.agg (.cons (.same rfl) (.cons (.same rfl) (.cons (.same rfl) (.cons (.same rfl) (.cons (.same rfl) (.cons (.same rfl) (.cons (.same rfl) (.cons (.same rfl) (.cons (.same rfl) (.cons (.same rfl) (.cons (.whole rfl) (.cons (.same rfl) (.cons (.same rfl) (.cons (.same rfl) .nil))))))))))))))) rfl) ?_
      refine ax_e (e_st rfl rfl rfl rfl rfl rfl rfl) ?_
      refine ax_nil (cx_keep rfl rfl ?_)
      refine cx_ret (retN id [1000] rfl rfl rfl rfl rfl ?_)
      rw [stG_3 h0 h1 (setG_1 h2 h3) (whrG_3 h5)]; exact ⟨rfl, rfl⟩
    ·
     have h3 := dF h3
     refine cx_skip ?_
     refine cx_keep rfl rfl (cx_seq (cx_seq (cx_ops ?_)))
     refine ax_q (q_mov rfl) ?_
     have q0 : Src.ok (nextF (chanceF (exprG (nextF (nextF (nextF s 4).2 2).2 2).2).2 2).2 9).2 (2497 + 3) := d1.mono (by omega)
     have q1 := chanceF_ok (s := (nextF (chanceF (exprG (nextF (nextF (nextF s 4).2 2).2 2).2).2 2).2 9).2) (m := 2) (n := 2497) q0
     have q2 := exprG_src (s := (chanceF (nextF (chanceF (exprG (nextF (nextF (nextF s 4).2 2).2 2).2).2 2).2 9).2 2).2) (n := 1497) q1
     have q3 := chanceF_ok (s := (exprG (chanceF (nextF (chanceF (exprG (nextF (nextF (nextF s 4).2 2).2 2).2).2 2).2 9).2 2).2).2) (m := 2) (n := 1494) q2
     obtain ⟨f1, f2, f3⟩ := nextF_ok (s := (chanceF (exprG (chanceF (nextF (chanceF (exprG (nextF (nextF (nextF s 4).2 2).2 2).2).2 2).2 9).2 2).2).2 2).2) (n := 6) (k := 1491) q3
     have f3 := f3 (by omega)
     obtain ⟨g1, g2, g3⟩ := nextF_ok (s := (nextF (chanceF (exprG (chanceF (nextF (chanceF (exprG (nextF (nextF (nextF s 4).2 2).2 2).2).2 2).2 9).2 2).2).2 2).2 6).2) (n := 2) (k := 1488) f1
     have g3 := g3 (by omega)
     refine ax_call rfl (vcall_own (c_chance (s := (nextF (chanceF (exprG (nextF (nextF (nextF s 4).2 2).2 2).2).2 2).2 9).2) (n := 2497) ?_ ?_) hP hmv false (fun _ => 1000) [1000] ⟨rfl, rfl, rfl, rfl, ⟨rfl, trivial⟩, rfl, rfl, rfl⟩ (.pass rfl rfl (.pass rfl rfl .nil)) ?_)
     ·
      first | assumption | omega | (simp; done) | (simp; omega)
     ·
      first | assumption | omega | (simp; done) | (simp; omega)
     rintro r h ⟨rfl, rfl⟩
     refine ⟨fun _ => 1000, [], ⟨rfl, rfl, rfl, rfl, mem1 rfl, rfl, rfl, fun h => absurd h Bool.false_ne_true⟩, ?_⟩
     refine ax_nil (cx_keep rfl rfl ?_)
     refine cx_cond rfl (fun h5 => ?_) (fun h5 => ?_)
     ·
      skip
      refine cx_seq (cx_ops ?_)
      refine ax_q (q_mov rfl) ?_
      refine ax_call rfl (vcall_own (c_expr (s := (chanceF (nextF (chanceF (exprG (nextF (nextF (nextF s 4).2 2).2 2).2).2 2).2 9).2 2).2) (q1.mono (by omega))) hP hmv false (fun _ => 1000) [1000] ⟨rfl, rfl, rfl, rfl, ⟨rfl, trivial⟩, rfl, rfl, rfl⟩ (.pass rfl rfl .nil) ?_)
      rintro r h ⟨rfl, rfl⟩
      refine ⟨fun e => bif Nat.beq e 1000 then 1000 else 64, [0], ⟨rfl, rfl, rfl, rfl, mem1 rfl, rfl, rfl, fun h => absurd h Bool.false_ne_true⟩, ?_⟩
      refine ax_wk (wk_frz 64 64 rfl rfl (.agg (.cons (.whole (List.length_map _).symm) .nil)) rfl) ?_
      refine ax_q (q_fadr_ptr rfl) ?_
      refine ax_e (e_st rfl rfl rfl rfl rfl rfl rfl) ?_
      refine ax_nil (cx_keep rfl rfl (cx_seq (cx_ops ?_)))
      refine ax_q (q_mov rfl) ?_
      refine ax_call rfl (vcall_own (c_chance (s := (exprG (chanceF (nextF (chanceF (exprG (nextF (nextF (nextF s 4).2 2).2 2).2).2 2).2 9).2 2).2).2) (n := 1494) ?_ ?_) hP hmv false (fun _ => 1000) [1000] ⟨rfl, rfl, rfl, rfl, ⟨rfl, trivial⟩, rfl, rfl, rfl⟩ (.pass rfl rfl (.pass rfl rfl .nil)) ?_)
      ·
       first | assumption | omega | (simp; done) | (simp; omega)
      ·
       first | assumption | omega | (simp; done) | (simp; omega)
      rintro r h ⟨rfl, rfl⟩
      refine ⟨fun _ => 1000, [], ⟨rfl, rfl, rfl, rfl, mem1 rfl, rfl, rfl, fun h => absurd h Bool.false_ne_true⟩, ?_⟩
      refine ax_nil (cx_keep rfl rfl ?_)
      refine cx_cond rfl (fun h6 => ?_) (fun h6 => ?_)
      ·
       skip
       refine cx_ops ?_
       refine ax_q (q_build rfl) ?_
       refine ax_q (q_mov rfl) ?_
       refine ax_call rfl (vcall_own (c_next (s := (chanceF (exprG (chanceF (nextF (chanceF (exprG (nextF (nextF (nextF s 4).2 2).2 2).2).2 2).2 9).2 2).2).2 2).2) (n := 1491) ?_) hP hmv false (fun _ => 1000) [1000] ⟨rfl, rfl, rfl, rfl, ⟨rfl, trivial⟩, rfl, rfl, rfl⟩ (.pass rfl rfl (.pass rfl rfl .nil)) ?_)
       ·
        first | assumption | omega | (simp; done) | (simp; omega)
       rintro r h ⟨rfl, rfl⟩
       refine ⟨fun _ => 1000, [], ⟨rfl, rfl, rfl, rfl, mem1 rfl, rfl, rfl, fun h => absurd h Bool.false_ne_true⟩, ?_⟩
       first | refine ax_call rfl (vc_pure0 (c_sInt (n := (nextF (chanceF (exprG (chanceF (nextF (chanceF (exprG (nextF (nextF (nextF s 4).2 2).2 2).2).2 2).2 9).2 2).2).2 2).2 6).1) ) hP rfl rfl ?_) | refine ax_call rfl (vc_lend0 (c_sInt (n := (nextF (chanceF (exprG (chanceF (nextF (chanceF (exprG (nextF (nextF (nextF s 4).2 2).2 2).2).2 2).2 9).2 2).2).2 2).2 6).1) ) hP (by repeat (first | exact lal_id _ rfl | exact LAL.nil | refine LAL.cons ?_ ?_ | exact la_id _ rfl | exact LA.lend (lend_whole rfl (by first | (simp; done) | (rw [List.length_map]; rfl))) | refine LA.agg ?_ | refine LA.fn ?_ | refine LA.lend ?_ | exact Lend.d _ | exact Lend.zs _ | exact lend_whole rfl (by first | (simp; done) | (rw [List.length_map]; rfl)) | refine Lend.ptr rfl ?_ | refine Lend.fn ?_ | exact LendL.nil | refine LendL.cons ?_ ?_)) rfl rfl ?_)
       refine ax_q (q_build rfl) ?_
       refine ax_q (q_mov rfl) ?_
       refine ax_call rfl (vcall_own (c_next (s := (nextF (chanceF (exprG (chanceF (nextF (chanceF (exprG (nextF (nextF (nextF s 4).2 2).2 2).2).2 2).2 9).2 2).2).2 2).2 6).2) (n := 1488) ?_) hP hmv false (fun _ => 1000) [1000] ⟨rfl, rfl, rfl, rfl, ⟨rfl, trivial⟩, rfl, rfl, rfl⟩ (.pass rfl rfl (.pass rfl rfl .nil)) ?_)
       ·
        first | assumption | omega | (simp; done) | (simp; omega)
       rintro r h ⟨rfl, rfl⟩
       refine ⟨fun _ => 1000, [], ⟨rfl, rfl, rfl, rfl, mem1 rfl, rfl, rfl, fun h => absurd h Bool.false_ne_true⟩, ?_⟩
       refine ax_q (q_add rfl rfl (by omega)) ?_
       refine ax_q (q_build rfl) ?_
       refine ax_e (e_bsliceD (rows := [GExprNode.row ⟨2, 0, 0, 0, .zero⟩, GExprNode.row ⟨1, 0, 0, 0, vI (nextF (chanceF (exprG (chanceF (nextF (chanceF (exprG (nextF (nextF (nextF s 4).2 2).2 2).2).2 2).2 9).2 2).2).2 2).2 6).1⟩, GExprNode.row ⟨10 + (nextF (nextF (chanceF (exprG (chanceF (nextF (chanceF (exprG (nextF (nextF (nextF s 4).2 2).2 2).2).2 2).2 9).2 2).2).2 2).2 6).2 2).1, 0, 1, 0, .zero⟩]) rfl) ?_
       refine ax_q (q_build rfl) ?_
       refine ax_q (q_fadr_ptr rfl) ?_
       refine ax_e (e_st rfl rfl rfl rfl rfl rfl rfl) ?_
       refine ax_nil (cx_keep rfl rfl (cx_seq (cx_ops ?_)))
       refine ax_q (q_ldN rfl rfl rfl) ?_
       refine ax_wk (wk_frz 80 38 rfl rfl (.agg (.cons (.same rfl) (.cons (.same rfl) (.cons (.same rfl) (.cons (.same rfl) (.cons (.same rfl) (.cons (.same rfl) (.cons (.same rfl) (.cons (.same rfl) (.cons (.same rfl) (.cons (.same rfl) (.cons (.whole rfl) (.cons (.same rfl) (.cons (.same rfl) (.cons (.same rfl) .nil))))))))))))))) rfl) ?_
       refine ax_e (e_st rfl rfl rfl rfl rfl rfl rfl) ?_
       refine ax_nil (cx_keep rfl rfl ?_)
       refine cx_ret (retN id [1000] rfl rfl rfl rfl rfl ?_)
       rw [stG_3 h0 h1 (setG_2 h2 h3) (whrG_1 h5 h6)]; exact ⟨rfl, rfl⟩
      ·
       skip
       refine cx_skip ?_
       refine cx_keep rfl rfl (cx_seq (cx_ops ?_))
       refine ax_q (q_ldN rfl rfl rfl) ?_
       refine ax_wk (wk_frz 80 38 rfl rfl (.agg (.cons (.same rfl) (.cons (.same rfl) (.cons (.same rfl) (.cons (.same rfl) (.cons (.same rfl) (.cons (.same rfl) (.cons (.same rfl) (.cons (.same rfl) (.cons (.same rfl) (.cons (.same rfl) (.cons (.whole rfl) (.cons (.same rfl) (.cons (.same rfl) (.cons (.same rfl) .nil))))))))))))))) rfl) ?_
       refine ax_e (e_st rfl rfl rfl rfl rfl rfl rfl) ?_
       refine ax_nil (cx_keep rfl rfl ?_)
       refine cx_ret (retN id [1000] rfl rfl rfl rfl rfl ?_)
       rw [stG_3 h0 h1 (setG_2 h2 h3) (whrG_2 h5 h6)]; exact ⟨rfl, rfl⟩
     ·
      skip
      refine cx_skip ?_
      refine cx_keep rfl rfl (cx_seq (cx_ops ?_))
      refine ax_q (q_ldN rfl rfl rfl) ?_
      refine ax_wk (wk_frz 80 38 rfl rfl (.agg (.cons (.same rfl) (.cons (.same rfl) (.cons (.same rfl) (.cons (.same rfl) (.cons (.same rfl) (.cons (.same rfl) (.cons (.same rfl) (.cons (.same rfl) (.cons (.same rfl) (.cons (.same rfl) (.cons (.whole rfl) (.cons (.same rfl) (.cons (.same rfl) (.cons (.same rfl) .nil))))))))))))))) rfl) ?_
      refine ax_e (e_st rfl rfl rfl rfl rfl rfl rfl) ?_
      refine ax_nil (cx_keep rfl rfl ?_)
      refine cx_ret (retN id [1000] rfl rfl rfl rfl rfl ?_)
      rw [stG_3 h0 h1 (setG_2 h2 h3) (whrG_3 h5)]; exact ⟨rfl, rfl⟩
   ·
    skip
    refine cx_skip ?_
    refine cx_keep rfl rfl (cx_seq (cx_seq (cx_ops ?_)))
    refine ax_q (q_mov rfl) ?_
    have q0 : Src.ok (chanceF (exprG (nextF (nextF (nextF s 4).2 2).2 2).2).2 2).2 (2497 + 3) := e2.mono (by omega)
    have q1 := chanceF_ok (s := (chanceF (exprG (nextF (nextF (nextF s 4).2 2).2 2).2).2 2).2) (m := 2) (n := 2497) q0
    have q2 := exprG_src (s := (chanceF (chanceF (exprG (nextF (nextF (nextF s 4).2 2).2 2).2).2 2).2 2).2) (n := 1497) q1
    have q3 := chanceF_ok (s := (exprG (chanceF (chanceF (exprG (nextF (nextF (nextF s 4).2 2).2 2).2).2 2).2 2).2).2) (m := 2) (n := 1494) q2
    obtain ⟨f1, f2, f3⟩ := nextF_ok (s := (chanceF (exprG (chanceF (chanceF (exprG (nextF (nextF (nextF s 4).2 2).2 2).2).2 2).2 2).2).2 2).2) (n := 6) (k := 1491) q3
    have f3 := f3 (by omega)
    obtain ⟨g1, g2, g3⟩ := nextF_ok (s := (nextF (chanceF (exprG (chanceF (chanceF (exprG (nextF (nextF (nextF s 4).2 2).2 2).2).2 2).2 2).2).2 2).2 6).2) (n := 2) (k := 1488) f1
    have g3 := g3 (by omega)
    refine ax_call rfl (vcall_own (c_chance (s := (chanceF (exprG (nextF (nextF (nextF s 4).2 2).2 2).2).2 2).2) (n := 2497) ?_ ?_) hP hmv false (fun _ => 1000) [1000] ⟨rfl, rfl, rfl, rfl, ⟨rfl, trivial⟩, rfl, rfl, rfl⟩ (.pass rfl rfl (.pass rfl rfl .nil)) ?_)
    ·
     first | assumption | omega | (simp; done) | (simp; omega)
    ·
     first | assumption | omega | (simp; done) | (simp; omega)
    rintro r h ⟨rfl, rfl⟩
    refine ⟨fun _ => 1000, [], ⟨rfl, rfl, rfl, rfl, mem1 rfl, rfl, rfl, fun h => absurd h Bool.false_ne_true⟩, ?_⟩
    refine ax_nil (cx_keep rfl rfl ?_)
    refine cx_cond rfl (fun h5 => ?_) (fun h5 => ?_)
    ·
     skip
     refine cx_seq (cx_ops ?_)
     refine ax_q (q_mov rfl) ?_
     refine ax_call rfl (vcall_own (c_expr (s := (chanceF (chanceF (exprG (nextF (nextF (nextF s 4).2 2).2 2).2).2 2).2 2).2) (q1.mono (by omega))) hP hmv false (fun _ => 1000) [1000] ⟨rfl, rfl, rfl, rfl, ⟨rfl, trivial⟩, rfl, rfl, rfl⟩ (.pass rfl rfl .nil) ?_)
     rintro r h ⟨rfl, rfl⟩
     refine ⟨fun e => bif Nat.beq e 1000 then 1000 else 64, [0], ⟨rfl, rfl, rfl, rfl, mem1 rfl, rfl, rfl, fun h => absurd h Bool.false_ne_true⟩, ?_⟩
     refine ax_wk (wk_frz 64 64 rfl rfl (.agg (.cons (.whole (List.length_map _).symm) .nil)) rfl) ?_
     refine ax_q (q_fadr_ptr rfl) ?_
     refine ax_e (e_st rfl rfl rfl rfl rfl rfl rfl) ?_
     refine ax_nil (cx_keep rfl rfl (cx_seq (cx_ops ?_)))
     refine ax_q (q_mov rfl) ?_
     refine ax_call rfl (vcall_own (c_chance (s := (exprG (chanceF (chanceF (exprG (nextF (nextF (nextF s 4).2 2).2 2).2).2 2).2 2).2).2) (n := 1494) ?_ ?_) hP hmv false (fun _ => 1000) [1000] ⟨rfl, rfl, rfl, rfl, ⟨rfl, trivial⟩, rfl, rfl, rfl⟩ (.pass rfl rfl (.pass rfl rfl .nil)) ?_)
     ·
      first | assumption | omega | (simp; done) | (simp; omega)
     ·
      first | assumption | omega | (simp; done) | (simp; omega)
     rintro r h ⟨rfl, rfl⟩
     refine ⟨fun _ => 1000, [], ⟨rfl, rfl, rfl, rfl, mem1 rfl, rfl, rfl, fun h => absurd h Bool.false_ne_true⟩, ?_⟩
     refine ax_nil (cx_keep rfl rfl ?_)
     refine cx_cond rfl (fun h6 => ?_) (fun h6 => ?_)
     ·
      skip
      refine cx_ops ?_
      refine ax_q (q_build rfl) ?_
      refine ax_q (q_mov rfl) ?_
      refine ax_call rfl (vcall_own (c_next (s := (chanceF (exprG (chanceF (chanceF (exprG (nextF (nextF (nextF s 4).2 2).2 2).2).2 2).2 2).2).2 2).2) (n := 1491) ?_) hP hmv false (fun _ => 1000) [1000] ⟨rfl, rfl, rfl, rfl, ⟨rfl, trivial⟩, rfl, rfl, rfl⟩ (.pass rfl rfl (.pass rfl rfl .nil)) ?_)
      ·
       first | assumption | omega | (simp; done) | (simp; omega)
      rintro r h ⟨rfl, rfl⟩
      refine ⟨fun _ => 1000, [], ⟨rfl, rfl, rfl, rfl, mem1 rfl, rfl, rfl, fun h => absurd h Bool.false_ne_true⟩, ?_⟩
      first | refine ax_call rfl (vc_pure0 (c_sInt (n := (nextF (chanceF (exprG (chanceF (chanceF (exprG (nextF (nextF (nextF s 4).2 2).2 2).2).2 2).2 2).2).2 2).2 6).1) ) hP rfl rfl ?_) | refine ax_call rfl (vc_lend0 (c_sInt (n := (nextF (chanceF (exprG (chanceF (chanceF (exprG (nextF (nextF (nextF s 4).2 2).2 2).2).2 2).2 2).2).2 2).2 6).1) ) hP (by repeat (first | exact lal_id _ rfl | exact LAL.nil | refine LAL.cons ?_ ?_ | exact la_id _ rfl | exact LA.lend (lend_whole rfl (by first | (simp; done) | (rw [List.length_map]; rfl))) | refine LA.agg ?_ | refine LA.fn ?_ | refine LA.lend ?_ | exact Lend.d _ | exact Lend.zs _ | exact lend_whole rfl (by first | (simp; done) | (rw [List.length_map]; rfl)) | refine Lend.ptr rfl ?_ | refine Lend.fn ?_ | exact LendL.nil | refine LendL.cons ?_ ?_)) rfl rfl ?_)
      refine ax_q (q_build rfl) ?_
      refine ax_q (q_mov rfl) ?_
      refine ax_call rfl (vcall_own (c_next (s := (nextF (chanceF (exprG (chanceF (chanceF (exprG (nextF (nextF (nextF s 4).2 2).2 2).2).2 2).2 2).2).2 2).2 6).2) (n := 1488) ?_) hP hmv false (fun _ => 1000) [1000] ⟨rfl, rfl, rfl, rfl, ⟨rfl, trivial⟩, rfl, rfl, rfl⟩ (.pass rfl rfl (.pass rfl rfl .nil)) ?_)
      ·
       first | assumption | omega | (simp; done) | (simp; omega)
      rintro r h ⟨rfl, rfl⟩
      refine ⟨fun _ => 1000, [], ⟨rfl, rfl, rfl, rfl, mem1 rfl, rfl, rfl, fun h => absurd h Bool.false_ne_true⟩, ?_⟩
      refine ax_q (q_add rfl rfl (by omega)) ?_
      refine ax_q (q_build rfl) ?_
      refine ax_e (e_bsliceD (rows := [GExprNode.row ⟨2, 0, 0, 0, .zero⟩, GExprNode.row ⟨1, 0, 0, 0, vI (nextF (chanceF (exprG (chanceF (chanceF (exprG (nextF (nextF (nextF s 4).2 2).2 2).2).2 2).2 2).2).2 2).2 6).1⟩, GExprNode.row ⟨10 + (nextF (nextF (chanceF (exprG (chanceF (chanceF (exprG (nextF (nextF (nextF s 4).2 2).2 2).2).2 2).2 2).2).2 2).2 6).2 2).1, 0, 1, 0, .zero⟩]) rfl) ?_
      refine ax_q (q_build rfl) ?_
      refine ax_q (q_fadr_ptr rfl) ?_
      refine ax_e (e_st rfl rfl rfl rfl rfl rfl rfl) ?_
      refine ax_nil (cx_keep rfl rfl (cx_seq (cx_ops ?_)))
      refine ax_q (q_ldN rfl rfl rfl) ?_
      skip
      refine ax_e (e_st rfl rfl rfl rfl rfl rfl rfl) ?_
      refine ax_nil (cx_keep rfl rfl ?_)
      refine cx_ret (retN id [1000] rfl rfl rfl rfl rfl ?_)
      rw [stG_3 h0 h1 (setG_3 h2) (whrG_1 h5 h6)]; exact ⟨rfl, rfl⟩
     ·
      skip
      refine cx_skip ?_
      refine cx_keep rfl rfl (cx_seq (cx_ops ?_))
      refine ax_q (q_ldN rfl rfl rfl) ?_
      skip
      refine ax_e (e_st rfl rfl rfl rfl rfl rfl rfl) ?_
      refine ax_nil (cx_keep rfl rfl ?_)
      refine cx_ret (retN id [1000] rfl rfl rfl rfl rfl ?_)
      rw [stG_3 h0 h1 (setG_3 h2) (whrG_2 h5 h6)]; exact ⟨rfl, rfl⟩
    ·
     skip
     refine cx_skip ?_
     refine cx_keep rfl rfl (cx_seq (cx_ops ?_))
     refine ax_q (q_ldN rfl rfl rfl) ?_
     skip
     refine ax_e (e_st rfl rfl rfl rfl rfl rfl rfl) ?_
     refine ax_nil (cx_keep rfl rfl ?_)
     refine cx_ret (retN id [1000] rfl rfl rfl rfl rfl ?_)
     rw [stG_3 h0 h1 (setG_3 h2) (whrG_3 h5)]; exact ⟨rfl, rfl⟩
  ·
   have h1 := dF h1
   refine cx_seq (cx_ops ?_)
   refine ax_q (q_ibin rfl rfl rfl) ?_
   refine ax_q (q_mov rfl) ?_
   refine ax_nil (cx_keep rfl rfl ?_)
   refine cx_cond rfl (fun h4 => ?_) (fun h4 => ?_)
   ·
    have h4 := dT h4
    obtain ⟨o0, o0a, o0b⟩ := nextF_ok (s := (nextF (nextF s 4).2 2).2) (n := 3) (k := 4991) k4
    have o0b := o0b (by omega)
    have o2 := chanceF_ok (s := (nextF (nextF (nextF s 4).2 2).2 3).2) (m := 3) (n := 4988) o0
    refine cx_seq (cx_ops ?_)
    refine ax_q (q_mov rfl) ?_
    refine ax_call rfl (vcall_own (c_next (s := (nextF (nextF s 4).2 2).2) (n := 4991) ?_) hP hmv false (fun _ => 1000) [1000] ⟨rfl, rfl, rfl, rfl, ⟨rfl, trivial⟩, rfl, rfl, rfl⟩ (.pass rfl rfl (.pass rfl rfl .nil)) ?_)
    ·
     first | assumption | omega | (simp; done) | (simp; omega)
    rintro r h ⟨rfl, rfl⟩
    refine ⟨fun _ => 1000, [], ⟨rfl, rfl, rfl, rfl, mem1 rfl, rfl, rfl, fun h => absurd h Bool.false_ne_true⟩, ?_⟩
    refine ax_q (q_fadr_ptr rfl) ?_
    refine ax_e (e_st rfl rfl rfl rfl rfl rfl rfl) ?_
    refine ax_nil (cx_keep rfl rfl (cx_ops ?_))
    refine ax_q (q_mov rfl) ?_
    refine ax_call rfl (vcall_own (c_chance (s := (nextF (nextF (nextF s 4).2 2).2 3).2) (n := 4988) ?_ ?_) hP hmv false (fun _ => 1000) [1000] ⟨rfl, rfl, rfl, rfl, ⟨rfl, trivial⟩, rfl, rfl, rfl⟩ (.pass rfl rfl (.pass rfl rfl .nil)) ?_)
    ·
     first | assumption | omega | (simp; done) | (simp; omega)
    ·
     first | assumption | omega | (simp; done) | (simp; omega)
    rintro r h ⟨rfl, rfl⟩
    refine ⟨fun _ => 1000, [], ⟨rfl, rfl, rfl, rfl, mem1 rfl, rfl, rfl, fun h => absurd h Bool.false_ne_true⟩, ?_⟩
    refine ax_q (q_fadr_ptr rfl) ?_
    refine ax_e (e_st rfl rfl rfl rfl rfl rfl rfl) ?_
    refine ax_nil (cx_keep rfl rfl (cx_seq (cx_seq (cx_ops ?_))))
    refine ax_q (q_mov rfl) ?_
    have q0 : Src.ok (chanceF (nextF (nextF (nextF s 4).2 2).2 3).2 3).2 (2497 + 3) := o2.mono (by omega)
    have q1 := chanceF_ok (s := (chanceF (nextF (nextF (nextF s 4).2 2).2 3).2 3).2) (m := 2) (n := 2497) q0
    have q2 := exprG_src (s := (chanceF (chanceF (nextF (nextF (nextF s 4).2 2).2 3).2 3).2 2).2) (n := 1497) q1
    have q3 := chanceF_ok (s := (exprG (chanceF (chanceF (nextF (nextF (nextF s 4).2 2).2 3).2 3).2 2).2).2) (m := 2) (n := 1494) q2
    obtain ⟨f1, f2, f3⟩ := nextF_ok (s := (chanceF (exprG (chanceF (chanceF (nextF (nextF (nextF s 4).2 2).2 3).2 3).2 2).2).2 2).2) (n := 6) (k := 1491) q3
    have f3 := f3 (by omega)
    obtain ⟨g1, g2, g3⟩ := nextF_ok (s := (nextF (chanceF (exprG (chanceF (chanceF (nextF (nextF (nextF s 4).2 2).2 3).2 3).2 2).2).2 2).2 6).2) (n := 2) (k := 1488) f1
    have g3 := g3 (by omega)
    refine ax_call rfl (vcall_own (c_chance (s := (chanceF (nextF (nextF (nextF s 4).2 2).2 3).2 3).2) (n := 2497) ?_ ?_) hP hmv false (fun _ => 1000) [1000] ⟨rfl, rfl, rfl, rfl, ⟨rfl, trivial⟩, rfl, rfl, rfl⟩ (.pass rfl rfl (.pass rfl rfl .nil)) ?_)
    ·
     first | assumption | omega | (simp; done) | (simp; omega)
    ·
     first | assumption | omega | (simp; done) | (simp; omega)
    rintro r h ⟨rfl, rfl⟩
    refine ⟨fun _ => 1000, [], ⟨rfl, rfl, rfl, rfl, mem1 rfl, rfl, rfl, fun h => absurd h Bool.false_ne_true⟩, ?_⟩
    refine ax_nil (cx_keep rfl rfl ?_)
    refine cx_cond rfl (fun h5 => ?_) (fun h5 => ?_)
    ·
     skip
     refine cx_seq (cx_ops ?_)
     refine ax_q (q_mov rfl) ?_
     refine ax_call rfl (vcall_own (c_expr (s := (chanceF (chanceF (nextF (nextF (nextF s 4).2 2).2 3).2 3).2 2).2) (q1.mono (by omega))) hP hmv false (fun _ => 1000) [1000] ⟨rfl, rfl, rfl, rfl, ⟨rfl, trivial⟩, rfl, rfl, rfl⟩ (.pass rfl rfl .nil) ?_)
     rintro r h ⟨rfl, rfl⟩
     refine ⟨fun e => bif Nat.beq e 1000 then 1000 else 64, [0], ⟨rfl, rfl, rfl, rfl, mem1 rfl, rfl, rfl, fun h => absurd h Bool.false_ne_true⟩, ?_⟩
     refine ax_wk (wk_frz 64 64 rfl rfl (.agg (.cons (.whole (List.length_map _).symm) .nil)) rfl) ?_
     refine ax_q (q_fadr_ptr rfl) ?_
     refine ax_e (e_st rfl rfl rfl rfl rfl rfl rfl) ?_
     refine ax_nil (cx_keep rfl rfl (cx_seq (cx_ops ?_)))
     refine ax_q (q_mov rfl) ?_
     refine ax_call rfl (vcall_own (c_chance (s := (exprG (chanceF (chanceF (nextF (nextF (nextF s 4).2 2).2 3).2 3).2 2).2).2) (n := 1494) ?_ ?_) hP hmv false (fun _ => 1000) [1000] ⟨rfl, rfl, rfl, rfl, ⟨rfl, trivial⟩, rfl, rfl, rfl⟩ (.pass rfl rfl (.pass rfl rfl .nil)) ?_)
     ·
      first | assumption | omega | (simp; done) | (simp; omega)
     ·
      first | assumption | omega | (simp; done) | (simp; omega)
     rintro r h ⟨rfl, rfl⟩
     refine ⟨fun _ => 1000, [], ⟨rfl, rfl, rfl, rfl, mem1 rfl, rfl, rfl, fun h => absurd h Bool.false_ne_true⟩, ?_⟩
     refine ax_nil (cx_keep rfl rfl ?_)
     refine cx_cond rfl (fun h6 => ?_) (fun h6 => ?_)
     ·
      skip
      refine cx_ops ?_
      refine ax_q (q_build rfl) ?_
      refine ax_q (q_mov rfl) ?_
      refine ax_call rfl (vcall_own (c_next (s := (chanceF (exprG (chanceF (chanceF (nextF (nextF (nextF s 4).2 2).2 3).2 3).2 2).2).2 2).2) (n := 1491) ?_) hP hmv false (fun _ => 1000) [1000] ⟨rfl, rfl, rfl, rfl, ⟨rfl, trivial⟩, rfl, rfl, rfl⟩ (.pass rfl rfl (.pass rfl rfl .nil)) ?_)
      ·
       first | assumption | omega | (simp; done) | (simp; omega)
      rintro r h ⟨rfl, rfl⟩
      refine ⟨fun _ => 1000, [], ⟨rfl, rfl, rfl, rfl, mem1 rfl, rfl, rfl, fun h => absurd h Bool.false_ne_true⟩, ?_⟩
      first | refine ax_call rfl (vc_pure0 (c_sInt (n := (nextF (chanceF (exprG (chanceF (chanceF (nextF (nextF (nextF s 4).2 2).2 3).2 3).2 2).2).2 2).2 6).1) ) hP rfl rfl ?_) | refine ax_call rfl (vc_lend0 (c_sInt (n := (nextF (chanceF (exprG (chanceF (chanceF (nextF (nextF (nextF s 4).2 2).2 3).2 3).2 2).2).2 2).2 6).1) ) hP (by repeat (first | exact lal_id _ rfl | exact LAL.nil | refine LAL.cons ?_ ?_ | exact la_id _ rfl | exact LA.lend (lend_whole rfl (by first | (simp; done) | (rw [List.length_map]; rfl))) | refine LA.agg ?_ | refine LA.fn ?_ | refine LA.lend ?_ | exact Lend.d _ | exact Lend.zs _ | exact lend_whole rfl (by first | (simp; done) | (rw [List.length_map]; rfl)) | refine Lend.ptr rfl ?_ | refine Lend.fn ?_ | exact LendL.nil | refine LendL.cons ?_ ?_)) rfl rfl ?_)
      refine ax_q (q_build rfl) ?_
      refine ax_q (q_mov rfl) ?_
      refine ax_call rfl (vcall_own (c_next (s := (nextF (chanceF (exprG (chanceF (chanceF (nextF (nextF (nextF s 4).2 2).2 3).2 3).2 2).2).2 2).2 6).2) (n := 1488) ?_) hP hmv false (fun _ => 1000) [1000] ⟨rfl, rfl, rfl, rfl, ⟨rfl, trivial⟩, rfl, rfl, rfl⟩ (.pass rfl rfl (.pass rfl rfl .nil)) ?_)
      ·
       first | assumption | omega | (simp; done) | (simp; omega)
      rintro r h ⟨rfl, rfl⟩
      refine ⟨fun _ => 1000, [], ⟨rfl, rfl, rfl, rfl, mem1 rfl, rfl, rfl, fun h => absurd h Bool.false_ne_true⟩, ?_⟩
      refine ax_q (q_add rfl rfl (by omega)) ?_
      refine ax_q (q_build rfl) ?_
      refine ax_e (e_bsliceD (rows := [GExprNode.row ⟨2, 0, 0, 0, .zero⟩, GExprNode.row ⟨1, 0, 0, 0, vI (nextF (chanceF (exprG (chanceF (chanceF (nextF (nextF (nextF s 4).2 2).2 3).2 3).2 2).2).2 2).2 6).1⟩, GExprNode.row ⟨10 + (nextF (nextF (chanceF (exprG (chanceF (chanceF (nextF (nextF (nextF s 4).2 2).2 3).2 3).2 2).2).2 2).2 6).2 2).1, 0, 1, 0, .zero⟩]) rfl) ?_
      refine ax_q (q_build rfl) ?_
      refine ax_q (q_fadr_ptr rfl) ?_
      refine ax_e (e_st rfl rfl rfl rfl rfl rfl rfl) ?_
      refine ax_nil (cx_keep rfl rfl (cx_seq (cx_ops ?_)))
      refine ax_q (q_ldN rfl rfl rfl) ?_
      skip
      refine ax_e (e_st rfl rfl rfl rfl rfl rfl rfl) ?_
      refine ax_nil (cx_keep rfl rfl ?_)
      refine cx_ret (retN id [1000] rfl rfl rfl rfl rfl ?_)
      rw [stG_1 h0 h1 h4 (whrG_1 h5 h6)]; exact ⟨rfl, rfl⟩
     ·
      skip
      refine cx_skip ?_
      refine cx_keep rfl rfl (cx_seq (cx_ops ?_))
      refine ax_q (q_ldN rfl rfl rfl) ?_
      skip
      refine ax_e (e_st rfl rfl rfl rfl rfl rfl rfl) ?_
      refine ax_nil (cx_keep rfl rfl ?_)
      refine cx_ret (retN id [1000] rfl rfl rfl rfl rfl ?_)
      rw [stG_1 h0 h1 h4 (whrG_2 h5 h6)]; exact ⟨rfl, rfl⟩
    ·
     skip
     refine cx_skip ?_
     refine cx_keep rfl rfl (cx_seq (cx_ops ?_))
     refine ax_q (q_ldN rfl rfl rfl) ?_
     skip
     refine ax_e (e_st rfl rfl rfl rfl rfl rfl rfl) ?_
     refine ax_nil (cx_keep rfl rfl ?_)
     refine cx_ret (retN id [1000] rfl rfl rfl rfl rfl ?_)
     rw [stG_1 h0 h1 h4 (whrG_3 h5)]; exact ⟨rfl, rfl⟩
   ·
    have h4 := dF h4
    refine cx_skip ?_
    refine cx_keep rfl rfl (cx_seq (cx_seq (cx_ops ?_)))
    refine ax_q (q_mov rfl) ?_
    have q0 : Src.ok (nextF (nextF s 4).2 2).2 (2497 + 3) := k4.mono (by omega)
    have q1 := chanceF_ok (s := (nextF (nextF s 4).2 2).2) (m := 2) (n := 2497) q0
    have q2 := exprG_src (s := (chanceF (nextF (nextF s 4).2 2).2 2).2) (n := 1497) q1
    have q3 := chanceF_ok (s := (exprG (chanceF (nextF (nextF s 4).2 2).2 2).2).2) (m := 2) (n := 1494) q2
    obtain ⟨f1, f2, f3⟩ := nextF_ok (s := (chanceF (exprG (chanceF (nextF (nextF s 4).2 2).2 2).2).2 2).2) (n := 6) (k := 1491) q3
    have f3 := f3 (by omega)
    obtain ⟨g1, g2, g3⟩ := nextF_ok (s := (nextF (chanceF (exprG (chanceF (nextF (nextF s 4).2 2).2 2).2).2 2).2 6).2) (n := 2) (k := 1488) f1
    have g3 := g3 (by omega)
    refine ax_call rfl (vcall_own (c_chance (s := (nextF (nextF s 4).2 2).2) (n := 2497) ?_ ?_) hP hmv false (fun _ => 1000) [1000] ⟨rfl, rfl, rfl, rfl, ⟨rfl, trivial⟩, rfl, rfl, rfl⟩ (.pass rfl rfl (.pass rfl rfl .nil)) ?_)
    ·
     first | assumption | omega | (simp; done) | (simp; omega)
    ·
     first | assumption | omega | (simp; done) | (simp; omega)
    rintro r h ⟨rfl, rfl⟩
    refine ⟨fun _ => 1000, [], ⟨rfl, rfl, rfl, rfl, mem1 rfl, rfl, rfl, fun h => absurd h Bool.false_ne_true⟩, ?_⟩
    refine ax_nil (cx_keep rfl rfl ?_)
    refine cx_cond rfl (fun h5 => ?_) (fun h5 => ?_)
    ·
     skip
     refine cx_seq (cx_ops ?_)
     refine ax_q (q_mov rfl) ?_
     refine ax_call rfl (vcall_own (c_expr (s := (chanceF (nextF (nextF s 4).2 2).2 2).2) (q1.mono (by omega))) hP hmv false (fun _ => 1000) [1000] ⟨rfl, rfl, rfl, rfl, ⟨rfl, trivial⟩, rfl, rfl, rfl⟩ (.pass rfl rfl .nil) ?_)
     rintro r h ⟨rfl, rfl⟩
     refine ⟨fun e => bif Nat.beq e 1000 then 1000 else 64, [0], ⟨rfl, rfl, rfl, rfl, mem1 rfl, rfl, rfl, fun h => absurd h Bool.false_ne_true⟩, ?_⟩
     refine ax_wk (wk_frz 64 64 rfl rfl (.agg (.cons (.whole (List.length_map _).symm) .nil)) rfl) ?_
     refine ax_q (q_fadr_ptr rfl) ?_
     refine ax_e (e_st rfl rfl rfl rfl rfl rfl rfl) ?_
     refine ax_nil (cx_keep rfl rfl (cx_seq (cx_ops ?_)))
     refine ax_q (q_mov rfl) ?_
     refine ax_call rfl (vcall_own (c_chance (s := (exprG (chanceF (nextF (nextF s 4).2 2).2 2).2).2) (n := 1494) ?_ ?_) hP hmv false (fun _ => 1000) [1000] ⟨rfl, rfl, rfl, rfl, ⟨rfl, trivial⟩, rfl, rfl, rfl⟩ (.pass rfl rfl (.pass rfl rfl .nil)) ?_)
     ·
      first | assumption | omega | (simp; done) | (simp; omega)
     ·
      first | assumption | omega | (simp; done) | (simp; omega)
     rintro r h ⟨rfl, rfl⟩
     refine ⟨fun _ => 1000, [], ⟨rfl, rfl, rfl, rfl, mem1 rfl, rfl, rfl, fun h => absurd h Bool.false_ne_true⟩, ?_⟩
     refine ax_nil (cx_keep rfl rfl ?_)
     refine cx_cond rfl (fun h6 => ?_) (fun h6 => ?_)
     ·
      skip
      refine cx_ops ?_
      refine ax_q (q_build rfl) ?_
      refine ax_q (q_mov rfl) ?_
      refine ax_call rfl (vcall_own (c_next (s := (chanceF (exprG (chanceF (nextF (nextF s 4).2 2).2 2).2).2 2).2) (n := 1491) ?_) hP hmv false (fun _ => 1000) [1000] ⟨rfl, rfl, rfl, rfl, ⟨rfl, trivial⟩, rfl, rfl, rfl⟩ (.pass rfl rfl (.pass rfl rfl .nil)) ?_)
      ·
       first | assumption | omega | (simp; done) | (simp; omega)
      rintro r h ⟨rfl, rfl⟩
      refine ⟨fun _ => 1000, [], ⟨rfl, rfl, rfl, rfl, mem1 rfl, rfl, rfl, fun h => absurd h Bool.false_ne_true⟩, ?_⟩
      first | refine ax_call rfl (vc_pure0 (c_sInt (n := (nextF (chanceF (exprG (chanceF (nextF (nextF s 4).2 2).2 2).2).2 2).2 6).1) ) hP rfl rfl ?_) | refine ax_call rfl (vc_lend0 (c_sInt (n := (nextF (chanceF (exprG (chanceF (nextF (nextF s 4).2 2).2 2).2).2 2).2 6).1) ) hP (by repeat (first | exact lal_id _ rfl | exact LAL.nil | refine LAL.cons ?_ ?_ | exact la_id _ rfl | exact LA.lend (lend_whole rfl (by first | (simp; done) | (rw [List.length_map]; rfl))) | refine LA.agg ?_ | refine LA.fn ?_ | refine LA.lend ?_ | exact Lend.d _ | exact Lend.zs _ | exact lend_whole rfl (by first | (simp; done) | (rw [List.length_map]; rfl)) | refine Lend.ptr rfl ?_ | refine Lend.fn ?_ | exact LendL.nil | refine LendL.cons ?_ ?_)) rfl rfl ?_)
      refine ax_q (q_build rfl) ?_
      refine ax_q (q_mov rfl) ?_
      refine ax_call rfl (vcall_own (c_next (s := (nextF (chanceF (exprG (chanceF (nextF (nextF s 4).2 2).2 2).2).2 2).2 6).2) (n := 1488) ?_) hP hmv false (fun _ => 1000) [1000] ⟨rfl, rfl, rfl, rfl, ⟨rfl, trivial⟩, rfl, rfl, rfl⟩ (.pass rfl rfl (.pass rfl rfl .nil)) ?_)
      ·
       first | assumption | omega | (simp; done) | (simp; omega)
      rintro r h ⟨rfl, rfl⟩
      refine ⟨fun _ => 1000, [], ⟨rfl, rfl, rfl, rfl, mem1 rfl, rfl, rfl, fun h => absurd h Bool.false_ne_true⟩, ?_⟩
      refine ax_q (q_add rfl rfl (by omega)) ?_
      refine ax_q (q_build rfl) ?_
      refine ax_e (e_bsliceD (rows := [GExprNode.row ⟨2, 0, 0, 0, .zero⟩, GExprNode.row ⟨1, 0, 0, 0, vI (nextF (chanceF (exprG (chanceF (nextF (nextF s 4).2 2).2 2).2).2 2).2 6).1⟩, GExprNode.row ⟨10 + (nextF (nextF (chanceF (exprG (chanceF (nextF (nextF s 4).2 2).2 2).2).2 2).2 6).2 2).1, 0, 1, 0, .zero⟩]) rfl) ?_
      refine ax_q (q_build rfl) ?_
      refine ax_q (q_fadr_ptr rfl) ?_
      refine ax_e (e_st rfl rfl rfl rfl rfl rfl rfl) ?_
      refine ax_nil (cx_keep rfl rfl (cx_seq (cx_ops ?_)))
      refine ax_q (q_ldN rfl rfl rfl) ?_
      skip
      refine ax_e (e_st rfl rfl rfl rfl rfl rfl rfl) ?_
      refine ax_nil (cx_keep rfl rfl ?_)
      refine cx_ret (retN id [1000] rfl rfl rfl rfl rfl ?_)
      rw [stG_4 h0 h1 h4 (whrG_1 h5 h6)]; exact ⟨rfl, rfl⟩
     ·
      skip
      refine cx_skip ?_
      refine cx_keep rfl rfl (cx_seq (cx_ops ?_))
      refine ax_q (q_ldN rfl rfl rfl) ?_
      skip
      refine ax_e (e_st rfl rfl rfl rfl rfl rfl rfl) ?_
      refine ax_nil (cx_keep rfl rfl ?_)
      refine cx_ret (retN id [1000] rfl rfl rfl rfl rfl ?_)
      rw [stG_4 h0 h1 h4 (whrG_2 h5 h6)]; exact ⟨rfl, rfl⟩
    ·
     skip
     refine cx_skip ?_
     refine cx_keep rfl rfl (cx_seq (cx_ops ?_))
     refine ax_q (q_ldN rfl rfl rfl) ?_
     skip
     refine ax_e (e_st rfl rfl rfl rfl rfl rfl rfl) ?_
     refine ax_nil (cx_keep rfl rfl ?_)
     refine cx_ret (retN id [1000] rfl rfl rfl rfl rfl ?_)
     rw [stG_4 h0 h1 h4 (whrG_3 h5)]; exact ⟨rfl, rfl⟩


/- loop.example/g00332/spec.StmtOf -/
def k_c_StmtOf : XCode :=
 .seq (.ops [.op (some 2) (.alloc [.int .i64 0, .int .i64 0, .int .i64 0, .int .i64 0, .int .i64 0, .str [], .int .i64 0, .int .i64 0, .str [], .int .i64 0, .nils 7, .nils 7, .int .i64 0, .bool false])])
 (.keep [0, 2] (.seq (.ops [.op (some 3) (.mov (.t 0)),
   .call (some 4) 23 [.t 3],
   .call (some 5) 37 [.t 4],
   .op none (.store 14 (.t 2) (.t 5))])
 (.keep [2] (.ret))))
theorem k_c_StmtOf_fits : fitsF Tryz.prog 17 ⟨6, k_c_StmtOf, [.cN 2 14]⟩ = true := by kernel_rfl
theorem c_StmtOf {code : Str} (hl : code.length ≤ 1048576) : Con Tryz.prog noMv 17 [.d (.sl 1 (code.map byteRow))] [] (fun r h => r = (stmtOf code).av ∧ h = []) := by
 refine con_of2 k_c_StmtOf_fits rfl fun C hP hmv => ?_
 unfold k_c_StmtOf
 refine cx_seq (cx_ops ?_)
 refine ax_e (e_alloc (by decide) rfl rfl) ?_
 refine ax_nil (cx_keep rfl rfl (cx_seq (cx_ops ?_)))
 refine ax_q (q_mov rfl) ?_
 refine ax_call rfl (vc_pure (c_l00Source hl) hP rfl ?_)
 rintro r h ⟨rfl, rfl⟩
 refine ⟨fun _ => 4, [0], ⟨rfl, rfl, rfl, rfl, rfl, fun h => absurd h Bool.false_ne_true⟩, ?_⟩
 refine ax_call rfl (vcall_own (c_dstmt ((srcOf_ok hl).mono (by omega))) hP hmv false (fun _ => 4) [1000] ⟨rfl, rfl, rfl, rfl, ⟨rfl, trivial⟩, rfl, rfl, rfl⟩ (.pass rfl rfl .nil) ?_)
 rintro r h ⟨rfl, rfl⟩
 refine ⟨fun _ => 4, [], ⟨rfl, rfl, rfl, rfl, mem1 rfl, rfl, rfl, fun h => absurd h Bool.false_ne_true⟩, ?_⟩
 refine ax_e (e_st rfl rfl rfl rfl rfl rfl rfl) ?_
 refine ax_nil (cx_keep rfl rfl ?_)
 refine cx_ret (ret0 rfl rfl ?_)
 exact ⟨rfl, rfl⟩


/- loop.example/g00332/impl.inRange -/
def k_c_inRange : XCode :=
 .seq (.ops [.op (some 6) (.mov (.k (.bool false)))])
 (.keep [0, 1, 2] (.seq (.ops [.op (some 7) (.mov (.t 1)),
   .op (some 8) (.mov (.t 0)),
   .op (some 9) (.bin .leq (.t 7) (.t 8)),
   .op (some 10) (.mov (.t 9)),
   .andor 14 true 3 10 [.op (some 11) (.mov (.t 0)), .op (some 12) (.mov (.t 2)), .op (some 13) (.bin .leq (.t 11) (.t 12))] (.t 13),
   .op (some 6) (.mov (.t 14))])
 (.keep [6] (.ret))))
theorem k_c_inRange_fits : fitsF Tryz.prog 34 ⟨15, k_c_inRange, [.t 6]⟩ = true := by kernel_rfl
theorem c_inRange {n lo hi : Int} : Con Tryz.prog noMv 34 [int n, int lo, int hi] [] (fun r h => r = bool (inR n lo hi) ∧ h = []) := by
 refine con_of2 k_c_inRange_fits rfl fun C hP hmv => ?_
 unfold k_c_inRange
 refine cx_seq (cx_ops ?_)
 refine ax_q (q_mov rfl) ?_
 refine ax_nil (cx_keep rfl rfl (cx_seq (cx_ops ?_)))
 refine ax_q (q_mov rfl) ?_
 refine ax_q (q_mov rfl) ?_
 refine ax_q (q_ibin rfl rfl rfl) ?_
 refine ax_q (q_mov rfl) ?_
 apply ax_and rfl rfl
 ·
  intro g
  have g := dT g
  refine ax_q (q_mov rfl) ?_
  refine ax_q (q_mov rfl) ?_
  refine ax_q (q_ibin rfl rfl rfl) ?_
  exact ax_nil ⟨rfl, by repeat constructor⟩
 refine ax_q (q_mov rfl) ?_
 refine ax_nil (cx_keep rfl rfl ?_)
 refine cx_ret (ret0 rfl rfl ?_)
 exact ⟨rfl, rfl⟩


/- loop.example/g00332/impl.isPlace -/
def k_c_isPlace : XCode :=
 .seq (.ops [.op (some 4) (.mov (.k (.bool false)))])
 (.keep [0, 1] (.seq (.ops [.op (some 5) (.mov (.t 0)),
   .op (some 6) (.mov (.t 1)),
   .op (some 7) (.bin .sub (.t 6) (.k (.int .i64 1))),
   .call (some 8) 34 [.t 5, .k (.int .i64 0), .t 7],
   .op (some 4) (.mov (.t 8))])
 (.keep [4] (.ret))))
theorem k_c_isPlace_fits : fitsF Tryz.prog 45 ⟨9, k_c_isPlace, [.t 4]⟩ = true := by kernel_rfl
theorem c_isPlace {n k : Int} (hk : 0 ≤ k ∧ k ≤ 1048576) : Con Tryz.prog noMv 45 [int n, int k] [] (fun r h => r = bool (inR n 0 (k - 1)) ∧ h = []) := by
 refine con_of2 k_c_isPlace_fits rfl fun C hP hmv => ?_
 unfold k_c_isPlace
 refine cx_seq (cx_ops ?_)
 refine ax_q (q_mov rfl) ?_
 refine ax_nil (cx_keep rfl rfl (cx_seq (cx_ops ?_)))
 refine ax_q (q_mov rfl) ?_
 refine ax_q (q_mov rfl) ?_
 refine ax_q (q_sub rfl rfl (by omega)) ?_
 refine ax_call rfl (vc_pure0 (c_inRange  ) hP rfl rfl ?_)
 refine ax_q (q_mov rfl) ?_
 refine ax_nil (cx_keep rfl rfl ?_)
 refine cx_ret (ret0 rfl rfl ?_)
 exact ⟨rfl, rfl⟩


/- loop.example/g00332/impl.depthOf$1 -/
def k_c_depthOf1 : XCode :=
 .seq (.ops [.op (some 3) (.mov (.k (.int .i64 0))),
   .op (some 4) (.mov (.k (.bool false)))])
 (.keep [0, 1] (.seq (.ops [.op (some 7) (.load1 (.t 1)),
   .op (some 8) (.lenS (.t 7)),
   .op (some 9) (.bin .sub (.t 8) (.k (.int .i64 1))),
   .op (some 5) (.mov (.t 9))])
 (.keep [0, 1, 5] (.seq (.seq (.ops [.op (some 10) (.mov (.t 5)),
   .op (some 11) (.bin .lss (.t 10) (.k (.int .i64 0))),
   .op (some 12) (.mov (.t 11)),
   .andor 20 false 2 12 [.op (some 13) (.load1 (.t 1)), .op (some 14) (.mov (.t 5)), .op (some 15) (.iadr 2 (.t 13) (.t 14)), .op (some 16) (.fadr (.t 15) 0), .op (some 17) (.load1 (.t 16)), .op (some 18) (.mov (.t 0)), .op (some 19) (.bin .neq (.t 17) (.t 18))] (.t 19)])
  (.keep [1, 5, 20] (.cond (.t 20)
  (.seq (.ops [.op (some 3) (.mov (.k (.int .i64 0))),
    .op (some 4) (.mov (.k (.bool false)))])
   (.keep [3, 4] (.ret)))
  (.skip))))
 (.keep [1, 5] (.seq (.ops [.op (some 21) (.load1 (.t 1)),
   .op (some 22) (.mov (.t 5)),
   .op (some 23) (.iadr 2 (.t 21) (.t 22)),
   .op (some 24) (.fadr (.t 23) 1),
   .op (some 25) (.load1 (.t 24)),
   .op (some 6) (.mov (.t 25))])
 (.keep [1, 5, 6] (.seq (.ops [.op (some 26) (.load1 (.t 1)),
   .op (some 27) (.mov (.t 5)),
   .op (some 28) (.slc 2 (.t 26) none (some (.t 27)) none),
   .op none (.store 1 (.t 1) (.t 28))])
 (.keep [6] (.seq (.ops [.op (some 29) (.mov (.t 6)),
   .op (some 3) (.mov (.t 29)),
   .op (some 4) (.mov (.k (.bool true)))])
 (.keep [3, 4] (.ret))))))))))))
theorem k_c_depthOf1_fits : fitsF Tryz.prog 63 ⟨30, k_c_depthOf1, [.t 3, .t 4]⟩ = true := by kernel_rfl
theorem c_depthOf1 {S : List IDp} {rs : List (List D)} {a : Int} (hS : S.length ≤ 1048576) (hrs : rs.take S.length = S.map prow) : Con Tryz.prog noMv 63 [int a, .ptr 1000 0] [(1000, .box [.osl 1001 2 0 S.length]), (1001, .rows 2 rs)] (fun r h => r = .tup [int (popF S a).1, bool (popF S a).2.1] ∧ h = [(1000, .box [.osl 1001 2 0 (popF S a).2.2.length]), (1001, .rows 2 rs)]) := by
 refine con_of2 k_c_depthOf1_fits rfl fun C hP hmv => ?_
 unfold k_c_depthOf1
 refine cx_seq (cx_ops ?_)
 refine ax_q (q_mov rfl) ?_
 refine ax_q (q_mov rfl) ?_
 refine ax_nil (cx_keep rfl rfl (cx_seq (cx_ops ?_)))
 refine ax_q (q_load1_ptr rfl rfl rfl) ?_
 first | refine ax_q (q_lenS_map rfl) ?_ | refine ax_q (q_lenS_osl rfl) ?_
 refine ax_q (q_sub rfl rfl (by omega)) ?_
 refine ax_q (q_mov rfl) ?_
 refine ax_nil (cx_keep rfl rfl (cx_seq (cx_seq (cx_ops ?_))))
 refine ax_q (q_mov rfl) ?_
 refine ax_q (q_ibin rfl rfl rfl) ?_
 refine ax_q (q_mov rfl) ?_
 apply ax_or rfl rfl
 ·
  intro g
  have g := dF g
  have hrow := top_row hrs g
  refine ax_q (q_load1_ptr rfl rfl rfl) ?_
  refine ax_q (q_mov rfl) ?_
  refine ax_q (q_ixoI rfl rfl (by omega) (by omega)) ?_
  first | refine ax_q (q_fadr_ptr rfl) ?_ | refine ax_q (q_fadr_rptr rfl) ?_
  refine ax_q (q_load1_rptr (r := prow (S.getD (S.length - 1) (0, 0))) rfl rfl hrow rfl) ?_
  refine ax_q (q_mov rfl) ?_
  refine ax_q (q_ibin rfl rfl rfl) ?_
  exact ax_nil ⟨rfl, by repeat constructor⟩
 refine ax_nil (cx_keep rfl rfl ?_)
 refine cx_cond rfl (fun h0 => ?_) (fun h0 => ?_)
 ·
  have h0 := (fun h => (or_T h).imp dT nT) h0
  refine cx_seq (cx_ops ?_)
  refine ax_q (q_mov rfl) ?_
  refine ax_q (q_mov rfl) ?_
  refine ax_nil (cx_keep rfl rfl ?_)
  refine cx_ret (retN id [1000, 1001] rfl rfl rfl rfl rfl ?_)
  rw [popF_no h0]; exact ⟨rfl, rfl⟩
 ·
  have h0 := (fun h => And.intro (dF (or_F h).1) (nF (or_F h).2)) h0
  refine cx_skip ?_
  refine cx_keep rfl rfl (cx_seq (cx_ops ?_))
  refine ax_q (q_load1_ptr rfl rfl rfl) ?_
  refine ax_q (q_mov rfl) ?_
  refine ax_q (q_ixoI rfl rfl (by omega) (by omega)) ?_
  first | refine ax_q (q_fadr_ptr rfl) ?_ | refine ax_q (q_fadr_rptr rfl) ?_
  refine ax_q (q_load1_rptr (r := prow (S.getD (S.length - 1) (0, 0))) rfl rfl (top_row hrs h0.1) rfl) ?_
  refine ax_q (q_mov rfl) ?_
  refine ax_nil (cx_keep rfl rfl (cx_seq (cx_ops ?_)))
  refine ax_q (q_load1_ptr rfl rfl rfl) ?_
  refine ax_q (q_mov rfl) ?_
  refine ax_qe (r' := .osl 1001 2 0 (S.length - 1)) (q_slc_osl rfl rfl rfl (by omega) (by omega) (by omega)) (by rw [show ((S.length : Int) - 1).toNat - (0 : Int).toNat = S.length - 1 from by omega]; rfl) ?_
  refine ax_e (e_st rfl rfl rfl rfl rfl rfl rfl) ?_
  refine ax_nil (cx_keep rfl rfl (cx_seq (cx_ops ?_)))
  refine ax_q (q_mov rfl) ?_
  refine ax_q (q_mov rfl) ?_
  refine ax_q (q_mov rfl) ?_
  refine ax_nil (cx_keep rfl rfl ?_)
  refine cx_ret (retN id [1000, 1001] rfl rfl rfl rfl rfl ?_)
  rw [popF_yes h0.1 h0.2]; exact ⟨rfl, by dsimp only; rw [List.length_dropLast]; rfl⟩


/- loop.example/g00332/impl.isNumber -/
def k_c_isNumber : XCode :=
 .seq (.ops [.op (some 2) (.mov (.k (.bool false)))])
 (.keep [0] (.seq (.ops [.op (some 3) (.mov (.t 0)),
   .call (some 4) 34 [.t 3, .k (.int .i64 (-1000000000)), .k (.int .i64 1000000000)],
   .op (some 2) (.mov (.t 4))])
 (.keep [2] (.ret))))
theorem k_c_isNumber_fits : fitsF Tryz.prog 93 ⟨5, k_c_isNumber, [.t 2]⟩ = true := by kernel_rfl
theorem c_isNumber {n : Int} : Con Tryz.prog noMv 93 [int n] [] (fun r h => r = bool (inR n (-1000000000) 1000000000) ∧ h = []) := by
 refine con_of2 k_c_isNumber_fits rfl fun C hP hmv => ?_
 unfold k_c_isNumber
 refine cx_seq (cx_ops ?_)
 refine ax_q (q_mov rfl) ?_
 refine ax_nil (cx_keep rfl rfl (cx_seq (cx_ops ?_)))
 refine ax_q (q_mov rfl) ?_
 refine ax_call rfl (vc_pure0 (c_inRange  ) hP rfl rfl ?_)
 refine ax_q (q_mov rfl) ?_
 refine ax_nil (cx_keep rfl rfl ?_)
 refine cx_ret (ret0 rfl rfl ?_)
 exact ⟨rfl, rfl⟩


/- loop.example/g00332/impl.isLetter -/
def k_c_isLetter : XCode :=
 .seq (.ops [.op (some 2) (.mov (.k (.bool false)))])
 (.keep [0] (.seq (.ops [.op (some 3) (.mov (.t 0)),
   .op (some 4) (.bin .geq (.t 3) (.k (.int .u8 97))),
   .op (some 5) (.mov (.t 4)),
   .andor 8 true 2 5 [.op (some 6) (.mov (.t 0)), .op (some 7) (.bin .leq (.t 6) (.k (.int .u8 122)))] (.t 7),
   .op (some 2) (.mov (.t 8))])
 (.keep [2] (.ret))))
theorem k_c_isLetter_fits : fitsF Tryz.prog 90 ⟨9, k_c_isLetter, [.t 2]⟩ = true := by kernel_rfl
theorem c_isLetter {b : UInt8} : Con Tryz.prog noMv 90 [.d (.int .u8 b.toNat)] [] (fun r h => r = bool (inR (b.toNat : Int) 97 122) ∧ h = []) := by
 refine con_of2 k_c_isLetter_fits rfl fun C hP hmv => ?_
 unfold k_c_isLetter
 refine cx_seq (cx_ops ?_)
 refine ax_q (q_mov rfl) ?_
 refine ax_nil (cx_keep rfl rfl (cx_seq (cx_ops ?_)))
 refine ax_q (q_mov rfl) ?_
 refine ax_q (q_ibin rfl rfl rfl) ?_
 refine ax_q (q_mov rfl) ?_
 apply ax_and rfl rfl
 ·
  intro g
  have g := dT g
  refine ax_q (q_mov rfl) ?_
  refine ax_q (q_ibin rfl rfl rfl) ?_
  exact ax_nil ⟨rfl, by repeat constructor⟩
 refine ax_q (q_mov rfl) ?_
 refine ax_nil (cx_keep rfl rfl ?_)
 refine cx_ret (ret0 rfl rfl ?_)
 exact ⟨rfl, rfl⟩


/- loop.example/g00332/impl.isWord -/
def k_c_isWord : XCode :=
 .seq (.ops [.op (some 2) (.mov (.k (.bool false)))])
 (.keep [0] (.seq (.seq (.ops [.op (some 4) (.mov (.t 0)),
   .op (some 5) (.lenT (.t 4)),
   .op (some 6) (.mov (.k (.int .i64 0)))])
  (.keep [0, 5, 6] (.block 0 (.loop (.seq (.ops [.op (some 7) (.bin .lss (.t 6) (.t 5))])
   (.keep [0, 5, 6, 7] (.seq (.cond (.t 7)
    (.skip)
    (.exit 0))
   (.keep [0, 5, 6] (.seq (.block 1 (.seq (.ops [.op (some 8) (.mov (.t 6)),
     .op (some 3) (.mov (.t 8))])
    (.keep [0, 3, 5, 6] (.seq (.ops [.op (some 9) (.mov (.t 0)),
     .op (some 10) (.mov (.t 3)),
     .op (some 11) (.idxS (.t 9) (.t 10)),
     .call (some 12) 90 [.t 11],
     .op (some 13) (.not (.t 12))])
    (.keep [0, 5, 6, 13] (.cond (.t 13)
    (.seq (.ops [.op (some 2) (.mov (.k (.bool false)))])
     (.keep [2] (.ret)))
    (.skip)))))))
   (.keep [0, 5, 6] (.ops [.op (some 14) (.bin .add (.t 6) (.k (.int .i64 1))),
    .op (some 6) (.mov (.t 14))])))))))))))
 (.keep [0] (.seq (.ops [.op (some 15) (.mov (.t 0)),
   .op (some 16) (.lenT (.t 15)),
   .op (some 17) (.bin .leq (.t 16) (.k (.int .i64 10))),
   .op (some 2) (.mov (.t 17))])
 (.keep [2] (.ret))))))
theorem k_c_isWord_fits : fitsF Tryz.prog 94 ⟨18, k_c_isWord, [.t 2]⟩ = true := by kernel_rfl
theorem c_isWord {s : Str} (hs : s.length ≤ 1048576) : Con Tryz.prog noMv 94 [str s] [] (fun r h => r = bool (isWord s) ∧ h = []) := by
 refine con_of2 k_c_isWord_fits rfl fun C hP hmv => ?_
 unfold k_c_isWord
 refine cx_seq (cx_ops ?_)
 refine ax_q (q_mov rfl) ?_
 refine ax_nil (cx_keep rfl rfl (cx_seq (cx_seq (cx_ops ?_))))
 refine ax_q (q_mov rfl) ?_
 refine ax_q (q_lenT rfl) ?_
 refine ax_q (q_mov rfl) ?_
 refine ax_nil (cx_keep rfl rfl (cx_block ?_))
 refine cx_loopU (fun n k => k ≤ s.length ∧ n = s.length - k ∧ ∀ j, j < k → ∀ x, s[j]? = some x → badCh x = false) (fun k : Nat => [(6, int k)]) (fun _ => []) ⟨_, 0, ⟨Nat.zero_le _, rfl, fun j hj => by omega⟩, by repeat constructor⟩ ?_
 rintro n k ⟨hk, rfl, hb⟩
 refine cx_seq (cx_ops ?_)
 refine ax_q (q_ibin rfl rfl rfl) ?_
 refine ax_nil (cx_keep rfl rfl (cx_seq ?_))
 refine cx_cond rfl (fun h0 => ?_) (fun h0 => ?_)
 ·
  have h0 := dT h0
  have h0x : k < s.length := by omega
  refine cx_skip ?_
  refine cx_keep rfl rfl (cx_seq (cx_block (cx_seq (cx_ops ?_))))
  refine ax_q (q_mov rfl) ?_
  refine ax_q (q_mov rfl) ?_
  refine ax_nil (cx_keep rfl rfl (cx_seq (cx_ops ?_)))
  refine ax_q (q_mov rfl) ?_
  refine ax_q (q_mov rfl) ?_
  refine ax_q (q_idxN rfl rfl (by first | assumption | omega)) ?_
  refine ax_call rfl (vc_pure0 (c_isLetter  ) hP rfl rfl ?_)
  refine ax_q (q_not rfl) ?_
  refine ax_nil (cx_keep rfl rfl ?_)
  refine cx_cond rfl (fun h1 => ?_) (fun h1 => ?_)
  ·
   have h1 : badCh s[k] = true := h1
   refine cx_seq (cx_ops ?_)
   refine ax_q (q_mov rfl) ?_
   refine ax_nil (cx_keep rfl rfl ?_)
   refine cx_ret (ret0 rfl rfl ?_)
   exact ⟨by unfold isWord; rw [any_hit h0x h1] <;> rfl, rfl⟩
  ·
   have h1 : badCh s[k] = false := h1
   refine cx_skip ?_
   refine cx_keep rfl rfl (cx_ops ?_)
   refine ax_qe (r' := int ((k + 1 : Nat) : Int)) (q_ibin rfl rfl rfl) (by rw [wi (by omega) (by omega)]; rfl) ?_
   refine ax_q (q_mov rfl) ?_
   refine ax_nil ?_
   exact ⟨_, k + 1, by omega, ⟨by omega, rfl, before_step h0x hb h1⟩, by repeat constructor⟩
 ·
  have h0 := dF h0
  have h0x : k = s.length := by omega
  refine cx_exit rfl ?_
  refine cx_keep rfl rfl (cx_seq (cx_ops ?_))
  refine ax_q (q_mov rfl) ?_
  refine ax_q (q_lenT rfl) ?_
  refine ax_q (q_ibin rfl rfl rfl) ?_
  refine ax_q (q_mov rfl) ?_
  refine ax_nil (cx_keep rfl rfl ?_)
  refine cx_ret (ret0 rfl rfl ?_)
  exact ⟨by unfold isWord; rw [any_all (fun i hi => hb i (by omega))] <;> rfl, rfl⟩


/- loop.example/g00332/impl.ValueOK -/
def k_c_ValueOK : XCode :=
 .seq (.ops [.op (some 1) (.box (.t 0)),
   .op (some 2) (.mov (.k (.bool false)))])
 (.keep [1] (.seq (.seq (.ops [.op (some 3) (.fadr (.t 1) 0),
   .op (some 4) (.load1 (.t 3))])
  (.keep [1, 4] (.block 0 (.seq (.ops [.op (some 6) (.bin .eql (.t 4) (.k (.int .i64 0))),
    .op (some 5) (.mov (.t 6))])
  (.keep [1, 4, 5] (.cond (.t 5)
   (.seq (.ops [.op (some 7) (.loadN 3 (.t 1)),
     .op (some 8) (.build [.int .i64 0, .int .i64 0, .str []] []),
     .op (some 9) (.eqs false [0, 0, 2] (.t 7) (.t 8)),
     .op (some 2) (.mov (.t 9))])
   (.keep [2] (.ret)))
   (.seq (.ops [.op (some 11) (.bin .eql (.t 4) (.k (.int .i64 1))),
     .op (some 10) (.mov (.t 11))])
   (.keep [1, 10] (.cond (.t 10)
    (.seq (.ops [.op (some 12) (.fadr (.t 1) 1),
      .op (some 13) (.load1 (.t 12)),
      .call (some 14) 93 [.t 13],
      .op (some 15) (.mov (.t 14)),
      .andor 19 true 3 15 [.op (some 16) (.fadr (.t 1) 2), .op (some 17) (.load1 (.t 16)), .op (some 18) (.bin .eql (.t 17) (.k (.str [])))] (.t 18),
      .op (some 2) (.mov (.t 19))])
    (.keep [2] (.ret)))
    (.skip))))))))))
 (.keep [1] (.seq (.ops [.op (some 20) (.fadr (.t 1) 0),
   .op (some 21) (.load1 (.t 20)),
   .op (some 22) (.bin .eql (.t 21) (.k (.int .i64 2))),
   .op (some 23) (.mov (.t 22)),
   .andor 27 true 3 23 [.op (some 24) (.fadr (.t 1) 1), .op (some 25) (.load1 (.t 24)), .op (some 26) (.bin .eql (.t 25) (.k (.int .i64 0)))] (.t 26),
   .op (some 28) (.mov (.t 27)),
   .andor 32 true 8 28 [.op (some 29) (.fadr (.t 1) 2), .op (some 30) (.load1 (.t 29)), .call (some 31) 94 [.t 30]] (.t 31),
   .op (some 2) (.mov (.t 32))])
 (.keep [2] (.ret))))))
theorem k_c_ValueOK_fits : fitsF Tryz.prog 64 ⟨33, k_c_ValueOK, [.t 2]⟩ = true := by kernel_rfl
theorem c_ValueOK {v : GValue} (hv : v.T.length ≤ 1048576) : Con Tryz.prog noMv 64 [v.av] [] (fun r h => r = bool (valueOK v) ∧ h = []) := by
 refine con_of2 k_c_ValueOK_fits rfl fun C hP hmv => ?_
 unfold k_c_ValueOK
 refine cx_seq (cx_ops ?_)
 refine ax_e (e_box rfl rfl (by decide) rfl rfl rfl) ?_
 refine ax_q (q_mov rfl) ?_
 refine ax_nil (cx_keep rfl rfl (cx_seq (cx_seq (cx_ops ?_))))
 refine ax_q (q_fadr_ptr rfl) ?_
 refine ax_q (q_load1_ptr rfl rfl rfl) ?_
 refine ax_nil (cx_keep rfl rfl (cx_block (cx_seq (cx_ops ?_))))
 refine ax_q (q_ibin rfl rfl rfl) ?_
 refine ax_q (q_mov rfl) ?_
 refine ax_nil (cx_keep rfl rfl ?_)
 refine cx_cond rfl (fun h0 => ?_) (fun h0 => ?_)
 ·
  have h0 := dT h0
  refine cx_seq (cx_ops ?_)
  refine ax_q (q_ldN rfl rfl rfl) ?_
  refine ax_q (q_build rfl) ?_
  first | refine ax_q (GValue.q_eqs rfl rfl) ?_ | refine ax_q (q_eqs rfl rfl rfl) ?_
  refine ax_q (q_mov rfl) ?_
  refine ax_nil (cx_keep rfl rfl ?_)
  refine cx_ret (ret0 rfl rfl ?_)
  exact ⟨by rw [valueOK_0 h0, decide_eq_true h0, Bool.and_true, Bool.true_and] <;> rfl, rfl⟩
 ·
  have h0 := dF h0
  refine cx_seq (cx_ops ?_)
  refine ax_q (q_ibin rfl rfl rfl) ?_
  refine ax_q (q_mov rfl) ?_
  refine ax_nil (cx_keep rfl rfl ?_)
  refine cx_cond rfl (fun h1 => ?_) (fun h1 => ?_)
  ·
   have h1 := dT h1
   refine cx_seq (cx_ops ?_)
   refine ax_q (q_fadr_ptr rfl) ?_
   refine ax_q (q_load1_ptr rfl rfl rfl) ?_
   refine ax_call rfl (vc_pure0 (c_isNumber  ) hP rfl rfl ?_)
   refine ax_q (q_mov rfl) ?_
   apply ax_and rfl rfl
   ·
    intro g
    refine ax_q (q_fadr_ptr rfl) ?_
    refine ax_q (q_load1_ptr rfl rfl rfl) ?_
    refine ax_q (q_sbin rfl rfl rfl) ?_
    exact ax_nil ⟨rfl, by repeat constructor⟩
   refine ax_q (q_mov rfl) ?_
   refine ax_nil (cx_keep rfl rfl ?_)
   refine cx_ret (ret0 rfl rfl ?_)
   exact ⟨by rw [valueOK_1 h1] <;> rfl, rfl⟩
  ·
   have h1 := dF h1
   refine cx_skip ?_
   refine cx_keep rfl rfl (cx_seq (cx_ops ?_))
   refine ax_q (q_fadr_ptr rfl) ?_
   refine ax_q (q_load1_ptr rfl rfl rfl) ?_
   refine ax_q (q_ibin rfl rfl rfl) ?_
   refine ax_q (q_mov rfl) ?_
   apply ax_and rfl rfl
   ·
    intro g
    have g := dT g
    refine ax_q (q_fadr_ptr rfl) ?_
    refine ax_q (q_load1_ptr rfl rfl rfl) ?_
    refine ax_q (q_ibin rfl rfl rfl) ?_
    exact ax_nil ⟨rfl, by repeat constructor⟩
   refine ax_q (q_mov rfl) ?_
   apply ax_and rfl rfl
   ·
    intro g
    have g := (fun h => And.intro (dT (and_T h).1) (dT (and_T h).2)) g
    refine ax_q (q_fadr_ptr rfl) ?_
    refine ax_q (q_load1_ptr rfl rfl rfl) ?_
    refine ax_call rfl (vc_pure0 (c_isWord  ?_) hP rfl rfl ?_)
    ·
     assumption
    exact ax_nil ⟨rfl, by repeat constructor⟩
   refine ax_q (q_mov rfl) ?_
   refine ax_nil (cx_keep rfl rfl ?_)
   refine cx_ret (ret0 rfl rfl ?_)
   exact ⟨by rw [valueOK_2 h0 h1] <;> rfl, rfl⟩


/- loop.example/g00332/impl.isUnary -/
def k_c_isUnary : XCode :=
 .seq (.ops [.op (some 2) (.mov (.k (.bool false)))])
 (.keep [0] (.seq (.ops [.op (some 3) (.mov (.t 0)),
   .call (some 4) 34 [.t 3, .k (.int .i64 3), .k (.int .i64 5)],
   .op (some 2) (.mov (.t 4))])
 (.keep [2] (.ret))))
theorem k_c_isUnary_fits : fitsF Tryz.prog 65 ⟨5, k_c_isUnary, [.t 2]⟩ = true := by kernel_rfl
theorem c_isUnary {n : Int} : Con Tryz.prog noMv 65 [int n] [] (fun r h => r = bool (inR n 3 5) ∧ h = []) := by
 refine con_of2 k_c_isUnary_fits rfl fun C hP hmv => ?_
 unfold k_c_isUnary
 refine cx_seq (cx_ops ?_)
 refine ax_q (q_mov rfl) ?_
 refine ax_nil (cx_keep rfl rfl (cx_seq (cx_ops ?_)))
 refine ax_q (q_mov rfl) ?_
 refine ax_call rfl (vc_pure0 (c_inRange  ) hP rfl rfl ?_)
 refine ax_q (q_mov rfl) ?_
 refine ax_nil (cx_keep rfl rfl ?_)
 refine cx_ret (ret0 rfl rfl ?_)
 exact ⟨rfl, rfl⟩


/- loop.example/g00332/impl.isBinary -/
def k_c_isBinary : XCode :=
 .seq (.ops [.op (some 2) (.mov (.k (.bool false)))])
 (.keep [0] (.seq (.ops [.op (some 3) (.mov (.t 0)),
   .call (some 4) 34 [.t 3, .k (.int .i64 6), .k (.int .i64 13)],
   .op (some 2) (.mov (.t 4))])
 (.keep [2] (.ret))))
theorem k_c_isBinary_fits : fitsF Tryz.prog 66 ⟨5, k_c_isBinary, [.t 2]⟩ = true := by kernel_rfl
theorem c_isBinary {n : Int} : Con Tryz.prog noMv 66 [int n] [] (fun r h => r = bool (inR n 6 13) ∧ h = []) := by
 refine con_of2 k_c_isBinary_fits rfl fun C hP hmv => ?_
 unfold k_c_isBinary
 refine cx_seq (cx_ops ?_)
 refine ax_q (q_mov rfl) ?_
 refine ax_nil (cx_keep rfl rfl (cx_seq (cx_ops ?_)))
 refine ax_q (q_mov rfl) ?_
 refine ax_call rfl (vc_pure0 (c_inRange  ) hP rfl rfl ?_)
 refine ax_q (q_mov rfl) ?_
 refine ax_nil (cx_keep rfl rfl ?_)
 refine cx_ret (ret0 rfl rfl ?_)
 exact ⟨rfl, rfl⟩


/- loop.example/g00332/impl.depthOf -/
def k_c_depthOf : XCode :=
 .seq (.ops [.op (some 2) (.mov (.k (.int .i64 0)))])
 (.keep [0] (.seq (.ops [.op (some 13) (.bslice 2 []),
   .op (some 3) (.alloc [.nils 2]),
   .op none (.store 1 (.t 3) (.t 13))])
 (.keep [0, 3] (.seq (.ops [.op (some 14) (.mkfn 63 [.t 3]),
   .op (some 4) (.mov (.t 14))])
 (.keep [0, 3, 4] (.seq (.seq (.ops [.op (some 15) (.mov (.t 0)),
   .op (some 16) (.lenS (.t 15)),
   .op (some 17) (.mov (.k (.int .i64 0)))])
  (.keep [3, 4, 15, 16, 17] (.block 0 (.loop (.seq (.ops [.op (some 18) (.bin .lss (.t 17) (.t 16))])
   (.keep [3, 4, 15, 16, 17, 18] (.seq (.cond (.t 18)
    (.skip)
    (.exit 0))
   (.keep [3, 4, 15, 16, 17] (.seq (.block 1 (.seq (.ops [.op (some 19) (.mov (.t 17)),
     .op (some 20) (.iadr 7 (.t 15) (.t 17)),
     .op (some 21) (.loadN 7 (.t 20)),
     .op (some 6) (.alloc [.int .i64 0, .int .i64 0, .int .i64 0, .int .i64 0, .int .i64 0, .int .i64 0, .str []]),
     .op (some 5) (.mov (.t 19)),
     .op none (.store 7 (.t 6) (.t 21))])
    (.keep [3, 4, 5, 6, 15, 16, 17] (.seq (.ops [.op (some 7) (.mov (.k (.int .i64 0))),
     .op (some 8) (.mov (.k (.bool true)))])
    (.keep [3, 4, 5, 6, 7, 15, 16, 17] (.seq (.block 2 (.seq (.ops [.op (some 23) (.fadr (.t 6) 0),
      .op (some 24) (.load1 (.t 23)),
      .op (some 25) (.bin .eql (.t 24) (.k (.int .i64 1))),
      .op (some 22) (.mov (.t 25))])
     (.keep [3, 4, 5, 6, 7, 15, 16, 17, 22] (.cond (.t 22)
     (.ops [.op (some 26) (.fadr (.t 6) 1),
       .op (some 27) (.load1 (.t 26)),
       .op (some 28) (.bin .eql (.t 27) (.k (.int .i64 0))),
       .op (some 29) (.mov (.t 28)),
       .andor 33 true 3 29 [.op (some 30) (.fadr (.t 6) 2), .op (some 31) (.load1 (.t 30)), .op (some 32) (.bin .eql (.t 31) (.k (.int .i64 0)))] (.t 32),
       .op (some 34) (.mov (.t 33)),
       .andor 38 true 8 34 [.op (some 35) (.fadr (.t 6) 3), .op (some 36) (.load1 (.t 35)), .op (some 37) (.bin .eql (.t 36) (.k (.int .i64 0)))] (.t 37),
       .op (some 39) (.mov (.t 38)),
       .andor 43 true 13 39 [.op (some 40) (.fadr (.t 6) 4), .op (some 41) (.loadN 3 (.t 40)), .call (some 42) 64 [.t 41]] (.t 42),
       .op (some 8) (.mov (.t 43))])
     (.seq (.ops [.op (some 45) (.fadr (.t 6) 0),
       .op (some 46) (.load1 (.t 45)),
       .op (some 47) (.bin .eql (.t 46) (.k (.int .i64 2))),
       .op (some 44) (.mov (.t 47))])
      (.keep [3, 4, 5, 6, 7, 15, 16, 17, 44] (.cond (.t 44)
      (.ops [.op (some 48) (.fadr (.t 6) 1),
        .op (some 49) (.load1 (.t 48)),
        .op (some 50) (.bin .eql (.t 49) (.k (.int .i64 0))),
        .op (some 51) (.mov (.t 50)),
        .andor 55 true 3 51 [.op (some 52) (.fadr (.t 6) 2), .op (some 53) (.load1 (.t 52)), .op (some 54) (.bin .eql (.t 53) (.k (.int .i64 0)))] (.t 54),
        .op (some 56) (.mov (.t 55)),
        .andor 60 true 8 56 [.op (some 57) (.fadr (.t 6) 3), .op (some 58) (.load1 (.t 57)), .call (some 59) 45 [.t 58, .k (.int .i64 3)]] (.t 59),
        .op (some 61) (.mov (.t 60)),
        .andor 66 true 13 61 [.op (some 62) (.fadr (.t 6) 4), .op (some 63) (.loadN 3 (.t 62)), .op (some 64) (.build [.int .i64 0, .int .i64 0, .str []] []), .op (some 65) (.eqs false [0, 0, 2] (.t 63) (.t 64))] (.t 65),
        .op (some 8) (.mov (.t 66))])
      (.seq (.ops [.op (some 68) (.fadr (.t 6) 0),
        .op (some 69) (.load1 (.t 68)),
        .call (some 70) 65 [.t 69],
        .op (some 67) (.mov (.t 70))])
       (.keep [3, 4, 5, 6, 7, 15, 16, 17, 67] (.cond (.t 67)
       (.seq (.ops [.op (some 72) (.mov (.t 4)),
         .op (some 73) (.fadr (.t 6) 1),
         .op (some 74) (.load1 (.t 73)),
         .callv (some 75) (.t 72) [.t 74],
         .op (some 71) (.mov (.t 75)),
         .op (some 76) (.ext (.t 71) 0),
         .op (some 77) (.ext (.t 71) 1),
         .op (some 7) (.mov (.t 76)),
         .op (some 8) (.mov (.t 77))])
        (.keep [3, 4, 5, 6, 7, 8, 15, 16, 17] (.ops [.op (some 78) (.mov (.t 8)),
         .op (some 79) (.mov (.t 78)),
         .andor 83 true 1 79 [.op (some 80) (.fadr (.t 6) 2), .op (some 81) (.load1 (.t 80)), .op (some 82) (.bin .eql (.t 81) (.k (.int .i64 0)))] (.t 82),
         .op (some 84) (.mov (.t 83)),
         .andor 88 true 6 84 [.op (some 85) (.fadr (.t 6) 3), .op (some 86) (.load1 (.t 85)), .op (some 87) (.bin .eql (.t 86) (.k (.int .i64 0)))] (.t 87),
         .op (some 89) (.mov (.t 88)),
         .andor 94 true 11 89 [.op (some 90) (.fadr (.t 6) 4), .op (some 91) (.loadN 3 (.t 90)), .op (some 92) (.build [.int .i64 0, .int .i64 0, .str []] []), .op (some 93) (.eqs false [0, 0, 2] (.t 91) (.t 92))] (.t 93),
         .op (some 8) (.mov (.t 94))])))
       (.seq (.ops [.op (some 96) (.fadr (.t 6) 0),
         .op (some 97) (.load1 (.t 96)),
         .call (some 98) 66 [.t 97],
         .op (some 95) (.mov (.t 98))])
        (.keep [3, 4, 5, 6, 7, 15, 16, 17, 95] (.cond (.t 95)
        (.seq (.ops [.op (some 100) (.mov (.t 4)),
          .op (some 101) (.fadr (.t 6) 2),
          .op (some 102) (.load1 (.t 101)),
          .callv (some 103) (.t 100) [.t 102],
          .op (some 99) (.mov (.t 103)),
          .op (some 104) (.ext (.t 99) 0),
          .op (some 105) (.ext (.t 99) 1),
          .op (some 9) (.mov (.t 104)),
          .op (some 10) (.mov (.t 105))])
         (.keep [3, 4, 5, 6, 9, 10, 15, 16, 17] (.seq (.ops [.op (some 107) (.mov (.t 4)),
          .op (some 108) (.fadr (.t 6) 1),
          .op (some 109) (.load1 (.t 108)),
          .callv (some 110) (.t 107) [.t 109],
          .op (some 106) (.mov (.t 110)),
          .op (some 111) (.ext (.t 106) 0),
          .op (some 112) (.ext (.t 106) 1),
          .op (some 11) (.mov (.t 111)),
          .op (some 12) (.mov (.t 112))])
         (.keep [3, 4, 5, 6, 9, 10, 11, 12, 15, 16, 17] (.draw [.op (some 113) (.mov (.t 11)),
          .op (some 114) (.mov (.t 9)),
          .op (some 115) (.mx true (.t 113) (.t 114)),
          .op (some 116) (.mov (.t 10)),
          .op (some 117) (.mov (.t 116)),
          .andor 119 true 4 117 [.op (some 118) (.mov (.t 12))] (.t 118),
          .op (some 120) (.mov (.t 119)),
          .andor 124 true 7 120 [.op (some 121) (.fadr (.t 6) 3), .op (some 122) (.load1 (.t 121)), .op (some 123) (.bin .eql (.t 122) (.k (.int .i64 0)))] (.t 123),
          .op (some 125) (.mov (.t 124)),
          .andor 130 true 12 125 [.op (some 126) (.fadr (.t 6) 4), .op (some 127) (.loadN 3 (.t 126)), .op (some 128) (.build [.int .i64 0, .int .i64 0, .str []] []), .op (some 129) (.eqs false [0, 0, 2] (.t 127) (.t 128))] (.t 129),
          .op (some 7) (.mov (.t 115)),
          .op (some 8) (.mov (.t 130))])))))
        (.ops [.op (some 8) (.mov (.k (.bool false)))]))))))))))))))
    (.keep [3, 4, 5, 7, 8, 15, 16, 17] (.seq (.seq (.ops [.op (some 131) (.mov (.t 8)),
      .op (some 132) (.not (.t 131))])
    (.keep [3, 4, 5, 7, 15, 16, 17, 132] (.cond (.t 132)
     (.seq (.ops [.op (some 2) (.mov (.k (.int .i64 0)))])
     (.keep [2] (.ret)))
     (.skip))))
    (.keep [3, 4, 5, 7, 15, 16, 17] (.ops [.op (some 133) (.load1 (.t 3)),
     .op (some 134) (.mov (.t 5)),
     .op (some 135) (.mov (.t 7)),
     .op (some 136) (.bin .add (.t 135) (.k (.int .i64 1))),
     .op (some 137) (.build [.int .i64 0, .int .i64 0] [(0, 1, .t 134), (1, 1, .t 136)]),
     .op (some 138) (.bslice 2 [.t 137]),
     .op (some 139) (.app 2 16 [.int .i64 0, .int .i64 0] (.t 133) (.t 138)),
     .op none (.store 1 (.t 3) (.t 139))]))))))))))
   (.keep [3, 4, 15, 16, 17] (.ops [.op (some 140) (.bin .add (.t 17) (.k (.int .i64 1))),
    .op (some 17) (.mov (.t 140))])))))))))))
 (.keep [3] (.seq (.seq (.ops [.op (some 141) (.load1 (.t 3)),
   .op (some 142) (.lenS (.t 141)),
   .op (some 143) (.bin .neq (.t 142) (.k (.int .i64 1)))])
  (.keep [3, 143] (.cond (.t 143)
  (.seq (.ops [.op (some 2) (.mov (.k (.int .i64 0)))])
   (.keep [2] (.ret)))
  (.skip))))
 (.keep [3] (.seq (.ops [.op (some 144) (.load1 (.t 3)),
   .op (some 145) (.iadr 2 (.t 144) (.k (.int .i64 0))),
   .op (some 146) (.fadr (.t 145) 1),
   .op (some 147) (.load1 (.t 146)),
   .op (some 2) (.mov (.t 147))])
 (.keep [2] (.ret))))))))))))
theorem k_c_depthOf_fits : fitsF Tryz.prog 35 ⟨148, k_c_depthOf, [.t 2]⟩ = true := by kernel_rfl
theorem c_depthOf {ns : List GExprNode} (hw : ns.length ≤ 1048576) (hv : ∀ x ∈ ns, x.V.T.length ≤ 1048576) : Con Tryz.prog noMv 35 [.d (.sl 7 (ns.map GExprNode.row))] [] (fun r h => r = int (depthF ns) ∧ h = []) := by
 refine con_of2 k_c_depthOf_fits rfl fun C hP hmv => ?_
 unfold k_c_depthOf
 refine cx_seq (cx_ops ?_)
 refine ax_q (q_mov rfl) ?_
 refine ax_nil (cx_keep rfl rfl (cx_seq (cx_ops ?_)))
 refine ax_e (e_bslice rfl (by decide) rfl rfl) ?_
 refine ax_e (e_alloc (by decide) rfl rfl) ?_
 refine ax_e (e_st rfl rfl rfl rfl rfl rfl rfl) ?_
 refine ax_nil (cx_keep rfl rfl (cx_seq (cx_ops ?_)))
 refine ax_q (q_mkfn rfl) ?_
 refine ax_q (q_mov rfl) ?_
 refine ax_nil (cx_keep rfl rfl (cx_seq (cx_seq (cx_ops ?_))))
 refine ax_q (q_mov rfl) ?_
 refine ax_q (q_lenS_map rfl) ?_
 refine ax_q (q_mov rfl) ?_
 refine ax_nil (cx_keep rfl rfl (cx_block ?_))
 refine cx_loopU (fun n (p : Nat × List IDp × List (List D)) => p.1 ≤ ns.length ∧ n = ns.length - p.1 ∧ scanD ns p.1 = some p.2.1 ∧ p.2.2.take p.2.1.length = p.2.1.map prow ∧ p.2.1.length ≤ p.1 ∧ lowS p.2.1 p.1) (fun p => [(17, int p.1)]) (fun p => [(3, .box [.osl 13 2 0 p.2.1.length]), (13, .rows 2 p.2.2)]) ⟨_, (0, [], []), ⟨Nat.zero_le _, rfl, rfl, rfl, Nat.le_refl _, fun p hp => by cases hp⟩, by repeat constructor⟩ ?_
 rintro n ⟨k, S, rs⟩ ⟨hk, rfl, hs, hrs, hS, hlow⟩
 simp only at hk hs hrs hS hlow ⊢
 refine cx_seq (cx_ops ?_)
 refine ax_q (q_ibin rfl rfl rfl) ?_
 refine ax_nil (cx_keep rfl rfl (cx_seq ?_))
 refine cx_cond rfl (fun h0 => ?_) (fun h0 => ?_)
 ·
  have h0 := dT h0
  have h0x : k < ns.length := by omega
  have hvk := hv _ (List.getElem_mem h0x)
  have hlw := @okD_low S ns[k] k (by omega) hlow
  have hor := okD_rs (x := ns[k]) hrs
  refine cx_skip ?_
  refine cx_keep rfl rfl (cx_seq (cx_block (cx_seq (cx_ops ?_))))
  refine ax_q (q_mov rfl) ?_
  refine ax_q (q_ix rfl rfl (mapAt h0x)) ?_
  first | refine ax_q (q_ldN rfl rfl rfl) ?_ | refine ax_q (q_loadN_ip rfl (Nat.le_refl _)) ?_
  refine ax_e (e_alloc (by decide) rfl rfl) ?_
  refine ax_q (q_mov rfl) ?_
  refine ax_e (e_st rfl rfl rfl rfl rfl rfl rfl) ?_
  refine ax_nil (cx_keep rfl rfl (cx_seq (cx_ops ?_)))
  refine ax_q (q_mov rfl) ?_
  refine ax_q (q_mov rfl) ?_
  refine ax_nil (cx_keep rfl rfl (cx_seq (cx_block (cx_seq (cx_ops ?_)))))
  refine ax_q (q_fadr_ptr rfl) ?_
  refine ax_q (q_load1_ptr rfl rfl rfl) ?_
  refine ax_q (q_ibin rfl rfl rfl) ?_
  refine ax_q (q_mov rfl) ?_
  refine ax_nil (cx_keep rfl rfl ?_)
  refine cx_cond rfl (fun h1 => ?_) (fun h1 => ?_)
  ·
   have h1 := dT h1
   have ho := okD_1 (S := S) h1
   refine cx_ops ?_
   refine ax_q (q_fadr_ptr rfl) ?_
   refine ax_q (q_load1_ptr rfl rfl rfl) ?_
   refine ax_q (q_ibin rfl rfl rfl) ?_
   refine ax_q (q_mov rfl) ?_
   apply ax_and rfl rfl
   ·
    intro g
    have g := dT g
    refine ax_q (q_fadr_ptr rfl) ?_
    refine ax_q (q_load1_ptr rfl rfl rfl) ?_
    refine ax_q (q_ibin rfl rfl rfl) ?_
    exact ax_nil ⟨rfl, by repeat constructor⟩
   refine ax_q (q_mov rfl) ?_
   apply ax_and rfl rfl
   ·
    intro g
    have g := (fun h => And.intro (dT (and_T h).1) (dT (and_T h).2)) g
    refine ax_q (q_fadr_ptr rfl) ?_
    refine ax_q (q_load1_ptr rfl rfl rfl) ?_
    refine ax_q (q_ibin rfl rfl rfl) ?_
    exact ax_nil ⟨rfl, by repeat constructor⟩
   refine ax_q (q_mov rfl) ?_
   apply ax_and rfl rfl
   ·
    intro g
    have g := (fun h => And.intro ((fun h => And.intro (dT (and_T h).1) (dT (and_T h).2)) (and_T h).1) (dT (and_T h).2)) g
    refine ax_q (q_fadr_ptr rfl) ?_
    refine ax_q (q_ldN rfl rfl rfl) ?_
    refine ax_call rfl (vc_pure0 (c_ValueOK (v := ns[k].V) ?_) hP rfl rfl ?_)
    ·
     assumption
    exact ax_nil ⟨rfl, by repeat constructor⟩
   refine ax_q (q_mov rfl) ?_
   refine ax_nil (cx_keep rfl rfl (cx_seq (cx_seq (cx_ops ?_))))
   refine ax_q (q_mov rfl) ?_
   refine ax_q (q_not rfl) ?_
   refine ax_nil (cx_keep rfl rfl ?_)
   refine cx_cond rfl (fun h5 => ?_) (fun h5 => ?_)
   ·
    have h5 : (okD S ns[k]).1 = false := by rw [ho] <;> exact bT h5
    refine cx_seq (cx_ops ?_)
    refine ax_q (q_mov rfl) ?_
    refine ax_nil (cx_keep rfl rfl ?_)
    refine cx_ret (ret0 rfl rfl ?_)
    exact ⟨by rw [depthF_none (k := k + 1) (by omega) (by rw [scan_next h0x hs, stepD_f h5])]; rfl, rfl⟩
   ·
    have h5 : (okD S ns[k]).1 = true := by rw [ho] <;> exact bF h5
    have hs2 := scan_next h0x hs
    rw [stepD_t h5, ho] at hs2
    rw [ho] at hlw hor
    dsimp only at hs2 hlw hor
    refine cx_skip ?_
    refine cx_keep rfl rfl (cx_ops ?_)
    refine ax_q (q_load1_ptr rfl rfl rfl) ?_
    refine ax_q (q_mov rfl) ?_
    refine ax_q (q_mov rfl) ?_
    refine ax_q (q_add rfl rfl (by omega)) ?_
    refine ax_q (q_build rfl) ?_
    refine ax_e (e_bslice rfl (by decide) rfl rfl) ?_
    refine ax_e (e_appn rfl rfl (stk_le hor) rfl (src_osl rfl (by simp)) (.inl (by decide)) (hbnd (by omega) (by simp) (by decide)) (stk_len hs2) (stk_app hs2 hor)) ?_
    refine ax_e (e_st rfl rfl rfl rfl rfl rfl rfl) ?_
    refine ax_nil (cx_keep rfl rfl (cx_ops ?_))
    refine ax_qe (r' := int ((k + 1 : Nat) : Int)) (q_ibin rfl rfl rfl) (by rw [wi (by omega) (by omega)]; rfl) ?_
    refine ax_q (q_mov rfl) ?_
    refine ax_nil ?_
    exact ⟨_, (k + 1, _, _), by simp only; omega, ⟨by simp only; omega, rfl, hs2, stk_inv hs2, by simp only [List.length_append, List.length_singleton]; omega, by rw [show ((k + 1 : Nat) : Int) = (k : Int) + 1 from by omega]; exact lowS_app hlw.2.2.1 ⟨hlw.1, hlw.2.1⟩⟩, by repeat constructor⟩
  ·
   have h1 := dF h1
   refine cx_seq (cx_ops ?_)
   refine ax_q (q_fadr_ptr rfl) ?_
   refine ax_q (q_load1_ptr rfl rfl rfl) ?_
   refine ax_q (q_ibin rfl rfl rfl) ?_
   refine ax_q (q_mov rfl) ?_
   refine ax_nil (cx_keep rfl rfl ?_)
   refine cx_cond rfl (fun h2 => ?_) (fun h2 => ?_)
   ·
    have h2 := dT h2
    have ho := okD_2 (S := S) h1 h2
    refine cx_ops ?_
    refine ax_q (q_fadr_ptr rfl) ?_
    refine ax_q (q_load1_ptr rfl rfl rfl) ?_
    refine ax_q (q_ibin rfl rfl rfl) ?_
    refine ax_q (q_mov rfl) ?_
    apply ax_and rfl rfl
    ·
     intro g
     have g := dT g
     refine ax_q (q_fadr_ptr rfl) ?_
     refine ax_q (q_load1_ptr rfl rfl rfl) ?_
     refine ax_q (q_ibin rfl rfl rfl) ?_
     exact ax_nil ⟨rfl, by repeat constructor⟩
    refine ax_q (q_mov rfl) ?_
    apply ax_and rfl rfl
    ·
     intro g
     have g := (fun h => And.intro (dT (and_T h).1) (dT (and_T h).2)) g
     refine ax_q (q_fadr_ptr rfl) ?_
     refine ax_q (q_load1_ptr rfl rfl rfl) ?_
     refine ax_call rfl (vc_pure0 (c_isPlace  ?_) hP rfl rfl ?_)
     ·
      first | assumption | omega
     exact ax_nil ⟨rfl, by repeat constructor⟩
    refine ax_q (q_mov rfl) ?_
    apply ax_and rfl rfl
    ·
     intro g
     have g := (fun h => And.intro ((fun h => And.intro (dT (and_T h).1) (dT (and_T h).2)) (and_T h).1) (id (and_T h).2)) g
     refine ax_q (q_fadr_ptr rfl) ?_
     refine ax_q (q_ldN rfl rfl rfl) ?_
     refine ax_q (q_build rfl) ?_
     first | refine ax_q (GValue.q_eqs rfl rfl) ?_ | refine ax_q (q_eqs rfl rfl rfl) ?_
     exact ax_nil ⟨rfl, by repeat constructor⟩
    refine ax_q (q_mov rfl) ?_
    refine ax_nil (cx_keep rfl rfl (cx_seq (cx_seq (cx_ops ?_))))
    refine ax_q (q_mov rfl) ?_
    refine ax_q (q_not rfl) ?_
    refine ax_nil (cx_keep rfl rfl ?_)
    refine cx_cond rfl (fun h5 => ?_) (fun h5 => ?_)
    ·
     have h5 : (okD S ns[k]).1 = false := by rw [ho] <;> exact bT h5
     refine cx_seq (cx_ops ?_)
     refine ax_q (q_mov rfl) ?_
     refine ax_nil (cx_keep rfl rfl ?_)
     refine cx_ret (ret0 rfl rfl ?_)
     exact ⟨by rw [depthF_none (k := k + 1) (by omega) (by rw [scan_next h0x hs, stepD_f h5])]; rfl, rfl⟩
    ·
     have h5 : (okD S ns[k]).1 = true := by rw [ho] <;> exact bF h5
     have hs2 := scan_next h0x hs
     rw [stepD_t h5, ho] at hs2
     rw [ho] at hlw hor
     dsimp only at hs2 hlw hor
     refine cx_skip ?_
     refine cx_keep rfl rfl (cx_ops ?_)
     refine ax_q (q_load1_ptr rfl rfl rfl) ?_
     refine ax_q (q_mov rfl) ?_
     refine ax_q (q_mov rfl) ?_
     refine ax_q (q_add rfl rfl (by omega)) ?_
     refine ax_q (q_build rfl) ?_
     refine ax_e (e_bslice rfl (by decide) rfl rfl) ?_
     refine ax_e (e_appn rfl rfl (stk_le hor) rfl (src_osl rfl (by simp)) (.inl (by decide)) (hbnd (by omega) (by simp) (by decide)) (stk_len hs2) (stk_app hs2 hor)) ?_
     refine ax_e (e_st rfl rfl rfl rfl rfl rfl rfl) ?_
     refine ax_nil (cx_keep rfl rfl (cx_ops ?_))
     refine ax_qe (r' := int ((k + 1 : Nat) : Int)) (q_ibin rfl rfl rfl) (by rw [wi (by omega) (by omega)]; rfl) ?_
     refine ax_q (q_mov rfl) ?_
     refine ax_nil ?_
     exact ⟨_, (k + 1, _, _), by simp only; omega, ⟨by simp only; omega, rfl, hs2, stk_inv hs2, by simp only [List.length_append, List.length_singleton]; omega, by rw [show ((k + 1 : Nat) : Int) = (k : Int) + 1 from by omega]; exact lowS_app hlw.2.2.1 ⟨hlw.1, hlw.2.1⟩⟩, by repeat constructor⟩
   ·
    have h2 := dF h2
    refine cx_seq (cx_ops ?_)
    refine ax_q (q_fadr_ptr rfl) ?_
    refine ax_q (q_load1_ptr rfl rfl rfl) ?_
    refine ax_call rfl (vc_pure0 (c_isUnary  ) hP rfl rfl ?_)
    refine ax_q (q_mov rfl) ?_
    refine ax_nil (cx_keep rfl rfl ?_)
    refine cx_cond rfl (fun h3 => ?_) (fun h3 => ?_)
    ·
     skip
     have ho := okD_3 (S := S) h1 h2 h3
     refine cx_seq (cx_ops ?_)
     refine ax_q (q_mov rfl) ?_
     refine ax_q (q_fadr_ptr rfl) ?_
     refine ax_q (q_load1_ptr rfl rfl rfl) ?_
     refine ax_callv rfl (by rw [hP]; kernel_rfl) rfl (vcall_own (c_depthOf1 (S := S) (rs := rs) (a := ns[k].A) ?_ ?_) hP hmv false (fun e => bif Nat.beq e 1000 then 3 else 13) [1000, 1001] ⟨rfl, rfl, rfl, rfl, ⟨rfl, rfl, trivial⟩, rfl, rfl, rfl⟩ (.pass rfl rfl (.pass rfl rfl .nil)) ?_)
     ·
      omega
     ·
      exact hrs
     rintro r h ⟨rfl, rfl⟩
     refine ⟨fun e => bif Nat.beq e 1000 then 3 else 13, [], ⟨rfl, rfl, rfl, rfl, mem2 rfl rfl, rfl, rfl, fun h => absurd h Bool.false_ne_true⟩, ?_⟩
     refine ax_q (q_mov rfl) ?_
     refine ax_q (q_ext rfl rfl) ?_
     refine ax_q (q_ext rfl rfl) ?_
     refine ax_q (q_mov rfl) ?_
     refine ax_q (q_mov rfl) ?_
     refine ax_nil (cx_keep rfl rfl (cx_ops ?_))
     refine ax_q (q_mov rfl) ?_
     refine ax_q (q_mov rfl) ?_
     apply ax_and rfl rfl
     ·
      intro g
      refine ax_q (q_fadr_ptr rfl) ?_
      refine ax_q (q_load1_ptr rfl rfl rfl) ?_
      refine ax_q (q_ibin rfl rfl rfl) ?_
      exact ax_nil ⟨rfl, by repeat constructor⟩
     refine ax_q (q_mov rfl) ?_
     apply ax_and rfl rfl
     ·
      intro g
      have g := (fun h => And.intro (id (and_T h).1) (dT (and_T h).2)) g
      refine ax_q (q_fadr_ptr rfl) ?_
      refine ax_q (q_load1_ptr rfl rfl rfl) ?_
      refine ax_q (q_ibin rfl rfl rfl) ?_
      exact ax_nil ⟨rfl, by repeat constructor⟩
     refine ax_q (q_mov rfl) ?_
     apply ax_and rfl rfl
     ·
      intro g
      have g := (fun h => And.intro ((fun h => And.intro (id (and_T h).1) (dT (and_T h).2)) (and_T h).1) (dT (and_T h).2)) g
      refine ax_q (q_fadr_ptr rfl) ?_
      refine ax_q (q_ldN rfl rfl rfl) ?_
      refine ax_q (q_build rfl) ?_
      first | refine ax_q (GValue.q_eqs rfl rfl) ?_ | refine ax_q (q_eqs rfl rfl rfl) ?_
      exact ax_nil ⟨rfl, by repeat constructor⟩
     refine ax_q (q_mov rfl) ?_
     refine ax_nil (cx_keep rfl rfl (cx_seq (cx_seq (cx_ops ?_))))
     refine ax_q (q_mov rfl) ?_
     refine ax_q (q_not rfl) ?_
     refine ax_nil (cx_keep rfl rfl ?_)
     refine cx_cond rfl (fun h5 => ?_) (fun h5 => ?_)
     ·
      have h5 : (okD S ns[k]).1 = false := by rw [ho] <;> exact bT h5
      refine cx_seq (cx_ops ?_)
      refine ax_q (q_mov rfl) ?_
      refine ax_nil (cx_keep rfl rfl ?_)
      refine cx_ret (ret0 rfl rfl ?_)
      exact ⟨by rw [depthF_none (k := k + 1) (by omega) (by rw [scan_next h0x hs, stepD_f h5])]; rfl, rfl⟩
     ·
      have h5 : (okD S ns[k]).1 = true := by rw [ho] <;> exact bF h5
      have hs2 := scan_next h0x hs
      rw [stepD_t h5, ho] at hs2
      rw [ho] at hlw hor
      dsimp only at hs2 hlw hor
      refine cx_skip ?_
      refine cx_keep rfl rfl (cx_ops ?_)
      refine ax_q (q_load1_ptr rfl rfl rfl) ?_
      refine ax_q (q_mov rfl) ?_
      refine ax_q (q_mov rfl) ?_
      refine ax_q (q_add rfl rfl (by omega)) ?_
      refine ax_q (q_build rfl) ?_
      refine ax_e (e_bslice rfl (by decide) rfl rfl) ?_
      refine ax_e (e_appn rfl rfl (stk_le hor) rfl (src_osl rfl (by simp)) (.inl (by decide)) (hbnd (by omega) (by simp) (by decide)) (stk_len hs2) (stk_app hs2 hor)) ?_
      refine ax_e (e_st rfl rfl rfl rfl rfl rfl rfl) ?_
      refine ax_nil (cx_keep rfl rfl (cx_ops ?_))
      refine ax_qe (r' := int ((k + 1 : Nat) : Int)) (q_ibin rfl rfl rfl) (by rw [wi (by omega) (by omega)]; rfl) ?_
      refine ax_q (q_mov rfl) ?_
      refine ax_nil ?_
      exact ⟨_, (k + 1, _, _), by simp only; omega, ⟨by simp only; omega, rfl, hs2, stk_inv hs2, by simp only [List.length_append, List.length_singleton]; omega, by rw [show ((k + 1 : Nat) : Int) = (k : Int) + 1 from by omega]; exact lowS_app hlw.2.2.1 ⟨hlw.1, hlw.2.1⟩⟩, by repeat constructor⟩
    ·
     skip
     refine cx_seq (cx_ops ?_)
     refine ax_q (q_fadr_ptr rfl) ?_
     refine ax_q (q_load1_ptr rfl rfl rfl) ?_
     refine ax_call rfl (vc_pure0 (c_isBinary  ) hP rfl rfl ?_)
     refine ax_q (q_mov rfl) ?_
     refine ax_nil (cx_keep rfl rfl ?_)
     refine cx_cond rfl (fun h4 => ?_) (fun h4 => ?_)
     ·
      skip
      have ho := okD_4 (S := S) h1 h2 h3 h4
      refine cx_seq (cx_ops ?_)
      refine ax_q (q_mov rfl) ?_
      refine ax_q (q_fadr_ptr rfl) ?_
      refine ax_q (q_load1_ptr rfl rfl rfl) ?_
      refine ax_callv rfl (by rw [hP]; kernel_rfl) rfl (vcall_own (c_depthOf1 (S := S) (rs := rs) (a := ns[k].B) ?_ ?_) hP hmv false (fun e => bif Nat.beq e 1000 then 3 else 13) [1000, 1001] ⟨rfl, rfl, rfl, rfl, ⟨rfl, rfl, trivial⟩, rfl, rfl, rfl⟩ (.pass rfl rfl (.pass rfl rfl .nil)) ?_)
      ·
       omega
      ·
       exact hrs
      rintro r h ⟨rfl, rfl⟩
      refine ⟨fun e => bif Nat.beq e 1000 then 3 else 13, [], ⟨rfl, rfl, rfl, rfl, mem2 rfl rfl, rfl, rfl, fun h => absurd h Bool.false_ne_true⟩, ?_⟩
      refine ax_q (q_mov rfl) ?_
      refine ax_q (q_ext rfl rfl) ?_
      refine ax_q (q_ext rfl rfl) ?_
      refine ax_q (q_mov rfl) ?_
      refine ax_q (q_mov rfl) ?_
      refine ax_nil (cx_keep rfl rfl (cx_seq (cx_ops ?_)))
      refine ax_q (q_mov rfl) ?_
      refine ax_q (q_fadr_ptr rfl) ?_
      refine ax_q (q_load1_ptr rfl rfl rfl) ?_
      have hpl := @popF_len S ns[k].B
      refine ax_callv rfl (by rw [hP]; kernel_rfl) rfl (vcall_own (c_depthOf1 (S := (popF S ns[k].B).2.2) (rs := rs) (a := ns[k].A) ?_ ?_) hP hmv false (fun e => bif Nat.beq e 1000 then 3 else 13) [1000, 1001] ⟨rfl, rfl, rfl, rfl, ⟨rfl, rfl, trivial⟩, rfl, rfl, rfl⟩ (.pass rfl rfl (.pass rfl rfl .nil)) ?_)
      ·
       omega
      ·
       exact popF_rs hrs
      rintro r h ⟨rfl, rfl⟩
      refine ⟨fun e => bif Nat.beq e 1000 then 3 else 13, [], ⟨rfl, rfl, rfl, rfl, mem2 rfl rfl, rfl, rfl, fun h => absurd h Bool.false_ne_true⟩, ?_⟩
      refine ax_q (q_mov rfl) ?_
      refine ax_q (q_ext rfl rfl) ?_
      refine ax_q (q_ext rfl rfl) ?_
      refine ax_q (q_mov rfl) ?_
      refine ax_q (q_mov rfl) ?_
      refine ax_nil (cx_keep rfl rfl (cx_draw ?_))
      refine ax_q (q_mov rfl) ?_
      refine ax_q (q_mov rfl) ?_
      refine ax_qe (r' := int (mxI (popF (popF S ns[k].B).2.2 ns[k].A).1 (popF S ns[k].B).1)) (q_mx rfl rfl) (rfl) ?_
      refine ax_q (q_mov rfl) ?_
      refine ax_q (q_mov rfl) ?_
      apply ax_and rfl rfl
      ·
       intro g
       refine ax_q (q_mov rfl) ?_
       exact ax_nil ⟨rfl, by repeat constructor⟩
      refine ax_q (q_mov rfl) ?_
      apply ax_and rfl rfl
      ·
       intro g
       have g := (fun h => And.intro (id (and_T h).1) (id (and_T h).2)) g
       refine ax_q (q_fadr_ptr rfl) ?_
       refine ax_q (q_load1_ptr rfl rfl rfl) ?_
       refine ax_q (q_ibin rfl rfl rfl) ?_
       exact ax_nil ⟨rfl, by repeat constructor⟩
      refine ax_q (q_mov rfl) ?_
      apply ax_and rfl rfl
      ·
       intro g
       have g := (fun h => And.intro ((fun h => And.intro (id (and_T h).1) (id (and_T h).2)) (and_T h).1) (dT (and_T h).2)) g
       refine ax_q (q_fadr_ptr rfl) ?_
       refine ax_q (q_ldN rfl rfl rfl) ?_
       refine ax_q (q_build rfl) ?_
       first | refine ax_q (GValue.q_eqs rfl rfl) ?_ | refine ax_q (q_eqs rfl rfl rfl) ?_
       exact ax_nil ⟨rfl, by repeat constructor⟩
      refine ax_q (q_mov rfl) ?_
      refine ax_q (q_mov rfl) ?_
      refine ax_nil (cx_keep rfl rfl (cx_seq (cx_seq (cx_ops ?_))))
      refine ax_q (q_mov rfl) ?_
      refine ax_q (q_not rfl) ?_
      refine ax_nil (cx_keep rfl rfl ?_)
      refine cx_cond rfl (fun h5 => ?_) (fun h5 => ?_)
      ·
       have h5 : (okD S ns[k]).1 = false := by rw [ho] <;> exact bT h5
       refine cx_seq (cx_ops ?_)
       refine ax_q (q_mov rfl) ?_
       refine ax_nil (cx_keep rfl rfl ?_)
       refine cx_ret (ret0 rfl rfl ?_)
       exact ⟨by rw [depthF_none (k := k + 1) (by omega) (by rw [scan_next h0x hs, stepD_f h5])]; rfl, rfl⟩
      ·
       have h5 : (okD S ns[k]).1 = true := by rw [ho] <;> exact bF h5
       have hs2 := scan_next h0x hs
       rw [stepD_t h5, ho] at hs2
       rw [ho] at hlw hor
       dsimp only at hs2 hlw hor
       refine cx_skip ?_
       refine cx_keep rfl rfl (cx_ops ?_)
       refine ax_q (q_load1_ptr rfl rfl rfl) ?_
       refine ax_q (q_mov rfl) ?_
       refine ax_q (q_mov rfl) ?_
       refine ax_q (q_add rfl rfl (by omega)) ?_
       refine ax_q (q_build rfl) ?_
       refine ax_e (e_bslice rfl (by decide) rfl rfl) ?_
       refine ax_e (e_appn rfl rfl (stk_le hor) rfl (src_osl rfl (by simp)) (.inl (by decide)) (hbnd (by omega) (by simp) (by decide)) (stk_len hs2) (stk_app hs2 hor)) ?_
       refine ax_e (e_st rfl rfl rfl rfl rfl rfl rfl) ?_
       refine ax_nil (cx_keep rfl rfl (cx_ops ?_))
       refine ax_qe (r' := int ((k + 1 : Nat) : Int)) (q_ibin rfl rfl rfl) (by rw [wi (by omega) (by omega)]; rfl) ?_
       refine ax_q (q_mov rfl) ?_
       refine ax_nil ?_
       exact ⟨_, (k + 1, _, _), by simp only; omega, ⟨by simp only; omega, rfl, hs2, stk_inv hs2, by simp only [List.length_append, List.length_singleton]; omega, by rw [show ((k + 1 : Nat) : Int) = (k : Int) + 1 from by omega]; exact lowS_app hlw.2.2.1 ⟨hlw.1, hlw.2.1⟩⟩, by repeat constructor⟩
     ·
      skip
      have ho := okD_5 (S := S) h1 h2 h3 h4
      refine cx_ops ?_
      refine ax_q (q_mov rfl) ?_
      refine ax_nil (cx_keep rfl rfl (cx_seq (cx_seq (cx_ops ?_))))
      refine ax_q (q_mov rfl) ?_
      refine ax_q (q_not rfl) ?_
      refine ax_nil (cx_keep rfl rfl ?_)
      refine cx_cond rfl (fun h5 => ?_) (fun h5 => ?_)
      ·
       have h5 : (okD S ns[k]).1 = false := by rw [ho] <;> exact bT h5
       refine cx_seq (cx_ops ?_)
       refine ax_q (q_mov rfl) ?_
       refine ax_nil (cx_keep rfl rfl ?_)
       refine cx_ret (ret0 rfl rfl ?_)
       exact ⟨by rw [depthF_none (k := k + 1) (by omega) (by rw [scan_next h0x hs, stepD_f h5])]; rfl, rfl⟩
      ·
       have h5 : (okD S ns[k]).1 = true := by rw [ho] <;> exact bF h5
       have hs2 := scan_next h0x hs
       rw [stepD_t h5, ho] at hs2
       rw [ho] at hlw hor
       dsimp only at hs2 hlw hor
       refine cx_skip ?_
       refine cx_keep rfl rfl (cx_ops ?_)
       refine ax_q (q_load1_ptr rfl rfl rfl) ?_
       refine ax_q (q_mov rfl) ?_
       refine ax_q (q_mov rfl) ?_
       refine ax_q (q_add rfl rfl (by omega)) ?_
       refine ax_q (q_build rfl) ?_
       refine ax_e (e_bslice rfl (by decide) rfl rfl) ?_
       refine ax_e (e_appn rfl rfl (stk_le hor) rfl (src_osl rfl (by simp)) (.inl (by decide)) (hbnd (by omega) (by simp) (by decide)) (stk_len hs2) (stk_app hs2 hor)) ?_
       refine ax_e (e_st rfl rfl rfl rfl rfl rfl rfl) ?_
       refine ax_nil (cx_keep rfl rfl (cx_ops ?_))
       refine ax_qe (r' := int ((k + 1 : Nat) : Int)) (q_ibin rfl rfl rfl) (by rw [wi (by omega) (by omega)]; rfl) ?_
       refine ax_q (q_mov rfl) ?_
       refine ax_nil ?_
       exact ⟨_, (k + 1, _, _), by simp only; omega, ⟨by simp only; omega, rfl, hs2, stk_inv hs2, by simp only [List.length_append, List.length_singleton]; omega, by rw [show ((k + 1 : Nat) : Int) = (k : Int) + 1 from by omega]; exact lowS_app hlw.2.2.1 ⟨hlw.1, hlw.2.1⟩⟩, by repeat constructor⟩
 ·
  have h0 := dF h0
  have h0x : k = ns.length := by omega
  subst h0x
  refine cx_exit rfl ?_
  refine cx_keep rfl rfl (cx_seq (cx_seq (cx_ops ?_)))
  refine ax_q (q_load1_ptr rfl rfl rfl) ?_
  first | refine ax_q (q_lenS_map rfl) ?_ | refine ax_q (q_lenS_osl rfl) ?_
  refine ax_q (q_ibin rfl rfl rfl) ?_
  refine ax_nil (cx_keep rfl rfl ?_)
  refine cx_cond rfl (fun h6 => ?_) (fun h6 => ?_)
  ·
   have h6 := nT h6
   refine cx_seq (cx_ops ?_)
   refine ax_q (q_mov rfl) ?_
   refine ax_nil (cx_keep rfl rfl ?_)
   refine cx_ret (ret0 rfl rfl ?_)
   exact ⟨by rw [depthF_no hs h6]; rfl, rfl⟩
  ·
   have h6 := nF h6
   refine cx_skip ?_
   refine cx_keep rfl rfl (cx_seq (cx_ops ?_))
   refine ax_q (q_load1_ptr rfl rfl rfl) ?_
   refine ax_q (q_ixoI rfl rfl (by omega) (by omega)) ?_
   first | refine ax_q (q_fadr_ptr rfl) ?_ | refine ax_q (q_fadr_rptr rfl) ?_
   refine ax_q (q_load1_rptr (r := prow (S.getD 0 (0, 0))) rfl rfl (row0 hrs h6) rfl) ?_
   refine ax_q (q_mov rfl) ?_
   refine ax_nil (cx_keep rfl rfl ?_)
   refine cx_ret (ret0 rfl rfl ?_)
   exact ⟨by rw [depthF_yes hs h6]; rfl, rfl⟩


/- loop.example/g00332/impl.ExprOK -/
def k_c_ExprOK : XCode :=
 .seq (.ops [.op (some 1) (.box (.t 0)),
   .op (some 2) (.mov (.k (.bool false)))])
 (.keep [1] (.seq (.ops [.op (some 3) (.fadr (.t 1) 0),
   .op (some 4) (.load1 (.t 3)),
   .op (some 5) (.lenS (.t 4)),
   .call (some 6) 34 [.t 5, .k (.int .i64 1), .k (.int .i64 40)],
   .op (some 7) (.mov (.t 6)),
   .andor 12 true 4 7 [.op (some 8) (.fadr (.t 1) 0), .op (some 9) (.load1 (.t 8)), .call (some 10) 35 [.t 9], .call (some 11) 34 [.t 10, .k (.int .i64 1), .k (.int .i64 12)]] (.t 11),
   .op (some 2) (.mov (.t 12))])
 (.keep [2] (.ret))))
theorem k_c_ExprOK_fits : fitsF Tryz.prog 14 ⟨13, k_c_ExprOK, [.t 2]⟩ = true := by kernel_rfl
theorem c_ExprOK {e : GExpr} (hw : e.Nodes.length ≤ 1048576) (hv : ∀ x ∈ e.Nodes, x.V.T.length ≤ 1048576) : Con Tryz.prog noMv 14 [e.av] [] (fun r h => r = bool (exprOK e) ∧ h = []) := by
 refine con_of2 k_c_ExprOK_fits rfl fun C hP hmv => ?_
 unfold k_c_ExprOK
 refine cx_seq (cx_ops ?_)
 refine ax_e (e_box rfl rfl (by decide) rfl rfl rfl) ?_
 refine ax_q (q_mov rfl) ?_
 refine ax_nil (cx_keep rfl rfl (cx_seq (cx_ops ?_)))
 refine ax_q (q_fadr_ptr rfl) ?_
 refine ax_q (q_load1_ptr rfl rfl rfl) ?_
 refine ax_q (q_lenS_map rfl) ?_
 refine ax_call rfl (vc_pure0 (c_inRange  ) hP rfl rfl ?_)
 refine ax_q (q_mov rfl) ?_
 apply ax_and rfl rfl
 ·
  intro g
  refine ax_q (q_fadr_ptr rfl) ?_
  refine ax_q (q_load1_ptr rfl rfl rfl) ?_
  refine ax_call rfl (vc_pure0 (c_depthOf (ns := e.Nodes) ?_ ?_) hP rfl rfl ?_)
  ·
   assumption
  ·
   assumption
  refine ax_call rfl (vc_pure0 (c_inRange  ) hP rfl rfl ?_)
  exact ax_nil ⟨rfl, by repeat constructor⟩
 refine ax_q (q_mov rfl) ?_
 refine ax_nil (cx_keep rfl rfl ?_)
 refine cx_ret (ret0 rfl rfl ?_)
 exact ⟨by rw [← exprOK_i]; rfl, rfl⟩


/- (loop.example/g00332/impl.Expr).hasNone -/
def k_c_hasNone : XCode :=
 .seq (.ops [.op (some 1) (.box (.t 0)),
   .op (some 2) (.mov (.k (.bool false)))])
 (.keep [1] (.seq (.ops [.op (some 3) (.fadr (.t 1) 0),
   .op (some 4) (.load1 (.t 3)),
   .op (some 5) (.lenS (.t 4)),
   .op (some 6) (.bin .eql (.t 5) (.k (.int .i64 0))),
   .op (some 2) (.mov (.t 6))])
 (.keep [2] (.ret))))
theorem k_c_hasNone_fits : fitsF Tryz.prog 43 ⟨7, k_c_hasNone, [.t 2]⟩ = true := by kernel_rfl
theorem c_hasNone {e : GExpr} : Con Tryz.prog noMv 43 [e.av] [] (fun r h => r = bool (noneE e) ∧ h = []) := by
 refine con_of2 k_c_hasNone_fits rfl fun C hP hmv => ?_
 unfold k_c_hasNone
 refine cx_seq (cx_ops ?_)
 refine ax_e (e_box rfl rfl (by decide) rfl rfl rfl) ?_
 refine ax_q (q_mov rfl) ?_
 refine ax_nil (cx_keep rfl rfl (cx_seq (cx_ops ?_)))
 refine ax_q (q_fadr_ptr rfl) ?_
 refine ax_q (q_load1_ptr rfl rfl rfl) ?_
 refine ax_q (q_lenS_map rfl) ?_
 refine ax_q (q_ibin rfl rfl rfl) ?_
 refine ax_q (q_mov rfl) ?_
 refine ax_nil (cx_keep rfl rfl ?_)
 refine cx_ret (ret0 rfl rfl ?_)
 exact ⟨rfl, rfl⟩


/- loop.example/g00332/impl.isTable -/
def k_c_isTable : XCode :=
 .seq (.ops [.op (some 2) (.mov (.k (.bool false)))])
 (.keep [0] (.seq (.ops [.op (some 3) (.mov (.t 0)),
   .call (some 4) 34 [.t 3, .k (.int .i64 1), .k (.int .i64 3)],
   .op (some 2) (.mov (.t 4))])
 (.keep [2] (.ret))))
theorem k_c_isTable_fits : fitsF Tryz.prog 44 ⟨5, k_c_isTable, [.t 2]⟩ = true := by kernel_rfl
theorem c_isTable {n : Int} : Con Tryz.prog noMv 44 [int n] [] (fun r h => r = bool (inR n 1 3) ∧ h = []) := by
 refine con_of2 k_c_isTable_fits rfl fun C hP hmv => ?_
 unfold k_c_isTable
 refine cx_seq (cx_ops ?_)
 refine ax_q (q_mov rfl) ?_
 refine ax_nil (cx_keep rfl rfl (cx_seq (cx_ops ?_)))
 refine ax_q (q_mov rfl) ?_
 refine ax_call rfl (vc_pure0 (c_inRange  ) hP rfl rfl ?_)
 refine ax_q (q_mov rfl) ?_
 refine ax_nil (cx_keep rfl rfl ?_)
 refine cx_ret (ret0 rfl rfl ?_)
 exact ⟨rfl, rfl⟩


/- loop.example/g00332/impl.isId -/
def k_c_isId : XCode :=
 .seq (.ops [.op (some 2) (.mov (.k (.bool false)))])
 (.keep [0] (.seq (.ops [.op (some 3) (.mov (.t 0)),
   .call (some 4) 34 [.t 3, .k (.int .i64 0), .k (.int .i64 1000)],
   .op (some 2) (.mov (.t 4))])
 (.keep [2] (.ret))))
theorem k_c_isId_fits : fitsF Tryz.prog 83 ⟨5, k_c_isId, [.t 2]⟩ = true := by kernel_rfl
theorem c_isId {n : Int} : Con Tryz.prog noMv 83 [int n] [] (fun r h => r = bool (inR n 0 1000) ∧ h = []) := by
 refine con_of2 k_c_isId_fits rfl fun C hP hmv => ?_
 unfold k_c_isId
 refine cx_seq (cx_ops ?_)
 refine ax_q (q_mov rfl) ?_
 refine ax_nil (cx_keep rfl rfl (cx_seq (cx_ops ?_)))
 refine ax_q (q_mov rfl) ?_
 refine ax_call rfl (vc_pure0 (c_inRange  ) hP rfl rfl ?_)
 refine ax_q (q_mov rfl) ?_
 refine ax_nil (cx_keep rfl rfl ?_)
 refine cx_ret (ret0 rfl rfl ?_)
 exact ⟨rfl, rfl⟩


/- loop.example/g00332/impl.rowOK -/
def k_c_rowOK : XCode :=
 .seq (.ops [.op (some 1) (.box (.t 0)),
   .op (some 2) (.mov (.k (.bool false)))])
 (.keep [1] (.seq (.ops [.op (some 3) (.fadr (.t 1) 0),
   .op (some 4) (.load1 (.t 3)),
   .call (some 5) 83 [.t 4],
   .op (some 6) (.mov (.t 5)),
   .andor 10 true 3 6 [.op (some 7) (.fadr (.t 1) 1), .op (some 8) (.loadN 3 (.t 7)), .call (some 9) 64 [.t 8]] (.t 9),
   .op (some 11) (.mov (.t 10)),
   .andor 16 true 8 11 [.op (some 12) (.fadr (.t 1) 1), .op (some 13) (.fadr (.t 12) 0), .op (some 14) (.load1 (.t 13)), .op (some 15) (.bin .neq (.t 14) (.k (.int .i64 2)))] (.t 15),
   .op (some 17) (.mov (.t 16)),
   .andor 21 true 14 17 [.op (some 18) (.fadr (.t 1) 4), .op (some 19) (.loadN 3 (.t 18)), .call (some 20) 64 [.t 19]] (.t 20),
   .op (some 22) (.mov (.t 21)),
   .andor 27 true 19 22 [.op (some 23) (.fadr (.t 1) 4), .op (some 24) (.fadr (.t 23) 0), .op (some 25) (.load1 (.t 24)), .op (some 26) (.bin .neq (.t 25) (.k (.int .i64 1)))] (.t 26),
   .op (some 2) (.mov (.t 27))])
 (.keep [2] (.ret))))
theorem k_c_rowOK_fits : fitsF Tryz.prog 46 ⟨28, k_c_rowOK, [.t 2]⟩ = true := by kernel_rfl
theorem c_rowOK {a : GRow} (hv : a.N.T.length ≤ 1048576) (hw : a.Name.T.length ≤ 1048576) : Con Tryz.prog noMv 46 [a.av] [] (fun r h => r = bool (rowOK a) ∧ h = []) := by
 refine con_of2 k_c_rowOK_fits rfl fun C hP hmv => ?_
 unfold k_c_rowOK
 refine cx_seq (cx_ops ?_)
 refine ax_e (e_box rfl rfl (by decide) rfl rfl rfl) ?_
 refine ax_q (q_mov rfl) ?_
 refine ax_nil (cx_keep rfl rfl (cx_seq (cx_ops ?_)))
 refine ax_q (q_fadr_ptr rfl) ?_
 refine ax_q (q_load1_ptr rfl rfl rfl) ?_
 refine ax_call rfl (vc_pure0 (c_isId  ) hP rfl rfl ?_)
 refine ax_q (q_mov rfl) ?_
 apply ax_and rfl rfl
 ·
  intro g
  refine ax_q (q_fadr_ptr rfl) ?_
  refine ax_q (q_ldN rfl rfl rfl) ?_
  refine ax_call rfl (vc_pure0 (c_ValueOK (v := a.N) ?_) hP rfl rfl ?_)
  ·
   assumption
  exact ax_nil ⟨rfl, by repeat constructor⟩
 refine ax_q (q_mov rfl) ?_
 apply ax_and rfl rfl
 ·
  intro g
  have g := (fun h => And.intro (id (and_T h).1) (id (and_T h).2)) g
  refine ax_q (q_fadr_ptr rfl) ?_
  refine ax_q (q_fadr_ptr rfl) ?_
  refine ax_q (q_load1_ptr rfl rfl rfl) ?_
  refine ax_q (q_ibin rfl rfl rfl) ?_
  exact ax_nil ⟨rfl, by repeat constructor⟩
 refine ax_q (q_mov rfl) ?_
 apply ax_and rfl rfl
 ·
  intro g
  have g := (fun h => And.intro ((fun h => And.intro (id (and_T h).1) (id (and_T h).2)) (and_T h).1) (nT (and_T h).2)) g
  refine ax_q (q_fadr_ptr rfl) ?_
  refine ax_q (q_ldN rfl rfl rfl) ?_
  refine ax_call rfl (vc_pure0 (c_ValueOK (v := a.Name) ?_) hP rfl rfl ?_)
  ·
   assumption
  exact ax_nil ⟨rfl, by repeat constructor⟩
 refine ax_q (q_mov rfl) ?_
 apply ax_and rfl rfl
 ·
  intro g
  have g := (fun h => And.intro ((fun h => And.intro ((fun h => And.intro (id (and_T h).1) (id (and_T h).2)) (and_T h).1) (nT (and_T h).2)) (and_T h).1) (id (and_T h).2)) g
  refine ax_q (q_fadr_ptr rfl) ?_
  refine ax_q (q_fadr_ptr rfl) ?_
  refine ax_q (q_load1_ptr rfl rfl rfl) ?_
  refine ax_q (q_ibin rfl rfl rfl) ?_
  exact ax_nil ⟨rfl, by repeat constructor⟩
 refine ax_q (q_mov rfl) ?_
 refine ax_nil (cx_keep rfl rfl ?_)
 refine cx_ret (ret0 rfl rfl ?_)
 exact ⟨by rw [← rowOK_i] <;> rfl, rfl⟩


/- loop.example/g00332/impl.StmtOK -/
def k_c_StmtOK : XCode :=
 .seq (.ops [.op (some 1) (.box (.t 0)),
   .op (some 2) (.mov (.k (.bool false)))])
 (.keep [1] (.seq (.draw [.op (some 6) (.fadr (.t 1) 2),
   .op (some 7) (.loadN 7 (.t 6)),
   .op (some 8) (.build [.int .i64 0, .int .i64 0, .int .i64 0, .str [], .int .i64 0, .int .i64 0, .str []] []),
   .op (some 9) (.eqs false [0, 0, 0, 2, 0, 0, 2] (.t 7) (.t 8)),
   .op (some 10) (.fadr (.t 1) 12),
   .op (some 11) (.load1 (.t 10)),
   .op (some 12) (.bin .neq (.t 11) (.k (.int .i64 0))),
   .op (some 13) (.mov (.t 12)),
   .andor 16 false 7 13 [.op (some 14) (.fadr (.t 1) 13), .op (some 15) (.load1 (.t 14))] (.t 15),
   .op (some 3) (.mov (.t 9)),
   .op (some 4) (.mov (.t 16))])
 (.keep [1, 3, 4] (.seq (.ops [.op (some 17) (.fadr (.t 1) 11),
   .op (some 18) (.loadN 1 (.t 17)),
   .call (some 19) 43 [.t 18],
   .op (some 20) (.mov (.t 19)),
   .andor 24 false 3 20 [.op (some 21) (.fadr (.t 1) 11), .op (some 22) (.loadN 1 (.t 21)), .call (some 23) 14 [.t 22]] (.t 23),
   .op (some 5) (.mov (.t 24))])
 (.keep [1, 3, 4, 5] (.seq (.seq (.ops [.op (some 25) (.fadr (.t 1) 1),
   .op (some 26) (.load1 (.t 25)),
   .call (some 27) 44 [.t 26],
   .op (some 28) (.not (.t 27)),
   .op (some 29) (.mov (.t 28)),
   .andor 32 false 4 29 [.op (some 30) (.mov (.t 5)), .op (some 31) (.not (.t 30))] (.t 31)])
  (.keep [1, 3, 4, 32] (.cond (.t 32)
  (.seq (.ops [.op (some 2) (.mov (.k (.bool false)))])
   (.keep [2] (.ret)))
  (.skip))))
 (.keep [1, 3, 4] (.seq (.seq (.ops [.op (some 33) (.fadr (.t 1) 0),
   .op (some 34) (.load1 (.t 33))])
  (.keep [1, 3, 4, 34] (.block 0 (.seq (.ops [.op (some 36) (.bin .eql (.t 34) (.k (.int .i64 1))),
    .op (some 35) (.mov (.t 36))])
  (.keep [1, 3, 4, 34, 35] (.cond (.t 35)
   (.seq (.ops [.op (some 37) (.mov (.t 3)),
     .op (some 38) (.mov (.t 37)),
     .andor 42 true 1 38 [.op (some 39) (.fadr (.t 1) 9), .op (some 40) (.load1 (.t 39)), .op (some 41) (.bin .eql (.t 40) (.k (.int .i64 0)))] (.t 41),
     .op (some 43) (.mov (.t 42)),
     .andor 47 true 6 43 [.op (some 44) (.fadr (.t 1) 10), .op (some 45) (.loadN 1 (.t 44)), .call (some 46) 43 [.t 45]] (.t 46),
     .op (some 48) (.mov (.t 47)),
     .andor 52 true 11 48 [.op (some 49) (.fadr (.t 1) 12), .op (some 50) (.load1 (.t 49)), .call (some 51) 45 [.t 50, .k (.int .i64 3)]] (.t 51),
     .op (some 2) (.mov (.t 52))])
   (.keep [2] (.ret)))
   (.seq (.ops [.op (some 54) (.bin .eql (.t 34) (.k (.int .i64 2))),
     .op (some 53) (.mov (.t 54))])
   (.keep [1, 3, 4, 34, 53] (.cond (.t 53)
    (.seq (.ops [.op (some 55) (.fadr (.t 1) 2),
      .op (some 56) (.loadN 7 (.t 55)),
      .call (some 57) 46 [.t 56],
      .op (some 58) (.mov (.t 57)),
      .andor 62 true 3 58 [.op (some 59) (.fadr (.t 1) 9), .op (some 60) (.load1 (.t 59)), .op (some 61) (.bin .eql (.t 60) (.k (.int .i64 0)))] (.t 61),
      .op (some 63) (.mov (.t 62)),
      .andor 67 true 8 63 [.op (some 64) (.fadr (.t 1) 10), .op (some 65) (.loadN 1 (.t 64)), .call (some 66) 43 [.t 65]] (.t 66),
      .op (some 68) (.mov (.t 67)),
      .andor 72 true 13 68 [.op (some 69) (.fadr (.t 1) 11), .op (some 70) (.loadN 1 (.t 69)), .call (some 71) 43 [.t 70]] (.t 71),
      .op (some 73) (.mov (.t 72)),
      .andor 76 true 18 73 [.op (some 74) (.mov (.t 4)), .op (some 75) (.not (.t 74))] (.t 75),
      .op (some 2) (.mov (.t 76))])
    (.keep [2] (.ret)))
    (.seq (.ops [.op (some 78) (.bin .eql (.t 34) (.k (.int .i64 3))),
      .op (some 77) (.mov (.t 78))])
    (.keep [1, 3, 4, 77] (.cond (.t 77)
     (.seq (.ops [.op (some 79) (.mov (.t 3)),
       .op (some 80) (.mov (.t 79)),
       .andor 84 true 1 80 [.op (some 81) (.fadr (.t 1) 9), .op (some 82) (.load1 (.t 81)), .call (some 83) 34 [.t 82, .k (.int .i64 1), .k (.int .i64 2)]] (.t 83),
       .op (some 85) (.mov (.t 84)),
       .andor 89 true 6 85 [.op (some 86) (.fadr (.t 1) 10), .op (some 87) (.loadN 1 (.t 86)), .call (some 88) 14 [.t 87]] (.t 88),
       .op (some 90) (.mov (.t 89)),
       .andor 93 true 11 90 [.op (some 91) (.mov (.t 4)), .op (some 92) (.not (.t 91))] (.t 92),
       .op (some 2) (.mov (.t 93))])
     (.keep [2] (.ret)))
     (.skip)))))))))))))
 (.keep [1, 3, 4] (.seq (.ops [.op (some 94) (.fadr (.t 1) 0),
   .op (some 95) (.load1 (.t 94)),
   .op (some 96) (.bin .eql (.t 95) (.k (.int .i64 4))),
   .op (some 97) (.mov (.t 96)),
   .andor 99 true 3 97 [.op (some 98) (.mov (.t 3))] (.t 98),
   .op (some 100) (.mov (.t 99)),
   .andor 104 true 6 100 [.op (some 101) (.fadr (.t 1) 9), .op (some 102) (.load1 (.t 101)), .op (some 103) (.bin .eql (.t 102) (.k (.int .i64 0)))] (.t 103),
   .op (some 105) (.mov (.t 104)),
   .andor 109 true 11 105 [.op (some 106) (.fadr (.t 1) 10), .op (some 107) (.loadN 1 (.t 106)), .call (some 108) 43 [.t 107]] (.t 108),
   .op (some 110) (.mov (.t 109)),
   .andor 113 true 16 110 [.op (some 111) (.mov (.t 4)), .op (some 112) (.not (.t 111))] (.t 112),
   .op (some 2) (.mov (.t 113))])
 (.keep [2] (.ret))))))))))))
theorem k_c_StmtOK_fits : fitsF Tryz.prog 22 ⟨114, k_c_StmtOK, [.t 2]⟩ = true := by kernel_rfl
theorem c_StmtOK {s : GStmt} (hs0 : s.Set.Nodes.length ≤ 1048576) (hs1 : ∀ x ∈ s.Set.Nodes, x.V.T.length ≤ 1048576) (hw0 : s.Where.Nodes.length ≤ 1048576) (hw1 : ∀ x ∈ s.Where.Nodes, x.V.T.length ≤ 1048576) (hr0 : s.Row.N.T.length ≤ 1048576) (hr1 : s.Row.Name.T.length ≤ 1048576) : Con Tryz.prog noMv 22 [s.av] [] (fun r h => r = bool (stmtOK s) ∧ h = []) := by
 refine con_of2 k_c_StmtOK_fits rfl fun C hP hmv => ?_
 unfold k_c_StmtOK
 refine cx_seq (cx_ops ?_)
 refine ax_e (e_box rfl rfl (by decide) rfl rfl rfl) ?_
 refine ax_q (q_mov rfl) ?_
 refine ax_nil (cx_keep rfl rfl (cx_seq (cx_draw ?_)))
 refine ax_q (q_fadr_ptr rfl) ?_
 refine ax_q (q_ldN rfl rfl rfl) ?_
 refine ax_q (q_build rfl) ?_
 first | refine ax_q (GRow.q_eqs rfl rfl) ?_ | refine ax_q (q_eqs rfl rfl rfl) ?_
 refine ax_q (q_fadr_ptr rfl) ?_
 refine ax_q (q_load1_ptr rfl rfl rfl) ?_
 refine ax_q (q_ibin rfl rfl rfl) ?_
 refine ax_q (q_mov rfl) ?_
 apply ax_or rfl rfl
 ·
  intro g
  have g := nF g
  refine ax_q (q_fadr_ptr rfl) ?_
  refine ax_q (q_load1_ptr rfl rfl rfl) ?_
  exact ax_nil ⟨rfl, by repeat constructor⟩
 refine ax_q (q_mov rfl) ?_
 refine ax_q (q_mov rfl) ?_
 refine ax_nil (cx_keep rfl rfl (cx_seq (cx_ops ?_)))
 refine ax_q (q_fadr_ptr rfl) ?_
 refine ax_q (q_ldN rfl rfl rfl) ?_
 refine ax_call rfl (vc_pure0 (c_hasNone (e := s.Where) ) hP rfl rfl ?_)
 refine ax_q (q_mov rfl) ?_
 apply ax_or rfl rfl
 ·
  intro g
  refine ax_q (q_fadr_ptr rfl) ?_
  refine ax_q (q_ldN rfl rfl rfl) ?_
  refine ax_call rfl (vc_pure0 (c_ExprOK (e := s.Where) ?_ ?_) hP rfl rfl ?_)
  ·
   assumption
  ·
   assumption
  exact ax_nil ⟨rfl, by repeat constructor⟩
 refine ax_q (q_mov rfl) ?_
 refine ax_nil (cx_keep rfl rfl (cx_seq (cx_seq (cx_ops ?_))))
 refine ax_q (q_fadr_ptr rfl) ?_
 refine ax_q (q_load1_ptr rfl rfl rfl) ?_
 refine ax_call rfl (vc_pure0 (c_isTable  ) hP rfl rfl ?_)
 refine ax_q (q_not rfl) ?_
 refine ax_q (q_mov rfl) ?_
 apply ax_or rfl rfl
 ·
  intro g
  have g := bF g
  refine ax_q (q_mov rfl) ?_
  refine ax_q (q_not rfl) ?_
  exact ax_nil ⟨rfl, by repeat constructor⟩
 refine ax_nil (cx_keep rfl rfl ?_)
 refine cx_cond rfl (fun h0 => ?_) (fun h0 => ?_)
 ·
  have h0 : (!inR s.Table 1 3 || !(noneE s.Where || exprOK s.Where)) = true := h0
  refine cx_seq (cx_ops ?_)
  refine ax_q (q_mov rfl) ?_
  refine ax_nil (cx_keep rfl rfl ?_)
  refine cx_ret (ret0 rfl rfl ?_)
  have e : stmtOK s = false := stmt_bad (by
   rw [Bool.or_eq_true] at h0
   exact h0.imp bT bT)
  exact ⟨by rw [e]; rfl, rfl⟩
 ·
  have h0 : (!inR s.Table 1 3 || !(noneE s.Where || exprOK s.Where)) = false := h0
  have ⟨ht, hw⟩ : inR s.Table 1 3 = true ∧ (noneE s.Where || exprOK s.Where) = true := by
   rw [Bool.or_eq_false_iff] at h0
   exact ⟨bF h0.1, bF h0.2⟩
  refine cx_skip ?_
  refine cx_keep rfl rfl (cx_seq (cx_seq (cx_ops ?_)))
  refine ax_q (q_fadr_ptr rfl) ?_
  refine ax_q (q_load1_ptr rfl rfl rfl) ?_
  refine ax_nil (cx_keep rfl rfl (cx_block (cx_seq (cx_ops ?_))))
  refine ax_q (q_ibin rfl rfl rfl) ?_
  refine ax_q (q_mov rfl) ?_
  refine ax_nil (cx_keep rfl rfl ?_)
  refine cx_cond rfl (fun h1 => ?_) (fun h1 => ?_)
  ·
   have h1 := dT h1
   refine cx_seq (cx_ops ?_)
   refine ax_q (q_mov rfl) ?_
   refine ax_q (q_mov rfl) ?_
   apply ax_and rfl rfl
   ·
    intro g
    refine ax_q (q_fadr_ptr rfl) ?_
    refine ax_q (q_load1_ptr rfl rfl rfl) ?_
    refine ax_q (q_ibin rfl rfl rfl) ?_
    exact ax_nil ⟨rfl, by repeat constructor⟩
   refine ax_q (q_mov rfl) ?_
   apply ax_and rfl rfl
   ·
    intro g
    have g := (fun h => And.intro (id (and_T h).1) (dT (and_T h).2)) g
    refine ax_q (q_fadr_ptr rfl) ?_
    refine ax_q (q_ldN rfl rfl rfl) ?_
    refine ax_call rfl (vc_pure0 (c_hasNone (e := s.Set) ) hP rfl rfl ?_)
    exact ax_nil ⟨rfl, by repeat constructor⟩
   refine ax_q (q_mov rfl) ?_
   apply ax_and rfl rfl
   ·
    intro g
    have g := (fun h => And.intro ((fun h => And.intro (id (and_T h).1) (dT (and_T h).2)) (and_T h).1) (id (and_T h).2)) g
    refine ax_q (q_fadr_ptr rfl) ?_
    refine ax_q (q_load1_ptr rfl rfl rfl) ?_
    refine ax_call rfl (vc_pure0 (c_isPlace  ?_) hP rfl rfl ?_)
    ·
     first | assumption | omega
    exact ax_nil ⟨rfl, by repeat constructor⟩
   refine ax_q (q_mov rfl) ?_
   refine ax_nil (cx_keep rfl rfl ?_)
   refine cx_ret (ret0 rfl rfl ?_)
   exact ⟨by rw [← stmt_1 ht hw h1]; rfl, rfl⟩
  ·
   have h1 := dF h1
   refine cx_seq (cx_ops ?_)
   refine ax_q (q_ibin rfl rfl rfl) ?_
   refine ax_q (q_mov rfl) ?_
   refine ax_nil (cx_keep rfl rfl ?_)
   refine cx_cond rfl (fun h2 => ?_) (fun h2 => ?_)
   ·
    have h2 := dT h2
    refine cx_seq (cx_ops ?_)
    refine ax_q (q_fadr_ptr rfl) ?_
    refine ax_q (q_ldN rfl rfl rfl) ?_
    refine ax_call rfl (vc_pure0 (c_rowOK (a := s.Row) ?_ ?_) hP rfl rfl ?_)
    ·
     assumption
    ·
     assumption
    refine ax_q (q_mov rfl) ?_
    apply ax_and rfl rfl
    ·
     intro g
     refine ax_q (q_fadr_ptr rfl) ?_
     refine ax_q (q_load1_ptr rfl rfl rfl) ?_
     refine ax_q (q_ibin rfl rfl rfl) ?_
     exact ax_nil ⟨rfl, by repeat constructor⟩
    refine ax_q (q_mov rfl) ?_
    apply ax_and rfl rfl
    ·
     intro g
     have g := (fun h => And.intro (id (and_T h).1) (dT (and_T h).2)) g
     refine ax_q (q_fadr_ptr rfl) ?_
     refine ax_q (q_ldN rfl rfl rfl) ?_
     refine ax_call rfl (vc_pure0 (c_hasNone (e := s.Set) ) hP rfl rfl ?_)
     exact ax_nil ⟨rfl, by repeat constructor⟩
    refine ax_q (q_mov rfl) ?_
    apply ax_and rfl rfl
    ·
     intro g
     have g := (fun h => And.intro ((fun h => And.intro (id (and_T h).1) (dT (and_T h).2)) (and_T h).1) (id (and_T h).2)) g
     refine ax_q (q_fadr_ptr rfl) ?_
     refine ax_q (q_ldN rfl rfl rfl) ?_
     refine ax_call rfl (vc_pure0 (c_hasNone (e := s.Where) ) hP rfl rfl ?_)
     exact ax_nil ⟨rfl, by repeat constructor⟩
    refine ax_q (q_mov rfl) ?_
    apply ax_and rfl rfl
    ·
     intro g
     have g := (fun h => And.intro ((fun h => And.intro ((fun h => And.intro (id (and_T h).1) (dT (and_T h).2)) (and_T h).1) (id (and_T h).2)) (and_T h).1) (id (and_T h).2)) g
     refine ax_q (q_mov rfl) ?_
     refine ax_q (q_not rfl) ?_
     exact ax_nil ⟨rfl, by repeat constructor⟩
    refine ax_q (q_mov rfl) ?_
    refine ax_nil (cx_keep rfl rfl ?_)
    refine cx_ret (ret0 rfl rfl ?_)
    exact ⟨by rw [← stmt_2 ht hw h2]; rfl, rfl⟩
   ·
    have h2 := dF h2
    refine cx_seq (cx_ops ?_)
    refine ax_q (q_ibin rfl rfl rfl) ?_
    refine ax_q (q_mov rfl) ?_
    refine ax_nil (cx_keep rfl rfl ?_)
    refine cx_cond rfl (fun h3 => ?_) (fun h3 => ?_)
    ·
     have h3 := dT h3
     refine cx_seq (cx_ops ?_)
     refine ax_q (q_mov rfl) ?_
     refine ax_q (q_mov rfl) ?_
     apply ax_and rfl rfl
     ·
      intro g
      refine ax_q (q_fadr_ptr rfl) ?_
      refine ax_q (q_load1_ptr rfl rfl rfl) ?_
      refine ax_call rfl (vc_pure0 (c_inRange  ) hP rfl rfl ?_)
      exact ax_nil ⟨rfl, by repeat constructor⟩
     refine ax_q (q_mov rfl) ?_
     apply ax_and rfl rfl
     ·
      intro g
      have g := (fun h => And.intro (id (and_T h).1) (id (and_T h).2)) g
      refine ax_q (q_fadr_ptr rfl) ?_
      refine ax_q (q_ldN rfl rfl rfl) ?_
      refine ax_call rfl (vc_pure0 (c_ExprOK (e := s.Set) ?_ ?_) hP rfl rfl ?_)
      ·
       assumption
      ·
       assumption
      exact ax_nil ⟨rfl, by repeat constructor⟩
     refine ax_q (q_mov rfl) ?_
     apply ax_and rfl rfl
     ·
      intro g
      have g := (fun h => And.intro ((fun h => And.intro (id (and_T h).1) (id (and_T h).2)) (and_T h).1) (id (and_T h).2)) g
      refine ax_q (q_mov rfl) ?_
      refine ax_q (q_not rfl) ?_
      exact ax_nil ⟨rfl, by repeat constructor⟩
     refine ax_q (q_mov rfl) ?_
     refine ax_nil (cx_keep rfl rfl ?_)
     refine cx_ret (ret0 rfl rfl ?_)
     exact ⟨by rw [← stmt_3 ht hw h3]; rfl, rfl⟩
    ·
     have h3 := dF h3
     refine cx_skip ?_
     refine cx_keep rfl rfl (cx_seq (cx_ops ?_))
     refine ax_q (q_fadr_ptr rfl) ?_
     refine ax_q (q_load1_ptr rfl rfl rfl) ?_
     refine ax_q (q_ibin rfl rfl rfl) ?_
     refine ax_q (q_mov rfl) ?_
     apply ax_and rfl rfl
     ·
      intro g
      have g := dT g
      refine ax_q (q_mov rfl) ?_
      exact ax_nil ⟨rfl, by repeat constructor⟩
     refine ax_q (q_mov rfl) ?_
     apply ax_and rfl rfl
     ·
      intro g
      have g := (fun h => And.intro (dT (and_T h).1) (id (and_T h).2)) g
      refine ax_q (q_fadr_ptr rfl) ?_
      refine ax_q (q_load1_ptr rfl rfl rfl) ?_
      refine ax_q (q_ibin rfl rfl rfl) ?_
      exact ax_nil ⟨rfl, by repeat constructor⟩
     refine ax_q (q_mov rfl) ?_
     apply ax_and rfl rfl
     ·
      intro g
      have g := (fun h => And.intro ((fun h => And.intro (dT (and_T h).1) (id (and_T h).2)) (and_T h).1) (dT (and_T h).2)) g
      refine ax_q (q_fadr_ptr rfl) ?_
      refine ax_q (q_ldN rfl rfl rfl) ?_
      refine ax_call rfl (vc_pure0 (c_hasNone (e := s.Set) ) hP rfl rfl ?_)
      exact ax_nil ⟨rfl, by repeat constructor⟩
     refine ax_q (q_mov rfl) ?_
     apply ax_and rfl rfl
     ·
      intro g
      have g := (fun h => And.intro ((fun h => And.intro ((fun h => And.intro (dT (and_T h).1) (id (and_T h).2)) (and_T h).1) (dT (and_T h).2)) (and_T h).1) (id (and_T h).2)) g
      refine ax_q (q_mov rfl) ?_
      refine ax_q (q_not rfl) ?_
      exact ax_nil ⟨rfl, by repeat constructor⟩
     refine ax_q (q_mov rfl) ?_
     refine ax_nil (cx_keep rfl rfl ?_)
     refine cx_ret (ret0 rfl rfl ?_)
     exact ⟨by rw [← stmt_4 ht hw h1 h2 h3]; rfl, rfl⟩


/- loop.example/g00332/impl.valueText -/
def k_c_valueText : XCode :=
 .seq (.ops [.op (some 1) (.box (.t 0)),
   .op (some 2) (.mov (.k (.str [])))])
 (.keep [1] (.seq (.seq (.ops [.op (some 3) (.fadr (.t 1) 0),
   .op (some 4) (.load1 (.t 3))])
  (.keep [1, 4] (.block 0 (.seq (.ops [.op (some 6) (.bin .eql (.t 4) (.k (.int .i64 0))),
    .op (some 5) (.mov (.t 6))])
  (.keep [1, 4, 5] (.cond (.t 5)
   (.seq (.ops [.op (some 2) (.mov (.k (.str [110, 117, 108, 108])))])
   (.keep [2] (.ret)))
   (.seq (.ops [.op (some 8) (.bin .eql (.t 4) (.k (.int .i64 1))),
     .op (some 7) (.mov (.t 8))])
   (.keep [1, 7] (.cond (.t 7)
    (.seq (.ops [.op (some 9) (.fadr (.t 1) 1),
      .op (some 10) (.load1 (.t 9)),
      .call (some 11) 98 [.t 10],
      .op (some 2) (.mov (.t 11))])
    (.keep [2] (.ret)))
    (.skip))))))))))
 (.keep [1] (.seq (.ops [.op (some 12) (.fadr (.t 1) 2),
   .op (some 13) (.load1 (.t 12)),
   .op (some 14) (.bin .add (.k (.str [39])) (.t 13)),
   .op (some 15) (.bin .add (.t 14) (.k (.str [39]))),
   .op (some 2) (.mov (.t 15))])
 (.keep [2] (.ret))))))
theorem k_c_valueText_fits : fitsF Tryz.prog 72 ⟨16, k_c_valueText, [.t 2]⟩ = true := by kernel_rfl
theorem c_valueText {v : GValue} (hv : valueOK v = true) : Con Tryz.prog noMv 72 [v.av] [] (fun r h => r = str (vtextF v) ∧ h = []) := by
 refine con_of2 k_c_valueText_fits rfl fun C hP hmv => ?_
 unfold k_c_valueText
 have htl := vOK_t hv
 refine cx_seq (cx_ops ?_)
 refine ax_e (e_box rfl rfl (by decide) rfl rfl rfl) ?_
 refine ax_q (q_mov rfl) ?_
 refine ax_nil (cx_keep rfl rfl (cx_seq (cx_seq (cx_ops ?_))))
 refine ax_q (q_fadr_ptr rfl) ?_
 refine ax_q (q_load1_ptr rfl rfl rfl) ?_
 refine ax_nil (cx_keep rfl rfl (cx_block (cx_seq (cx_ops ?_))))
 refine ax_q (q_ibin rfl rfl rfl) ?_
 refine ax_q (q_mov rfl) ?_
 refine ax_nil (cx_keep rfl rfl ?_)
 refine cx_cond rfl (fun h0 => ?_) (fun h0 => ?_)
 ·
  have h0 := dT h0
  refine cx_seq (cx_ops ?_)
  refine ax_q (q_mov rfl) ?_
  refine ax_nil (cx_keep rfl rfl ?_)
  refine cx_ret (ret0 rfl rfl ?_)
  exact ⟨by rw [vtext_0 h0]; rfl, rfl⟩
 ·
  have h0 := dF h0
  refine cx_seq (cx_ops ?_)
  refine ax_q (q_ibin rfl rfl rfl) ?_
  refine ax_q (q_mov rfl) ?_
  refine ax_nil (cx_keep rfl rfl ?_)
  refine cx_cond rfl (fun h1 => ?_) (fun h1 => ?_)
  ·
   have h1 := dT h1
   have hvn := vOK_n hv h1
   refine cx_seq (cx_ops ?_)
   refine ax_q (q_fadr_ptr rfl) ?_
   refine ax_q (q_load1_ptr rfl rfl rfl) ?_
   refine ax_call rfl (vc_pure0 (c_Itoa  ?_ ?_) hP rfl rfl ?_)
   ·
    first | assumption | omega
   ·
    first | assumption | omega
   refine ax_q (q_mov rfl) ?_
   refine ax_nil (cx_keep rfl rfl ?_)
   refine cx_ret (ret0 rfl rfl ?_)
   exact ⟨by rw [vtext_1 h1]; rfl, rfl⟩
  ·
   have h1 := dF h1
   refine cx_skip ?_
   refine cx_keep rfl rfl (cx_seq (cx_ops ?_))
   refine ax_q (q_fadr_ptr rfl) ?_
   refine ax_q (q_load1_ptr rfl rfl rfl) ?_
   refine ax_qe (r' := str (39 :: v.T)) (q_sbin_add rfl rfl (by simp; omega)) (rfl) ?_
   refine ax_qe (r' := str ((39 :: v.T) ++ [39])) (q_sbin_add rfl rfl (by simp; omega)) (rfl) ?_
   refine ax_q (q_mov rfl) ?_
   refine ax_nil (cx_keep rfl rfl ?_)
   refine cx_ret (ret0 rfl rfl ?_)
   exact ⟨by rw [vtext_2 h0 h1]; rfl, rfl⟩


/- loop.example/g00332/impl.nodeText -/
def k_c_nodeText : XCode :=
 .seq (.ops [.op (some 2) (.box (.t 0)),
   .op (some 4) (.mov (.k (.str [])))])
 (.keep [1, 2] (.seq (.ops [.op (some 6) (.fadr (.t 2) 0),
   .op (some 7) (.load1 (.t 6)),
   .op (some 8) (.mov (.t 1)),
   .op (some 9) (.iadr 7 (.t 7) (.t 8)),
   .op (some 10) (.loadN 7 (.t 9)),
   .op (some 5) (.alloc [.int .i64 0, .int .i64 0, .int .i64 0, .int .i64 0, .int .i64 0, .int .i64 0, .str []]),
   .op none (.store 7 (.t 5) (.t 10))])
 (.keep [2, 5] (.seq (.seq (.ops [.op (some 11) (.fadr (.t 5) 0),
   .op (some 12) (.load1 (.t 11))])
  (.keep [2, 5, 12] (.block 0 (.seq (.ops [.op (some 14) (.bin .eql (.t 12) (.k (.int .i64 1))),
    .op (some 13) (.mov (.t 14))])
  (.keep [2, 5, 12, 13] (.cond (.t 13)
   (.seq (.ops [.op (some 15) (.fadr (.t 5) 4),
     .op (some 16) (.loadN 3 (.t 15)),
     .call (some 17) 72 [.t 16],
     .op (some 4) (.mov (.t 17))])
   (.keep [4] (.ret)))
   (.seq (.ops [.op (some 19) (.bin .eql (.t 12) (.k (.int .i64 2))),
     .op (some 18) (.mov (.t 19))])
   (.keep [2, 5, 12, 18] (.cond (.t 18)
    (.seq (.ops [.op (some 20) (.fadr (.t 5) 3),
      .op (some 21) (.load1 (.t 20)),
      .op (some 22) (.iadrA 1 3 (.g 0) (.t 21)),
      .op (some 23) (.load1 (.t 22)),
      .op (some 4) (.mov (.t 23))])
    (.keep [4] (.ret)))
    (.seq (.ops [.op (some 25) (.bin .eql (.t 12) (.k (.int .i64 3))),
      .op (some 24) (.mov (.t 25))])
    (.keep [2, 5, 12, 24] (.cond (.t 24)
     (.seq (.ops [.op (some 26) (.loadN 1 (.t 2)),
       .op (some 27) (.fadr (.t 5) 1),
       .op (some 28) (.load1 (.t 27)),
       .call (some 29) 49 [.t 26, .t 28],
       .op (some 30) (.bin .add (.k (.str [40, 110, 111, 116, 32])) (.t 29)),
       .op (some 31) (.bin .add (.t 30) (.k (.str [41]))),
       .op (some 4) (.mov (.t 31))])
     (.keep [4] (.ret)))
     (.seq (.ops [.op (some 33) (.bin .eql (.t 12) (.k (.int .i64 4))),
       .op (some 32) (.mov (.t 33))])
     (.keep [2, 5, 12, 32] (.cond (.t 32)
      (.seq (.ops [.op (some 34) (.loadN 1 (.t 2)),
        .op (some 35) (.fadr (.t 5) 1),
        .op (some 36) (.load1 (.t 35)),
        .call (some 37) 49 [.t 34, .t 36],
        .op (some 38) (.bin .add (.k (.str [40])) (.t 37)),
        .op (some 39) (.bin .add (.t 38) (.k (.str [32, 105, 115, 32, 110, 117, 108, 108, 41]))),
        .op (some 4) (.mov (.t 39))])
      (.keep [4] (.ret)))
      (.seq (.ops [.op (some 41) (.bin .eql (.t 12) (.k (.int .i64 5))),
        .op (some 40) (.mov (.t 41))])
      (.keep [2, 5, 40] (.cond (.t 40)
       (.seq (.ops [.op (some 42) (.loadN 1 (.t 2)),
         .op (some 43) (.fadr (.t 5) 1),
         .op (some 44) (.load1 (.t 43)),
         .call (some 45) 49 [.t 42, .t 44],
         .op (some 46) (.bin .add (.k (.str [40, 45, 32, 40])) (.t 45)),
         .op (some 47) (.bin .add (.t 46) (.k (.str [41, 41]))),
         .op (some 4) (.mov (.t 47))])
       (.keep [4] (.ret)))
       (.skip)))))))))))))))))))
 (.keep [2, 5] (.seq (.draw [.op (some 48) (.loadN 1 (.t 2)),
   .op (some 49) (.fadr (.t 5) 1),
   .op (some 50) (.load1 (.t 49)),
   .call (some 51) 49 [.t 48, .t 50],
   .op (some 52) (.bin .add (.k (.str [40])) (.t 51)),
   .op (some 53) (.bin .add (.t 52) (.k (.str [32]))),
   .op (some 54) (.fadr (.t 5) 0),
   .op (some 55) (.load1 (.t 54)),
   .op (some 56) (.bin .sub (.t 55) (.k (.int .i64 6))),
   .op (some 57) (.iadrA 1 8 (.g 1) (.t 56)),
   .op (some 58) (.load1 (.t 57)),
   .op (some 59) (.bin .add (.t 53) (.t 58)),
   .op (some 60) (.bin .add (.t 59) (.k (.str [32]))),
   .op (some 61) (.loadN 1 (.t 2)),
   .op (some 62) (.fadr (.t 5) 2),
   .op (some 63) (.load1 (.t 62)),
   .call (some 64) 49 [.t 61, .t 63],
   .op (some 65) (.bin .add (.t 60) (.t 64)),
   .op (some 66) (.bin .add (.t 65) (.k (.str [41]))),
   .op (some 4) (.mov (.t 66))])
 (.keep [4] (.ret))))))))
theorem k_c_nodeText_fits : fitsF Tryz.prog 49 ⟨67, k_c_nodeText, [.t 4]⟩ = true := by kernel_rfl
set_option maxHeartbeats 4000000 in
theorem c_nodeText {e : GExpr} {f : Nat} {i : Int} (hw : e.Nodes.length ≤ 1048576) (hi : 0 ≤ i) (hf : i < f) (hl : i < e.Nodes.length) (ht : (T e.Nodes i).2.2 = true) (hfm : f ≤ 41) : Con Tryz.prog noMv 49 [e.av, int i] [] (fun r h => r = str (etF e.Nodes f i) ∧ h = []) := by
 induction f generalizing i with
 | zero => exact absurd hf (by omega)
 | succ f ih =>
  refine con_of2 k_c_nodeText_fits rfl fun C hP hmv => ?_
  unfold k_c_nodeText
  obtain ⟨j, rfl⟩ : ∃ j : Nat, i = (j : Int) := ⟨i.toNat, by omega⟩
  have hj : j < e.Nodes.length := by omega
  have hTV := T_V hj ht
  refine cx_seq (cx_ops ?_)
  refine ax_e (e_box rfl rfl (by decide) rfl rfl rfl) ?_
  refine ax_q (q_mov rfl) ?_
  refine ax_nil (cx_keep rfl rfl (cx_seq (cx_ops ?_)))
  refine ax_q (q_fadr_ptr rfl) ?_
  refine ax_q (q_load1_ptr rfl rfl rfl) ?_
  refine ax_q (q_mov rfl) ?_
  refine ax_q (q_ix rfl rfl (mapAt hj)) ?_
  first | refine ax_q (q_ldN rfl rfl rfl) ?_ | refine ax_q (q_loadN_ip rfl (Nat.le_refl _)) ?_
  refine ax_e (e_alloc (by decide) rfl rfl) ?_
  refine ax_e (e_st rfl rfl rfl rfl rfl rfl rfl) ?_
  refine ax_nil (cx_keep rfl rfl (cx_seq (cx_seq (cx_ops ?_))))
  refine ax_q (q_fadr_ptr rfl) ?_
  refine ax_q (q_load1_ptr rfl rfl rfl) ?_
  refine ax_nil (cx_keep rfl rfl (cx_block (cx_seq (cx_ops ?_))))
  refine ax_q (q_ibin rfl rfl rfl) ?_
  refine ax_q (q_mov rfl) ?_
  refine ax_nil (cx_keep rfl rfl ?_)
  refine cx_cond rfl (fun h0 => ?_) (fun h0 => ?_)
  ·
   have h0 := dT h0
   have hv0 := T_1 hj ht h0
   refine cx_seq (cx_ops ?_)
   refine ax_q (q_fadr_ptr rfl) ?_
   refine ax_q (q_ldN rfl rfl rfl) ?_
   refine ax_call rfl (vc_pure0 (c_valueText (v := e.Nodes[j].V) ?_) hP rfl rfl ?_)
   ·
    assumption
   refine ax_q (q_mov rfl) ?_
   refine ax_nil (cx_keep rfl rfl ?_)
   refine cx_ret (ret0 rfl rfl ?_)
   exact ⟨by rw [etF_1 hj h0]; rfl, rfl⟩
  ·
   have h0 := dF h0
   refine cx_seq (cx_ops ?_)
   refine ax_q (q_ibin rfl rfl rfl) ?_
   refine ax_q (q_mov rfl) ?_
   refine ax_nil (cx_keep rfl rfl ?_)
   refine cx_cond rfl (fun h1 => ?_) (fun h1 => ?_)
   ·
    have h1 := dT h1
    have hc := hTV.2 h1
    refine cx_seq (cx_ops ?_)
    refine ax_q (q_fadr_ptr rfl) ?_
    refine ax_q (q_load1_ptr rfl rfl rfl) ?_
    refine ax_qe (r' := .d (.ip (.str (colT e.Nodes[j].Column) :: ((colsL.drop ((e.Nodes[j].Column).toNat + 1)).map D.str)))) (q_iadrG (n := e.Nodes[j].Column) colsL gtab_cols (by rw [hP]; kernel_rfl) rfl rfl (by omega) (by omega)) (by rw [col_drop (by omega)]) ?_
    first | refine ax_q (q_load1_ptr rfl rfl rfl) ?_ | refine ax_q (q_load1_ip rfl) ?_
    refine ax_q (q_mov rfl) ?_
    refine ax_nil (cx_keep rfl rfl ?_)
    refine cx_ret (ret0 rfl rfl ?_)
    exact ⟨by rw [etF_2 hj h1]; rfl, rfl⟩
   ·
    have h1 := dF h1
    obtain ⟨⟨hA0, hA1, hAt, hAs⟩, hB⟩ := T_kids hj ht h0 h1
    have hla := etF_le (f := f) hA0 (by omega) (by omega) hAt (by omega)
    refine cx_seq (cx_ops ?_)
    refine ax_q (q_ibin rfl rfl rfl) ?_
    refine ax_q (q_mov rfl) ?_
    refine ax_nil (cx_keep rfl rfl ?_)
    refine cx_cond rfl (fun h2 => ?_) (fun h2 => ?_)
    ·
     have h2 := dT h2
     refine cx_seq (cx_ops ?_)
     refine ax_q (q_ldN rfl rfl rfl) ?_
     refine ax_q (q_fadr_ptr rfl) ?_
     refine ax_q (q_load1_ptr rfl rfl rfl) ?_
     refine ax_call rfl (vc_pure0 (ih (i := e.Nodes[j].A) ?_ ?_ ?_ ?_ ?_) hP rfl rfl ?_)
     ·
      assumption
     ·
      first | assumption | omega
     ·
      first | assumption | omega
     ·
      assumption
     ·
      first | assumption | omega
     refine ax_qe (r' := str ([40, 110, 111, 116, 32] ++ etF e.Nodes f e.Nodes[j].A)) (q_sbin_add rfl rfl (by simp; omega)) (rfl) ?_
     refine ax_qe (r' := str (([40, 110, 111, 116, 32] ++ etF e.Nodes f e.Nodes[j].A) ++ [41])) (q_sbin_add rfl rfl (by simp; omega)) (rfl) ?_
     refine ax_q (q_mov rfl) ?_
     refine ax_nil (cx_keep rfl rfl ?_)
     refine cx_ret (ret0 rfl rfl ?_)
     exact ⟨by rw [etF_3 hj h2]; rfl, rfl⟩
    ·
     have h2 := dF h2
     refine cx_seq (cx_ops ?_)
     refine ax_q (q_ibin rfl rfl rfl) ?_
     refine ax_q (q_mov rfl) ?_
     refine ax_nil (cx_keep rfl rfl ?_)
     refine cx_cond rfl (fun h3 => ?_) (fun h3 => ?_)
     ·
      have h3 := dT h3
      refine cx_seq (cx_ops ?_)
      refine ax_q (q_ldN rfl rfl rfl) ?_
      refine ax_q (q_fadr_ptr rfl) ?_
      refine ax_q (q_load1_ptr rfl rfl rfl) ?_
      refine ax_call rfl (vc_pure0 (ih (i := e.Nodes[j].A) ?_ ?_ ?_ ?_ ?_) hP rfl rfl ?_)
      ·
       assumption
      ·
       first | assumption | omega
      ·
       first | assumption | omega
      ·
       assumption
      ·
       first | assumption | omega
      refine ax_qe (r' := str ([40] ++ etF e.Nodes f e.Nodes[j].A)) (q_sbin_add rfl rfl (by simp; omega)) (rfl) ?_
      refine ax_qe (r' := str (([40] ++ etF e.Nodes f e.Nodes[j].A) ++ [32, 105, 115, 32, 110, 117, 108, 108, 41])) (q_sbin_add rfl rfl (by simp; omega)) (rfl) ?_
      refine ax_q (q_mov rfl) ?_
      refine ax_nil (cx_keep rfl rfl ?_)
      refine cx_ret (ret0 rfl rfl ?_)
      exact ⟨by rw [etF_4 hj h3]; rfl, rfl⟩
     ·
      have h3 := dF h3
      refine cx_seq (cx_ops ?_)
      refine ax_q (q_ibin rfl rfl rfl) ?_
      refine ax_q (q_mov rfl) ?_
      refine ax_nil (cx_keep rfl rfl ?_)
      refine cx_cond rfl (fun h4 => ?_) (fun h4 => ?_)
      ·
       have h4 := dT h4
       refine cx_seq (cx_ops ?_)
       refine ax_q (q_ldN rfl rfl rfl) ?_
       refine ax_q (q_fadr_ptr rfl) ?_
       refine ax_q (q_load1_ptr rfl rfl rfl) ?_
       refine ax_call rfl (vc_pure0 (ih (i := e.Nodes[j].A) ?_ ?_ ?_ ?_ ?_) hP rfl rfl ?_)
       ·
        assumption
       ·
        first | assumption | omega
       ·
        first | assumption | omega
       ·
        assumption
       ·
        first | assumption | omega
       refine ax_qe (r' := str ([40, 45, 32, 40] ++ etF e.Nodes f e.Nodes[j].A)) (q_sbin_add rfl rfl (by simp; omega)) (rfl) ?_
       refine ax_qe (r' := str (([40, 45, 32, 40] ++ etF e.Nodes f e.Nodes[j].A) ++ [41, 41])) (q_sbin_add rfl rfl (by simp; omega)) (rfl) ?_
       refine ax_q (q_mov rfl) ?_
       refine ax_nil (cx_keep rfl rfl ?_)
       refine cx_ret (ret0 rfl rfl ?_)
       exact ⟨by rw [etF_5 hj h4]; rfl, rfl⟩
      ·
       have h4 := dF h4
              
       have ho := op_un hj ht h0 h1 h2 h3 h4
       obtain ⟨hB0, hB1, hBt, hBs⟩ := hB (by omega)
       have hlb := etF_le (f := f) hB0 (by omega) (by omega) hBt (by omega)
       have hls := sgnT_len ho
       refine cx_skip ?_
       refine cx_keep rfl rfl (cx_seq (cx_draw ?_))
       refine ax_q (q_ldN rfl rfl rfl) ?_
       refine ax_q (q_fadr_ptr rfl) ?_
       refine ax_q (q_load1_ptr rfl rfl rfl) ?_
       refine ax_callq rfl (ih (i := e.Nodes[j].A) ?_ ?_ ?_ ?_ ?_) hP (lal_id _ rfl) rfl ?_
       ·
        assumption
       ·
        first | assumption | omega
       ·
        first | assumption | omega
       ·
        assumption
       ·
        first | assumption | omega
       refine ax_qe (r' := str ([40] ++ etF e.Nodes f e.Nodes[j].A)) (q_sbin_add rfl rfl (by simp; omega)) (rfl) ?_
       refine ax_qe (r' := str (([40] ++ etF e.Nodes f e.Nodes[j].A) ++ [32])) (q_sbin_add rfl rfl (by simp; omega)) (rfl) ?_
       refine ax_q (q_fadr_ptr rfl) ?_
       refine ax_q (q_load1_ptr rfl rfl rfl) ?_
       refine ax_q (q_sub rfl rfl (by omega)) ?_
       refine ax_qe (r' := .d (.ip (.str (sgnT e.Nodes[j].Op) :: ((sgnsL.drop (((e.Nodes[j].Op) - 6).toNat + 1)).map D.str)))) (q_iadrG (n := e.Nodes[j].Op - 6) sgnsL gtab_sgns (by rw [hP]; kernel_rfl) rfl rfl (by omega) (by omega)) (by rw [sgn_drop (by omega)]) ?_
       first | refine ax_q (q_load1_ptr rfl rfl rfl) ?_ | refine ax_q (q_load1_ip rfl) ?_
       refine ax_qe (r' := str ((([40] ++ etF e.Nodes f e.Nodes[j].A) ++ [32]) ++ sgnT e.Nodes[j].Op)) (q_sbin_add rfl rfl (by simp; omega)) (rfl) ?_
       refine ax_qe (r' := str (((([40] ++ etF e.Nodes f e.Nodes[j].A) ++ [32]) ++ sgnT e.Nodes[j].Op) ++ [32])) (q_sbin_add rfl rfl (by simp; omega)) (rfl) ?_
       refine ax_q (q_ldN rfl rfl rfl) ?_
       refine ax_q (q_fadr_ptr rfl) ?_
       refine ax_q (q_load1_ptr rfl rfl rfl) ?_
       refine ax_callq rfl (ih (i := e.Nodes[j].B) ?_ ?_ ?_ ?_ ?_) hP (lal_id _ rfl) rfl ?_
       ·
        assumption
       ·
        first | assumption | omega
       ·
        first | assumption | omega
       ·
        assumption
       ·
        first | assumption | omega
       refine ax_qe (r' := str ((((([40] ++ etF e.Nodes f e.Nodes[j].A) ++ [32]) ++ sgnT e.Nodes[j].Op) ++ [32]) ++ etF e.Nodes f e.Nodes[j].B)) (q_sbin_add rfl rfl (by simp; omega)) (rfl) ?_
       refine ax_qe (r' := str (((((([40] ++ etF e.Nodes f e.Nodes[j].A) ++ [32]) ++ sgnT e.Nodes[j].Op) ++ [32]) ++ etF e.Nodes f e.Nodes[j].B) ++ [41])) (q_sbin_add rfl rfl (by simp; omega)) (rfl) ?_
       refine ax_q (q_mov rfl) ?_
       refine ax_nil (cx_keep rfl rfl ?_)
       refine cx_ret (ret0 rfl rfl ?_)
       exact ⟨by rw [etF_6 hj h0 h1 h2 h3 h4]; rfl, rfl⟩


/- loop.example/g00332/impl.exprText -/
def k_c_exprText : XCode :=
 .seq (.ops [.op (some 1) (.box (.t 0)),
   .op (some 2) (.mov (.k (.str [])))])
 (.keep [1] (.seq (.ops [.op (some 3) (.loadN 1 (.t 1)),
   .op (some 4) (.fadr (.t 1) 0),
   .op (some 5) (.load1 (.t 4)),
   .op (some 6) (.lenS (.t 5)),
   .op (some 7) (.bin .sub (.t 6) (.k (.int .i64 1))),
   .call (some 8) 49 [.t 3, .t 7],
   .op (some 2) (.mov (.t 8))])
 (.keep [2] (.ret))))
theorem k_c_exprText_fits : fitsF Tryz.prog 25 ⟨9, k_c_exprText, [.t 2]⟩ = true := by kernel_rfl
theorem c_exprText {e : GExpr} (he : exprOK e = true) : Con Tryz.prog noMv 25 [e.av] [] (fun r h => r = str (exT e) ∧ h = []) := by
 refine con_of2 k_c_exprText_fits rfl fun C hP hmv => ?_
 unfold k_c_exprText
 obtain ⟨hz0, hz1, hz2, hz3, _⟩ := comp_hyps he
 have hn40 := exprOK_n he
 refine cx_seq (cx_ops ?_)
 refine ax_e (e_box rfl rfl (by decide) rfl rfl rfl) ?_
 refine ax_q (q_mov rfl) ?_
 refine ax_nil (cx_keep rfl rfl (cx_seq (cx_ops ?_)))
 refine ax_q (q_ldN rfl rfl rfl) ?_
 refine ax_q (q_fadr_ptr rfl) ?_
 refine ax_q (q_load1_ptr rfl rfl rfl) ?_
 refine ax_q (q_lenS_map rfl) ?_
 refine ax_q (q_sub rfl rfl (by omega)) ?_
 refine ax_call rfl (vc_pure0 (c_nodeText (f := e.Nodes.length + 1) ?_ ?_ ?_ ?_ ?_ ?_) hP rfl rfl ?_)
 ·
  first | assumption | omega
 ·
  assumption
 ·
  assumption
 ·
  assumption
 ·
  assumption
 ·
  first | assumption | omega
 refine ax_q (q_mov rfl) ?_
 refine ax_nil (cx_keep rfl rfl ?_)
 refine cx_ret (ret0 rfl rfl ?_)
 exact ⟨rfl, rfl⟩


/- loop.example/g00332/impl.numberValue -/
def k_c_numberValue : XCode :=
 .seq (.ops [.op (some 2) (.alloc [.int .i64 0, .int .i64 0, .str []])])
 (.keep [0, 2] (.seq (.ops [.op (some 3) (.mov (.t 0)),
   .op (some 4) (.build [.int .i64 0, .int .i64 0, .str []] [(0, 1, .k (.int .i64 1)), (1, 1, .t 3)]),
   .op none (.store 3 (.t 2) (.t 4))])
 (.keep [2] (.ret))))
theorem k_c_numberValue_fits : fitsF Tryz.prog 73 ⟨5, k_c_numberValue, [.cN 2 3]⟩ = true := by kernel_rfl
theorem c_numberValue {n : Int} : Con Tryz.prog noMv 73 [int n] [] (fun r h => r = (vI n).av ∧ h = []) := by
 refine con_of2 k_c_numberValue_fits rfl fun C hP hmv => ?_
 unfold k_c_numberValue
 refine cx_seq (cx_ops ?_)
 refine ax_e (e_alloc (by decide) rfl rfl) ?_
 refine ax_nil (cx_keep rfl rfl (cx_seq (cx_ops ?_)))
 refine ax_q (q_mov rfl) ?_
 refine ax_q (q_build rfl) ?_
 refine ax_e (e_st rfl rfl rfl rfl rfl rfl rfl) ?_
 refine ax_nil (cx_keep rfl rfl ?_)
 refine cx_ret (ret0 rfl rfl ?_)
 exact ⟨rfl, rfl⟩


/- loop.example/g00332/impl.rowText -/
def k_c_rowText : XCode :=
 .seq (.ops [.op (some 1) (.box (.t 0)),
   .op (some 2) (.mov (.k (.str [])))])
 (.keep [1] (.seq (.drawE [[], [0], [0, 1], [0, 1, 2], [0, 1, 2, 3], [], [5], [0, 1, 2, 3, 5, 6], [0, 1, 2, 3, 4, 5, 6, 7], [0, 1, 2, 3, 4, 5, 6, 7, 8], [], [10], [0, 1, 2, 3, 5, 6, 7, 10, 11], [0, 1, 2, 3, 4, 5, 6, 7, 8, 9, 10, 11, 12], [0, 1, 2, 3, 4, 5, 6, 7, 8, 9, 10, 11, 12, 13]] [.op (some 3) (.fadr (.t 1) 0),
   .op (some 4) (.load1 (.t 3)),
   .call (some 5) 73 [.t 4],
   .call (some 6) 72 [.t 5],
   .op (some 7) (.bin .add (.t 6) (.k (.str [32]))),
   .op (some 8) (.fadr (.t 1) 1),
   .op (some 9) (.loadN 3 (.t 8)),
   .call (some 10) 72 [.t 9],
   .op (some 11) (.bin .add (.t 7) (.t 10)),
   .op (some 12) (.bin .add (.t 11) (.k (.str [32]))),
   .op (some 13) (.fadr (.t 1) 4),
   .op (some 14) (.loadN 3 (.t 13)),
   .call (some 15) 72 [.t 14]]
  [.op (some 16) (.bin .add (.t 12) (.t 15)),
   .op (some 2) (.mov (.t 16))])
 (.keep [2] (.ret))))
theorem k_c_rowText_fits : fitsF Tryz.prog 74 ⟨17, k_c_rowText, [.t 2]⟩ = true := by kernel_rfl
set_option maxHeartbeats 2000000 in
theorem c_rowText {x : GRow} (hr : rowOK x = true) : Con Tryz.prog noMv 74 [x.av] [] (fun r h => r = str (rtextF x) ∧ h = []) := by
 refine con_of2 k_c_rowText_fits rfl fun C hP hmv => ?_
 unfold k_c_rowText
 obtain ⟨hr1, hr2, hr3⟩ := rowOK_p hr
 have hv1 : valueOK (vI x.Id) = true := vOK_int (by omega)
 have t1 := vtext_le hv1
 have t2 := vtext_le hr2
 have t3 := vtext_le hr3
 refine cx_seq (cx_ops ?_)
 refine ax_e (e_box rfl rfl (by decide) rfl rfl rfl) ?_
 refine ax_q (q_mov rfl) ?_
 refine ax_nil (cx_keep rfl rfl (cx_seq ?_))
 refine cx_drawL 0 3 (fun _ => false) (fun _ => true) [] ([]) [[1], [3], [4], [5], [6], [1], [8], [9], [7, 10], [11], [1], [13], [14]] [[], [], [], [], [], [], [], [], [], [], [], [], []] rfl ?_
 first | refine ⟨⟨3, _, []⟩, .inl ⟨rfl, rfl, rfl, locl_of (loc_q (q_fadr_ptr rfl))⟩, ?_⟩
 first | refine ⟨_, .inr ⟨rfl, _, rfl, .inr ⟨rfl, rfl, .inl rfl, rfl, rfl⟩, loc_q (q_load1_ptr rfl rfl rfl)⟩, ?_⟩
 refine ⟨_, .inr ⟨rfl, _, rfl, .inr ⟨rfl, rfl, .inl rfl, rfl, rfl⟩, loc_call (fun i => 5 + 200 * i) false rfl (c_numberValue  ) hP (.inr ⟨rfl, rfl, rfl⟩) rfl rfl (fun h => by cases h)⟩, ?_⟩
 refine ⟨_, .inr ⟨rfl, _, rfl, .inr ⟨rfl, rfl, .inl rfl, rfl, rfl⟩, loc_call (fun i => 6 + 200 * i) false rfl (c_valueText (v := vI x.Id) (by first | assumption | omega | (simp; done) | (simp; omega))) hP (.inr ⟨rfl, rfl, rfl⟩) rfl rfl (fun h => by cases h)⟩, ?_⟩
 first | refine ⟨_, .inr ⟨rfl, _, rfl, .inr ⟨rfl, rfl, .inl rfl, rfl, rfl⟩, loc_qe (r' := str (vtextF (vI x.Id) ++ [32])) (q_sbin_add rfl rfl (by simp; omega)) (rfl)⟩, ?_⟩
 first | refine ⟨_, .inr ⟨rfl, _, rfl, .inr ⟨rfl, rfl, .inr rfl, rfl, rfl⟩, loc_q (q_fadr_ptr rfl)⟩, ?_⟩
 first | refine ⟨_, .inr ⟨rfl, _, rfl, .inr ⟨rfl, rfl, .inr rfl, rfl, rfl⟩, loc_q (q_ldN rfl rfl rfl)⟩, ?_⟩
 refine ⟨_, .inr ⟨rfl, _, rfl, .inr ⟨rfl, rfl, .inl rfl, rfl, rfl⟩, loc_call (fun i => 10 + 200 * i) false rfl (c_valueText (v := x.N) (by first | assumption | omega | (simp; done) | (simp; omega))) hP (.inr ⟨rfl, rfl, rfl⟩) rfl rfl (fun h => by cases h)⟩, ?_⟩
 first | refine ⟨_, .inr ⟨rfl, _, rfl, .inr ⟨rfl, rfl, .inl rfl, rfl, rfl⟩, loc_qe (r' := str (vtextF (vI x.Id) ++ [32] ++ vtextF x.N)) (q_sbin_add rfl rfl (by simp; omega)) (rfl)⟩, ?_⟩
 first | refine ⟨_, .inr ⟨rfl, _, rfl, .inr ⟨rfl, rfl, .inl rfl, rfl, rfl⟩, loc_qe (r' := str (vtextF (vI x.Id) ++ [32] ++ vtextF x.N ++ [32])) (q_sbin_add rfl rfl (by simp; omega)) (rfl)⟩, ?_⟩
 first | refine ⟨_, .inr ⟨rfl, _, rfl, .inr ⟨rfl, rfl, .inr rfl, rfl, rfl⟩, loc_q (q_fadr_ptr rfl)⟩, ?_⟩
 first | refine ⟨_, .inr ⟨rfl, _, rfl, .inr ⟨rfl, rfl, .inr rfl, rfl, rfl⟩, loc_q (q_ldN rfl rfl rfl)⟩, ?_⟩
 refine ⟨_, .inr ⟨rfl, _, rfl, .inr ⟨rfl, rfl, .inl rfl, rfl, rfl⟩, loc_call (fun i => 15 + 200 * i) false rfl (c_valueText (v := x.Name) (by first | assumption | omega | (simp; done) | (simp; omega))) hP (.inr ⟨rfl, rfl, rfl⟩) rfl rfl (fun h => by cases h)⟩, ?_⟩
 refine ⟨rfl, ?_⟩
 refine ax_qe (r' := str (vtextF (vI x.Id) ++ [32] ++ vtextF x.N ++ [32] ++ vtextF x.Name)) (q_sbin_add rfl rfl (by simp; omega)) (rfl) ?_
 refine ax_q (q_mov rfl) ?_
 refine ax_nil (cx_keep rfl rfl ?_)
 refine cx_ret (ret0 rfl rfl ?_)
 exact ⟨rfl, rfl⟩


/- loop.example/g00332/impl.stmtText -/
def k_c_stmtText : XCode :=
 .seq (.ops [.op (some 1) (.box (.t 0)),
   .op (some 2) (.mov (.k (.str [])))])
 (.keep [1] (.seq (.ops [.op (some 5) (.fadr (.t 1) 1),
   .op (some 6) (.load1 (.t 5)),
   .call (some 7) 73 [.t 6],
   .call (some 8) 72 [.t 7],
   .op (some 3) (.mov (.t 8)),
   .op (some 4) (.mov (.k (.str [])))])
 (.keep [1, 3] (.seq (.seq (.ops [.op (some 9) (.fadr (.t 1) 0),
   .op (some 10) (.load1 (.t 9))])
  (.keep [1, 3, 10] (.block 0 (.seq (.ops [.op (some 14) (.bin .eql (.t 10) (.k (.int .i64 1))),
    .op (some 13) (.mov (.t 14))])
  (.keep [1, 3, 10, 13] (.cond (.t 13)
   (.ops [.op (some 15) (.mov (.t 3)),
    .op (some 16) (.bin .add (.k (.str [115, 101, 108, 101, 99, 116, 32])) (.t 15)),
    .op (some 4) (.mov (.t 16))])
   (.seq (.ops [.op (some 18) (.bin .eql (.t 10) (.k (.int .i64 2))),
     .op (some 17) (.mov (.t 18))])
   (.keep [1, 3, 10, 17] (.cond (.t 17)
    (.seq (.ops [.op (some 19) (.mov (.t 3)),
      .op (some 20) (.bin .add (.k (.str [105, 110, 115, 101, 114, 116, 32])) (.t 19)),
      .op (some 21) (.bin .add (.t 20) (.k (.str [32]))),
      .op (some 22) (.fadr (.t 1) 2),
      .op (some 23) (.loadN 7 (.t 22)),
      .call (some 24) 74 [.t 23],
      .op (some 25) (.bin .add (.t 21) (.t 24)),
      .op (some 2) (.mov (.t 25))])
    (.keep [2] (.ret)))
    (.seq (.ops [.op (some 27) (.bin .eql (.t 10) (.k (.int .i64 3))),
      .op (some 26) (.mov (.t 27))])
    (.keep [1, 3, 26] (.cond (.t 26)
     (.draw [.op (some 28) (.mov (.t 3)),
      .op (some 29) (.bin .add (.k (.str [117, 112, 100, 97, 116, 101, 32])) (.t 28)),
      .op (some 30) (.bin .add (.t 29) (.k (.str [32, 115, 101, 116, 32]))),
      .op (some 31) (.fadr (.t 1) 9),
      .op (some 32) (.load1 (.t 31)),
      .op (some 33) (.iadrA 1 3 (.g 0) (.t 32)),
      .op (some 34) (.load1 (.t 33)),
      .op (some 35) (.bin .add (.t 30) (.t 34)),
      .op (some 36) (.bin .add (.t 35) (.k (.str [32, 61, 32]))),
      .op (some 37) (.fadr (.t 1) 10),
      .op (some 38) (.loadN 1 (.t 37)),
      .call (some 39) 25 [.t 38],
      .op (some 40) (.bin .add (.t 36) (.t 39)),
      .op (some 4) (.mov (.t 40))])
     (.ops [.op (some 11) (.mov (.t 3)),
      .op (some 12) (.bin .add (.k (.str [100, 101, 108, 101, 116, 101, 32])) (.t 11)),
      .op (some 4) (.mov (.t 12))])))))))))))))
 (.keep [1, 4] (.seq (.seq (.ops [.op (some 41) (.fadr (.t 1) 11),
   .op (some 42) (.loadN 1 (.t 41)),
   .call (some 43) 43 [.t 42],
   .op (some 44) (.not (.t 43))])
  (.keep [1, 4, 44] (.cond (.t 44)
  (.ops [.op (some 45) (.mov (.t 4)),
    .op (some 46) (.fadr (.t 1) 11),
    .op (some 47) (.loadN 1 (.t 46)),
    .call (some 48) 25 [.t 47],
    .op (some 49) (.bin .add (.k (.str [32, 119, 104, 101, 114, 101, 32])) (.t 48)),
    .op (some 50) (.bin .add (.t 45) (.t 49)),
    .op (some 4) (.mov (.t 50))])
  (.skip))))
 (.keep [1, 4] (.seq (.seq (.ops [.op (some 51) (.fadr (.t 1) 12),
   .op (some 52) (.load1 (.t 51)),
   .op (some 53) (.bin .neq (.t 52) (.k (.int .i64 0))),
   .op (some 54) (.mov (.t 53)),
   .andor 57 false 3 54 [.op (some 55) (.fadr (.t 1) 13), .op (some 56) (.load1 (.t 55))] (.t 56)])
  (.keep [1, 4, 57] (.cond (.t 57)
  (.ops [.op (some 58) (.mov (.t 4)),
    .op (some 59) (.fadr (.t 1) 12),
    .op (some 60) (.load1 (.t 59)),
    .op (some 61) (.iadrA 1 3 (.g 0) (.t 60)),
    .op (some 62) (.load1 (.t 61)),
    .op (some 63) (.bin .add (.k (.str [32, 111, 114, 100, 101, 114, 32])) (.t 62)),
    .op (some 64) (.bin .add (.t 58) (.t 63)),
    .op (some 4) (.mov (.t 64))])
  (.skip))))
 (.keep [1, 4] (.seq (.seq (.ops [.op (some 65) (.fadr (.t 1) 13),
   .op (some 66) (.load1 (.t 65))])
  (.keep [4, 66] (.cond (.t 66)
  (.ops [.op (some 67) (.mov (.t 4)),
    .op (some 68) (.bin .add (.t 67) (.k (.str [32, 100, 101, 115, 99]))),
    .op (some 4) (.mov (.t 68))])
  (.skip))))
 (.keep [4] (.seq (.ops [.op (some 69) (.mov (.t 4)),
   .op (some 2) (.mov (.t 69))])
 (.keep [2] (.ret))))))))))))))
theorem k_c_stmtText_fits : fitsF Tryz.prog 38 ⟨70, k_c_stmtText, [.t 2]⟩ = true := by kernel_rfl
set_option maxHeartbeats 8000000 in
theorem c_stmtText {s : GStmt} (hs : stmtOK s = true) : Con Tryz.prog noMv 38 [s.av] [] (fun r h => r = str (stT s) ∧ h = []) := by
 refine con_of2 k_c_stmtText_fits rfl fun C hP hmv => ?_
 unfold k_c_stmtText
 obtain ⟨hk, htb, hwh, hk2, hk3, hor, hk1, hzr, hnn⟩ := stOK_p hs
 have hlt := itoa_len (dgM_small (n := s.Table) (by omega))
 have hlo := colT_len hor
 have hls := selT_len hk
 have hva : valueOK (vI s.Table) = true := vOK_int (by omega)
 have hvl := vtext_le hva
 refine cx_seq (cx_ops ?_)
 refine ax_e (e_box rfl rfl (by decide) rfl rfl rfl) ?_
 refine ax_q (q_mov rfl) ?_
 refine ax_nil (cx_keep rfl rfl (cx_seq (cx_ops ?_)))
 refine ax_q (q_fadr_ptr rfl) ?_
 refine ax_q (q_load1_ptr rfl rfl rfl) ?_
 refine ax_call rfl (vc_pure0 (c_numberValue (n := s.Table) ) hP rfl rfl ?_)
 refine ax_call rfl (vc_pure0 (c_valueText (v := vI s.Table) ?_) hP rfl rfl ?_)
 ·
  assumption
 refine ax_q (q_mov rfl) ?_
 refine ax_q (q_mov rfl) ?_
 refine ax_nil (cx_keep rfl rfl (cx_seq (cx_seq (cx_ops ?_))))
 refine ax_q (q_fadr_ptr rfl) ?_
 refine ax_q (q_load1_ptr rfl rfl rfl) ?_
 refine ax_nil (cx_keep rfl rfl (cx_block (cx_seq (cx_ops ?_))))
 refine ax_q (q_ibin rfl rfl rfl) ?_
 refine ax_q (q_mov rfl) ?_
 refine ax_nil (cx_keep rfl rfl ?_)
 refine cx_cond rfl (fun h0 => ?_) (fun h0 => ?_)
 ·
  have h0 := dT h0
  have ea := stT_1 h0
  refine cx_ops ?_
  refine ax_q (q_mov rfl) ?_
  refine ax_q (q_sbin_add rfl rfl (by simp only [List.length_append, List.length_cons, List.length_nil]; omega)) ?_
  refine ax_q (q_mov rfl) ?_
  refine ax_nil (cx_keep rfl rfl (cx_seq (cx_seq (cx_ops ?_))))
  refine ax_q (q_fadr_ptr rfl) ?_
  refine ax_q (q_ldN rfl rfl rfl) ?_
  refine ax_call rfl (vc_pure0 (c_hasNone (e := s.Where) ) hP rfl rfl ?_)
  refine ax_q (q_not rfl) ?_
  refine ax_nil (cx_keep rfl rfl ?_)
  refine cx_cond rfl (fun h3 => ?_) (fun h3 => ?_)
  ·
   have h3 := bT h3
   have hwe := hwh h3
   have hwl : (etF s.Where.Nodes (s.Where.Nodes.length + 1) ((s.Where.Nodes.length : Int) - 1)).length ≤ 100000000000000 := exT_le hwe
   have hwl2 := exT_le hwe
   obtain ⟨hz0, hz1, hz2, hz3, _⟩ := comp_hyps hwe
   have hn40 := exprOK_n hwe
   have ew := fun a => sxW_t (a := a) h3
   refine cx_ops ?_
   refine ax_q (q_mov rfl) ?_
   refine ax_q (q_fadr_ptr rfl) ?_
   refine ax_q (q_ldN rfl rfl rfl) ?_
   refine ax_call rfl (vc_pure0 (c_exprText (e := s.Where) ?_) hP rfl rfl ?_)
   ·
    assumption
   refine ax_q (q_sbin_add rfl rfl (by simp only [List.length_append, List.length_cons, List.length_nil]; omega)) ?_
   refine ax_q (q_sbin_add rfl rfl (by simp only [List.length_append, List.length_cons, List.length_nil]; omega)) ?_
   refine ax_q (q_mov rfl) ?_
   refine ax_nil (cx_keep rfl rfl (cx_seq (cx_seq (cx_ops ?_))))
   refine ax_q (q_fadr_ptr rfl) ?_
   refine ax_q (q_load1_ptr rfl rfl rfl) ?_
   refine ax_q (q_ibin rfl rfl rfl) ?_
   refine ax_q (q_mov rfl) ?_
   apply ax_or rfl rfl
   ·
    intro g
    have g := nF g
    refine ax_q (q_fadr_ptr rfl) ?_
    refine ax_q (q_load1_ptr rfl rfl rfl) ?_
    exact ax_nil ⟨rfl, by repeat constructor⟩
   refine ax_nil (cx_keep rfl rfl ?_)
   refine cx_cond rfl (fun h4 => ?_) (fun h4 => ?_)
   ·
    have h4 := (fun h => (or_T h).imp nT id) h4
    have eo := fun a => sxO_t (a := a) h4
    refine cx_ops ?_
    refine ax_q (q_mov rfl) ?_
    refine ax_q (q_fadr_ptr rfl) ?_
    refine ax_q (q_load1_ptr rfl rfl rfl) ?_
    refine ax_qe (r' := .d (.ip (.str (colT s.Order) :: ((colsL.drop ((s.Order).toNat + 1)).map D.str)))) (q_iadrG (n := s.Order) colsL gtab_cols (by rw [hP]; kernel_rfl) rfl rfl (by omega) (by omega)) (by rw [col_drop (by omega)]) ?_
    first | refine ax_q (q_load1_ptr rfl rfl rfl) ?_ | refine ax_q (q_load1_ip rfl) ?_
    refine ax_q (q_sbin_add rfl rfl (by simp only [List.length_append, List.length_cons, List.length_nil]; omega)) ?_
    refine ax_q (q_sbin_add rfl rfl (by simp only [List.length_append, List.length_cons, List.length_nil]; omega)) ?_
    refine ax_q (q_mov rfl) ?_
    refine ax_nil (cx_keep rfl rfl (cx_seq (cx_seq (cx_ops ?_))))
    refine ax_q (q_fadr_ptr rfl) ?_
    refine ax_q (q_load1_ptr rfl rfl rfl) ?_
    refine ax_nil (cx_keep rfl rfl ?_)
    refine cx_cond rfl (fun h5 => ?_) (fun h5 => ?_)
    ·
     skip
     have ed := fun a => sxD_t (a := a) h5
     refine cx_ops ?_
     refine ax_q (q_mov rfl) ?_
     refine ax_q (q_sbin_add rfl rfl (by simp only [List.length_append, List.length_cons, List.length_nil]; omega)) ?_
     refine ax_q (q_mov rfl) ?_
     refine ax_nil (cx_keep rfl rfl (cx_seq (cx_ops ?_)))
     refine ax_q (q_mov rfl) ?_
     refine ax_q (q_mov rfl) ?_
     refine ax_nil (cx_keep rfl rfl ?_)
     refine cx_ret (ret0 rfl rfl ?_)
     exact ⟨by rw [ea, ew, eo, ed]; rfl, rfl⟩
    ·
     skip
     have ed := fun a => sxD_f (a := a) h5
     refine cx_skip ?_
     refine cx_keep rfl rfl (cx_seq (cx_ops ?_))
     refine ax_q (q_mov rfl) ?_
     refine ax_q (q_mov rfl) ?_
     refine ax_nil (cx_keep rfl rfl ?_)
     refine cx_ret (ret0 rfl rfl ?_)
     exact ⟨by rw [ea, ew, eo, ed]; rfl, rfl⟩
   ·
    have h4 := (fun h => And.intro (nF (or_F h).1) (id (or_F h).2)) h4
    have eo := fun a => sxO_f (a := a) h4
    refine cx_skip ?_
    refine cx_keep rfl rfl (cx_seq (cx_seq (cx_ops ?_)))
    refine ax_q (q_fadr_ptr rfl) ?_
    refine ax_q (q_load1_ptr rfl rfl rfl) ?_
    refine ax_nil (cx_keep rfl rfl ?_)
    refine cx_cond rfl (fun h5 => ?_) (fun h5 => ?_)
    ·
     skip
     have ed := fun a => sxD_t (a := a) h5
     refine cx_ops ?_
     refine ax_q (q_mov rfl) ?_
     refine ax_q (q_sbin_add rfl rfl (by simp only [List.length_append, List.length_cons, List.length_nil]; omega)) ?_
     refine ax_q (q_mov rfl) ?_
     refine ax_nil (cx_keep rfl rfl (cx_seq (cx_ops ?_)))
     refine ax_q (q_mov rfl) ?_
     refine ax_q (q_mov rfl) ?_
     refine ax_nil (cx_keep rfl rfl ?_)
     refine cx_ret (ret0 rfl rfl ?_)
     exact ⟨by rw [ea, ew, eo, ed]; rfl, rfl⟩
    ·
     skip
     have ed := fun a => sxD_f (a := a) h5
     refine cx_skip ?_
     refine cx_keep rfl rfl (cx_seq (cx_ops ?_))
     refine ax_q (q_mov rfl) ?_
     refine ax_q (q_mov rfl) ?_
     refine ax_nil (cx_keep rfl rfl ?_)
     refine cx_ret (ret0 rfl rfl ?_)
     exact ⟨by rw [ea, ew, eo, ed]; rfl, rfl⟩
  ·
   have h3 := bF h3
   have ew := fun a => sxW_f (a := a) h3
   refine cx_skip ?_
   refine cx_keep rfl rfl (cx_seq (cx_seq (cx_ops ?_)))
   refine ax_q (q_fadr_ptr rfl) ?_
   refine ax_q (q_load1_ptr rfl rfl rfl) ?_
   refine ax_q (q_ibin rfl rfl rfl) ?_
   refine ax_q (q_mov rfl) ?_
   apply ax_or rfl rfl
   ·
    intro g
    have g := nF g
    refine ax_q (q_fadr_ptr rfl) ?_
    refine ax_q (q_load1_ptr rfl rfl rfl) ?_
    exact ax_nil ⟨rfl, by repeat constructor⟩
   refine ax_nil (cx_keep rfl rfl ?_)
   refine cx_cond rfl (fun h4 => ?_) (fun h4 => ?_)
   ·
    have h4 := (fun h => (or_T h).imp nT id) h4
    have eo := fun a => sxO_t (a := a) h4
    refine cx_ops ?_
    refine ax_q (q_mov rfl) ?_
    refine ax_q (q_fadr_ptr rfl) ?_
    refine ax_q (q_load1_ptr rfl rfl rfl) ?_
    refine ax_qe (r' := .d (.ip (.str (colT s.Order) :: ((colsL.drop ((s.Order).toNat + 1)).map D.str)))) (q_iadrG (n := s.Order) colsL gtab_cols (by rw [hP]; kernel_rfl) rfl rfl (by omega) (by omega)) (by rw [col_drop (by omega)]) ?_
    first | refine ax_q (q_load1_ptr rfl rfl rfl) ?_ | refine ax_q (q_load1_ip rfl) ?_
    refine ax_q (q_sbin_add rfl rfl (by simp only [List.length_append, List.length_cons, List.length_nil]; omega)) ?_
    refine ax_q (q_sbin_add rfl rfl (by simp only [List.length_append, List.length_cons, List.length_nil]; omega)) ?_
    refine ax_q (q_mov rfl) ?_
    refine ax_nil (cx_keep rfl rfl (cx_seq (cx_seq (cx_ops ?_))))
    refine ax_q (q_fadr_ptr rfl) ?_
    refine ax_q (q_load1_ptr rfl rfl rfl) ?_
    refine ax_nil (cx_keep rfl rfl ?_)
    refine cx_cond rfl (fun h5 => ?_) (fun h5 => ?_)
    ·
     skip
     have ed := fun a => sxD_t (a := a) h5
     refine cx_ops ?_
     refine ax_q (q_mov rfl) ?_
     refine ax_q (q_sbin_add rfl rfl (by simp only [List.length_append, List.length_cons, List.length_nil]; omega)) ?_
     refine ax_q (q_mov rfl) ?_
     refine ax_nil (cx_keep rfl rfl (cx_seq (cx_ops ?_)))
     refine ax_q (q_mov rfl) ?_
     refine ax_q (q_mov rfl) ?_
     refine ax_nil (cx_keep rfl rfl ?_)
     refine cx_ret (ret0 rfl rfl ?_)
     exact ⟨by rw [ea, ew, eo, ed]; rfl, rfl⟩
    ·
     skip
     have ed := fun a => sxD_f (a := a) h5
     refine cx_skip ?_
     refine cx_keep rfl rfl (cx_seq (cx_ops ?_))
     refine ax_q (q_mov rfl) ?_
     refine ax_q (q_mov rfl) ?_
     refine ax_nil (cx_keep rfl rfl ?_)
     refine cx_ret (ret0 rfl rfl ?_)
     exact ⟨by rw [ea, ew, eo, ed]; rfl, rfl⟩
   ·
    have h4 := (fun h => And.intro (nF (or_F h).1) (id (or_F h).2)) h4
    have eo := fun a => sxO_f (a := a) h4
    refine cx_skip ?_
    refine cx_keep rfl rfl (cx_seq (cx_seq (cx_ops ?_)))
    refine ax_q (q_fadr_ptr rfl) ?_
    refine ax_q (q_load1_ptr rfl rfl rfl) ?_
    refine ax_nil (cx_keep rfl rfl ?_)
    refine cx_cond rfl (fun h5 => ?_) (fun h5 => ?_)
    ·
     skip
     have ed := fun a => sxD_t (a := a) h5
     refine cx_ops ?_
     refine ax_q (q_mov rfl) ?_
     refine ax_q (q_sbin_add rfl rfl (by simp only [List.length_append, List.length_cons, List.length_nil]; omega)) ?_
     refine ax_q (q_mov rfl) ?_
     refine ax_nil (cx_keep rfl rfl (cx_seq (cx_ops ?_)))
     refine ax_q (q_mov rfl) ?_
     refine ax_q (q_mov rfl) ?_
     refine ax_nil (cx_keep rfl rfl ?_)
     refine cx_ret (ret0 rfl rfl ?_)
     exact ⟨by rw [ea, ew, eo, ed]; rfl, rfl⟩
    ·
     skip
     have ed := fun a => sxD_f (a := a) h5
     refine cx_skip ?_
     refine cx_keep rfl rfl (cx_seq (cx_ops ?_))
     refine ax_q (q_mov rfl) ?_
     refine ax_q (q_mov rfl) ?_
     refine ax_nil (cx_keep rfl rfl ?_)
     refine cx_ret (ret0 rfl rfl ?_)
     exact ⟨by rw [ea, ew, eo, ed]; rfl, rfl⟩
 ·
  have h0 := dF h0
  refine cx_seq (cx_ops ?_)
  refine ax_q (q_ibin rfl rfl rfl) ?_
  refine ax_q (q_mov rfl) ?_
  refine ax_nil (cx_keep rfl rfl ?_)
  refine cx_cond rfl (fun h1 => ?_) (fun h1 => ?_)
  ·
   have h1 := dT h1
   obtain ⟨hro, _⟩ := hk2 h1
   obtain ⟨hr1, hr2, hr3⟩ := rowOK_p hro
   have hdi : dgM 11 s.Row.Id := dgM_small (by omega)
   have hli := itoa_len hdi
   have t2 := vtext_le hr2
   have t3 := vtext_le hr3
   have hrl := rtext_le hro
   refine cx_seq (cx_ops ?_)
   refine ax_q (q_mov rfl) ?_
   refine ax_q (q_sbin_add rfl rfl (by simp only [List.length_append, List.length_cons, List.length_nil]; omega)) ?_
   refine ax_q (q_sbin_add rfl rfl (by simp only [List.length_append, List.length_cons, List.length_nil]; omega)) ?_
   refine ax_q (q_fadr_ptr rfl) ?_
   refine ax_q (q_ldN rfl rfl rfl) ?_
   refine ax_call rfl (vc_pure0 (c_rowText (x := s.Row) ?_) hP rfl rfl ?_)
   ·
    assumption
   refine ax_q (q_sbin_add rfl rfl (by simp only [List.length_append, List.length_cons, List.length_nil]; omega)) ?_
   refine ax_q (q_mov rfl) ?_
   refine ax_nil (cx_keep rfl rfl ?_)
   refine cx_ret (ret0 rfl rfl ?_)
   exact ⟨by rw [stT_2 hs h1]; rfl, rfl⟩
  ·
   have h1 := dF h1
   refine cx_seq (cx_ops ?_)
   refine ax_q (q_ibin rfl rfl rfl) ?_
   refine ax_q (q_mov rfl) ?_
   refine ax_nil (cx_keep rfl rfl ?_)
   refine cx_cond rfl (fun h2 => ?_) (fun h2 => ?_)
   ·
    have h2 := dT h2
    obtain ⟨hcs, hse⟩ := hk3 h2
    have hsl : (etF s.Set.Nodes (s.Set.Nodes.length + 1) ((s.Set.Nodes.length : Int) - 1)).length ≤ 100000000000000 := exT_le hse
    have hsl2 := exT_le hse
    obtain ⟨hy0, hy1, hy2, hy3, _⟩ := comp_hyps hse
    have hn41 := exprOK_n hse
    have hcl := colT_len (c := s.Column) (by omega)
    have ea := stT_3 h2
    refine cx_draw ?_
    refine ax_q (q_mov rfl) ?_
    refine ax_q (q_sbin_add rfl rfl (by simp only [List.length_append, List.length_cons, List.length_nil]; omega)) ?_
    refine ax_q (q_sbin_add rfl rfl (by simp only [List.length_append, List.length_cons, List.length_nil]; omega)) ?_
    refine ax_q (q_fadr_ptr rfl) ?_
    refine ax_q (q_load1_ptr rfl rfl rfl) ?_
    refine ax_qe (r' := .d (.ip (.str (colT s.Column) :: ((colsL.drop ((s.Column).toNat + 1)).map D.str)))) (q_iadrG (n := s.Column) colsL gtab_cols (by rw [hP]; kernel_rfl) rfl rfl (by omega) (by omega)) (by rw [col_drop (by omega)]) ?_
    first | refine ax_q (q_load1_ptr rfl rfl rfl) ?_ | refine ax_q (q_load1_ip rfl) ?_
    refine ax_q (q_sbin_add rfl rfl (by simp only [List.length_append, List.length_cons, List.length_nil]; omega)) ?_
    refine ax_q (q_sbin_add rfl rfl (by simp only [List.length_append, List.length_cons, List.length_nil]; omega)) ?_
    refine ax_q (q_fadr_ptr rfl) ?_
    refine ax_q (q_ldN rfl rfl rfl) ?_
    refine ax_callq rfl (c_exprText (e := s.Set) ?_) hP (lal_id _ rfl) rfl ?_
    ·
     assumption
    refine ax_q (q_sbin_add rfl rfl (by simp only [List.length_append, List.length_cons, List.length_nil]; omega)) ?_
    refine ax_q (q_mov rfl) ?_
    refine ax_nil (cx_keep rfl rfl (cx_seq (cx_seq (cx_ops ?_))))
    refine ax_q (q_fadr_ptr rfl) ?_
    refine ax_q (q_ldN rfl rfl rfl) ?_
    refine ax_call rfl (vc_pure0 (c_hasNone (e := s.Where) ) hP rfl rfl ?_)
    refine ax_q (q_not rfl) ?_
    refine ax_nil (cx_keep rfl rfl ?_)
    refine cx_cond rfl (fun h3 => ?_) (fun h3 => ?_)
    ·
     have h3 := bT h3
     have hwe := hwh h3
     have hwl : (etF s.Where.Nodes (s.Where.Nodes.length + 1) ((s.Where.Nodes.length : Int) - 1)).length ≤ 100000000000000 := exT_le hwe
     have hwl2 := exT_le hwe
     obtain ⟨hz0, hz1, hz2, hz3, _⟩ := comp_hyps hwe
     have hn40 := exprOK_n hwe
     have ew := fun a => sxW_t (a := a) h3
     refine cx_ops ?_
     refine ax_q (q_mov rfl) ?_
     refine ax_q (q_fadr_ptr rfl) ?_
     refine ax_q (q_ldN rfl rfl rfl) ?_
     refine ax_call rfl (vc_pure0 (c_exprText (e := s.Where) ?_) hP rfl rfl ?_)
     ·
      assumption
     refine ax_q (q_sbin_add rfl rfl (by simp only [List.length_append, List.length_cons, List.length_nil]; omega)) ?_
     refine ax_q (q_sbin_add rfl rfl (by simp only [List.length_append, List.length_cons, List.length_nil]; omega)) ?_
     refine ax_q (q_mov rfl) ?_
     refine ax_nil (cx_keep rfl rfl (cx_seq (cx_seq (cx_ops ?_))))
     refine ax_q (q_fadr_ptr rfl) ?_
     refine ax_q (q_load1_ptr rfl rfl rfl) ?_
     refine ax_q (q_ibin rfl rfl rfl) ?_
     refine ax_q (q_mov rfl) ?_
     apply ax_or rfl rfl
     ·
      intro g
      have g := nF g
      refine ax_q (q_fadr_ptr rfl) ?_
      refine ax_q (q_load1_ptr rfl rfl rfl) ?_
      exact ax_nil ⟨rfl, by repeat constructor⟩
     refine ax_nil (cx_keep rfl rfl ?_)
     refine cx_cond rfl (fun h4 => ?_) (fun h4 => ?_)
     ·
      have h4 := (fun h => (or_T h).imp nT id) h4
      have eo := fun a => sxO_t (a := a) h4
      refine cx_ops ?_
      refine ax_q (q_mov rfl) ?_
      refine ax_q (q_fadr_ptr rfl) ?_
      refine ax_q (q_load1_ptr rfl rfl rfl) ?_
      refine ax_qe (r' := .d (.ip (.str (colT s.Order) :: ((colsL.drop ((s.Order).toNat + 1)).map D.str)))) (q_iadrG (n := s.Order) colsL gtab_cols (by rw [hP]; kernel_rfl) rfl rfl (by omega) (by omega)) (by rw [col_drop (by omega)]) ?_
      first | refine ax_q (q_load1_ptr rfl rfl rfl) ?_ | refine ax_q (q_load1_ip rfl) ?_
      refine ax_q (q_sbin_add rfl rfl (by simp only [List.length_append, List.length_cons, List.length_nil]; omega)) ?_
      refine ax_q (q_sbin_add rfl rfl (by simp only [List.length_append, List.length_cons, List.length_nil]; omega)) ?_
      refine ax_q (q_mov rfl) ?_
      refine ax_nil (cx_keep rfl rfl (cx_seq (cx_seq (cx_ops ?_))))
      refine ax_q (q_fadr_ptr rfl) ?_
      refine ax_q (q_load1_ptr rfl rfl rfl) ?_
      refine ax_nil (cx_keep rfl rfl ?_)
      refine cx_cond rfl (fun h5 => ?_) (fun h5 => ?_)
      ·
       skip
       have ed := fun a => sxD_t (a := a) h5
       refine cx_ops ?_
       refine ax_q (q_mov rfl) ?_
       refine ax_q (q_sbin_add rfl rfl (by simp only [List.length_append, List.length_cons, List.length_nil]; omega)) ?_
       refine ax_q (q_mov rfl) ?_
       refine ax_nil (cx_keep rfl rfl (cx_seq (cx_ops ?_)))
       refine ax_q (q_mov rfl) ?_
       refine ax_q (q_mov rfl) ?_
       refine ax_nil (cx_keep rfl rfl ?_)
       refine cx_ret (ret0 rfl rfl ?_)
       exact ⟨by rw [ea, ew, eo, ed]; rfl, rfl⟩
      ·
       skip
       have ed := fun a => sxD_f (a := a) h5
       refine cx_skip ?_
       refine cx_keep rfl rfl (cx_seq (cx_ops ?_))
       refine ax_q (q_mov rfl) ?_
       refine ax_q (q_mov rfl) ?_
       refine ax_nil (cx_keep rfl rfl ?_)
       refine cx_ret (ret0 rfl rfl ?_)
       exact ⟨by rw [ea, ew, eo, ed]; rfl, rfl⟩
     ·
      have h4 := (fun h => And.intro (nF (or_F h).1) (id (or_F h).2)) h4
      have eo := fun a => sxO_f (a := a) h4
      refine cx_skip ?_
      refine cx_keep rfl rfl (cx_seq (cx_seq (cx_ops ?_)))
      refine ax_q (q_fadr_ptr rfl) ?_
      refine ax_q (q_load1_ptr rfl rfl rfl) ?_
      refine ax_nil (cx_keep rfl rfl ?_)
      refine cx_cond rfl (fun h5 => ?_) (fun h5 => ?_)
      ·
       skip
       have ed := fun a => sxD_t (a := a) h5
       refine cx_ops ?_
       refine ax_q (q_mov rfl) ?_
       refine ax_q (q_sbin_add rfl rfl (by simp only [List.length_append, List.length_cons, List.length_nil]; omega)) ?_
       refine ax_q (q_mov rfl) ?_
       refine ax_nil (cx_keep rfl rfl (cx_seq (cx_ops ?_)))
       refine ax_q (q_mov rfl) ?_
       refine ax_q (q_mov rfl) ?_
       refine ax_nil (cx_keep rfl rfl ?_)
       refine cx_ret (ret0 rfl rfl ?_)
       exact ⟨by rw [ea, ew, eo, ed]; rfl, rfl⟩
      ·
       skip
       have ed := fun a => sxD_f (a := a) h5
       refine cx_skip ?_
       refine cx_keep rfl rfl (cx_seq (cx_ops ?_))
       refine ax_q (q_mov rfl) ?_
       refine ax_q (q_mov rfl) ?_
       refine ax_nil (cx_keep rfl rfl ?_)
       refine cx_ret (ret0 rfl rfl ?_)
       exact ⟨by rw [ea, ew, eo, ed]; rfl, rfl⟩
    ·
     have h3 := bF h3
     have ew := fun a => sxW_f (a := a) h3
     refine cx_skip ?_
     refine cx_keep rfl rfl (cx_seq (cx_seq (cx_ops ?_)))
     refine ax_q (q_fadr_ptr rfl) ?_
     refine ax_q (q_load1_ptr rfl rfl rfl) ?_
     refine ax_q (q_ibin rfl rfl rfl) ?_
     refine ax_q (q_mov rfl) ?_
     apply ax_or rfl rfl
     ·
      intro g
      have g := nF g
      refine ax_q (q_fadr_ptr rfl) ?_
      refine ax_q (q_load1_ptr rfl rfl rfl) ?_
      exact ax_nil ⟨rfl, by repeat constructor⟩
     refine ax_nil (cx_keep rfl rfl ?_)
     refine cx_cond rfl (fun h4 => ?_) (fun h4 => ?_)
     ·
      have h4 := (fun h => (or_T h).imp nT id) h4
      have eo := fun a => sxO_t (a := a) h4
      refine cx_ops ?_
      refine ax_q (q_mov rfl) ?_
      refine ax_q (q_fadr_ptr rfl) ?_
      refine ax_q (q_load1_ptr rfl rfl rfl) ?_
      refine ax_qe (r' := .d (.ip (.str (colT s.Order) :: ((colsL.drop ((s.Order).toNat + 1)).map D.str)))) (q_iadrG (n := s.Order) colsL gtab_cols (by rw [hP]; kernel_rfl) rfl rfl (by omega) (by omega)) (by rw [col_drop (by omega)]) ?_
      first | refine ax_q (q_load1_ptr rfl rfl rfl) ?_ | refine ax_q (q_load1_ip rfl) ?_
      refine ax_q (q_sbin_add rfl rfl (by simp only [List.length_append, List.length_cons, List.length_nil]; omega)) ?_
      refine ax_q (q_sbin_add rfl rfl (by simp only [List.length_append, List.length_cons, List.length_nil]; omega)) ?_
      refine ax_q (q_mov rfl) ?_
      refine ax_nil (cx_keep rfl rfl (cx_seq (cx_seq (cx_ops ?_))))
      refine ax_q (q_fadr_ptr rfl) ?_
      refine ax_q (q_load1_ptr rfl rfl rfl) ?_
      refine ax_nil (cx_keep rfl rfl ?_)
      refine cx_cond rfl (fun h5 => ?_) (fun h5 => ?_)
      ·
       skip
       have ed := fun a => sxD_t (a := a) h5
       refine cx_ops ?_
       refine ax_q (q_mov rfl) ?_
       refine ax_q (q_sbin_add rfl rfl (by simp only [List.length_append, List.length_cons, List.length_nil]; omega)) ?_
       refine ax_q (q_mov rfl) ?_
       refine ax_nil (cx_keep rfl rfl (cx_seq (cx_ops ?_)))
       refine ax_q (q_mov rfl) ?_
       refine ax_q (q_mov rfl) ?_
       refine ax_nil (cx_keep rfl rfl ?_)
       refine cx_ret (ret0 rfl rfl ?_)
       exact ⟨by rw [ea, ew, eo, ed]; rfl, rfl⟩
      ·
       skip
       have ed := fun a => sxD_f (a := a) h5
       refine cx_skip ?_
       refine cx_keep rfl rfl (cx_seq (cx_ops ?_))
       refine ax_q (q_mov rfl) ?_
       refine ax_q (q_mov rfl) ?_
       refine ax_nil (cx_keep rfl rfl ?_)
       refine cx_ret (ret0 rfl rfl ?_)
       exact ⟨by rw [ea, ew, eo, ed]; rfl, rfl⟩
     ·
      have h4 := (fun h => And.intro (nF (or_F h).1) (id (or_F h).2)) h4
      have eo := fun a => sxO_f (a := a) h4
      refine cx_skip ?_
      refine cx_keep rfl rfl (cx_seq (cx_seq (cx_ops ?_)))
      refine ax_q (q_fadr_ptr rfl) ?_
      refine ax_q (q_load1_ptr rfl rfl rfl) ?_
      refine ax_nil (cx_keep rfl rfl ?_)
      refine cx_cond rfl (fun h5 => ?_) (fun h5 => ?_)
      ·
       skip
       have ed := fun a => sxD_t (a := a) h5
       refine cx_ops ?_
       refine ax_q (q_mov rfl) ?_
       refine ax_q (q_sbin_add rfl rfl (by simp only [List.length_append, List.length_cons, List.length_nil]; omega)) ?_
       refine ax_q (q_mov rfl) ?_
       refine ax_nil (cx_keep rfl rfl (cx_seq (cx_ops ?_)))
       refine ax_q (q_mov rfl) ?_
       refine ax_q (q_mov rfl) ?_
       refine ax_nil (cx_keep rfl rfl ?_)
       refine cx_ret (ret0 rfl rfl ?_)
       exact ⟨by rw [ea, ew, eo, ed]; rfl, rfl⟩
      ·
       skip
       have ed := fun a => sxD_f (a := a) h5
       refine cx_skip ?_
       refine cx_keep rfl rfl (cx_seq (cx_ops ?_))
       refine ax_q (q_mov rfl) ?_
       refine ax_q (q_mov rfl) ?_
       refine ax_nil (cx_keep rfl rfl ?_)
       refine cx_ret (ret0 rfl rfl ?_)
       exact ⟨by rw [ea, ew, eo, ed]; rfl, rfl⟩
   ·
    have h2 := dF h2
    have ea := stT_4 (s := s) (by omega)
    refine cx_ops ?_
    refine ax_q (q_mov rfl) ?_
    refine ax_q (q_sbin_add rfl rfl (by simp only [List.length_append, List.length_cons, List.length_nil]; omega)) ?_
    refine ax_q (q_mov rfl) ?_
    refine ax_nil (cx_keep rfl rfl (cx_seq (cx_seq (cx_ops ?_))))
    refine ax_q (q_fadr_ptr rfl) ?_
    refine ax_q (q_ldN rfl rfl rfl) ?_
    refine ax_call rfl (vc_pure0 (c_hasNone (e := s.Where) ) hP rfl rfl ?_)
    refine ax_q (q_not rfl) ?_
    refine ax_nil (cx_keep rfl rfl ?_)
    refine cx_cond rfl (fun h3 => ?_) (fun h3 => ?_)
    ·
     have h3 := bT h3
     have hwe := hwh h3
     have hwl : (etF s.Where.Nodes (s.Where.Nodes.length + 1) ((s.Where.Nodes.length : Int) - 1)).length ≤ 100000000000000 := exT_le hwe
     have hwl2 := exT_le hwe
     obtain ⟨hz0, hz1, hz2, hz3, _⟩ := comp_hyps hwe
     have hn40 := exprOK_n hwe
     have ew := fun a => sxW_t (a := a) h3
     refine cx_ops ?_
     refine ax_q (q_mov rfl) ?_
     refine ax_q (q_fadr_ptr rfl) ?_
     refine ax_q (q_ldN rfl rfl rfl) ?_
     refine ax_call rfl (vc_pure0 (c_exprText (e := s.Where) ?_) hP rfl rfl ?_)
     ·
      assumption
     refine ax_q (q_sbin_add rfl rfl (by simp only [List.length_append, List.length_cons, List.length_nil]; omega)) ?_
     refine ax_q (q_sbin_add rfl rfl (by simp only [List.length_append, List.length_cons, List.length_nil]; omega)) ?_
     refine ax_q (q_mov rfl) ?_
     refine ax_nil (cx_keep rfl rfl (cx_seq (cx_seq (cx_ops ?_))))
     refine ax_q (q_fadr_ptr rfl) ?_
     refine ax_q (q_load1_ptr rfl rfl rfl) ?_
     refine ax_q (q_ibin rfl rfl rfl) ?_
     refine ax_q (q_mov rfl) ?_
     apply ax_or rfl rfl
     ·
      intro g
      have g := nF g
      refine ax_q (q_fadr_ptr rfl) ?_
      refine ax_q (q_load1_ptr rfl rfl rfl) ?_
      exact ax_nil ⟨rfl, by repeat constructor⟩
     refine ax_nil (cx_keep rfl rfl ?_)
     refine cx_cond rfl (fun h4 => ?_) (fun h4 => ?_)
     ·
      have h4 := (fun h => (or_T h).imp nT id) h4
      have eo := fun a => sxO_t (a := a) h4
      refine cx_ops ?_
      refine ax_q (q_mov rfl) ?_
      refine ax_q (q_fadr_ptr rfl) ?_
      refine ax_q (q_load1_ptr rfl rfl rfl) ?_
      refine ax_qe (r' := .d (.ip (.str (colT s.Order) :: ((colsL.drop ((s.Order).toNat + 1)).map D.str)))) (q_iadrG (n := s.Order) colsL gtab_cols (by rw [hP]; kernel_rfl) rfl rfl (by omega) (by omega)) (by rw [col_drop (by omega)]) ?_
      first | refine ax_q (q_load1_ptr rfl rfl rfl) ?_ | refine ax_q (q_load1_ip rfl) ?_
      refine ax_q (q_sbin_add rfl rfl (by simp only [List.length_append, List.length_cons, List.length_nil]; omega)) ?_
      refine ax_q (q_sbin_add rfl rfl (by simp only [List.length_append, List.length_cons, List.length_nil]; omega)) ?_
      refine ax_q (q_mov rfl) ?_
      refine ax_nil (cx_keep rfl rfl (cx_seq (cx_seq (cx_ops ?_))))
      refine ax_q (q_fadr_ptr rfl) ?_
      refine ax_q (q_load1_ptr rfl rfl rfl) ?_
      refine ax_nil (cx_keep rfl rfl ?_)
      refine cx_cond rfl (fun h5 => ?_) (fun h5 => ?_)
      ·
       skip
       have ed := fun a => sxD_t (a := a) h5
       refine cx_ops ?_
       refine ax_q (q_mov rfl) ?_
       refine ax_q (q_sbin_add rfl rfl (by simp only [List.length_append, List.length_cons, List.length_nil]; omega)) ?_
       refine ax_q (q_mov rfl) ?_
       refine ax_nil (cx_keep rfl rfl (cx_seq (cx_ops ?_)))
       refine ax_q (q_mov rfl) ?_
       refine ax_q (q_mov rfl) ?_
       refine ax_nil (cx_keep rfl rfl ?_)
       refine cx_ret (ret0 rfl rfl ?_)
       exact ⟨by rw [ea, ew, eo, ed]; rfl, rfl⟩
      ·
       skip
       have ed := fun a => sxD_f (a := a) h5
       refine cx_skip ?_
       refine cx_keep rfl rfl (cx_seq (cx_ops ?_))
       refine ax_q (q_mov rfl) ?_
       refine ax_q (q_mov rfl) ?_
       refine ax_nil (cx_keep rfl rfl ?_)
       refine cx_ret (ret0 rfl rfl ?_)
       exact ⟨by rw [ea, ew, eo, ed]; rfl, rfl⟩
     ·
      have h4 := (fun h => And.intro (nF (or_F h).1) (id (or_F h).2)) h4
      have eo := fun a => sxO_f (a := a) h4
      refine cx_skip ?_
      refine cx_keep rfl rfl (cx_seq (cx_seq (cx_ops ?_)))
      refine ax_q (q_fadr_ptr rfl) ?_
      refine ax_q (q_load1_ptr rfl rfl rfl) ?_
      refine ax_nil (cx_keep rfl rfl ?_)
      refine cx_cond rfl (fun h5 => ?_) (fun h5 => ?_)
      ·
       skip
       have ed := fun a => sxD_t (a := a) h5
       refine cx_ops ?_
       refine ax_q (q_mov rfl) ?_
       refine ax_q (q_sbin_add rfl rfl (by simp only [List.length_append, List.length_cons, List.length_nil]; omega)) ?_
       refine ax_q (q_mov rfl) ?_
       refine ax_nil (cx_keep rfl rfl (cx_seq (cx_ops ?_)))
       refine ax_q (q_mov rfl) ?_
       refine ax_q (q_mov rfl) ?_
       refine ax_nil (cx_keep rfl rfl ?_)
       refine cx_ret (ret0 rfl rfl ?_)
       exact ⟨by rw [ea, ew, eo, ed]; rfl, rfl⟩
      ·
       skip
       have ed := fun a => sxD_f (a := a) h5
       refine cx_skip ?_
       refine cx_keep rfl rfl (cx_seq (cx_ops ?_))
       refine ax_q (q_mov rfl) ?_
       refine ax_q (q_mov rfl) ?_
       refine ax_nil (cx_keep rfl rfl ?_)
       refine cx_ret (ret0 rfl rfl ?_)
       exact ⟨by rw [ea, ew, eo, ed]; rfl, rfl⟩
    ·
     have h3 := bF h3
     have ew := fun a => sxW_f (a := a) h3
     refine cx_skip ?_
     refine cx_keep rfl rfl (cx_seq (cx_seq (cx_ops ?_)))
     refine ax_q (q_fadr_ptr rfl) ?_
     refine ax_q (q_load1_ptr rfl rfl rfl) ?_
     refine ax_q (q_ibin rfl rfl rfl) ?_
     refine ax_q (q_mov rfl) ?_
     apply ax_or rfl rfl
     ·
      intro g
      have g := nF g
      refine ax_q (q_fadr_ptr rfl) ?_
      refine ax_q (q_load1_ptr rfl rfl rfl) ?_
      exact ax_nil ⟨rfl, by repeat constructor⟩
     refine ax_nil (cx_keep rfl rfl ?_)
     refine cx_cond rfl (fun h4 => ?_) (fun h4 => ?_)
     ·
      have h4 := (fun h => (or_T h).imp nT id) h4
      have eo := fun a => sxO_t (a := a) h4
      refine cx_ops ?_
      refine ax_q (q_mov rfl) ?_
      refine ax_q (q_fadr_ptr rfl) ?_
      refine ax_q (q_load1_ptr rfl rfl rfl) ?_
      refine ax_qe (r' := .d (.ip (.str (colT s.Order) :: ((colsL.drop ((s.Order).toNat + 1)).map D.str)))) (q_iadrG (n := s.Order) colsL gtab_cols (by rw [hP]; kernel_rfl) rfl rfl (by omega) (by omega)) (by rw [col_drop (by omega)]) ?_
      first | refine ax_q (q_load1_ptr rfl rfl rfl) ?_ | refine ax_q (q_load1_ip rfl) ?_
      refine ax_q (q_sbin_add rfl rfl (by simp only [List.length_append, List.length_cons, List.length_nil]; omega)) ?_
      refine ax_q (q_sbin_add rfl rfl (by simp only [List.length_append, List.length_cons, List.length_nil]; omega)) ?_
      refine ax_q (q_mov rfl) ?_
      refine ax_nil (cx_keep rfl rfl (cx_seq (cx_seq (cx_ops ?_))))
      refine ax_q (q_fadr_ptr rfl) ?_
      refine ax_q (q_load1_ptr rfl rfl rfl) ?_
      refine ax_nil (cx_keep rfl rfl ?_)
      refine cx_cond rfl (fun h5 => ?_) (fun h5 => ?_)
      ·
       skip
       have ed := fun a => sxD_t (a := a) h5
       refine cx_ops ?_
       refine ax_q (q_mov rfl) ?_
       refine ax_q (q_sbin_add rfl rfl (by simp only [List.length_append, List.length_cons, List.length_nil]; omega)) ?_
       refine ax_q (q_mov rfl) ?_
       refine ax_nil (cx_keep rfl rfl (cx_seq (cx_ops ?_)))
       refine ax_q (q_mov rfl) ?_
       refine ax_q (q_mov rfl) ?_
       refine ax_nil (cx_keep rfl rfl ?_)
       refine cx_ret (ret0 rfl rfl ?_)
       exact ⟨by rw [ea, ew, eo, ed]; rfl, rfl⟩
      ·
       skip
       have ed := fun a => sxD_f (a := a) h5
       refine cx_skip ?_
       refine cx_keep rfl rfl (cx_seq (cx_ops ?_))
       refine ax_q (q_mov rfl) ?_
       refine ax_q (q_mov rfl) ?_
       refine ax_nil (cx_keep rfl rfl ?_)
       refine cx_ret (ret0 rfl rfl ?_)
       exact ⟨by rw [ea, ew, eo, ed]; rfl, rfl⟩
     ·
      have h4 := (fun h => And.intro (nF (or_F h).1) (id (or_F h).2)) h4
      have eo := fun a => sxO_f (a := a) h4
      refine cx_skip ?_
      refine cx_keep rfl rfl (cx_seq (cx_seq (cx_ops ?_)))
      refine ax_q (q_fadr_ptr rfl) ?_
      refine ax_q (q_load1_ptr rfl rfl rfl) ?_
      refine ax_nil (cx_keep rfl rfl ?_)
      refine cx_cond rfl (fun h5 => ?_) (fun h5 => ?_)
      ·
       skip
       have ed := fun a => sxD_t (a := a) h5
       refine cx_ops ?_
       refine ax_q (q_mov rfl) ?_
       refine ax_q (q_sbin_add rfl rfl (by simp only [List.length_append, List.length_cons, List.length_nil]; omega)) ?_
       refine ax_q (q_mov rfl) ?_
       refine ax_nil (cx_keep rfl rfl (cx_seq (cx_ops ?_)))
       refine ax_q (q_mov rfl) ?_
       refine ax_q (q_mov rfl) ?_
       refine ax_nil (cx_keep rfl rfl ?_)
       refine cx_ret (ret0 rfl rfl ?_)
       exact ⟨by rw [ea, ew, eo, ed]; rfl, rfl⟩
      ·
       skip
       have ed := fun a => sxD_f (a := a) h5
       refine cx_skip ?_
       refine cx_keep rfl rfl (cx_seq (cx_ops ?_))
       refine ax_q (q_mov rfl) ?_
       refine ax_q (q_mov rfl) ?_
       refine ax_nil (cx_keep rfl rfl ?_)
       refine cx_ret (ret0 rfl rfl ?_)
       exact ⟨by rw [ea, ew, eo, ed]; rfl, rfl⟩


/- loop.example/g00332/impl.StmtText -/
def k_c_StmtText : XCode :=
 .seq (.ops [.op (some 1) (.box (.t 0)),
   .op (some 2) (.mov (.k (.str []))),
   .op (some 3) (.mov (.k (.int .i64 0)))])
 (.keep [1] (.seq (.seq (.ops [.op (some 4) (.loadN 14 (.t 1)),
   .call (some 5) 22 [.t 4],
   .op (some 6) (.not (.t 5))])
  (.keep [1, 6] (.cond (.t 6)
  (.seq (.ops [.op (some 2) (.mov (.k (.str []))),
    .op (some 3) (.mov (.k (.int .i64 1)))])
   (.keep [2, 3] (.ret)))
  (.skip))))
 (.keep [1] (.seq (.ops [.op (some 7) (.loadN 14 (.t 1)),
   .call (some 8) 38 [.t 7],
   .op (some 2) (.mov (.t 8)),
   .op (some 3) (.mov (.k (.int .i64 0)))])
 (.keep [2, 3] (.ret))))))
theorem k_c_StmtText_fits : fitsF Tryz.prog 18 ⟨9, k_c_StmtText, [.t 2, .t 3]⟩ = true := by kernel_rfl
theorem c_StmtText {s : GStmt} (hs0 : s.Set.Nodes.length ≤ 1048576) (hs1 : ∀ x ∈ s.Set.Nodes, x.V.T.length ≤ 1048576) (hw0 : s.Where.Nodes.length ≤ 1048576) (hw1 : ∀ x ∈ s.Where.Nodes, x.V.T.length ≤ 1048576) (hr0 : s.Row.N.T.length ≤ 1048576) (hr1 : s.Row.Name.T.length ≤ 1048576) : Con Tryz.prog noMv 18 [s.av] [] (fun r h => r = .tup [str (stTF s).1, int (stTF s).2] ∧ h = []) := by
 refine con_of2 k_c_StmtText_fits rfl fun C hP hmv => ?_
 unfold k_c_StmtText
 refine cx_seq (cx_ops ?_)
 refine ax_e (e_box rfl rfl (by decide) rfl rfl rfl) ?_
 refine ax_q (q_mov rfl) ?_
 refine ax_q (q_mov rfl) ?_
 refine ax_nil (cx_keep rfl rfl (cx_seq (cx_seq (cx_ops ?_))))
 refine ax_q (q_ldN rfl rfl rfl) ?_
 refine ax_call rfl (vc_pure0 (c_StmtOK (s := s) ?_ ?_ ?_ ?_ ?_ ?_) hP rfl rfl ?_)
 ·
  assumption
 ·
  assumption
 ·
  assumption
 ·
  assumption
 ·
  assumption
 ·
  assumption
 refine ax_q (q_not rfl) ?_
 refine ax_nil (cx_keep rfl rfl ?_)
 refine cx_cond rfl (fun h0 => ?_) (fun h0 => ?_)
 ·
  have h0 := bT h0
  refine cx_seq (cx_ops ?_)
  refine ax_q (q_mov rfl) ?_
  refine ax_q (q_mov rfl) ?_
  refine ax_nil (cx_keep rfl rfl ?_)
  refine cx_ret (ret0 rfl rfl ?_)
  exact ⟨by rw [stT_f h0]; rfl, rfl⟩
 ·
  have h0 := bF h0
  refine cx_skip ?_
  refine cx_keep rfl rfl (cx_seq (cx_ops ?_))
  refine ax_q (q_ldN rfl rfl rfl) ?_
  refine ax_call rfl (vc_pure0 (c_stmtText (s := s) ?_) hP rfl rfl ?_)
  ·
   assumption
  refine ax_q (q_mov rfl) ?_
  refine ax_q (q_mov rfl) ?_
  refine ax_nil (cx_keep rfl rfl ?_)
  refine cx_ret (ret0 rfl rfl ?_)
  exact ⟨by rw [stT_t h0]; rfl, rfl⟩


/- loop.example/g00332/spec.l01In -/
def k_c_l01In : XCode :=
 .seq (.ops [.op (some 6) (.mov (.k (.bool false)))])
 (.keep [0, 1, 2] (.seq (.ops [.op (some 7) (.mov (.t 1)),
   .op (some 8) (.mov (.t 0)),
   .op (some 9) (.bin .leq (.t 7) (.t 8)),
   .op (some 10) (.mov (.t 9)),
   .andor 14 true 3 10 [.op (some 11) (.mov (.t 0)), .op (some 12) (.mov (.t 2)), .op (some 13) (.bin .leq (.t 11) (.t 12))] (.t 13),
   .op (some 6) (.mov (.t 14))])
 (.keep [6] (.ret))))
theorem k_c_l01In_fits : fitsF Tryz.prog 50 ⟨15, k_c_l01In, [.t 6]⟩ = true := by kernel_rfl
theorem c_l01In {n lo hi : Int} : Con Tryz.prog noMv 50 [int n, int lo, int hi] [] (fun r h => r = bool (inR n lo hi) ∧ h = []) := by
 refine con_of2 k_c_l01In_fits rfl fun C hP hmv => ?_
 unfold k_c_l01In
 refine cx_seq (cx_ops ?_)
 refine ax_q (q_mov rfl) ?_
 refine ax_nil (cx_keep rfl rfl (cx_seq (cx_ops ?_)))
 refine ax_q (q_mov rfl) ?_
 refine ax_q (q_mov rfl) ?_
 refine ax_q (q_ibin rfl rfl rfl) ?_
 refine ax_q (q_mov rfl) ?_
 apply ax_and rfl rfl
 ·
  intro g
  have g := dT g
  refine ax_q (q_mov rfl) ?_
  refine ax_q (q_mov rfl) ?_
  refine ax_q (q_ibin rfl rfl rfl) ?_
  exact ax_nil ⟨rfl, by repeat constructor⟩
 refine ax_q (q_mov rfl) ?_
 refine ax_nil (cx_keep rfl rfl ?_)
 refine cx_ret (ret0 rfl rfl ?_)
 exact ⟨rfl, rfl⟩


/- loop.example/g00332/spec.ValueOK -/
def k_c_sValueOK : XCode :=
 .seq (.ops [.op (some 1) (.box (.t 0)),
   .op (some 2) (.mov (.k (.bool false)))])
 (.keep [1] (.seq (.seq (.ops [.op (some 4) (.fadr (.t 1) 0),
   .op (some 5) (.load1 (.t 4))])
  (.keep [1, 5] (.block 0 (.seq (.ops [.op (some 7) (.bin .eql (.t 5) (.k (.int .i64 0))),
    .op (some 6) (.mov (.t 7))])
  (.keep [1, 5, 6] (.cond (.t 6)
   (.seq (.ops [.op (some 8) (.fadr (.t 1) 1),
     .op (some 9) (.load1 (.t 8)),
     .op (some 10) (.bin .eql (.t 9) (.k (.int .i64 0))),
     .op (some 11) (.mov (.t 10)),
     .andor 15 true 3 11 [.op (some 12) (.fadr (.t 1) 2), .op (some 13) (.load1 (.t 12)), .op (some 14) (.bin .eql (.t 13) (.k (.str [])))] (.t 14),
     .op (some 2) (.mov (.t 15))])
   (.keep [2] (.ret)))
   (.seq (.ops [.op (some 17) (.bin .eql (.t 5) (.k (.int .i64 1))),
     .op (some 16) (.mov (.t 17))])
   (.keep [1, 5, 16] (.cond (.t 16)
    (.seq (.ops [.op (some 18) (.fadr (.t 1) 1),
      .op (some 19) (.load1 (.t 18)),
      .call (some 20) 50 [.t 19, .k (.int .i64 (-1000000000)), .k (.int .i64 1000000000)],
      .op (some 21) (.mov (.t 20)),
      .andor 25 true 3 21 [.op (some 22) (.fadr (.t 1) 2), .op (some 23) (.load1 (.t 22)), .op (some 24) (.bin .eql (.t 23) (.k (.str [])))] (.t 24),
      .op (some 2) (.mov (.t 25))])
    (.keep [2] (.ret)))
    (.seq (.ops [.op (some 27) (.bin .eql (.t 5) (.k (.int .i64 2))),
      .op (some 26) (.mov (.t 27))])
    (.keep [1, 26] (.cond (.t 26)
     (.seq (.seq (.ops [.op (some 28) (.fadr (.t 1) 1),
       .op (some 29) (.load1 (.t 28)),
       .op (some 30) (.bin .neq (.t 29) (.k (.int .i64 0))),
       .op (some 31) (.mov (.t 30)),
       .andor 36 false 3 31 [.op (some 32) (.fadr (.t 1) 2), .op (some 33) (.load1 (.t 32)), .op (some 34) (.lenT (.t 33)), .op (some 35) (.bin .gtr (.t 34) (.k (.int .i64 10)))] (.t 35)])
      (.keep [1, 36] (.cond (.t 36)
      (.seq (.ops [.op (some 2) (.mov (.k (.bool false)))])
       (.keep [2] (.ret)))
      (.skip))))
     (.keep [1] (.seq (.seq (.ops [.op (some 3) (.mov (.k (.int .i64 0)))])
      (.keep [1, 3] (.block 1 (.loop (.seq (.seq (.ops [.op (some 37) (.mov (.t 3)),
         .op (some 38) (.fadr (.t 1) 2),
         .op (some 39) (.load1 (.t 38)),
         .op (some 40) (.lenT (.t 39)),
         .op (some 41) (.bin .lss (.t 37) (.t 40))])
       (.keep [1, 3, 41] (.cond (.t 41)
        (.skip)
        (.exit 1))))
       (.keep [1, 3] (.seq (.block 2 (.seq (.ops [.op (some 44) (.fadr (.t 1) 2),
         .op (some 45) (.load1 (.t 44)),
         .op (some 46) (.mov (.t 3)),
         .op (some 47) (.idxS (.t 45) (.t 46)),
         .op (some 48) (.conv .i64 (.t 47)),
         .call (some 49) 50 [.t 48, .k (.int .i64 97), .k (.int .i64 122)],
         .op (some 50) (.not (.t 49))])
        (.keep [1, 3, 50] (.cond (.t 50)
        (.seq (.ops [.op (some 2) (.mov (.k (.bool false)))])
         (.keep [2] (.ret)))
        (.skip)))))
       (.keep [1, 3] (.ops [.op (some 42) (.mov (.t 3)),
        .op (some 43) (.bin .add (.t 42) (.k (.int .i64 1))),
        .op (some 3) (.mov (.t 43))])))))))))
     (.keep [] (.seq (.ops [.op (some 2) (.mov (.k (.bool true)))])
     (.keep [2] (.ret)))))))
     (.skip)))))))))))))
 (.keep [] (.seq (.ops [.op (some 2) (.mov (.k (.bool false)))])
 (.keep [2] (.ret))))))
theorem k_c_sValueOK_fits : fitsF Tryz.prog 86 ⟨51, k_c_sValueOK, [.t 2]⟩ = true := by kernel_rfl
theorem c_sValueOK {v : GValue} (hv : v.T.length ≤ 1048576) : Con Tryz.prog noMv 86 [v.av] [] (fun r h => r = bool (valueOK v) ∧ h = []) := by
 refine con_of2 k_c_sValueOK_fits rfl fun C hP hmv => ?_
 unfold k_c_sValueOK
 refine cx_seq (cx_ops ?_)
 refine ax_e (e_box rfl rfl (by decide) rfl rfl rfl) ?_
 refine ax_q (q_mov rfl) ?_
 refine ax_nil (cx_keep rfl rfl (cx_seq (cx_seq (cx_ops ?_))))
 refine ax_q (q_fadr_ptr rfl) ?_
 refine ax_q (q_load1_ptr rfl rfl rfl) ?_
 refine ax_nil (cx_keep rfl rfl (cx_block (cx_seq (cx_ops ?_))))
 refine ax_q (q_ibin rfl rfl rfl) ?_
 refine ax_q (q_mov rfl) ?_
 refine ax_nil (cx_keep rfl rfl ?_)
 refine cx_cond rfl (fun h0 => ?_) (fun h0 => ?_)
 ·
  have h0 := dT h0
  refine cx_seq (cx_ops ?_)
  refine ax_q (q_fadr_ptr rfl) ?_
  refine ax_q (q_load1_ptr rfl rfl rfl) ?_
  refine ax_q (q_ibin rfl rfl rfl) ?_
  refine ax_q (q_mov rfl) ?_
  apply ax_and rfl rfl
  ·
   intro g
   have g := dT g
   refine ax_q (q_fadr_ptr rfl) ?_
   refine ax_q (q_load1_ptr rfl rfl rfl) ?_
   refine ax_q (q_sbin rfl rfl rfl) ?_
   exact ax_nil ⟨rfl, by repeat constructor⟩
  refine ax_q (q_mov rfl) ?_
  refine ax_nil (cx_keep rfl rfl ?_)
  refine cx_ret (ret0 rfl rfl ?_)
  exact ⟨by rw [valueOK_0 h0] <;> rfl, rfl⟩
 ·
  have h0 := dF h0
  refine cx_seq (cx_ops ?_)
  refine ax_q (q_ibin rfl rfl rfl) ?_
  refine ax_q (q_mov rfl) ?_
  refine ax_nil (cx_keep rfl rfl ?_)
  refine cx_cond rfl (fun h1 => ?_) (fun h1 => ?_)
  ·
   have h1 := dT h1
   refine cx_seq (cx_ops ?_)
   refine ax_q (q_fadr_ptr rfl) ?_
   refine ax_q (q_load1_ptr rfl rfl rfl) ?_
   refine ax_call rfl (vc_pure0 (c_l01In  ) hP rfl rfl ?_)
   refine ax_q (q_mov rfl) ?_
   apply ax_and rfl rfl
   ·
    intro g
    refine ax_q (q_fadr_ptr rfl) ?_
    refine ax_q (q_load1_ptr rfl rfl rfl) ?_
    refine ax_q (q_sbin rfl rfl rfl) ?_
    exact ax_nil ⟨rfl, by repeat constructor⟩
   refine ax_q (q_mov rfl) ?_
   refine ax_nil (cx_keep rfl rfl ?_)
   refine cx_ret (ret0 rfl rfl ?_)
   exact ⟨by rw [valueOK_1 h1] <;> rfl, rfl⟩
  ·
   have h1 := dF h1
   refine cx_seq (cx_ops ?_)
   refine ax_q (q_ibin rfl rfl rfl) ?_
   refine ax_q (q_mov rfl) ?_
   refine ax_nil (cx_keep rfl rfl ?_)
   refine cx_cond rfl (fun h2 => ?_) (fun h2 => ?_)
   ·
    have h2 := dT h2
    refine cx_seq (cx_seq (cx_ops ?_))
    refine ax_q (q_fadr_ptr rfl) ?_
    refine ax_q (q_load1_ptr rfl rfl rfl) ?_
    refine ax_q (q_ibin rfl rfl rfl) ?_
    refine ax_q (q_mov rfl) ?_
    apply ax_or rfl rfl
    ·
     intro g
     have g := nF g
     refine ax_q (q_fadr_ptr rfl) ?_
     refine ax_q (q_load1_ptr rfl rfl rfl) ?_
     refine ax_q (q_lenT rfl) ?_
     refine ax_q (q_ibin rfl rfl rfl) ?_
     exact ax_nil ⟨rfl, by repeat constructor⟩
    refine ax_nil (cx_keep rfl rfl ?_)
    refine cx_cond rfl (fun h3 => ?_) (fun h3 => ?_)
    ·
     have h3 := (fun h => (or_T h).imp nT dT) h3
     refine cx_seq (cx_ops ?_)
     refine ax_q (q_mov rfl) ?_
     refine ax_nil (cx_keep rfl rfl ?_)
     refine cx_ret (ret0 rfl rfl ?_)
     have e : valueOK v = false := by
      rw [valueOK_2 h0 h1]
      rcases h3 with h | h
      ·
       simp [h]
      ·
       unfold isWord; rw [decide_eq_false (show ¬ ((v.T.length : Int) ≤ 10) from by omega)]; simp
     exact ⟨by rw [e] <;> rfl, rfl⟩
    ·
     have h3 := (fun h => And.intro (nF (or_F h).1) (dF (or_F h).2)) h3
     refine cx_skip ?_
     refine cx_keep rfl rfl (cx_seq (cx_seq (cx_ops ?_)))
     refine ax_q (q_mov rfl) ?_
     refine ax_nil (cx_keep rfl rfl (cx_block ?_))
     refine cx_loopU (fun n k => k ≤ v.T.length ∧ n = v.T.length - k ∧ ∀ j, j < k → ∀ x, v.T[j]? = some x → badCh x = false) (fun k : Nat => [(3, int k)]) (fun _ => [(1, .box [.d (.int .i64 v.Kind), .d (.int .i64 v.N), .d (.str v.T)])]) ⟨_, 0, ⟨Nat.zero_le _, rfl, fun j hj => by omega⟩, by repeat constructor⟩ ?_
     rintro n k ⟨hk, rfl, hb⟩
     refine cx_seq (cx_seq (cx_ops ?_))
     refine ax_q (q_mov rfl) ?_
     refine ax_q (q_fadr_ptr rfl) ?_
     refine ax_q (q_load1_ptr rfl rfl rfl) ?_
     refine ax_q (q_lenT rfl) ?_
     refine ax_q (q_ibin rfl rfl rfl) ?_
     refine ax_nil (cx_keep rfl rfl ?_)
     refine cx_cond rfl (fun h4 => ?_) (fun h4 => ?_)
     ·
      have h4 := dT h4
      have h4x : k < v.T.length := by omega
      refine cx_skip ?_
      refine cx_keep rfl rfl (cx_seq (cx_block (cx_seq (cx_ops ?_))))
      refine ax_q (q_fadr_ptr rfl) ?_
      refine ax_q (q_load1_ptr rfl rfl rfl) ?_
      refine ax_q (q_mov rfl) ?_
      refine ax_q (q_idxN rfl rfl (by first | assumption | omega)) ?_
      refine ax_q (q_convB rfl) ?_
      refine ax_call rfl (vc_pure0 (c_l01In  ) hP rfl rfl ?_)
      refine ax_q (q_not rfl) ?_
      refine ax_nil (cx_keep rfl rfl ?_)
      refine cx_cond rfl (fun h5 => ?_) (fun h5 => ?_)
      ·
       have h5 : badCh v.T[k] = true := h5
       refine cx_seq (cx_ops ?_)
       refine ax_q (q_mov rfl) ?_
       refine ax_nil (cx_keep rfl rfl ?_)
       refine cx_ret (ret0 rfl rfl ?_)
       have e : valueOK v = false := by
        rw [valueOK_2 h0 h1]; unfold isWord; rw [any_hit h4x h5]; simp
       exact ⟨by rw [e]; rfl, rfl⟩
      ·
       have h5 : badCh v.T[k] = false := h5
       refine cx_skip ?_
       refine cx_keep rfl rfl (cx_ops ?_)
       refine ax_q (q_mov rfl) ?_
       refine ax_qe (r' := int ((k + 1 : Nat) : Int)) (q_ibin rfl rfl rfl) (by rw [wi (by omega) (by omega)]; rfl) ?_
       refine ax_q (q_mov rfl) ?_
       refine ax_nil ?_
       exact ⟨_, k + 1, by omega, ⟨by omega, rfl, before_step h4x hb h5⟩, by repeat constructor⟩
     ·
      have h4 := dF h4
      have h4x : k = v.T.length := by omega
      refine cx_exit rfl ?_
      refine cx_keep rfl rfl (cx_seq (cx_ops ?_))
      refine ax_q (q_mov rfl) ?_
      refine ax_nil (cx_keep rfl rfl ?_)
      refine cx_ret (ret0 rfl rfl ?_)
      exact ⟨by rw [valueOK_2 h0 h1]; unfold isWord; rw [any_all (fun i hi => hb i (by omega)), decide_eq_true h2, decide_eq_true (show v.N = 0 from by omega), decide_eq_true (show (v.T.length : Int) ≤ 10 from by omega)] <;> rfl, rfl⟩
   ·
    have h2 := dF h2
    refine cx_skip ?_
    refine cx_keep rfl rfl (cx_seq (cx_ops ?_))
    refine ax_q (q_mov rfl) ?_
    refine ax_nil (cx_keep rfl rfl ?_)
    refine cx_ret (ret0 rfl rfl ?_)
    exact ⟨by rw [valueOK_2 h0 h1, decide_eq_false h2] <;> rfl, rfl⟩

end Go.Proofs.YthdafcdhnjapnaaGreatDoor
