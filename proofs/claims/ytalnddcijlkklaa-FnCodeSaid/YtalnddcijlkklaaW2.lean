/- The walks: what each function computes, as a contract without a world (part 2). -/
import Derived.Test.YtalnddcijlkklaaProg
import Derived.Test.YtalnddcijlkklaaW1
namespace Go.Proofs.Ytalnddcijlkklaa
open Go Go.AM
set_option maxRecDepth 10000
set_option linter.unusedVariables false
/- (ptr loop.example/g00332/spec.l00Src).byte -/
def k_c_byte : XCode :=
 .seq (.ops [.op (some 2) (.mov (.k (.int .i64 0)))])
 (.keep [0] (.seq (.ops [.op (some 3) (.mov (.t 0)),
   .op (some 4) (.nilck (.t 3)),
   .op (some 5) (.fadr (.t 4) 1),
   .op (some 6) (.load1 (.t 5)),
   .op (some 7) (.bin .add (.t 6) (.k (.int .i64 1))),
   .op (some 8) (.nilck (.t 3)),
   .op (some 9) (.fadr (.t 8) 1),
   .op none (.store 1 (.t 9) (.t 7))])
 (.keep [0] (.seq (.seq (.draw [.op (some 10) (.mov (.t 0)),
   .op (some 11) (.nilck (.t 10)),
   .op (some 12) (.fadr (.t 11) 1),
   .op (some 13) (.load1 (.t 12)),
   .op (some 14) (.mov (.t 0)),
   .op (some 15) (.nilck (.t 14)),
   .op (some 16) (.fadr (.t 15) 0),
   .op (some 17) (.load1 (.t 16)),
   .op (some 18) (.lenS (.t 17)),
   .op (some 19) (.bin .leq (.t 13) (.t 18))])
  (.keep [0, 19] (.cond (.t 19)
  (.seq (.drawE [[], [], [1], [1, 2], [1, 2, 3], [1, 2, 3, 4], [], [6], [6, 7], [6, 7, 8], [], [10], [10, 11], [10, 11, 12], [10, 11, 12, 13], [6, 7, 8, 9, 10, 11, 12, 13, 14], [6, 7, 8, 9, 10, 11, 12, 13, 14, 15], [6, 7, 8, 9, 10, 11, 12, 13, 14, 15, 16], [1, 2, 3, 4, 5, 6, 7, 8, 9, 10, 11, 12, 13, 14, 15, 16, 17], [1, 2, 3, 4, 5, 6, 7, 8, 9, 10, 11, 12, 13, 14, 15, 16, 17, 18], [1, 2, 3, 4, 5, 6, 7, 8, 9, 10, 11, 12, 13, 14, 15, 16, 17, 18, 19], [0, 1, 2, 3, 4, 5, 6, 7, 8, 9, 10, 11, 12, 13, 14, 15, 16, 17, 18, 19, 20], [0, 1, 2, 3, 4, 5, 6, 7, 8, 9, 10, 11, 12, 13, 14, 15, 16, 17, 18, 19, 20, 21], [0, 1, 2, 3, 4, 5, 6, 7, 8, 9, 10, 11, 12, 13, 14, 15, 16, 17, 18, 19, 20, 21, 22]] [.op (some 20) (.mov (.t 0)),
    .op (some 21) (.mov (.t 0)),
    .op (some 22) (.nilck (.t 21)),
    .op (some 23) (.fadr (.t 22) 2),
    .op (some 24) (.load1 (.t 23)),
    .op (some 25) (.bin .mul (.t 24) (.k (.int .i64 31))),
    .op (some 26) (.mov (.t 0)),
    .op (some 27) (.nilck (.t 26)),
    .op (some 28) (.fadr (.t 27) 0),
    .op (some 29) (.load1 (.t 28)),
    .op (some 30) (.mov (.t 0)),
    .op (some 31) (.nilck (.t 30)),
    .op (some 32) (.fadr (.t 31) 1),
    .op (some 33) (.load1 (.t 32)),
    .op (some 34) (.bin .sub (.t 33) (.k (.int .i64 1))),
    .op (some 35) (.iadr 1 (.t 29) (.t 34)),
    .op (some 36) (.load1 (.t 35)),
    .op (some 37) (.conv .i64 (.t 36)),
    .op (some 38) (.bin .add (.t 25) (.t 37)),
    .op (some 39) (.bin .add (.t 38) (.k (.int .i64 7))),
    .op (some 40) (.bin .rem (.t 39) (.k (.int .i64 2147483648)))]
    [.op (some 41) (.nilck (.t 20)),
    .op (some 42) (.fadr (.t 41) 2),
    .op none (.store 1 (.t 42) (.t 40))])
   (.keep [0] (.seq (.draw [.op (some 43) (.mov (.t 0)),
    .op (some 44) (.nilck (.t 43)),
    .op (some 45) (.fadr (.t 44) 0),
    .op (some 46) (.load1 (.t 45)),
    .op (some 47) (.mov (.t 0)),
    .op (some 48) (.nilck (.t 47)),
    .op (some 49) (.fadr (.t 48) 1),
    .op (some 50) (.load1 (.t 49)),
    .op (some 51) (.bin .sub (.t 50) (.k (.int .i64 1))),
    .op (some 52) (.iadr 1 (.t 46) (.t 51)),
    .op (some 53) (.load1 (.t 52)),
    .op (some 54) (.conv .i64 (.t 53)),
    .op (some 2) (.mov (.t 54))])
   (.keep [2] (.ret)))))
  (.skip))))
 (.keep [0] (.seq (.seq (.ops [.op (some 55) (.mov (.t 0)),
   .op (some 56) (.nilck (.t 55)),
   .op (some 57) (.fadr (.t 56) 1),
   .op (some 58) (.load1 (.t 57)),
   .op (some 59) (.bin .gtr (.t 58) (.k (.int .i64 3000)))])
  (.keep [0, 59] (.cond (.t 59)
  (.seq (.ops [.op (some 2) (.mov (.k (.int .i64 0)))])
   (.keep [2] (.ret)))
  (.skip))))
 (.keep [0] (.seq (.ops [.op (some 60) (.mov (.t 0)),
   .op (some 61) (.mov (.t 0)),
   .op (some 62) (.nilck (.t 61)),
   .op (some 63) (.fadr (.t 62) 2),
   .op (some 64) (.load1 (.t 63)),
   .op (some 65) (.bin .mul (.t 64) (.k (.int .i64 1103515245))),
   .op (some 66) (.bin .add (.t 65) (.k (.int .i64 12345))),
   .op (some 67) (.bin .rem (.t 66) (.k (.int .i64 2147483648))),
   .op (some 68) (.nilck (.t 60)),
   .op (some 69) (.fadr (.t 68) 2),
   .op none (.store 1 (.t 69) (.t 67))])
 (.keep [0] (.seq (.ops [.op (some 70) (.mov (.t 0)),
   .op (some 71) (.nilck (.t 70)),
   .op (some 72) (.fadr (.t 71) 2),
   .op (some 73) (.load1 (.t 72)),
   .op (some 74) (.bin .quo (.t 73) (.k (.int .i64 65536))),
   .op (some 75) (.bin .rem (.t 74) (.k (.int .i64 256))),
   .op (some 2) (.mov (.t 75))])
 (.keep [2] (.ret))))))))))))
theorem k_c_byte_fits : fitsF Try.prog 111 ⟨76, k_c_byte, [.t 2]⟩ = true := by kernel_rfl
set_option maxHeartbeats 2000000 in
theorem c_byte {s : Src} {n : Nat} (hs : s.ok (n + 1)) : Con Try.prog noMv 111 [.ptr 1000 0] (s.h 1000) (fun r h => r = int (byteF s).1 ∧ h = ((byteF s).2).h 1000) := by
 refine con_of2 k_c_byte_fits rfl fun C hP hmv => ?_
 unfold k_c_byte
 have hp := hs.pos; have hd := hs.seed; have hl := hs.len
 refine cx_seq ?_
 refine cx_ops ?_
 refine ax_q (q_mov rfl) ?_
 refine ax_nil ?_
 refine cx_keep rfl rfl ?_
 refine cx_seq ?_
 refine cx_ops ?_
 refine ax_q (q_mov rfl) ?_
 first | refine ax_q (q_nilck_ptr rfl) ?_ | refine ax_q (q_nilck_rptr rfl) ?_ | refine ax_q (q_nilck_ip rfl) ?_
 first | refine ax_q (q_fadr_ptr rfl) ?_ | refine ax_q (q_fadr_rptr rfl) ?_ | refine ax_q (q_fadr_ip rfl) ?_
 first | refine ax_q (q_load1_ptr rfl rfl rfl) ?_ | refine ax_q (q_load1_ip rfl) ?_ | refine ax_q (q_load1_rptr rfl rfl rfl rfl) ?_ | refine ax_q (q_load1_rptr rfl rfl (by assumption) rfl) ?_ | refine ax_q (q_load1_rptr rfl rfl (mapAt (by first | assumption | omega)) rfl) ?_
 refine ax_q (q_add rfl rfl (by omega)) ?_
 first | refine ax_q (q_nilck_ptr rfl) ?_ | refine ax_q (q_nilck_rptr rfl) ?_ | refine ax_q (q_nilck_ip rfl) ?_
 first | refine ax_q (q_fadr_ptr rfl) ?_ | refine ax_q (q_fadr_rptr rfl) ?_ | refine ax_q (q_fadr_ip rfl) ?_
 refine ax_e (e_st rfl rfl rfl rfl rfl rfl rfl) ?_
 refine ax_nil ?_
 refine cx_keep rfl rfl ?_
 refine cx_seq ?_
 refine cx_seq ?_
 refine cx_draw ?_
 refine ax_q (q_mov rfl) ?_
 first | refine ax_q (q_nilck_ptr rfl) ?_ | refine ax_q (q_nilck_rptr rfl) ?_ | refine ax_q (q_nilck_ip rfl) ?_
 first | refine ax_q (q_fadr_ptr rfl) ?_ | refine ax_q (q_fadr_rptr rfl) ?_ | refine ax_q (q_fadr_ip rfl) ?_
 first | refine ax_q (q_load1_ptr rfl rfl rfl) ?_ | refine ax_q (q_load1_ip rfl) ?_ | refine ax_q (q_load1_rptr rfl rfl rfl rfl) ?_ | refine ax_q (q_load1_rptr rfl rfl (by assumption) rfl) ?_ | refine ax_q (q_load1_rptr rfl rfl (mapAt (by first | assumption | omega)) rfl) ?_
 refine ax_q (q_mov rfl) ?_
 first | refine ax_q (q_nilck_ptr rfl) ?_ | refine ax_q (q_nilck_rptr rfl) ?_ | refine ax_q (q_nilck_ip rfl) ?_
 first | refine ax_q (q_fadr_ptr rfl) ?_ | refine ax_q (q_fadr_rptr rfl) ?_ | refine ax_q (q_fadr_ip rfl) ?_
 first | refine ax_q (q_load1_ptr rfl rfl rfl) ?_ | refine ax_q (q_load1_ip rfl) ?_ | refine ax_q (q_load1_rptr rfl rfl rfl rfl) ?_ | refine ax_q (q_load1_rptr rfl rfl (by assumption) rfl) ?_ | refine ax_q (q_load1_rptr rfl rfl (mapAt (by first | assumption | omega)) rfl) ?_
 first | refine ax_q (q_lenS_map rfl) ?_ | refine ax_q (q_lenS_osl rfl) ?_ | refine ax_q (q_lenS_zs rfl) ?_ | refine ax_q (q_lenS rfl) ?_
 refine ax_q (q_ibin rfl rfl rfl) ?_
 refine ax_nil ?_
 refine cx_keep rfl rfl ?_
 refine cx_cond rfl (fun h0 => ?_) (fun h0 => ?_)
 ·
  have h0 := dT h0
  have hi : (s.pos + 1 - 1).toNat < s.code.length := by omega
  have hb := (s.code[(s.pos + 1 - 1).toNat]).toNat_lt
  have hg : s.code.getD s.pos.toNat 0 = s.code[(s.pos + 1 - 1).toNat] := by
   rw [← getD_at hi]; congr 2; omega
  refine cx_seq ?_
  refine cx_drawL 0 20 (fun _ => false) (fun _ => true) [] ([]) [[0], [0], [21], [22], [23], [24], [0], [26], [27], [28], [0], [30], [31], [32], [33], [29, 34], [35], [36], [25, 37], [38], [39]] [[], [], [], [], [], [], [], [], [], [], [], [], [], [], [], [], [], [], [], [], []] rfl ?_
  first | refine ⟨⟨20, _, []⟩, .inl ⟨rfl, rfl, rfl, locl_of (loc_q (q_mov rfl))⟩, ?_⟩
  first | refine ⟨_, .inr ⟨rfl, _, rfl, .inr ⟨rfl, rfl, .inr rfl, rfl, rfl⟩, loc_q (q_mov rfl)⟩, ?_⟩
  first | refine ⟨_, .inr ⟨rfl, _, rfl, .inr ⟨rfl, rfl, .inr rfl, rfl, rfl⟩, loc_q (q_nilck_ptr rfl)⟩, ?_⟩ | refine ⟨_, .inr ⟨rfl, _, rfl, .inr ⟨rfl, rfl, .inr rfl, rfl, rfl⟩, loc_q (q_nilck_rptr rfl)⟩, ?_⟩ | refine ⟨_, .inr ⟨rfl, _, rfl, .inr ⟨rfl, rfl, .inr rfl, rfl, rfl⟩, loc_q (q_nilck_ip rfl)⟩, ?_⟩
  first | refine ⟨_, .inr ⟨rfl, _, rfl, .inr ⟨rfl, rfl, .inr rfl, rfl, rfl⟩, loc_q (q_fadr_ptr rfl)⟩, ?_⟩ | refine ⟨_, .inr ⟨rfl, _, rfl, .inr ⟨rfl, rfl, .inr rfl, rfl, rfl⟩, loc_q (q_fadr_rptr rfl)⟩, ?_⟩ | refine ⟨_, .inr ⟨rfl, _, rfl, .inr ⟨rfl, rfl, .inr rfl, rfl, rfl⟩, loc_q (q_fadr_ip rfl)⟩, ?_⟩
  first | refine ⟨_, .inr ⟨rfl, _, rfl, .inr ⟨rfl, rfl, .inr rfl, rfl, rfl⟩, loc_q (q_load1_ptr rfl rfl rfl)⟩, ?_⟩ | refine ⟨_, .inr ⟨rfl, _, rfl, .inr ⟨rfl, rfl, .inr rfl, rfl, rfl⟩, loc_q (q_load1_ip rfl)⟩, ?_⟩ | refine ⟨_, .inr ⟨rfl, _, rfl, .inr ⟨rfl, rfl, .inr rfl, rfl, rfl⟩, loc_q (q_load1_rptr rfl rfl rfl rfl)⟩, ?_⟩ | refine ⟨_, .inr ⟨rfl, _, rfl, .inr ⟨rfl, rfl, .inr rfl, rfl, rfl⟩, loc_q (q_load1_rptr rfl rfl (by assumption) rfl)⟩, ?_⟩ | refine ⟨_, .inr ⟨rfl, _, rfl, .inr ⟨rfl, rfl, .inr rfl, rfl, rfl⟩, loc_q (q_load1_rptr rfl rfl (mapAt (by first | assumption | omega)) rfl)⟩, ?_⟩
  first | refine ⟨_, .inr ⟨rfl, _, rfl, .inr ⟨rfl, rfl, .inr rfl, rfl, rfl⟩, loc_q (q_mul rfl rfl (by omega))⟩, ?_⟩
  first | refine ⟨_, .inr ⟨rfl, _, rfl, .inr ⟨rfl, rfl, .inr rfl, rfl, rfl⟩, loc_q (q_mov rfl)⟩, ?_⟩
  first | refine ⟨_, .inr ⟨rfl, _, rfl, .inr ⟨rfl, rfl, .inr rfl, rfl, rfl⟩, loc_q (q_nilck_ptr rfl)⟩, ?_⟩ | refine ⟨_, .inr ⟨rfl, _, rfl, .inr ⟨rfl, rfl, .inr rfl, rfl, rfl⟩, loc_q (q_nilck_rptr rfl)⟩, ?_⟩ | refine ⟨_, .inr ⟨rfl, _, rfl, .inr ⟨rfl, rfl, .inr rfl, rfl, rfl⟩, loc_q (q_nilck_ip rfl)⟩, ?_⟩
  first | refine ⟨_, .inr ⟨rfl, _, rfl, .inr ⟨rfl, rfl, .inr rfl, rfl, rfl⟩, loc_q (q_fadr_ptr rfl)⟩, ?_⟩ | refine ⟨_, .inr ⟨rfl, _, rfl, .inr ⟨rfl, rfl, .inr rfl, rfl, rfl⟩, loc_q (q_fadr_rptr rfl)⟩, ?_⟩ | refine ⟨_, .inr ⟨rfl, _, rfl, .inr ⟨rfl, rfl, .inr rfl, rfl, rfl⟩, loc_q (q_fadr_ip rfl)⟩, ?_⟩
  first | refine ⟨_, .inr ⟨rfl, _, rfl, .inr ⟨rfl, rfl, .inr rfl, rfl, rfl⟩, loc_q (q_load1_ptr rfl rfl rfl)⟩, ?_⟩ | refine ⟨_, .inr ⟨rfl, _, rfl, .inr ⟨rfl, rfl, .inr rfl, rfl, rfl⟩, loc_q (q_load1_ip rfl)⟩, ?_⟩ | refine ⟨_, .inr ⟨rfl, _, rfl, .inr ⟨rfl, rfl, .inr rfl, rfl, rfl⟩, loc_q (q_load1_rptr rfl rfl rfl rfl)⟩, ?_⟩ | refine ⟨_, .inr ⟨rfl, _, rfl, .inr ⟨rfl, rfl, .inr rfl, rfl, rfl⟩, loc_q (q_load1_rptr rfl rfl (by assumption) rfl)⟩, ?_⟩ | refine ⟨_, .inr ⟨rfl, _, rfl, .inr ⟨rfl, rfl, .inr rfl, rfl, rfl⟩, loc_q (q_load1_rptr rfl rfl (mapAt (by first | assumption | omega)) rfl)⟩, ?_⟩
  first | refine ⟨_, .inr ⟨rfl, _, rfl, .inr ⟨rfl, rfl, .inr rfl, rfl, rfl⟩, loc_q (q_mov rfl)⟩, ?_⟩
  first | refine ⟨_, .inr ⟨rfl, _, rfl, .inr ⟨rfl, rfl, .inr rfl, rfl, rfl⟩, loc_q (q_nilck_ptr rfl)⟩, ?_⟩ | refine ⟨_, .inr ⟨rfl, _, rfl, .inr ⟨rfl, rfl, .inr rfl, rfl, rfl⟩, loc_q (q_nilck_rptr rfl)⟩, ?_⟩ | refine ⟨_, .inr ⟨rfl, _, rfl, .inr ⟨rfl, rfl, .inr rfl, rfl, rfl⟩, loc_q (q_nilck_ip rfl)⟩, ?_⟩
  first | refine ⟨_, .inr ⟨rfl, _, rfl, .inr ⟨rfl, rfl, .inr rfl, rfl, rfl⟩, loc_q (q_fadr_ptr rfl)⟩, ?_⟩ | refine ⟨_, .inr ⟨rfl, _, rfl, .inr ⟨rfl, rfl, .inr rfl, rfl, rfl⟩, loc_q (q_fadr_rptr rfl)⟩, ?_⟩ | refine ⟨_, .inr ⟨rfl, _, rfl, .inr ⟨rfl, rfl, .inr rfl, rfl, rfl⟩, loc_q (q_fadr_ip rfl)⟩, ?_⟩
  first | refine ⟨_, .inr ⟨rfl, _, rfl, .inr ⟨rfl, rfl, .inr rfl, rfl, rfl⟩, loc_q (q_load1_ptr rfl rfl rfl)⟩, ?_⟩ | refine ⟨_, .inr ⟨rfl, _, rfl, .inr ⟨rfl, rfl, .inr rfl, rfl, rfl⟩, loc_q (q_load1_ip rfl)⟩, ?_⟩ | refine ⟨_, .inr ⟨rfl, _, rfl, .inr ⟨rfl, rfl, .inr rfl, rfl, rfl⟩, loc_q (q_load1_rptr rfl rfl rfl rfl)⟩, ?_⟩ | refine ⟨_, .inr ⟨rfl, _, rfl, .inr ⟨rfl, rfl, .inr rfl, rfl, rfl⟩, loc_q (q_load1_rptr rfl rfl (by assumption) rfl)⟩, ?_⟩ | refine ⟨_, .inr ⟨rfl, _, rfl, .inr ⟨rfl, rfl, .inr rfl, rfl, rfl⟩, loc_q (q_load1_rptr rfl rfl (mapAt (by first | assumption | omega)) rfl)⟩, ?_⟩
  first | refine ⟨_, .inr ⟨rfl, _, rfl, .inr ⟨rfl, rfl, .inr rfl, rfl, rfl⟩, loc_q (q_sub rfl rfl (by omega))⟩, ?_⟩
  first | refine ⟨_, .inr ⟨rfl, _, rfl, .inr ⟨rfl, rfl, .inr rfl, rfl, rfl⟩, loc_q (q_ixI rfl rfl (by omega) (mapAt hi))⟩, ?_⟩
  first | refine ⟨_, .inr ⟨rfl, _, rfl, .inr ⟨rfl, rfl, .inr rfl, rfl, rfl⟩, loc_q (q_load1_ptr rfl rfl rfl)⟩, ?_⟩ | refine ⟨_, .inr ⟨rfl, _, rfl, .inr ⟨rfl, rfl, .inr rfl, rfl, rfl⟩, loc_q (q_load1_ip rfl)⟩, ?_⟩ | refine ⟨_, .inr ⟨rfl, _, rfl, .inr ⟨rfl, rfl, .inr rfl, rfl, rfl⟩, loc_q (q_load1_rptr rfl rfl rfl rfl)⟩, ?_⟩ | refine ⟨_, .inr ⟨rfl, _, rfl, .inr ⟨rfl, rfl, .inr rfl, rfl, rfl⟩, loc_q (q_load1_rptr rfl rfl (by assumption) rfl)⟩, ?_⟩ | refine ⟨_, .inr ⟨rfl, _, rfl, .inr ⟨rfl, rfl, .inr rfl, rfl, rfl⟩, loc_q (q_load1_rptr rfl rfl (mapAt (by first | assumption | omega)) rfl)⟩, ?_⟩
  first | refine ⟨_, .inr ⟨rfl, _, rfl, .inr ⟨rfl, rfl, .inr rfl, rfl, rfl⟩, loc_q (q_convB rfl)⟩, ?_⟩ | refine ⟨_, .inr ⟨rfl, _, rfl, .inr ⟨rfl, rfl, .inr rfl, rfl, rfl⟩, loc_q (q_convI rfl (by omega))⟩, ?_⟩ | refine ⟨_, .inr ⟨rfl, _, rfl, .inr ⟨rfl, rfl, .inr rfl, rfl, rfl⟩, loc_q (q_convU8 rfl)⟩, ?_⟩ | refine ⟨_, .inr ⟨rfl, _, rfl, .inr ⟨rfl, rfl, .inr rfl, rfl, rfl⟩, loc_q (q_conv rfl)⟩, ?_⟩
  first | refine ⟨_, .inr ⟨rfl, _, rfl, .inr ⟨rfl, rfl, .inr rfl, rfl, rfl⟩, loc_q (q_add rfl rfl (by omega))⟩, ?_⟩
  first | refine ⟨_, .inr ⟨rfl, _, rfl, .inr ⟨rfl, rfl, .inr rfl, rfl, rfl⟩, loc_q (q_add rfl rfl (by omega))⟩, ?_⟩
  first | refine ⟨_, .inr ⟨rfl, _, rfl, .inr ⟨rfl, rfl, .inr rfl, rfl, rfl⟩, loc_q (q_mod rfl rfl (by omega) (by omega))⟩, ?_⟩
  refine ⟨rfl, ?_⟩
  first | refine ax_q (q_nilck_ptr rfl) ?_ | refine ax_q (q_nilck_rptr rfl) ?_ | refine ax_q (q_nilck_ip rfl) ?_
  first | refine ax_q (q_fadr_ptr rfl) ?_ | refine ax_q (q_fadr_rptr rfl) ?_ | refine ax_q (q_fadr_ip rfl) ?_
  refine ax_e (e_st rfl rfl rfl rfl rfl rfl rfl) ?_
  refine ax_nil ?_
  refine cx_keep rfl rfl ?_
  refine cx_seq ?_
  refine cx_draw ?_
  refine ax_q (q_mov rfl) ?_
  first | refine ax_q (q_nilck_ptr rfl) ?_ | refine ax_q (q_nilck_rptr rfl) ?_ | refine ax_q (q_nilck_ip rfl) ?_
  first | refine ax_q (q_fadr_ptr rfl) ?_ | refine ax_q (q_fadr_rptr rfl) ?_ | refine ax_q (q_fadr_ip rfl) ?_
  first | refine ax_q (q_load1_ptr rfl rfl rfl) ?_ | refine ax_q (q_load1_ip rfl) ?_ | refine ax_q (q_load1_rptr rfl rfl rfl rfl) ?_ | refine ax_q (q_load1_rptr rfl rfl (by assumption) rfl) ?_ | refine ax_q (q_load1_rptr rfl rfl (mapAt (by first | assumption | omega)) rfl) ?_
  refine ax_q (q_mov rfl) ?_
  first | refine ax_q (q_nilck_ptr rfl) ?_ | refine ax_q (q_nilck_rptr rfl) ?_ | refine ax_q (q_nilck_ip rfl) ?_
  first | refine ax_q (q_fadr_ptr rfl) ?_ | refine ax_q (q_fadr_rptr rfl) ?_ | refine ax_q (q_fadr_ip rfl) ?_
  first | refine ax_q (q_load1_ptr rfl rfl rfl) ?_ | refine ax_q (q_load1_ip rfl) ?_ | refine ax_q (q_load1_rptr rfl rfl rfl rfl) ?_ | refine ax_q (q_load1_rptr rfl rfl (by assumption) rfl) ?_ | refine ax_q (q_load1_rptr rfl rfl (mapAt (by first | assumption | omega)) rfl) ?_
  refine ax_q (q_sub rfl rfl (by omega)) ?_
  refine ax_q (q_ixI rfl rfl (by omega) (mapAt hi)) ?_
  first | refine ax_q (q_load1_ptr rfl rfl rfl) ?_ | refine ax_q (q_load1_ip rfl) ?_ | refine ax_q (q_load1_rptr rfl rfl rfl rfl) ?_ | refine ax_q (q_load1_rptr rfl rfl (by assumption) rfl) ?_ | refine ax_q (q_load1_rptr rfl rfl (mapAt (by first | assumption | omega)) rfl) ?_
  first | refine ax_q (q_convB rfl) ?_ | refine ax_q (q_convI rfl (by omega)) ?_ | refine ax_q (q_convU8 rfl) ?_ | refine ax_q (q_conv rfl) ?_
  refine ax_q (q_mov rfl) ?_
  refine ax_nil ?_
  refine cx_keep rfl rfl ?_
  refine cx_ret (retN id [1000] rfl rfl rfl rfl rfl ?_)
  rw [byteF_1 h0, hg]; exact ⟨rfl, rfl⟩
 ·
  have h0 := dF h0
  refine cx_skip ?_
  refine cx_keep rfl rfl ?_
  refine cx_seq ?_
  refine cx_seq ?_
  refine cx_ops ?_
  refine ax_q (q_mov rfl) ?_
  first | refine ax_q (q_nilck_ptr rfl) ?_ | refine ax_q (q_nilck_rptr rfl) ?_ | refine ax_q (q_nilck_ip rfl) ?_
  first | refine ax_q (q_fadr_ptr rfl) ?_ | refine ax_q (q_fadr_rptr rfl) ?_ | refine ax_q (q_fadr_ip rfl) ?_
  first | refine ax_q (q_load1_ptr rfl rfl rfl) ?_ | refine ax_q (q_load1_ip rfl) ?_ | refine ax_q (q_load1_rptr rfl rfl rfl rfl) ?_ | refine ax_q (q_load1_rptr rfl rfl (by assumption) rfl) ?_ | refine ax_q (q_load1_rptr rfl rfl (mapAt (by first | assumption | omega)) rfl) ?_
  refine ax_q (q_ibin rfl rfl rfl) ?_
  refine ax_nil ?_
  refine cx_keep rfl rfl ?_
  refine cx_cond rfl (fun h1 => ?_) (fun h1 => ?_)
  ·
   have h1 := dT h1
   refine cx_seq ?_
   refine cx_ops ?_
   refine ax_q (q_mov rfl) ?_
   refine ax_nil ?_
   refine cx_keep rfl rfl ?_
   refine cx_ret (retN id [1000] rfl rfl rfl rfl rfl ?_)
   rw [byteF_2 h0 h1]; exact ⟨rfl, rfl⟩
  ·
   have h1 := dF h1
   refine cx_skip ?_
   refine cx_keep rfl rfl ?_
   refine cx_seq ?_
   refine cx_ops ?_
   refine ax_q (q_mov rfl) ?_
   refine ax_q (q_mov rfl) ?_
   first | refine ax_q (q_nilck_ptr rfl) ?_ | refine ax_q (q_nilck_rptr rfl) ?_ | refine ax_q (q_nilck_ip rfl) ?_
   first | refine ax_q (q_fadr_ptr rfl) ?_ | refine ax_q (q_fadr_rptr rfl) ?_ | refine ax_q (q_fadr_ip rfl) ?_
   first | refine ax_q (q_load1_ptr rfl rfl rfl) ?_ | refine ax_q (q_load1_ip rfl) ?_ | refine ax_q (q_load1_rptr rfl rfl rfl rfl) ?_ | refine ax_q (q_load1_rptr rfl rfl (by assumption) rfl) ?_ | refine ax_q (q_load1_rptr rfl rfl (mapAt (by first | assumption | omega)) rfl) ?_
   refine ax_q (q_mul rfl rfl (by omega)) ?_
   refine ax_q (q_add rfl rfl (by omega)) ?_
   refine ax_q (q_mod rfl rfl (by omega) (by omega)) ?_
   first | refine ax_q (q_nilck_ptr rfl) ?_ | refine ax_q (q_nilck_rptr rfl) ?_ | refine ax_q (q_nilck_ip rfl) ?_
   first | refine ax_q (q_fadr_ptr rfl) ?_ | refine ax_q (q_fadr_rptr rfl) ?_ | refine ax_q (q_fadr_ip rfl) ?_
   refine ax_e (e_st rfl rfl rfl rfl rfl rfl rfl) ?_
   refine ax_nil ?_
   refine cx_keep rfl rfl ?_
   refine cx_seq ?_
   refine cx_ops ?_
   refine ax_q (q_mov rfl) ?_
   first | refine ax_q (q_nilck_ptr rfl) ?_ | refine ax_q (q_nilck_rptr rfl) ?_ | refine ax_q (q_nilck_ip rfl) ?_
   first | refine ax_q (q_fadr_ptr rfl) ?_ | refine ax_q (q_fadr_rptr rfl) ?_ | refine ax_q (q_fadr_ip rfl) ?_
   first | refine ax_q (q_load1_ptr rfl rfl rfl) ?_ | refine ax_q (q_load1_ip rfl) ?_ | refine ax_q (q_load1_rptr rfl rfl rfl rfl) ?_ | refine ax_q (q_load1_rptr rfl rfl (by assumption) rfl) ?_ | refine ax_q (q_load1_rptr rfl rfl (mapAt (by first | assumption | omega)) rfl) ?_
   refine ax_q (q_div rfl rfl (by omega) (by omega) (by omega)) ?_
   refine ax_q (q_mod rfl rfl (by omega) (by omega)) ?_
   refine ax_q (q_mov rfl) ?_
   refine ax_nil ?_
   refine cx_keep rfl rfl ?_
   refine cx_ret (retN id [1000] rfl rfl rfl rfl rfl ?_)
   rw [byteF_3 h0 h1]; exact ⟨rfl, rfl⟩


/- (ptr loop.example/g00332/spec.l00Src).next -/
def k_c_next : XCode :=
 .seq (.ops [.op (some 4) (.mov (.k (.int .i64 0)))])
 (.keep [0, 1] (.seq (.seq (.ops [.op (some 8) (.mov (.t 1)),
   .op (some 9) (.bin .leq (.t 8) (.k (.int .i64 1)))])
  (.keep [0, 1, 9] (.cond (.t 9)
  (.seq (.ops [.op (some 4) (.mov (.k (.int .i64 0)))])
   (.keep [4] (.ret)))
  (.skip))))
 (.keep [0, 1] (.seq (.seq (.ops [.op (some 10) (.mov (.t 1)),
   .op (some 11) (.bin .leq (.t 10) (.k (.int .i64 256)))])
  (.keep [0, 1, 11] (.cond (.t 11)
  (.seq (.ops [.op (some 12) (.mov (.t 0)),
    .call (some 13) 111 [.t 12],
    .op (some 14) (.mov (.t 1)),
    .op (some 15) (.bin .rem (.t 13) (.t 14)),
    .op (some 4) (.mov (.t 15))])
   (.keep [4] (.ret)))
  (.skip))))
 (.keep [0, 1] (.seq (.ops [.op (some 16) (.mov (.t 0)),
   .call (some 17) 111 [.t 16],
   .op (some 5) (.mov (.t 17))])
 (.keep [0, 1, 5] (.seq (.ops [.op (some 18) (.mov (.t 0)),
   .call (some 19) 111 [.t 18],
   .op (some 6) (.mov (.t 19))])
 (.keep [0, 1, 5, 6] (.seq (.ops [.op (some 20) (.mov (.t 0)),
   .call (some 21) 111 [.t 20],
   .op (some 7) (.mov (.t 21))])
 (.keep [1, 5, 6, 7] (.seq (.ops [.op (some 22) (.mov (.t 5)),
   .op (some 23) (.bin .mul (.t 22) (.k (.int .i64 65536))),
   .op (some 24) (.mov (.t 6)),
   .op (some 25) (.bin .mul (.t 24) (.k (.int .i64 256))),
   .op (some 26) (.bin .add (.t 23) (.t 25)),
   .op (some 27) (.mov (.t 7)),
   .op (some 28) (.bin .add (.t 26) (.t 27)),
   .op (some 29) (.mov (.t 1)),
   .op (some 30) (.bin .rem (.t 28) (.t 29)),
   .op (some 4) (.mov (.t 30))])
 (.keep [4] (.ret))))))))))))))
theorem k_c_next_fits : fitsF Try.prog 96 ⟨31, k_c_next, [.t 4]⟩ = true := by kernel_rfl
theorem c_next {s : Src} {m : Int} {n : Nat} (hs : s.ok (n + 3)) : Con Try.prog noMv 96 [.ptr 1000 0, int m] (s.h 1000) (fun r h => r = int (nextF s m).1 ∧ h = ((nextF s m).2).h 1000) := by
 refine con_of2 k_c_next_fits rfl fun C hP hmv => ?_
 unfold k_c_next
 refine cx_seq ?_
 refine cx_ops ?_
 refine ax_q (q_mov rfl) ?_
 refine ax_nil ?_
 refine cx_keep rfl rfl ?_
 refine cx_seq ?_
 refine cx_seq ?_
 refine cx_ops ?_
 refine ax_q (q_mov rfl) ?_
 refine ax_q (q_ibin rfl rfl rfl) ?_
 refine ax_nil ?_
 refine cx_keep rfl rfl ?_
 refine cx_cond rfl (fun h0 => ?_) (fun h0 => ?_)
 ·
  have h0 := dT h0
  refine cx_seq ?_
  refine cx_ops ?_
  refine ax_q (q_mov rfl) ?_
  refine ax_nil ?_
  refine cx_keep rfl rfl ?_
  refine cx_ret (retN id [1000] rfl rfl rfl rfl rfl ?_)
  rw [nextF_1 h0]; exact ⟨rfl, rfl⟩
 ·
  have h0 := dF h0
  refine cx_skip ?_
  refine cx_keep rfl rfl ?_
  refine cx_seq ?_
  refine cx_seq ?_
  refine cx_ops ?_
  refine ax_q (q_mov rfl) ?_
  refine ax_q (q_ibin rfl rfl rfl) ?_
  refine ax_nil ?_
  refine cx_keep rfl rfl ?_
  refine cx_cond rfl (fun h1 => ?_) (fun h1 => ?_)
  ·
   have h1 := dT h1
   refine cx_seq ?_
   refine cx_ops ?_
   refine ax_q (q_mov rfl) ?_
   obtain ⟨k1, k2, k3⟩ := byteF_ok (n := n + 2) hs
   refine ax_call rfl (vcall_own (c_byte (n := n + 2) ?_) hP hmv false (fun _ => 1000) [1000] ⟨rfl, rfl, rfl, rfl, ⟨rfl, trivial⟩, rfl, rfl, rfl⟩ (.pass rfl rfl .nil) ?_)
   ·
    first | assumption | omega | (simp; done) | (simp; omega)
   rintro r h ⟨rfl, rfl⟩
   refine ⟨fun _ => 1000, [], ⟨rfl, rfl, rfl, rfl, mem1 rfl, rfl, rfl, fun h => absurd h Bool.false_ne_true⟩, ?_⟩
   refine ax_q (q_mov rfl) ?_
   refine ax_q (q_mod rfl rfl (by omega) (by omega)) ?_
   refine ax_q (q_mov rfl) ?_
   refine ax_nil ?_
   refine cx_keep rfl rfl ?_
   refine cx_ret (retN id [1000] rfl rfl rfl rfl rfl ?_)
   rw [nextF_2 h0 h1]; exact ⟨rfl, rfl⟩
  ·
   have h1 := dF h1
   refine cx_skip ?_
   refine cx_keep rfl rfl ?_
   refine cx_seq ?_
   refine cx_ops ?_
   refine ax_q (q_mov rfl) ?_
   obtain ⟨k1, k2, k3⟩ := byteF_ok (n := n + 2) hs
   obtain ⟨k4, k5, k6⟩ := byteF_ok (n := n + 1) k1
   obtain ⟨k7, k8, k9⟩ := byteF_ok (n := n) k4
   refine ax_call rfl (vcall_own (c_byte (n := n + 2) ?_) hP hmv false (fun _ => 1000) [1000] ⟨rfl, rfl, rfl, rfl, ⟨rfl, trivial⟩, rfl, rfl, rfl⟩ (.pass rfl rfl .nil) ?_)
   ·
    first | assumption | omega | (simp; done) | (simp; omega)
   rintro r h ⟨rfl, rfl⟩
   refine ⟨fun _ => 1000, [], ⟨rfl, rfl, rfl, rfl, mem1 rfl, rfl, rfl, fun h => absurd h Bool.false_ne_true⟩, ?_⟩
   refine ax_q (q_mov rfl) ?_
   refine ax_nil ?_
   refine cx_keep rfl rfl ?_
   refine cx_seq ?_
   refine cx_ops ?_
   refine ax_q (q_mov rfl) ?_
   refine ax_call rfl (vcall_own (c_byte (n := n + 1) ?_) hP hmv false (fun _ => 1000) [1000] ⟨rfl, rfl, rfl, rfl, ⟨rfl, trivial⟩, rfl, rfl, rfl⟩ (.pass rfl rfl .nil) ?_)
   ·
    first | assumption | omega | (simp; done) | (simp; omega)
   rintro r h ⟨rfl, rfl⟩
   refine ⟨fun _ => 1000, [], ⟨rfl, rfl, rfl, rfl, mem1 rfl, rfl, rfl, fun h => absurd h Bool.false_ne_true⟩, ?_⟩
   refine ax_q (q_mov rfl) ?_
   refine ax_nil ?_
   refine cx_keep rfl rfl ?_
   refine cx_seq ?_
   refine cx_ops ?_
   refine ax_q (q_mov rfl) ?_
   refine ax_call rfl (vcall_own (c_byte (n := n) ?_) hP hmv false (fun _ => 1000) [1000] ⟨rfl, rfl, rfl, rfl, ⟨rfl, trivial⟩, rfl, rfl, rfl⟩ (.pass rfl rfl .nil) ?_)
   ·
    first | assumption | omega | (simp; done) | (simp; omega)
   rintro r h ⟨rfl, rfl⟩
   refine ⟨fun _ => 1000, [], ⟨rfl, rfl, rfl, rfl, mem1 rfl, rfl, rfl, fun h => absurd h Bool.false_ne_true⟩, ?_⟩
   refine ax_q (q_mov rfl) ?_
   refine ax_nil ?_
   refine cx_keep rfl rfl ?_
   refine cx_seq ?_
   refine cx_ops ?_
   refine ax_q (q_mov rfl) ?_
   refine ax_q (q_mul rfl rfl (by omega)) ?_
   refine ax_q (q_mov rfl) ?_
   refine ax_q (q_mul rfl rfl (by omega)) ?_
   refine ax_q (q_add rfl rfl (by omega)) ?_
   refine ax_q (q_mov rfl) ?_
   refine ax_q (q_add rfl rfl (by omega)) ?_
   refine ax_q (q_mov rfl) ?_
   refine ax_q (q_mod rfl rfl (by omega) (by omega)) ?_
   refine ax_q (q_mov rfl) ?_
   refine ax_nil ?_
   refine cx_keep rfl rfl ?_
   refine cx_ret (retN id [1000] rfl rfl rfl rfl rfl ?_)
   rw [nextF_3 h0 h1]; exact ⟨rfl, rfl⟩


/- (ptr loop.example/g00332/spec.l00Src).pick -/
def k_c_pick : XCode :=
 .seq (.ops [.op (some 4) (.mov (.k (.str [])))])
 (.keep [0, 1] (.seq (.seq (.ops [.op (some 5) (.mov (.t 1)),
   .op (some 6) (.lenS (.t 5)),
   .op (some 7) (.bin .eql (.t 6) (.k (.int .i64 0)))])
  (.keep [0, 1, 7] (.cond (.t 7)
  (.seq (.ops [.op (some 4) (.mov (.k (.str [])))])
   (.keep [4] (.ret)))
  (.skip))))
 (.keep [0, 1] (.seq (.ops [.op (some 8) (.mov (.t 1)),
   .op (some 9) (.mov (.t 0)),
   .op (some 10) (.mov (.t 1)),
   .op (some 11) (.lenS (.t 10)),
   .call (some 12) 96 [.t 9, .t 11],
   .op (some 13) (.iadr 1 (.t 8) (.t 12)),
   .op (some 14) (.load1 (.t 13)),
   .op (some 4) (.mov (.t 14))])
 (.keep [4] (.ret))))))
theorem k_c_pick_fits : fitsF Try.prog 98 ⟨15, k_c_pick, [.t 4]⟩ = true := by kernel_rfl
theorem c_pick {s : Src} {ts : List Str} {n : Nat} (hs : s.ok (n + 3)) (ht : 1 ≤ ts.length ∧ ts.length ≤ 1000) : Con Try.prog noMv 98 [.ptr 1000 0, .d (.sl 1 (ts.map strRow))] (s.h 1000) (fun r h => r = str (pickF s ts).1 ∧ h = ((pickF s ts).2).h 1000) := by
 refine con_of2 k_c_pick_fits rfl fun C hP hmv => ?_
 unfold k_c_pick
 refine cx_seq ?_
 refine cx_ops ?_
 refine ax_q (q_mov rfl) ?_
 refine ax_nil ?_
 refine cx_keep rfl rfl ?_
 refine cx_seq ?_
 refine cx_seq ?_
 refine cx_ops ?_
 refine ax_q (q_mov rfl) ?_
 first | refine ax_q (q_lenS_map rfl) ?_ | refine ax_q (q_lenS_osl rfl) ?_ | refine ax_q (q_lenS_zs rfl) ?_ | refine ax_q (q_lenS rfl) ?_
 refine ax_q (q_ibin rfl rfl rfl) ?_
 refine ax_nil ?_
 refine cx_keep rfl rfl ?_
 refine cx_cond rfl (fun h0 => ?_) (fun h0 => ?_)
 ·
  have h0 := dT h0
  exfalso; omega
 ·
  have h0 := dF h0
  refine cx_skip ?_
  refine cx_keep rfl rfl ?_
  refine cx_seq ?_
  refine cx_ops ?_
  refine ax_q (q_mov rfl) ?_
  refine ax_q (q_mov rfl) ?_
  refine ax_q (q_mov rfl) ?_
  first | refine ax_q (q_lenS_map rfl) ?_ | refine ax_q (q_lenS_osl rfl) ?_ | refine ax_q (q_lenS_zs rfl) ?_ | refine ax_q (q_lenS rfl) ?_
  obtain ⟨k1, k2, k3⟩ := nextF_ok (s := s) (n := ts.length) (k := n) hs
  have k3 := k3 (by omega)
  have hk : (nextF s ts.length).1.toNat < ts.length := by omega
  refine ax_call rfl (vcall_own (c_next (n := n) ?_) hP hmv false (fun _ => 1000) [1000] ⟨rfl, rfl, rfl, rfl, ⟨rfl, trivial⟩, rfl, rfl, rfl⟩ (.pass rfl rfl (.pass rfl rfl .nil)) ?_)
  ·
   first | assumption | omega | (simp; done) | (simp; omega)
  rintro r h ⟨rfl, rfl⟩
  refine ⟨fun _ => 1000, [], ⟨rfl, rfl, rfl, rfl, mem1 rfl, rfl, rfl, fun h => absurd h Bool.false_ne_true⟩, ?_⟩
  refine ax_q (q_ixI rfl rfl (by omega) (strAt hk)) ?_
  first | refine ax_q (q_load1_ptr rfl rfl rfl) ?_ | refine ax_q (q_load1_ip rfl) ?_ | refine ax_q (q_load1_rptr rfl rfl rfl rfl) ?_ | refine ax_q (q_load1_rptr rfl rfl (by assumption) rfl) ?_ | refine ax_q (q_load1_rptr rfl rfl (mapAt (by first | assumption | omega)) rfl) ?_
  refine ax_q (q_mov rfl) ?_
  refine ax_nil ?_
  refine cx_keep rfl rfl ?_
  refine cx_ret (retN id [1000] rfl rfl rfl rfl rfl ?_)
  exact ⟨rfl, rfl⟩


/- (ptr loop.example/g00332/spec.l00Src).value -/
def k_c_value : XCode :=
 .seq (.ops [.op (some 2) (.alloc [.int .i64 0, .int .i64 0, .str []])])
 (.keep [0, 2] (.seq (.seq (.ops [.op (some 3) (.mov (.t 0)),
   .call (some 4) 96 [.t 3, .k (.int .i64 4)]])
  (.keep [0, 2, 4] (.block 0 (.seq (.ops [.op (some 6) (.bin .eql (.t 4) (.k (.int .i64 0))),
    .op (some 5) (.mov (.t 6))])
  (.keep [0, 2, 4, 5] (.cond (.t 5)
   (.seq (.ops [.op (some 7) (.build [.int .i64 0, .int .i64 0, .str []] []),
     .op none (.store 3 (.t 2) (.t 7))])
   (.keep [2] (.ret)))
   (.seq (.ops [.op (some 9) (.bin .eql (.t 4) (.k (.int .i64 1))),
     .op (some 8) (.mov (.t 9))])
   (.keep [0, 2, 8] (.cond (.t 8)
    (.seq (.ops [.op (some 10) (.mov (.t 0)),
      .op (some 11) (.bslice 1 [.k (.str []), .k (.str [97]), .k (.str [97, 98]), .k (.str [97, 98, 99]), .k (.str [98]), .k (.str [122, 122])]),
      .call (some 12) 98 [.t 10, .t 11],
      .op (some 13) (.build [.int .i64 0, .int .i64 0, .str []] [(0, 1, .k (.int .i64 2)), (2, 1, .t 12)]),
      .op none (.store 3 (.t 2) (.t 13))])
    (.keep [2] (.ret)))
    (.skip))))))))))
 (.keep [0, 2] (.seq (.ops [.op (some 14) (.mov (.t 0)),
   .call (some 15) 96 [.t 14, .k (.int .i64 20)],
   .op (some 16) (.bin .sub (.t 15) (.k (.int .i64 5))),
   .op (some 17) (.mov (.t 0)),
   .call (some 18) 96 [.t 17, .k (.int .i64 20)],
   .op (some 19) (.bslice 1 [.t 16, .t 18, .k (.int .i64 1000000000), .k (.int .i64 (-1000000000))]),
   .op (some 20) (.mov (.t 0)),
   .call (some 21) 96 [.t 20, .k (.int .i64 8)],
   .op (some 22) (.bin .quo (.t 21) (.k (.int .i64 2))),
   .op (some 23) (.iadr 1 (.t 19) (.t 22)),
   .op (some 24) (.load1 (.t 23)),
   .op (some 25) (.build [.int .i64 0, .int .i64 0, .str []] [(0, 1, .k (.int .i64 1)), (1, 1, .t 24)]),
   .op none (.store 3 (.t 2) (.t 25))])
 (.keep [2] (.ret))))))
theorem k_c_value_fits : fitsF Try.prog 97 ⟨26, k_c_value, [.cN 2 3]⟩ = true := by kernel_rfl
theorem c_value {s : Src} {n : Nat} (hs : s.ok (n + 12)) : Con Try.prog noMv 97 [.ptr 1000 0] (s.h 1000) (fun r h => r = (valueF s).1.av ∧ h = ((valueF s).2).h 1000) := by
 refine con_of2 k_c_value_fits rfl fun C hP hmv => ?_
 unfold k_c_value
 obtain ⟨k1, k2, k3⟩ := nextF_ok (s := s) (n := 4) (k := n + 9) hs
 have k3 := k3 (by omega)
 refine cx_seq ?_
 refine cx_ops ?_
 refine ax_e (e_alloc (by decide) rfl rfl) ?_
 refine ax_nil ?_
 refine cx_keep rfl rfl ?_
 refine cx_seq ?_
 refine cx_seq ?_
 refine cx_ops ?_
 refine ax_q (q_mov rfl) ?_
 refine ax_call rfl (vcall_own (c_next (n := n + 9) ?_) hP hmv false (fun _ => 1000) [1000] ⟨rfl, rfl, rfl, rfl, ⟨rfl, trivial⟩, rfl, rfl, rfl⟩ (.pass rfl rfl (.pass rfl rfl .nil)) ?_)
 ·
  first | assumption | omega | (simp; done) | (simp; omega)
 rintro r h ⟨rfl, rfl⟩
 refine ⟨fun _ => 1000, [], ⟨rfl, rfl, rfl, rfl, mem1 rfl, rfl, rfl, fun h => absurd h Bool.false_ne_true⟩, ?_⟩
 refine ax_nil ?_
 refine cx_keep rfl rfl ?_
 refine cx_block ?_
 refine cx_seq ?_
 refine cx_ops ?_
 refine ax_q (q_ibin rfl rfl rfl) ?_
 refine ax_q (q_mov rfl) ?_
 refine ax_nil ?_
 refine cx_keep rfl rfl ?_
 refine cx_cond rfl (fun h0 => ?_) (fun h0 => ?_)
 ·
  have h0 := dT h0
  refine cx_seq ?_
  refine cx_ops ?_
  refine ax_q (q_build rfl) ?_
  refine ax_e (e_st rfl rfl rfl rfl rfl rfl rfl) ?_
  refine ax_nil ?_
  refine cx_keep rfl rfl ?_
  refine cx_ret (retN id [1000] rfl rfl rfl rfl rfl ?_)
  unfold valueF; rw [if_pos h0]; exact ⟨rfl, rfl⟩
 ·
  have h0 := dF h0
  refine cx_seq ?_
  refine cx_ops ?_
  refine ax_q (q_ibin rfl rfl rfl) ?_
  refine ax_q (q_mov rfl) ?_
  refine ax_nil ?_
  refine cx_keep rfl rfl ?_
  refine cx_cond rfl (fun h1 => ?_) (fun h1 => ?_)
  ·
   have h1 := dT h1
   refine cx_seq ?_
   refine cx_ops ?_
   refine ax_q (q_mov rfl) ?_
   refine ax_e (e_bslice rfl (by decide) rfl rfl) ?_
   refine ax_wk (wk_frz 11 11 rfl rfl (.whole rfl) rfl) ?_
   refine ax_call rfl (vcall_own (c_pick (ts := vTexts) (n := n) (k1.mono (by omega)) (by decide)) hP hmv false (fun _ => 1000) [1000] ⟨rfl, rfl, rfl, rfl, ⟨rfl, trivial⟩, rfl, rfl, rfl⟩ (.pass rfl rfl (.pass rfl rfl .nil)) ?_)
   rintro r h ⟨rfl, rfl⟩
   refine ⟨fun _ => 1000, [], ⟨rfl, rfl, rfl, rfl, mem1 rfl, rfl, rfl, fun h => absurd h Bool.false_ne_true⟩, ?_⟩
   refine ax_q (q_build rfl) ?_
   refine ax_e (e_st rfl rfl rfl rfl rfl rfl rfl) ?_
   refine ax_nil ?_
   refine cx_keep rfl rfl ?_
   refine cx_ret (retN id [1000] rfl rfl rfl rfl rfl ?_)
   unfold valueF; rw [if_neg h0, if_pos h1]; exact ⟨rfl, rfl⟩
  ·
   have h1 := dF h1
   refine cx_skip ?_
   refine cx_keep rfl rfl ?_
   refine cx_seq ?_
   refine cx_ops ?_
   refine ax_q (q_mov rfl) ?_
   obtain ⟨a1, a2, a3⟩ := nextF_ok (s := (nextF s 4).2) (n := 20) (k := n + 6) (k1.mono (by omega))
   have a3 := a3 (by omega)
   obtain ⟨b1, b2, b3⟩ := nextF_ok (s := (nextF (nextF s 4).2 20).2) (n := 20) (k := n + 3) (a1.mono (by omega))
   have b3 := b3 (by omega)
   obtain ⟨d1, d2, d3⟩ := nextF_ok (s := vSrc (nextF s 4).2) (n := 8) (k := n) b1
   have d3 := d3 (by omega)
   refine ax_call rfl (vcall_own (c_next (n := n + 6) ?_) hP hmv false (fun _ => 1000) [1000] ⟨rfl, rfl, rfl, rfl, ⟨rfl, trivial⟩, rfl, rfl, rfl⟩ (.pass rfl rfl (.pass rfl rfl .nil)) ?_)
   ·
    first | assumption | omega | (simp; done) | (simp; omega)
   rintro r h ⟨rfl, rfl⟩
   refine ⟨fun _ => 1000, [], ⟨rfl, rfl, rfl, rfl, mem1 rfl, rfl, rfl, fun h => absurd h Bool.false_ne_true⟩, ?_⟩
   refine ax_q (q_sub rfl rfl (by omega)) ?_
   refine ax_q (q_mov rfl) ?_
   refine ax_call rfl (vcall_own (c_next (n := n + 3) ?_) hP hmv false (fun _ => 1000) [1000] ⟨rfl, rfl, rfl, rfl, ⟨rfl, trivial⟩, rfl, rfl, rfl⟩ (.pass rfl rfl (.pass rfl rfl .nil)) ?_)
   ·
    first | assumption | omega | (simp; done) | (simp; omega)
   rintro r h ⟨rfl, rfl⟩
   refine ⟨fun _ => 1000, [], ⟨rfl, rfl, rfl, rfl, mem1 rfl, rfl, rfl, fun h => absurd h Bool.false_ne_true⟩, ?_⟩
   refine ax_e (e_bslice rfl (by decide) rfl rfl) ?_
   refine ax_q (q_mov rfl) ?_
   refine ax_call rfl (vcall_own (c_next (s := vSrc (nextF s 4).2) (n := n) ?_) hP hmv false (fun _ => 1000) [1000] ⟨rfl, rfl, rfl, rfl, ⟨rfl, trivial⟩, rfl, rfl, rfl⟩ (.pass rfl rfl (.pass rfl rfl .nil)) ?_)
   ·
    first | assumption | omega | (simp; done) | (simp; omega)
   rintro r h ⟨rfl, rfl⟩
   refine ⟨fun _ => 1000, [], ⟨rfl, rfl, rfl, rfl, mem1 rfl, rfl, rfl, fun h => absurd h Bool.false_ne_true⟩, ?_⟩
   refine ax_q (q_div rfl rfl (by omega) (by omega) (by omega)) ?_
   refine ax_q (q_ixoI rfl rfl (by omega) (by simp only [List.length_cons, List.length_nil]; omega)) ?_
   refine ax_q (q_load1_rptr rfl rfl (dAt (ds := vNums (nextF s 4).2) (by unfold vNums; simp only [List.length_cons, List.length_nil]; omega)) rfl) ?_
   refine ax_q (q_build rfl) ?_
   refine ax_e (e_st rfl rfl rfl rfl rfl rfl rfl) ?_
   refine ax_nil ?_
   refine cx_keep rfl rfl ?_
   refine cx_ret (retN id [1000] rfl rfl rfl rfl rfl ?_)
   unfold valueF; rw [if_neg h0, if_neg h1]; exact ⟨rfl, rfl⟩


/- (ptr loop.example/g00332/spec.l00Src).chance -/
def k_c_chance : XCode :=
 .seq (.ops [.op (some 4) (.mov (.k (.bool false)))])
 (.keep [0, 1] (.seq (.ops [.op (some 5) (.mov (.t 0)),
   .op (some 6) (.mov (.t 1)),
   .call (some 7) 96 [.t 5, .t 6],
   .op (some 8) (.mov (.t 1)),
   .op (some 9) (.bin .sub (.t 8) (.k (.int .i64 1))),
   .op (some 10) (.bin .eql (.t 7) (.t 9)),
   .op (some 4) (.mov (.t 10))])
 (.keep [4] (.ret))))
theorem k_c_chance_fits : fitsF Try.prog 110 ⟨11, k_c_chance, [.t 4]⟩ = true := by kernel_rfl
theorem c_chance {s : Src} {m : Int} {n : Nat} (hs : s.ok (n + 3)) (hm : 0 ≤ m ∧ m ≤ 1000000000) : Con Try.prog noMv 110 [.ptr 1000 0, int m] (s.h 1000) (fun r h => r = bool (chanceF s m).1 ∧ h = ((chanceF s m).2).h 1000) := by
 refine con_of2 k_c_chance_fits rfl fun C hP hmv => ?_
 unfold k_c_chance
 refine cx_seq ?_
 refine cx_ops ?_
 refine ax_q (q_mov rfl) ?_
 refine ax_nil ?_
 refine cx_keep rfl rfl ?_
 refine cx_seq ?_
 refine cx_ops ?_
 refine ax_q (q_mov rfl) ?_
 refine ax_q (q_mov rfl) ?_
 refine ax_call rfl (vcall_own (c_next (n := n) ?_) hP hmv false (fun _ => 1000) [1000] ⟨rfl, rfl, rfl, rfl, ⟨rfl, trivial⟩, rfl, rfl, rfl⟩ (.pass rfl rfl (.pass rfl rfl .nil)) ?_)
 ·
  first | assumption | omega | (simp; done) | (simp; omega)
 rintro r h ⟨rfl, rfl⟩
 refine ⟨fun _ => 1000, [], ⟨rfl, rfl, rfl, rfl, mem1 rfl, rfl, rfl, fun h => absurd h Bool.false_ne_true⟩, ?_⟩
 refine ax_q (q_mov rfl) ?_
 refine ax_q (q_sub rfl rfl (by omega)) ?_
 refine ax_q (q_ibin rfl rfl rfl) ?_
 refine ax_q (q_mov rfl) ?_
 refine ax_nil ?_
 refine cx_keep rfl rfl ?_
 refine cx_ret (retN id [1000] rfl rfl rfl rfl rfl ?_)
 exact ⟨rfl, rfl⟩


/- (ptr loop.example/g00332/spec.l00Src).node -/
def k_c_node : XCode :=
 .seq (.ops [.op (some 6) (.mov (.k (.nils 7)))])
 (.keep [0, 1, 2] (.seq (.seq (.ops [.op (some 8) (.mov (.t 2)),
   .op (some 9) (.bin .eql (.t 8) (.k (.int .i64 0))),
   .op (some 10) (.mov (.t 9)),
   .andor 13 false 2 10 [.op (some 11) (.mov (.t 0)), .call (some 12) 110 [.t 11, .k (.int .i64 3)]] (.t 12)])
  (.keep [0, 1, 2, 13] (.cond (.t 13)
  (.seq (.seq (.ops [.op (some 14) (.mov (.t 0)),
     .call (some 15) 110 [.t 14, .k (.int .i64 2)]])
   (.keep [0, 1, 15] (.cond (.t 15)
    (.seq (.ops [.op (some 16) (.mov (.t 1)),
      .op (some 17) (.mov (.t 0)),
      .call (some 18) 96 [.t 17, .k (.int .i64 3)],
      .op (some 19) (.build [.int .i64 0, .int .i64 0, .int .i64 0, .int .i64 0, .int .i64 0, .int .i64 0, .str []] [(0, 1, .k (.int .i64 2)), (3, 1, .t 18)]),
      .op (some 20) (.bslice 7 [.t 19]),
      .op (some 21) (.app 7 64 [.int .i64 0, .int .i64 0, .int .i64 0, .int .i64 0, .int .i64 0, .int .i64 0, .str []] (.t 16) (.t 20)),
      .op (some 6) (.mov (.t 21))])
    (.keep [6] (.ret)))
    (.skip))))
   (.keep [0, 1] (.seq (.ops [.op (some 22) (.mov (.t 1)),
    .op (some 23) (.mov (.t 0)),
    .call (some 24) 97 [.t 23],
    .op (some 25) (.build [.int .i64 0, .int .i64 0, .int .i64 0, .int .i64 0, .int .i64 0, .int .i64 0, .str []] [(0, 1, .k (.int .i64 1)), (4, 3, .t 24)]),
    .op (some 26) (.bslice 7 [.t 25]),
    .op (some 27) (.app 7 64 [.int .i64 0, .int .i64 0, .int .i64 0, .int .i64 0, .int .i64 0, .int .i64 0, .str []] (.t 22) (.t 26)),
    .op (some 6) (.mov (.t 27))])
   (.keep [6] (.ret)))))
  (.skip))))
 (.keep [0, 1, 2] (.seq (.seq (.ops [.op (some 28) (.mov (.t 0)),
   .call (some 29) 110 [.t 28, .k (.int .i64 4)]])
  (.keep [0, 1, 2, 29] (.cond (.t 29)
  (.seq (.ops [.op (some 30) (.mov (.t 0)),
    .op (some 31) (.mov (.t 1)),
    .op (some 32) (.mov (.t 2)),
    .op (some 33) (.bin .sub (.t 32) (.k (.int .i64 1))),
    .call (some 34) 95 [.t 30, .t 31, .t 33],
    .op (some 1) (.mov (.t 34))])
   (.keep [0, 1] (.seq (.ops [.op (some 35) (.mov (.t 1)),
    .op (some 36) (.mov (.t 0)),
    .call (some 37) 96 [.t 36, .k (.int .i64 3)],
    .op (some 38) (.bin .add (.k (.int .i64 3)) (.t 37)),
    .op (some 39) (.mov (.t 1)),
    .op (some 40) (.lenS (.t 39)),
    .op (some 41) (.bin .sub (.t 40) (.k (.int .i64 1))),
    .op (some 42) (.build [.int .i64 0, .int .i64 0, .int .i64 0, .int .i64 0, .int .i64 0, .int .i64 0, .str []] [(0, 1, .t 38), (1, 1, .t 41)]),
    .op (some 43) (.bslice 7 [.t 42]),
    .op (some 44) (.app 7 64 [.int .i64 0, .int .i64 0, .int .i64 0, .int .i64 0, .int .i64 0, .int .i64 0, .str []] (.t 35) (.t 43)),
    .op (some 6) (.mov (.t 44))])
   (.keep [6] (.ret)))))
  (.skip))))
 (.keep [0, 1, 2] (.seq (.ops [.op (some 45) (.mov (.t 0)),
   .op (some 46) (.mov (.t 1)),
   .op (some 47) (.mov (.t 2)),
   .op (some 48) (.bin .sub (.t 47) (.k (.int .i64 1))),
   .call (some 49) 95 [.t 45, .t 46, .t 48],
   .op (some 1) (.mov (.t 49))])
 (.keep [0, 1, 2] (.seq (.ops [.op (some 50) (.mov (.t 1)),
   .op (some 51) (.lenS (.t 50)),
   .op (some 52) (.bin .sub (.t 51) (.k (.int .i64 1))),
   .op (some 7) (.mov (.t 52))])
 (.keep [0, 1, 2, 7] (.seq (.ops [.op (some 53) (.mov (.t 0)),
   .op (some 54) (.mov (.t 1)),
   .op (some 55) (.mov (.t 2)),
   .op (some 56) (.bin .sub (.t 55) (.k (.int .i64 1))),
   .call (some 57) 95 [.t 53, .t 54, .t 56],
   .op (some 1) (.mov (.t 57))])
 (.keep [0, 1, 7] (.seq (.ops [.op (some 58) (.mov (.t 1)),
   .op (some 59) (.mov (.t 0)),
   .call (some 60) 96 [.t 59, .k (.int .i64 8)],
   .op (some 61) (.bin .add (.k (.int .i64 6)) (.t 60)),
   .op (some 62) (.mov (.t 7)),
   .op (some 63) (.mov (.t 1)),
   .op (some 64) (.lenS (.t 63)),
   .op (some 65) (.bin .sub (.t 64) (.k (.int .i64 1))),
   .op (some 66) (.build [.int .i64 0, .int .i64 0, .int .i64 0, .int .i64 0, .int .i64 0, .int .i64 0, .str []] [(0, 1, .t 61), (1, 1, .t 62), (2, 1, .t 65)]),
   .op (some 67) (.bslice 7 [.t 66]),
   .op (some 68) (.app 7 64 [.int .i64 0, .int .i64 0, .int .i64 0, .int .i64 0, .int .i64 0, .int .i64 0, .str []] (.t 58) (.t 67)),
   .op (some 6) (.mov (.t 68))])
 (.keep [6] (.ret))))))))))))))
theorem k_c_node_fits : fitsF Try.prog 95 ⟨69, k_c_node, [.t 6]⟩ = true := by kernel_rfl
set_option maxHeartbeats 4000000 in
theorem c_node {f d : Nat} {s : Src} {out : List GExprNode} {n : Nat} (hf : d < f) (hs : s.ok (n + bud d)) (hl : out.length + szB d ≤ 1000000) (hdb : d ≤ 1000) : Con Try.prog (fun e => Nat.beq e 1001) 95 [.ptr 1000 0, .osl 1001 7 0 out.length, int d] [(1000, s.box), (1001, .rows 7 (out.map GExprNode.row))] (fun r h => r = .osl 1001 7 0 (nodeF d s out).1.length ∧ h = [(1000, (nodeF d s out).2.box), (1001, .rows 7 ((nodeF d s out).1.map GExprNode.row))]) := by
 induction f generalizing d s out n with
 | zero => exact absurd hf (by omega)
 | succ f ih =>
  refine con_of2 k_c_node_fits rfl fun C hP hmv => ?_
  unfold k_c_node
  have hbu := bud_le d
  have hsz := szB_le d
  have hu := chanceF_ok (m := 3) (n := n + (bud d - 3)) (hs.mono (by omega))
  refine cx_seq ?_
  refine cx_ops ?_
  refine ax_q (q_mov rfl) ?_
  refine ax_nil ?_
  refine cx_keep rfl rfl ?_
  refine cx_seq ?_
  refine cx_seq ?_
  refine cx_ops ?_
  refine ax_q (q_mov rfl) ?_
  refine ax_q (q_ibin rfl rfl rfl) ?_
  refine ax_q (q_mov rfl) ?_
  refine ax_orE rfl rfl (fun g => ?_) (fun g => ?_)
  ·
   have g := dT g
   refine ax_nil ?_
   refine cx_keep rfl rfl ?_
   refine cx_cond rfl (fun h0 => ?_) (fun h0 => ?_)
   ·
    skip
    have hL : Src.ok s (n + 15) := hs.mono (by omega)
    have hd0 : d = 0 := by omega
    refine cx_seq ?_
    refine cx_seq ?_
    refine cx_ops ?_
    refine ax_q (q_mov rfl) ?_
    have hL2 := chanceF_ok (m := 2) (n := n + 12) hL
    refine ax_call rfl (vcall_own (c_chance (s := s) (n := n + 12) ?_ ?_) hP hmv false (fun _ => 1000) [1000] ⟨rfl, rfl, rfl, rfl, ⟨rfl, trivial⟩, rfl, rfl, rfl⟩ (.pass rfl rfl (.pass rfl rfl .nil)) ?_)
    ·
     first | assumption | omega | (simp; done) | (simp; omega)
    ·
     first | assumption | omega | (simp; done) | (simp; omega)
    rintro r h ⟨rfl, rfl⟩
    refine ⟨fun _ => 1000, [], ⟨rfl, rfl, rfl, rfl, mem1 rfl, rfl, rfl, fun h => absurd h Bool.false_ne_true⟩, ?_⟩
    refine ax_nil ?_
    refine cx_keep rfl rfl ?_
    refine cx_cond rfl (fun h1 => ?_) (fun h1 => ?_)
    ·
     skip
     refine cx_seq ?_
     refine cx_ops ?_
     refine ax_q (q_mov rfl) ?_
     refine ax_q (q_mov rfl) ?_
     refine ax_call rfl (vcall_own (c_next (s := (chanceF s 2).2) (n := n) ?_) hP hmv false (fun _ => 1000) [1000] ⟨rfl, rfl, rfl, rfl, ⟨rfl, trivial⟩, rfl, rfl, rfl⟩ (.pass rfl rfl (.pass rfl rfl .nil)) ?_)
     ·
      exact hL2.mono (by omega)
     rintro r h ⟨rfl, rfl⟩
     refine ⟨fun _ => 1000, [], ⟨rfl, rfl, rfl, rfl, mem1 rfl, rfl, rfl, fun h => absurd h Bool.false_ne_true⟩, ?_⟩
     refine ax_q (q_build rfl) ?_
     refine ax_e (e_bslice rfl (by decide) rfl rfl) ?_
     refine ax_e (e_appn (n' := (out ++ [(⟨2, 0, 0, (nextF (chanceF s 2).2 3).1, .zero⟩ : GExprNode)]).length) (rs' := (out ++ [(⟨2, 0, 0, (nextF (chanceF s 2).2 3).1, .zero⟩ : GExprNode)]).map GExprNode.row) rfl rfl (by simp) rfl (src_osl rfl (by simp)) (.inr (by rw [hmv]; rfl)) (hbnd (by omega) (by simp) (by decide)) (by simp) (app1 rfl)) ?_
     refine ax_q (q_mov rfl) ?_
     refine ax_nil ?_
     refine cx_keep rfl rfl ?_
     refine cx_ret (retN id [1000, 1001] rfl rfl rfl rfl rfl ?_)
     rw [nodeF_0 hd0, leafF_1 h1]; exact ⟨rfl, rfl⟩
    ·
     skip
     refine cx_skip ?_
     refine cx_keep rfl rfl ?_
     refine cx_seq ?_
     refine cx_ops ?_
     refine ax_q (q_mov rfl) ?_
     refine ax_q (q_mov rfl) ?_
     refine ax_call rfl (vcall_own (c_value (s := (chanceF s 2).2) (n := n) ?_) hP hmv false (fun _ => 1000) [1000] ⟨rfl, rfl, rfl, rfl, ⟨rfl, trivial⟩, rfl, rfl, rfl⟩ (.pass rfl rfl .nil) ?_)
     ·
      exact hL2
     rintro r h ⟨rfl, rfl⟩
     refine ⟨fun _ => 1000, [], ⟨rfl, rfl, rfl, rfl, mem1 rfl, rfl, rfl, fun h => absurd h Bool.false_ne_true⟩, ?_⟩
     refine ax_q (q_build rfl) ?_
     refine ax_e (e_bslice rfl (by decide) rfl rfl) ?_
     refine ax_e (e_appn (n' := (out ++ [(⟨1, 0, 0, 0, (valueF (chanceF s 2).2).1⟩ : GExprNode)]).length) (rs' := (out ++ [(⟨1, 0, 0, 0, (valueF (chanceF s 2).2).1⟩ : GExprNode)]).map GExprNode.row) rfl rfl (by simp) rfl (src_osl rfl (by simp)) (.inr (by rw [hmv]; rfl)) (hbnd (by omega) (by simp) (by decide)) (by simp) (app1 rfl)) ?_
     refine ax_q (q_mov rfl) ?_
     refine ax_nil ?_
     refine cx_keep rfl rfl ?_
     refine cx_ret (retN id [1000, 1001] rfl rfl rfl rfl rfl ?_)
     rw [nodeF_0 hd0, leafF_2 h1]; exact ⟨rfl, rfl⟩
   ·
    skip
    exact absurd h0 (by decide)
  ·
   have g := dF g
   refine ax_q (q_mov rfl) ?_
   refine ax_call rfl (vcall_own (c_chance (n := n + (bud d - 3)) ?_ ?_) hP hmv false (fun _ => 1000) [1000] ⟨rfl, rfl, rfl, rfl, ⟨rfl, trivial⟩, rfl, rfl, rfl⟩ (.pass rfl rfl (.pass rfl rfl .nil)) ?_)
   ·
    exact hs.mono (by omega)
   ·
    first | assumption | omega | (simp; done) | (simp; omega)
   rintro r h ⟨rfl, rfl⟩
   refine ⟨fun _ => 1000, [], ⟨rfl, rfl, rfl, rfl, mem1 rfl, rfl, rfl, fun h => absurd h Bool.false_ne_true⟩, ?_⟩
   refine ax_nil ⟨_, [(1000, (chanceF s 3).2.box), (1001, .rows 7 (out.map GExprNode.row))], rfl, by repeat (first | exact trivial | refine ⟨rfl, ?_⟩ | refine ⟨?_, ?_⟩), ?_⟩
   refine ax_nil ?_
   refine cx_keep rfl rfl ?_
   refine cx_cond rfl (fun h0 => ?_) (fun h0 => ?_)
   ·
    skip
    have hL : Src.ok (chanceF s 3).2 (n + 15) := hu.mono (by omega)
    have hd0 : ¬ d = 0 := by omega
    refine cx_seq ?_
    refine cx_seq ?_
    refine cx_ops ?_
    refine ax_q (q_mov rfl) ?_
    have hL2 := chanceF_ok (m := 2) (n := n + 12) hL
    refine ax_call rfl (vcall_own (c_chance (s := (chanceF s 3).2) (n := n + 12) ?_ ?_) hP hmv false (fun _ => 1000) [1000] ⟨rfl, rfl, rfl, rfl, ⟨rfl, trivial⟩, rfl, rfl, rfl⟩ (.pass rfl rfl (.pass rfl rfl .nil)) ?_)
    ·
     first | assumption | omega | (simp; done) | (simp; omega)
    ·
     first | assumption | omega | (simp; done) | (simp; omega)
    rintro r h ⟨rfl, rfl⟩
    refine ⟨fun _ => 1000, [], ⟨rfl, rfl, rfl, rfl, mem1 rfl, rfl, rfl, fun h => absurd h Bool.false_ne_true⟩, ?_⟩
    refine ax_nil ?_
    refine cx_keep rfl rfl ?_
    refine cx_cond rfl (fun h1 => ?_) (fun h1 => ?_)
    ·
     skip
     refine cx_seq ?_
     refine cx_ops ?_
     refine ax_q (q_mov rfl) ?_
     refine ax_q (q_mov rfl) ?_
     refine ax_call rfl (vcall_own (c_next (s := (chanceF (chanceF s 3).2 2).2) (n := n) ?_) hP hmv false (fun _ => 1000) [1000] ⟨rfl, rfl, rfl, rfl, ⟨rfl, trivial⟩, rfl, rfl, rfl⟩ (.pass rfl rfl (.pass rfl rfl .nil)) ?_)
     ·
      exact hL2.mono (by omega)
     rintro r h ⟨rfl, rfl⟩
     refine ⟨fun _ => 1000, [], ⟨rfl, rfl, rfl, rfl, mem1 rfl, rfl, rfl, fun h => absurd h Bool.false_ne_true⟩, ?_⟩
     refine ax_q (q_build rfl) ?_
     refine ax_e (e_bslice rfl (by decide) rfl rfl) ?_
     refine ax_e (e_appn (n' := (out ++ [(⟨2, 0, 0, (nextF (chanceF (chanceF s 3).2 2).2 3).1, .zero⟩ : GExprNode)]).length) (rs' := (out ++ [(⟨2, 0, 0, (nextF (chanceF (chanceF s 3).2 2).2 3).1, .zero⟩ : GExprNode)]).map GExprNode.row) rfl rfl (by simp) rfl (src_osl rfl (by simp)) (.inr (by rw [hmv]; rfl)) (hbnd (by omega) (by simp) (by decide)) (by simp) (app1 rfl)) ?_
     refine ax_q (q_mov rfl) ?_
     refine ax_nil ?_
     refine cx_keep rfl rfl ?_
     refine cx_ret (retN id [1000, 1001] rfl rfl rfl rfl rfl ?_)
     rw [nodeF_1 hd0 h0, leafF_1 h1]; exact ⟨rfl, rfl⟩
    ·
     skip
     refine cx_skip ?_
     refine cx_keep rfl rfl ?_
     refine cx_seq ?_
     refine cx_ops ?_
     refine ax_q (q_mov rfl) ?_
     refine ax_q (q_mov rfl) ?_
     refine ax_call rfl (vcall_own (c_value (s := (chanceF (chanceF s 3).2 2).2) (n := n) ?_) hP hmv false (fun _ => 1000) [1000] ⟨rfl, rfl, rfl, rfl, ⟨rfl, trivial⟩, rfl, rfl, rfl⟩ (.pass rfl rfl .nil) ?_)
     ·
      exact hL2
     rintro r h ⟨rfl, rfl⟩
     refine ⟨fun _ => 1000, [], ⟨rfl, rfl, rfl, rfl, mem1 rfl, rfl, rfl, fun h => absurd h Bool.false_ne_true⟩, ?_⟩
     refine ax_q (q_build rfl) ?_
     refine ax_e (e_bslice rfl (by decide) rfl rfl) ?_
     refine ax_e (e_appn (n' := (out ++ [(⟨1, 0, 0, 0, (valueF (chanceF (chanceF s 3).2 2).2).1⟩ : GExprNode)]).length) (rs' := (out ++ [(⟨1, 0, 0, 0, (valueF (chanceF (chanceF s 3).2 2).2).1⟩ : GExprNode)]).map GExprNode.row) rfl rfl (by simp) rfl (src_osl rfl (by simp)) (.inr (by rw [hmv]; rfl)) (hbnd (by omega) (by simp) (by decide)) (by simp) (app1 rfl)) ?_
     refine ax_q (q_mov rfl) ?_
     refine ax_nil ?_
     refine cx_keep rfl rfl ?_
     refine cx_ret (retN id [1000, 1001] rfl rfl rfl rfl rfl ?_)
     rw [nodeF_1 hd0 h0, leafF_2 h1]; exact ⟨rfl, rfl⟩
   ·
    skip
    obtain ⟨k, rfl⟩ : ∃ k, d = k + 1 := ⟨d - 1, by omega⟩
    rw [bud] at hs hu hbu
    rw [szB] at hl hsz
    have hbk := bud_le k
    have hzk := szB_le k
    refine cx_skip ?_
    refine cx_keep rfl rfl ?_
    refine cx_seq ?_
    refine cx_seq ?_
    refine cx_ops ?_
    refine ax_q (q_mov rfl) ?_
    refine ax_call rfl (vcall_own (c_chance (s := (chanceF s 3).2) (n := n + (2 * bud k + 3)) ?_ ?_) hP hmv false (fun _ => 1000) [1000] ⟨rfl, rfl, rfl, rfl, ⟨rfl, trivial⟩, rfl, rfl, rfl⟩ (.pass rfl rfl (.pass rfl rfl .nil)) ?_)
    ·
     exact hu.mono (by omega)
    ·
     first | assumption | omega | (simp; done) | (simp; omega)
    rintro r h ⟨rfl, rfl⟩
    refine ⟨fun _ => 1000, [], ⟨rfl, rfl, rfl, rfl, mem1 rfl, rfl, rfl, fun h => absurd h Bool.false_ne_true⟩, ?_⟩
    have hv : Src.ok (uS s) (n + (2 * bud k + 3)) := chanceF_ok (m := 4) (n := n + (2 * bud k + 3)) (hu.mono (by omega))
    obtain ⟨p1, p2, p3⟩ := nodeF_ok (d := k) (s := uS s) (out := out) (n := n + (bud k + 3)) (hv.mono (by omega))
    refine ax_nil ?_
    refine cx_keep rfl rfl ?_
    refine cx_cond rfl (fun h2 => ?_) (fun h2 => ?_)
    ·
     skip
     refine cx_seq ?_
     refine cx_ops ?_
     refine ax_q (q_mov rfl) ?_
     refine ax_q (q_mov rfl) ?_
     refine ax_q (q_mov rfl) ?_
     refine ax_qe (r' := int ((k : Nat) : Int)) (q_ibin rfl rfl rfl) (by rw [wi (by omega) (by omega)]; exact congrArg AM.int (by omega)) ?_
     refine ax_call rfl (vcall_own (ih (d := k) (s := uS s) (out := out) (n := n + (bud k + 3)) (by omega) (by exact hv.mono (by omega)) (by omega) (by omega)) hP hmv false (fun e => bif Nat.beq e 1000 then 1000 else 1001) [1000, 1001] ⟨rfl, rfl, rfl, rfl, ⟨rfl, rfl, trivial⟩, rfl, rfl, rfl⟩ (.pass rfl rfl (.pass rfl rfl (.pass rfl rfl .nil))) ?_)
     rintro r h ⟨rfl, rfl⟩
     refine ⟨(fun e => bif Nat.beq e 1000 then 1000 else 1001), [], ⟨rfl, rfl, rfl, rfl, mem2 rfl rfl, rfl, rfl, fun h => absurd h Bool.false_ne_true⟩, ?_⟩
     refine ax_q (q_mov rfl) ?_
     refine ax_nil ?_
     refine cx_keep rfl rfl ?_
     refine cx_seq ?_
     refine cx_ops ?_
     refine ax_q (q_mov rfl) ?_
     refine ax_q (q_mov rfl) ?_
     refine ax_call rfl (vcall_own (c_next (s := (nodeF k (uS s) out).2) (n := n) ?_) hP hmv false (fun _ => 1000) [1000] ⟨rfl, rfl, rfl, rfl, ⟨rfl, trivial⟩, rfl, rfl, rfl⟩ (.pass rfl rfl (.pass rfl rfl .nil)) ?_)
     ·
      exact p1.mono (by omega)
     rintro r h ⟨rfl, rfl⟩
     refine ⟨fun _ => 1000, [], ⟨rfl, rfl, rfl, rfl, mem1 rfl, rfl, rfl, fun h => absurd h Bool.false_ne_true⟩, ?_⟩
     obtain ⟨x1, x2, x3⟩ := nextF_ok (s := (nodeF k (uS s) out).2) (n := 3) (k := n) (p1.mono (by omega))
     have x3 := x3 (by omega)
     refine ax_q (q_add rfl rfl (by omega)) ?_
     refine ax_q (q_mov rfl) ?_
     first | refine ax_q (q_lenS_map rfl) ?_ | refine ax_q (q_lenS_osl rfl) ?_ | refine ax_q (q_lenS_zs rfl) ?_ | refine ax_q (q_lenS rfl) ?_
     refine ax_q (q_sub rfl rfl (by omega)) ?_
     refine ax_q (q_build rfl) ?_
     refine ax_e (e_bslice rfl (by decide) rfl rfl) ?_
     refine ax_e (e_appn (n' := ((nodeF k (uS s) out).1 ++ [(⟨3 + (nextF (nodeF k (uS s) out).2 3).1, ((nodeF k (uS s) out).1.length : Int) - 1, 0, 0, .zero⟩ : GExprNode)]).length) (rs' := ((nodeF k (uS s) out).1 ++ [(⟨3 + (nextF (nodeF k (uS s) out).2 3).1, ((nodeF k (uS s) out).1.length : Int) - 1, 0, 0, .zero⟩ : GExprNode)]).map GExprNode.row) rfl rfl (by simp) rfl (src_osl rfl (by simp)) (.inr (by rw [hmv]; rfl)) (hbnd (by omega) (by simp) (by decide)) (by simp) (app1 rfl)) ?_
     refine ax_q (q_mov rfl) ?_
     refine ax_nil ?_
     refine cx_keep rfl rfl ?_
     refine cx_ret (retN id [1000, 1001] rfl rfl rfl rfl rfl ?_)
     rw [nodeF_2 h0 h2]; exact ⟨rfl, rfl⟩
    ·
     skip
     refine cx_skip ?_
     refine cx_keep rfl rfl ?_
     refine cx_seq ?_
     refine cx_ops ?_
     refine ax_q (q_mov rfl) ?_
     refine ax_q (q_mov rfl) ?_
     refine ax_q (q_mov rfl) ?_
     refine ax_qe (r' := int ((k : Nat) : Int)) (q_ibin rfl rfl rfl) (by rw [wi (by omega) (by omega)]; exact congrArg AM.int (by omega)) ?_
     refine ax_call rfl (vcall_own (ih (d := k) (s := uS s) (out := out) (n := n + (bud k + 3)) (by omega) (by exact hv.mono (by omega)) (by omega) (by omega)) hP hmv false (fun e => bif Nat.beq e 1000 then 1000 else 1001) [1000, 1001] ⟨rfl, rfl, rfl, rfl, ⟨rfl, rfl, trivial⟩, rfl, rfl, rfl⟩ (.pass rfl rfl (.pass rfl rfl (.pass rfl rfl .nil))) ?_)
     rintro r h ⟨rfl, rfl⟩
     refine ⟨(fun e => bif Nat.beq e 1000 then 1000 else 1001), [], ⟨rfl, rfl, rfl, rfl, mem2 rfl rfl, rfl, rfl, fun h => absurd h Bool.false_ne_true⟩, ?_⟩
     refine ax_q (q_mov rfl) ?_
     refine ax_nil ?_
     refine cx_keep rfl rfl ?_
     refine cx_seq ?_
     refine cx_ops ?_
     refine ax_q (q_mov rfl) ?_
     first | refine ax_q (q_lenS_map rfl) ?_ | refine ax_q (q_lenS_osl rfl) ?_ | refine ax_q (q_lenS_zs rfl) ?_ | refine ax_q (q_lenS rfl) ?_
     refine ax_q (q_sub rfl rfl (by omega)) ?_
     refine ax_q (q_mov rfl) ?_
     refine ax_nil ?_
     refine cx_keep rfl rfl ?_
     refine cx_seq ?_
     refine cx_ops ?_
     refine ax_q (q_mov rfl) ?_
     refine ax_q (q_mov rfl) ?_
     refine ax_q (q_mov rfl) ?_
     obtain ⟨w1, w2, w3⟩ := nodeF_ok (d := k) (s := (nodeF k (uS s) out).2) (out := (nodeF k (uS s) out).1) (n := n + 3) (p1.mono (by omega))
     refine ax_qe (r' := int ((k : Nat) : Int)) (q_ibin rfl rfl rfl) (by rw [wi (by omega) (by omega)]; exact congrArg AM.int (by omega)) ?_
     refine ax_call rfl (vcall_own (ih (d := k) (s := (nodeF k (uS s) out).2) (out := (nodeF k (uS s) out).1) (n := n + 3) (by omega) (by exact p1.mono (by omega)) (by omega) (by omega)) hP hmv false (fun e => bif Nat.beq e 1000 then 1000 else 1001) [1000, 1001] ⟨rfl, rfl, rfl, rfl, ⟨rfl, rfl, trivial⟩, rfl, rfl, rfl⟩ (.pass rfl rfl (.pass rfl rfl (.pass rfl rfl .nil))) ?_)
     rintro r h ⟨rfl, rfl⟩
     refine ⟨(fun e => bif Nat.beq e 1000 then 1000 else 1001), [], ⟨rfl, rfl, rfl, rfl, mem2 rfl rfl, rfl, rfl, fun h => absurd h Bool.false_ne_true⟩, ?_⟩
     refine ax_q (q_mov rfl) ?_
     refine ax_nil ?_
     refine cx_keep rfl rfl ?_
     refine cx_seq ?_
     refine cx_ops ?_
     refine ax_q (q_mov rfl) ?_
     refine ax_q (q_mov rfl) ?_
     refine ax_call rfl (vcall_own (c_next (s := (nodeF k (nodeF k (uS s) out).2 (nodeF k (uS s) out).1).2) (n := n) ?_) hP hmv false (fun _ => 1000) [1000] ⟨rfl, rfl, rfl, rfl, ⟨rfl, trivial⟩, rfl, rfl, rfl⟩ (.pass rfl rfl (.pass rfl rfl .nil)) ?_)
     ·
      exact w1
     rintro r h ⟨rfl, rfl⟩
     refine ⟨fun _ => 1000, [], ⟨rfl, rfl, rfl, rfl, mem1 rfl, rfl, rfl, fun h => absurd h Bool.false_ne_true⟩, ?_⟩
     obtain ⟨x1, x2, x3⟩ := nextF_ok (s := (nodeF k (nodeF k (uS s) out).2 (nodeF k (uS s) out).1).2) (n := 8) (k := n) w1
     have x3 := x3 (by omega)
     refine ax_q (q_add rfl rfl (by omega)) ?_
     refine ax_q (q_mov rfl) ?_
     refine ax_q (q_mov rfl) ?_
     first | refine ax_q (q_lenS_map rfl) ?_ | refine ax_q (q_lenS_osl rfl) ?_ | refine ax_q (q_lenS_zs rfl) ?_ | refine ax_q (q_lenS rfl) ?_
     refine ax_q (q_sub rfl rfl (by omega)) ?_
     refine ax_q (q_build rfl) ?_
     refine ax_e (e_bslice rfl (by decide) rfl rfl) ?_
     refine ax_e (e_appn (n' := ((nodeF k (nodeF k (uS s) out).2 (nodeF k (uS s) out).1).1 ++ [(⟨6 + (nextF (nodeF k (nodeF k (uS s) out).2 (nodeF k (uS s) out).1).2 8).1, ((nodeF k (uS s) out).1.length : Int) - 1, ((nodeF k (nodeF k (uS s) out).2 (nodeF k (uS s) out).1).1.length : Int) - 1, 0, .zero⟩ : GExprNode)]).length) (rs' := ((nodeF k (nodeF k (uS s) out).2 (nodeF k (uS s) out).1).1 ++ [(⟨6 + (nextF (nodeF k (nodeF k (uS s) out).2 (nodeF k (uS s) out).1).2 8).1, ((nodeF k (uS s) out).1.length : Int) - 1, ((nodeF k (nodeF k (uS s) out).2 (nodeF k (uS s) out).1).1.length : Int) - 1, 0, .zero⟩ : GExprNode)]).map GExprNode.row) rfl rfl (by simp) rfl (src_osl rfl (by simp)) (.inr (by rw [hmv]; rfl)) (hbnd (by omega) (by simp) (by decide)) (by simp) (app1 rfl)) ?_
     refine ax_q (q_mov rfl) ?_
     refine ax_nil ?_
     refine cx_keep rfl rfl ?_
     refine cx_ret (retN id [1000, 1001] rfl rfl rfl rfl rfl ?_)
     rw [nodeF_3 h0 h2]; exact ⟨rfl, rfl⟩


/- (ptr loop.example/g00332/spec.l00Src).expr -/
def k_c_expr : XCode :=
 .seq (.ops [.op (some 2) (.alloc [.nils 7])])
 (.keep [0, 2] (.seq (.ops [.op (some 3) (.mov (.t 0)),
   .op (some 4) (.bslice 7 []),
   .op (some 5) (.mov (.t 0)),
   .call (some 6) 96 [.t 5, .k (.int .i64 4)],
   .op (some 7) (.bin .add (.k (.int .i64 1)) (.t 6)),
   .call (some 8) 95 [.t 3, .t 4, .t 7],
   .op (some 9) (.build [.nils 7] [(0, 1, .t 8)]),
   .op none (.store 1 (.t 2) (.t 9))])
 (.keep [2] (.ret))))
theorem k_c_expr_fits : fitsF Try.prog 70 ⟨10, k_c_expr, [.cN 2 1]⟩ = true := by kernel_rfl
theorem c_expr {s : Src} (hs : s.ok 1000) : Con Try.prog noMv 70 [.ptr 1000 0] [(1000, s.box)] (fun r h => r = .agg [.osl 0 7 0 (exprG s).1.length] ∧ h = [(0, .rows 7 ((exprG s).1.map GExprNode.row)), (1000, (exprG s).2.box)]) := by
 refine con_of2 k_c_expr_fits rfl fun C hP hmv => ?_
 unfold k_c_expr
 obtain ⟨k1, k2, k3, k4⟩ := exD_ok (n := 997) hs
 have hbd := bud4 k4
 refine cx_seq ?_
 refine cx_ops ?_
 refine ax_e (e_alloc (by decide) rfl rfl) ?_
 refine ax_nil ?_
 refine cx_keep rfl rfl ?_
 refine cx_seq ?_
 refine cx_ops ?_
 refine ax_q (q_mov rfl) ?_
 refine ax_e (e_bslice rfl (by decide) rfl rfl) ?_
 refine ax_q (q_mov rfl) ?_
 refine ax_call rfl (vcall_own (c_next (n := 997) ?_) hP hmv false (fun _ => 1000) [1000] ⟨rfl, rfl, rfl, rfl, ⟨rfl, trivial⟩, rfl, rfl, rfl⟩ (.pass rfl rfl (.pass rfl rfl .nil)) ?_)
 ·
  first | assumption | omega | (simp; done) | (simp; omega)
 rintro r h ⟨rfl, rfl⟩
 refine ⟨fun _ => 1000, [], ⟨rfl, rfl, rfl, rfl, mem1 rfl, rfl, rfl, fun h => absurd h Bool.false_ne_true⟩, ?_⟩
 refine ax_qe (r' := int ((exD s : Nat) : Int)) (q_ibin rfl rfl rfl) (by rw [wi (by omega) (by omega)]; exact congrArg AM.int k2.symm) ?_
 refine ax_call rfl (vcall_own (c_node (f := exD s + 1) (d := exD s) (s := (nextF s 4).2) (out := []) (n := 0) (by omega) (k1.mono (by omega)) (by simp only [List.length_nil]; omega) (by omega)) hP hmv false (fun e => bif Nat.beq e 1000 then 1000 else 4) [1000, 1001] ⟨rfl, rfl, rfl, rfl, ⟨rfl, rfl, trivial⟩, rfl, rfl, rfl⟩ (.pass rfl rfl (.pass rfl rfl (.pass rfl rfl .nil))) ?_)
 rintro r h ⟨rfl, rfl⟩
 refine ⟨(fun e => bif Nat.beq e 1000 then 1000 else 4), [], ⟨rfl, rfl, rfl, rfl, mem2 rfl rfl, rfl, rfl, fun h => absurd h Bool.false_ne_true⟩, ?_⟩
 refine ax_q (q_build rfl) ?_
 refine ax_e (e_st rfl rfl rfl rfl rfl rfl rfl) ?_
 refine ax_nil ?_
 refine cx_keep rfl rfl ?_
 refine cx_ret (retN (fun e => bif Nat.beq e 4 then 0 else e) [4, 1000] rfl rfl rfl rfl rfl ?_)
 exact ⟨rfl, rfl⟩


/- loop.example/g00332/spec.ExprOf -/
def k_c_ExprOf : XCode :=
 .seq (.ops [.op (some 2) (.alloc [.nils 7])])
 (.keep [0, 2] (.seq (.ops [.op (some 3) (.mov (.t 0)),
   .call (some 4) 69 [.t 3],
   .call (some 5) 70 [.t 4],
   .op none (.store 1 (.t 2) (.t 5))])
 (.keep [2] (.ret))))
theorem k_c_ExprOf_fits : fitsF Try.prog 37 ⟨6, k_c_ExprOf, [.cN 2 1]⟩ = true := by kernel_rfl
theorem c_ExprOf {code : Str} (hl : code.length ≤ 1048576) : Con Try.prog noMv 37 [.d (.sl 1 (code.map byteRow))] [] (fun r h => r = .agg [.osl 0 7 0 (exprOf code).Nodes.length] ∧ h = [(0, .rows 7 ((exprOf code).Nodes.map GExprNode.row))]) := by
 refine con_of2 k_c_ExprOf_fits rfl fun C hP hmv => ?_
 unfold k_c_ExprOf
 refine cx_seq ?_
 refine cx_ops ?_
 refine ax_e (e_alloc (by decide) rfl rfl) ?_
 refine ax_nil ?_
 refine cx_keep rfl rfl ?_
 refine cx_seq ?_
 refine cx_ops ?_
 refine ax_q (q_mov rfl) ?_
 refine ax_call rfl (vc_pure (c_l00Source hl) hP rfl ?_)
 rintro r h ⟨rfl, rfl⟩
 refine ⟨fun _ => 4, [0], ⟨rfl, rfl, rfl, rfl, rfl, fun h => absurd h Bool.false_ne_true⟩, ?_⟩
 refine ax_call rfl (vcall_own (c_expr ((srcOf_ok hl).mono (by omega))) hP hmv false (fun _ => 4) [1000] ⟨rfl, rfl, rfl, rfl, ⟨rfl, trivial⟩, rfl, rfl, rfl⟩ (.pass rfl rfl .nil) ?_)
 rintro r h ⟨rfl, rfl⟩
 refine ⟨fun e => bif Nat.beq e 1000 then 4 else 5, [0], ⟨rfl, rfl, rfl, rfl, mem1 rfl, rfl, rfl, fun h => absurd h Bool.false_ne_true⟩, ?_⟩
 refine ax_e (e_st rfl rfl rfl rfl rfl rfl rfl) ?_
 refine ax_nil ?_
 refine cx_keep rfl rfl ?_
 refine cx_ret (retN (fun e => bif Nat.beq e 5 then 0 else e) [5] rfl rfl rfl rfl rfl ?_)
 exact ⟨rfl, rfl⟩


/- (ptr loop.example/g00332/spec.l00Src).row -/
def k_c_row : XCode :=
 .seq (.ops [.op (some 2) (.alloc [.int .i64 0, .int .i64 0, .int .i64 0, .str [], .int .i64 0, .int .i64 0, .str []])])
 (.keep [0, 2] (.seq (.ops [.op (some 4) (.mov (.t 0)),
   .call (some 5) 96 [.t 4, .k (.int .i64 6)],
   .op (some 6) (.mov (.t 0)),
   .call (some 7) 97 [.t 6],
   .op (some 8) (.mov (.t 0)),
   .call (some 9) 97 [.t 8],
   .op (some 10) (.build [.int .i64 0, .int .i64 0, .int .i64 0, .str [], .int .i64 0, .int .i64 0, .str []] [(0, 1, .t 5), (1, 3, .t 7), (4, 3, .t 9)]),
   .op (some 3) (.alloc [.int .i64 0, .int .i64 0, .int .i64 0, .str [], .int .i64 0, .int .i64 0, .str []]),
   .op none (.store 7 (.t 3) (.t 10))])
 (.keep [0, 2, 3] (.seq (.seq (.ops [.op (some 11) (.fadr (.t 3) 1),
   .op (some 12) (.fadr (.t 11) 0),
   .op (some 13) (.load1 (.t 12)),
   .op (some 14) (.bin .eql (.t 13) (.k (.int .i64 2)))])
  (.keep [0, 2, 3, 14] (.cond (.t 14)
  (.ops [.op (some 15) (.mov (.t 0)),
    .call (some 16) 96 [.t 15, .k (.int .i64 9)],
    .op (some 17) (.build [.int .i64 0, .int .i64 0, .str []] [(0, 1, .k (.int .i64 1)), (1, 1, .t 16)]),
    .op (some 18) (.fadr (.t 3) 1),
    .op none (.store 3 (.t 18) (.t 17))])
  (.skip))))
 (.keep [0, 2, 3] (.seq (.seq (.ops [.op (some 19) (.fadr (.t 3) 4),
   .op (some 20) (.fadr (.t 19) 0),
   .op (some 21) (.load1 (.t 20)),
   .op (some 22) (.bin .eql (.t 21) (.k (.int .i64 1)))])
  (.keep [0, 2, 3, 22] (.cond (.t 22)
  (.ops [.op (some 23) (.mov (.t 0)),
    .op (some 24) (.bslice 1 [.k (.str [97]), .k (.str [98]), .k (.str [110, 97, 109, 101])]),
    .call (some 25) 98 [.t 23, .t 24],
    .op (some 26) (.build [.int .i64 0, .int .i64 0, .str []] [(0, 1, .k (.int .i64 2)), (2, 1, .t 25)]),
    .op (some 27) (.fadr (.t 3) 4),
    .op none (.store 3 (.t 27) (.t 26))])
  (.skip))))
 (.keep [2, 3] (.seq (.ops [.op (some 28) (.loadN 7 (.t 3)),
   .op none (.store 7 (.t 2) (.t 28))])
 (.keep [2] (.ret))))))))))
theorem k_c_row_fits : fitsF Try.prog 71 ⟨29, k_c_row, [.cN 2 7]⟩ = true := by kernel_rfl
theorem c_row {s : Src} {n : Nat} (hs : s.ok (n + 33)) : Con Try.prog noMv 71 [.ptr 1000 0] (s.h 1000) (fun r h => r = (rowF s).1.av ∧ h = ((rowF s).2).h 1000) := by
 refine con_of2 k_c_row_fits rfl fun C hP hmv => ?_
 unfold k_c_row
 obtain ⟨k1, k2, k3⟩ := nextF_ok (s := s) (n := 6) (k := n + 30) hs
 obtain ⟨k4, k5⟩ := valueF_ok (n := n + 18) k1
 obtain ⟨k6, k7⟩ := valueF_ok (n := n + 6) k4
 obtain ⟨k8, k9, k10⟩ := rowN_ok (s := rowS0 s) (n := n + 3) k5 k6
 refine cx_seq ?_
 refine cx_ops ?_
 refine ax_e (e_alloc (by decide) rfl rfl) ?_
 refine ax_nil ?_
 refine cx_keep rfl rfl ?_
 refine cx_seq ?_
 refine cx_ops ?_
 refine ax_q (q_mov rfl) ?_
 refine ax_call rfl (vcall_own (c_next (n := n + 30) ?_) hP hmv false (fun _ => 1000) [1000] ⟨rfl, rfl, rfl, rfl, ⟨rfl, trivial⟩, rfl, rfl, rfl⟩ (.pass rfl rfl (.pass rfl rfl .nil)) ?_)
 ·
  first | assumption | omega | (simp; done) | (simp; omega)
 rintro r h ⟨rfl, rfl⟩
 refine ⟨fun _ => 1000, [], ⟨rfl, rfl, rfl, rfl, mem1 rfl, rfl, rfl, fun h => absurd h Bool.false_ne_true⟩, ?_⟩
 refine ax_q (q_mov rfl) ?_
 refine ax_call rfl (vcall_own (c_value (n := n + 18) ?_) hP hmv false (fun _ => 1000) [1000] ⟨rfl, rfl, rfl, rfl, ⟨rfl, trivial⟩, rfl, rfl, rfl⟩ (.pass rfl rfl .nil) ?_)
 ·
  first | assumption | omega | (simp; done) | (simp; omega)
 rintro r h ⟨rfl, rfl⟩
 refine ⟨fun _ => 1000, [], ⟨rfl, rfl, rfl, rfl, mem1 rfl, rfl, rfl, fun h => absurd h Bool.false_ne_true⟩, ?_⟩
 refine ax_q (q_mov rfl) ?_
 refine ax_call rfl (vcall_own (c_value (n := n + 6) ?_) hP hmv false (fun _ => 1000) [1000] ⟨rfl, rfl, rfl, rfl, ⟨rfl, trivial⟩, rfl, rfl, rfl⟩ (.pass rfl rfl .nil) ?_)
 ·
  first | assumption | omega | (simp; done) | (simp; omega)
 rintro r h ⟨rfl, rfl⟩
 refine ⟨fun _ => 1000, [], ⟨rfl, rfl, rfl, rfl, mem1 rfl, rfl, rfl, fun h => absurd h Bool.false_ne_true⟩, ?_⟩
 refine ax_q (q_build rfl) ?_
 refine ax_e (e_alloc (by decide) rfl rfl) ?_
 refine ax_e (e_st rfl rfl rfl rfl rfl rfl rfl) ?_
 refine ax_nil ?_
 refine cx_keep rfl rfl ?_
 refine cx_seq ?_
 refine cx_seq ?_
 refine cx_ops ?_
 refine ax_q (q_fadr_ptr rfl) ?_
 refine ax_q (q_fadr_ptr rfl) ?_
 refine ax_q (q_load1_ptr rfl rfl rfl) ?_
 refine ax_q (q_ibin rfl rfl rfl) ?_
 refine ax_nil ?_
 refine cx_keep rfl rfl ?_
 refine cx_cond rfl (fun h0 => ?_) (fun h0 => ?_)
 ·
  have h0 := dT h0
  have e0 : rowN (valueF (nextF s 6).2).1 (rowS0 s) = (vI (nextF (rowS0 s) 9).1, (nextF (rowS0 s) 9).2) := by unfold rowN; rw [if_pos h0]
  have e1 : rowS1 s = (nextF (rowS0 s) 9).2 := by unfold rowS1; rw [e0]
  refine cx_ops ?_
  refine ax_q (q_mov rfl) ?_
  refine ax_call rfl (vcall_own (c_next (s := rowS0 s) (n := n + 3) ?_) hP hmv false (fun _ => 1000) [1000] ⟨rfl, rfl, rfl, rfl, ⟨rfl, trivial⟩, rfl, rfl, rfl⟩ (.pass rfl rfl (.pass rfl rfl .nil)) ?_)
  ·
   exact Src.ok.mono k6 (by omega)
  rintro r h ⟨rfl, rfl⟩
  refine ⟨fun _ => 1000, [], ⟨rfl, rfl, rfl, rfl, mem1 rfl, rfl, rfl, fun h => absurd h Bool.false_ne_true⟩, ?_⟩
  refine ax_q (q_build rfl) ?_
  refine ax_q (q_fadr_ptr rfl) ?_
  refine ax_e (e_st rfl rfl rfl rfl rfl rfl rfl) ?_
  refine ax_nil ?_
  refine cx_keep rfl rfl ?_
  refine cx_seq ?_
  refine cx_seq ?_
  refine cx_ops ?_
  refine ax_q (q_fadr_ptr rfl) ?_
  refine ax_q (q_fadr_ptr rfl) ?_
  refine ax_q (q_load1_ptr rfl rfl rfl) ?_
  refine ax_q (q_ibin rfl rfl rfl) ?_
  refine ax_nil ?_
  refine cx_keep rfl rfl ?_
  refine cx_cond rfl (fun h1 => ?_) (fun h1 => ?_)
  ·
   have h1 := dT h1
   refine cx_ops ?_
   refine ax_q (q_mov rfl) ?_
   refine ax_e (e_bslice rfl (by decide) rfl rfl) ?_
   refine ax_wk (wk_frz 24 24 rfl rfl (.whole rfl) rfl) ?_
   refine ax_call rfl (vcall_own (c_pick (s := (nextF (rowS0 s) 9).2) (ts := nTexts) (n := n) (by rw [← e1]; exact k8) (by decide)) hP hmv false (fun _ => 1000) [1000] ⟨rfl, rfl, rfl, rfl, ⟨rfl, trivial⟩, rfl, rfl, rfl⟩ (.pass rfl rfl (.pass rfl rfl .nil)) ?_)
   rintro r h ⟨rfl, rfl⟩
   refine ⟨fun _ => 1000, [], ⟨rfl, rfl, rfl, rfl, mem1 rfl, rfl, rfl, fun h => absurd h Bool.false_ne_true⟩, ?_⟩
   refine ax_q (q_build rfl) ?_
   refine ax_q (q_fadr_ptr rfl) ?_
   refine ax_e (e_st rfl rfl rfl rfl rfl rfl rfl) ?_
   refine ax_nil ?_
   refine cx_keep rfl rfl ?_
   refine cx_seq ?_
   refine cx_ops ?_
   refine ax_q (q_ldN rfl rfl rfl) ?_
   refine ax_e (e_st rfl rfl rfl rfl rfl rfl rfl) ?_
   refine ax_nil ?_
   refine cx_keep rfl rfl ?_
   refine cx_ret (retN id [1000] rfl rfl rfl rfl rfl ?_)
   have e : rowF s = (⟨(nextF s 6).1, vI (nextF (rowS0 s) 9).1, ⟨2, 0, (pickF (nextF (rowS0 s) 9).2 nTexts).1⟩⟩, (pickF (nextF (rowS0 s) 9).2 nTexts).2) := by unfold rowF; rw [e0]; unfold rowM; rw [if_pos (by exact h1), e1]
   rw [e]; exact ⟨rfl, rfl⟩
  ·
   have h1 := dF h1
   refine cx_skip ?_
   refine cx_keep rfl rfl ?_
   refine cx_seq ?_
   refine cx_ops ?_
   refine ax_q (q_ldN rfl rfl rfl) ?_
   refine ax_e (e_st rfl rfl rfl rfl rfl rfl rfl) ?_
   refine ax_nil ?_
   refine cx_keep rfl rfl ?_
   refine cx_ret (retN id [1000] rfl rfl rfl rfl rfl ?_)
   have e : rowF s = (⟨(nextF s 6).1, vI (nextF (rowS0 s) 9).1, (valueF (valueF (nextF s 6).2).2).1⟩, (nextF (rowS0 s) 9).2) := by unfold rowF; rw [e0]; unfold rowM; rw [if_neg (by exact h1), e1]
   rw [e]; exact ⟨rfl, rfl⟩
 ·
  have h0 := dF h0
  have e0 : rowN (valueF (nextF s 6).2).1 (rowS0 s) = ((valueF (nextF s 6).2).1, rowS0 s) := by unfold rowN; rw [if_neg h0]
  have e1 : rowS1 s = rowS0 s := by unfold rowS1; rw [e0]
  refine cx_skip ?_
  refine cx_keep rfl rfl ?_
  refine cx_seq ?_
  refine cx_seq ?_
  refine cx_ops ?_
  refine ax_q (q_fadr_ptr rfl) ?_
  refine ax_q (q_fadr_ptr rfl) ?_
  refine ax_q (q_load1_ptr rfl rfl rfl) ?_
  refine ax_q (q_ibin rfl rfl rfl) ?_
  refine ax_nil ?_
  refine cx_keep rfl rfl ?_
  refine cx_cond rfl (fun h1 => ?_) (fun h1 => ?_)
  ·
   have h1 := dT h1
   refine cx_ops ?_
   refine ax_q (q_mov rfl) ?_
   refine ax_e (e_bslice rfl (by decide) rfl rfl) ?_
   refine ax_wk (wk_frz 24 24 rfl rfl (.whole rfl) rfl) ?_
   refine ax_call rfl (vcall_own (c_pick (s := rowS0 s) (ts := nTexts) (n := n) (by rw [← e1]; exact k8) (by decide)) hP hmv false (fun _ => 1000) [1000] ⟨rfl, rfl, rfl, rfl, ⟨rfl, trivial⟩, rfl, rfl, rfl⟩ (.pass rfl rfl (.pass rfl rfl .nil)) ?_)
   rintro r h ⟨rfl, rfl⟩
   refine ⟨fun _ => 1000, [], ⟨rfl, rfl, rfl, rfl, mem1 rfl, rfl, rfl, fun h => absurd h Bool.false_ne_true⟩, ?_⟩
   refine ax_q (q_build rfl) ?_
   refine ax_q (q_fadr_ptr rfl) ?_
   refine ax_e (e_st rfl rfl rfl rfl rfl rfl rfl) ?_
   refine ax_nil ?_
   refine cx_keep rfl rfl ?_
   refine cx_seq ?_
   refine cx_ops ?_
   refine ax_q (q_ldN rfl rfl rfl) ?_
   refine ax_e (e_st rfl rfl rfl rfl rfl rfl rfl) ?_
   refine ax_nil ?_
   refine cx_keep rfl rfl ?_
   refine cx_ret (retN id [1000] rfl rfl rfl rfl rfl ?_)
   have e : rowF s = (⟨(nextF s 6).1, (valueF (nextF s 6).2).1, ⟨2, 0, (pickF (rowS0 s) nTexts).1⟩⟩, (pickF (rowS0 s) nTexts).2) := by unfold rowF; rw [e0]; unfold rowM; rw [if_pos (by exact h1), e1]
   rw [e]; exact ⟨rfl, rfl⟩
  ·
   have h1 := dF h1
   refine cx_skip ?_
   refine cx_keep rfl rfl ?_
   refine cx_seq ?_
   refine cx_ops ?_
   refine ax_q (q_ldN rfl rfl rfl) ?_
   refine ax_e (e_st rfl rfl rfl rfl rfl rfl rfl) ?_
   refine ax_nil ?_
   refine cx_keep rfl rfl ?_
   refine cx_ret (retN id [1000] rfl rfl rfl rfl rfl ?_)
   have e : rowF s = (⟨(nextF s 6).1, (valueF (nextF s 6).2).1, (valueF (valueF (nextF s 6).2).2).1⟩, rowS0 s) := by unfold rowF; rw [e0]; unfold rowM; rw [if_neg (by exact h1), e1]
   rw [e]; exact ⟨rfl, rfl⟩


/- loop.example/g00332/spec.RowOf -/
def k_c_RowOf : XCode :=
 .seq (.ops [.op (some 2) (.alloc [.int .i64 0, .int .i64 0, .int .i64 0, .str [], .int .i64 0, .int .i64 0, .str []])])
 (.keep [0, 2] (.seq (.ops [.op (some 3) (.mov (.t 0)),
   .call (some 4) 69 [.t 3],
   .call (some 5) 71 [.t 4],
   .op none (.store 7 (.t 2) (.t 5))])
 (.keep [2] (.ret))))
theorem k_c_RowOf_fits : fitsF Try.prog 38 ⟨6, k_c_RowOf, [.cN 2 7]⟩ = true := by kernel_rfl
theorem c_RowOf {code : Str} (hl : code.length ≤ 1048576) : Con Try.prog noMv 38 [.d (.sl 1 (code.map byteRow))] [] (fun r h => r = (rowF (srcOf code)).1.av ∧ h = []) := by
 refine con_of2 k_c_RowOf_fits rfl fun C hP hmv => ?_
 unfold k_c_RowOf
 refine cx_seq ?_
 refine cx_ops ?_
 refine ax_e (e_alloc (by decide) rfl rfl) ?_
 refine ax_nil ?_
 refine cx_keep rfl rfl ?_
 refine cx_seq ?_
 refine cx_ops ?_
 refine ax_q (q_mov rfl) ?_
 refine ax_call rfl (vc_pure (c_l00Source hl) hP rfl ?_)
 rintro r h ⟨rfl, rfl⟩
 refine ⟨fun _ => 4, [0], ⟨rfl, rfl, rfl, rfl, rfl, fun h => absurd h Bool.false_ne_true⟩, ?_⟩
 refine ax_call rfl (vcall_own (c_row (s := srcOf code) (n := 900) ?_) hP hmv false (fun _ => 4) [1000] ⟨rfl, rfl, rfl, rfl, ⟨rfl, trivial⟩, rfl, rfl, rfl⟩ (.pass rfl rfl .nil) ?_)
 ·
  exact (srcOf_ok hl).mono (by omega)
 rintro r h ⟨rfl, rfl⟩
 refine ⟨fun _ => 4, [], ⟨rfl, rfl, rfl, rfl, mem1 rfl, rfl, rfl, fun h => absurd h Bool.false_ne_true⟩, ?_⟩
 refine ax_e (e_st rfl rfl rfl rfl rfl rfl rfl) ?_
 refine ax_nil ?_
 refine cx_keep rfl rfl ?_
 refine cx_ret (ret0 rfl rfl ?_)
 exact ⟨rfl, rfl⟩

end Go.Proofs.Ytalnddcijlkklaa
