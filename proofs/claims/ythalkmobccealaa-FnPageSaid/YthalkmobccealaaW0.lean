/- The walks: what each function computes, as a contract without a world (part 0). -/
import Derived.Test.YthalkmobccealaaProg
import Derived.Test.YthalkmobccealaaD1
namespace Go.Proofs.Ythalkmobccealaa
open Go Go.AM
set_option maxRecDepth 10000
set_option linter.unusedVariables false
set_option linter.unusedSimpArgs false
/- loop.example/g00332/spec.l00Source -/
def k_c_l00Source : XCode :=
 .seq (.ops [.op (some 2) (.mov (.k (.nilp)))])
 (.keep [0] (.seq (.ops [.op (some 3) (.mov (.t 0)),
   .op (some 4) (.mov (.t 0)),
   .op (some 5) (.lenS (.t 4)),
   .op (some 6) (.bin .rem (.t 5) (.k (.int .i64 1000))),
   .op (some 7) (.build [.nils 1, .int .i64 0, .int .i64 0] [(0, 1, .t 3), (2, 1, .t 6)]),
   .op (some 8) (.box (.t 7)),
   .op (some 2) (.mov (.t 8))])
 (.keep [2] (.ret))))
theorem k_c_l00Source_fits : fitsF Try.prog 32 ⟨9, k_c_l00Source, [.t 2]⟩ = true := by kernel_rfl
theorem c_l00Source {code : Str} (hl : code.length ≤ 1048576) : Con Try.prog noMv 32 [.d (.sl 1 (code.map byteRow))] [] (fun r h => r = .ptr 0 0 ∧ h = (srcOf code).h 0) := by
 refine con_of2 k_c_l00Source_fits rfl fun C hP hmv => ?_
 unfold k_c_l00Source
 refine cx_seq ?_
 refine cx_ops ?_
 refine ax_q (q_mov rfl) ?_
 refine ax_nil ?_
 refine cx_keep rfl rfl ?_
 refine cx_seq ?_
 refine cx_ops ?_
 refine ax_q (q_mov rfl) ?_
 refine ax_q (q_mov rfl) ?_
 first | refine ax_q (q_lenS_map rfl) ?_ | refine ax_q (q_lenS_osl rfl) ?_ | refine ax_q (q_lenS_zs rfl) ?_ | refine ax_q (q_lenS rfl) ?_
 refine ax_q (q_mod rfl rfl (by omega) (by omega)) ?_
 refine ax_q (q_build rfl) ?_
 refine ax_e (e_box rfl rfl (by decide) rfl rfl rfl) ?_
 refine ax_q (q_mov rfl) ?_
 refine ax_nil ?_
 refine cx_keep rfl rfl ?_
 refine cx_ret (retN (fun _ => 0) [8] rfl rfl rfl rfl rfl ?_)
 exact ⟨rfl, rfl⟩


/- loop.example/g00332/spec.NewPage -/
def k_c_sNewPage : XCode :=
 .seq (.ops [.op (some 0) (.alloc [.int .i64 0, .nils 1])])
 (.keep [0] (.seq (.ops [.op (some 1) (.mkslice 1 16 [.str []] (.k (.int .i64 4)) (.k (.int .i64 4))),
   .op (some 2) (.build [.int .i64 0, .nils 1] [(1, 1, .t 1)]),
   .op none (.store 2 (.t 0) (.t 2))])
 (.keep [0] (.ret))))
theorem k_c_sNewPage_fits : fitsF Try.prog 25 ⟨3, k_c_sNewPage, [.cN 0 2]⟩ = true := by kernel_rfl
theorem c_sNewPage  : Con Try.prog noMv 25 [] [] (fun r h => r = (⟨0, [[], [], [], []]⟩ : Page).avO 0 ∧ h = (⟨0, [[], [], [], []]⟩ : Page).hO 0) := by
 refine con_of2 k_c_sNewPage_fits rfl fun C hP hmv => ?_
 unfold k_c_sNewPage
 refine cx_seq ?_
 refine cx_ops ?_
 refine ax_e (e_alloc (by decide) rfl rfl) ?_
 refine ax_nil ?_
 refine cx_keep rfl rfl ?_
 refine cx_seq ?_
 refine cx_ops ?_
 refine ax_e (e_mkslice rfl rfl rfl (by omega) (by omega) (by omega) (by decide) rfl rfl) ?_
 refine ax_q (q_build rfl) ?_
 refine ax_e (e_st rfl rfl rfl rfl rfl rfl rfl) ?_
 refine ax_nil ?_
 refine cx_keep rfl rfl ?_
 refine cx_ret (retN (fun _ => 0) [1] rfl rfl rfl rfl rfl ?_)
 exact ⟨rfl, rfl⟩


/- (ptr loop.example/g00332/spec.l00Src).byte -/
def k_c_byte : XCode :=
 .seq (.ops [.op (some 2) (.mov (.k (.int .i64 0)))])
 (.keep [0] (.seq (.ops [.op (some 3) (.mov (.t 0)),
   .op (some 4) (.nilck (.t 3)),
   .op (some 5) (.fadr (.t 4) 1),
   .op (some 6) (.load1 (.t 5)),
   .op (some 7) (.bin .add (.t 6) (.k (.int .i64 1))),
   .op (some 8) (.nilck (.t 3)),
   .op (some 9) (.fadr (.t 8) 1),
   .op none (.store 1 (.t 9) (.t 7))])
 (.keep [0] (.seq (.seq (.draw [.op (some 10) (.mov (.t 0)),
   .op (some 11) (.nilck (.t 10)),
   .op (some 12) (.fadr (.t 11) 1),
   .op (some 13) (.load1 (.t 12)),
   .op (some 14) (.mov (.t 0)),
   .op (some 15) (.nilck (.t 14)),
   .op (some 16) (.fadr (.t 15) 0),
   .op (some 17) (.load1 (.t 16)),
   .op (some 18) (.lenS (.t 17)),
   .op (some 19) (.bin .leq (.t 13) (.t 18))])
  (.keep [0, 19] (.cond (.t 19)
  (.seq (.drawE [[], [], [1], [1, 2], [1, 2, 3], [1, 2, 3, 4], [], [6], [6, 7], [6, 7, 8], [], [10], [10, 11], [10, 11, 12], [10, 11, 12, 13], [6, 7, 8, 9, 10, 11, 12, 13, 14], [6, 7, 8, 9, 10, 11, 12, 13, 14, 15], [6, 7, 8, 9, 10, 11, 12, 13, 14, 15, 16], [1, 2, 3, 4, 5, 6, 7, 8, 9, 10, 11, 12, 13, 14, 15, 16, 17], [1, 2, 3, 4, 5, 6, 7, 8, 9, 10, 11, 12, 13, 14, 15, 16, 17, 18], [1, 2, 3, 4, 5, 6, 7, 8, 9, 10, 11, 12, 13, 14, 15, 16, 17, 18, 19], [0, 1, 2, 3, 4, 5, 6, 7, 8, 9, 10, 11, 12, 13, 14, 15, 16, 17, 18, 19, 20], [0, 1, 2, 3, 4, 5, 6, 7, 8, 9, 10, 11, 12, 13, 14, 15, 16, 17, 18, 19, 20, 21], [0, 1, 2, 3, 4, 5, 6, 7, 8, 9, 10, 11, 12, 13, 14, 15, 16, 17, 18, 19, 20, 21, 22]] [.op (some 20) (.mov (.t 0)),
    .op (some 21) (.mov (.t 0)),
    .op (some 22) (.nilck (.t 21)),
    .op (some 23) (.fadr (.t 22) 2),
    .op (some 24) (.load1 (.t 23)),
    .op (some 25) (.bin .mul (.t 24) (.k (.int .i64 31))),
    .op (some 26) (.mov (.t 0)),
    .op (some 27) (.nilck (.t 26)),
    .op (some 28) (.fadr (.t 27) 0),
    .op (some 29) (.load1 (.t 28)),
    .op (some 30) (.mov (.t 0)),
    .op (some 31) (.nilck (.t 30)),
    .op (some 32) (.fadr (.t 31) 1),
    .op (some 33) (.load1 (.t 32)),
    .op (some 34) (.bin .sub (.t 33) (.k (.int .i64 1))),
    .op (some 35) (.iadr 1 (.t 29) (.t 34)),
    .op (some 36) (.load1 (.t 35)),
    .op (some 37) (.conv .i64 (.t 36)),
    .op (some 38) (.bin .add (.t 25) (.t 37)),
    .op (some 39) (.bin .add (.t 38) (.k (.int .i64 7))),
    .op (some 40) (.bin .rem (.t 39) (.k (.int .i64 2147483648)))]
    [.op (some 41) (.nilck (.t 20)),
    .op (some 42) (.fadr (.t 41) 2),
    .op none (.store 1 (.t 42) (.t 40))])
   (.keep [0] (.seq (.draw [.op (some 43) (.mov (.t 0)),
    .op (some 44) (.nilck (.t 43)),
    .op (some 45) (.fadr (.t 44) 0),
    .op (some 46) (.load1 (.t 45)),
    .op (some 47) (.mov (.t 0)),
    .op (some 48) (.nilck (.t 47)),
    .op (some 49) (.fadr (.t 48) 1),
    .op (some 50) (.load1 (.t 49)),
    .op (some 51) (.bin .sub (.t 50) (.k (.int .i64 1))),
    .op (some 52) (.iadr 1 (.t 46) (.t 51)),
    .op (some 53) (.load1 (.t 52)),
    .op (some 54) (.conv .i64 (.t 53)),
    .op (some 2) (.mov (.t 54))])
   (.keep [2] (.ret)))))
  (.skip))))
 (.keep [0] (.seq (.seq (.ops [.op (some 55) (.mov (.t 0)),
   .op (some 56) (.nilck (.t 55)),
   .op (some 57) (.fadr (.t 56) 1),
   .op (some 58) (.load1 (.t 57)),
   .op (some 59) (.bin .gtr (.t 58) (.k (.int .i64 3000)))])
  (.keep [0, 59] (.cond (.t 59)
  (.seq (.ops [.op (some 2) (.mov (.k (.int .i64 0)))])
   (.keep [2] (.ret)))
  (.skip))))
 (.keep [0] (.seq (.ops [.op (some 60) (.mov (.t 0)),
   .op (some 61) (.mov (.t 0)),
   .op (some 62) (.nilck (.t 61)),
   .op (some 63) (.fadr (.t 62) 2),
   .op (some 64) (.load1 (.t 63)),
   .op (some 65) (.bin .mul (.t 64) (.k (.int .i64 1103515245))),
   .op (some 66) (.bin .add (.t 65) (.k (.int .i64 12345))),
   .op (some 67) (.bin .rem (.t 66) (.k (.int .i64 2147483648))),
   .op (some 68) (.nilck (.t 60)),
   .op (some 69) (.fadr (.t 68) 2),
   .op none (.store 1 (.t 69) (.t 67))])
 (.keep [0] (.seq (.ops [.op (some 70) (.mov (.t 0)),
   .op (some 71) (.nilck (.t 70)),
   .op (some 72) (.fadr (.t 71) 2),
   .op (some 73) (.load1 (.t 72)),
   .op (some 74) (.bin .quo (.t 73) (.k (.int .i64 65536))),
   .op (some 75) (.bin .rem (.t 74) (.k (.int .i64 256))),
   .op (some 2) (.mov (.t 75))])
 (.keep [2] (.ret))))))))))))
theorem k_c_byte_fits : fitsF Try.prog 92 ⟨76, k_c_byte, [.t 2]⟩ = true := by kernel_rfl
set_option maxHeartbeats 2000000 in
theorem c_byte {s : Src} {n : Nat} (hs : s.ok (n + 1)) : Con Try.prog noMv 92 [.ptr 1000 0] (s.h 1000) (fun r h => r = int (byteF s).1 ∧ h = ((byteF s).2).h 1000) := by
 refine con_of2 k_c_byte_fits rfl fun C hP hmv => ?_
 unfold k_c_byte
 have hp := hs.pos; have hd := hs.seed; have hl := hs.len
 refine cx_seq ?_
 refine cx_ops ?_
 refine ax_q (q_mov rfl) ?_
 refine ax_nil ?_
 refine cx_keep rfl rfl ?_
 refine cx_seq ?_
 refine cx_ops ?_
 refine ax_q (q_mov rfl) ?_
 first | refine ax_q (q_nilck_ptr rfl) ?_ | refine ax_q (q_nilck_rptr rfl) ?_ | refine ax_q (q_nilck_ip rfl) ?_
 first | refine ax_q (q_fadr_ptr rfl) ?_ | refine ax_q (q_fadr_rptr rfl) ?_ | refine ax_q (q_fadr_ip rfl) ?_
 first | refine ax_q (q_load1_ptr rfl rfl rfl) ?_ | refine ax_q (q_load1_ip rfl) ?_ | refine ax_q (q_load1_rptr rfl rfl rfl rfl) ?_ | refine ax_q (q_load1_rptr rfl rfl (by assumption) rfl) ?_ | refine ax_q (q_load1_rptr rfl rfl (mapAt (by first | assumption | omega)) rfl) ?_
 refine ax_q (q_add rfl rfl (by omega)) ?_
 first | refine ax_q (q_nilck_ptr rfl) ?_ | refine ax_q (q_nilck_rptr rfl) ?_ | refine ax_q (q_nilck_ip rfl) ?_
 first | refine ax_q (q_fadr_ptr rfl) ?_ | refine ax_q (q_fadr_rptr rfl) ?_ | refine ax_q (q_fadr_ip rfl) ?_
 refine ax_e (e_st rfl rfl rfl rfl rfl rfl rfl) ?_
 refine ax_nil ?_
 refine cx_keep rfl rfl ?_
 refine cx_seq ?_
 refine cx_seq ?_
 refine cx_draw ?_
 refine ax_q (q_mov rfl) ?_
 first | refine ax_q (q_nilck_ptr rfl) ?_ | refine ax_q (q_nilck_rptr rfl) ?_ | refine ax_q (q_nilck_ip rfl) ?_
 first | refine ax_q (q_fadr_ptr rfl) ?_ | refine ax_q (q_fadr_rptr rfl) ?_ | refine ax_q (q_fadr_ip rfl) ?_
 first | refine ax_q (q_load1_ptr rfl rfl rfl) ?_ | refine ax_q (q_load1_ip rfl) ?_ | refine ax_q (q_load1_rptr rfl rfl rfl rfl) ?_ | refine ax_q (q_load1_rptr rfl rfl (by assumption) rfl) ?_ | refine ax_q (q_load1_rptr rfl rfl (mapAt (by first | assumption | omega)) rfl) ?_
 refine ax_q (q_mov rfl) ?_
 first | refine ax_q (q_nilck_ptr rfl) ?_ | refine ax_q (q_nilck_rptr rfl) ?_ | refine ax_q (q_nilck_ip rfl) ?_
 first | refine ax_q (q_fadr_ptr rfl) ?_ | refine ax_q (q_fadr_rptr rfl) ?_ | refine ax_q (q_fadr_ip rfl) ?_
 first | refine ax_q (q_load1_ptr rfl rfl rfl) ?_ | refine ax_q (q_load1_ip rfl) ?_ | refine ax_q (q_load1_rptr rfl rfl rfl rfl) ?_ | refine ax_q (q_load1_rptr rfl rfl (by assumption) rfl) ?_ | refine ax_q (q_load1_rptr rfl rfl (mapAt (by first | assumption | omega)) rfl) ?_
 first | refine ax_q (q_lenS_map rfl) ?_ | refine ax_q (q_lenS_osl rfl) ?_ | refine ax_q (q_lenS_zs rfl) ?_ | refine ax_q (q_lenS rfl) ?_
 refine ax_q (q_ibin rfl rfl rfl) ?_
 refine ax_nil ?_
 refine cx_keep rfl rfl ?_
 refine cx_cond rfl (fun h0 => ?_) (fun h0 => ?_)
 ·
  have h0 := dT h0
  have hi : (s.pos + 1 - 1).toNat < s.code.length := by omega
  have hb := (s.code[(s.pos + 1 - 1).toNat]).toNat_lt
  have hg : s.code.getD s.pos.toNat 0 = s.code[(s.pos + 1 - 1).toNat] := by
   rw [← getD_at hi]; congr 2; omega
  refine cx_seq ?_
  refine cx_drawL 0 20 (fun _ => false) (fun _ => true) [] ([]) [[0], [0], [21], [22], [23], [24], [0], [26], [27], [28], [0], [30], [31], [32], [33], [29, 34], [35], [36], [25, 37], [38], [39]] [[], [], [], [], [], [], [], [], [], [], [], [], [], [], [], [], [], [], [], [], []] rfl ?_
  first | refine ⟨⟨20, _, []⟩, .inl ⟨rfl, rfl, rfl, locl_of (loc_q (q_mov rfl))⟩, ?_⟩
  first | refine ⟨_, .inr ⟨rfl, _, rfl, .inr ⟨rfl, rfl, .inr rfl, rfl, rfl⟩, loc_q (q_mov rfl)⟩, ?_⟩
  first | refine ⟨_, .inr ⟨rfl, _, rfl, .inr ⟨rfl, rfl, .inr rfl, rfl, rfl⟩, loc_q (q_nilck_ptr rfl)⟩, ?_⟩ | refine ⟨_, .inr ⟨rfl, _, rfl, .inr ⟨rfl, rfl, .inr rfl, rfl, rfl⟩, loc_q (q_nilck_rptr rfl)⟩, ?_⟩ | refine ⟨_, .inr ⟨rfl, _, rfl, .inr ⟨rfl, rfl, .inr rfl, rfl, rfl⟩, loc_q (q_nilck_ip rfl)⟩, ?_⟩
  first | refine ⟨_, .inr ⟨rfl, _, rfl, .inr ⟨rfl, rfl, .inr rfl, rfl, rfl⟩, loc_q (q_fadr_ptr rfl)⟩, ?_⟩ | refine ⟨_, .inr ⟨rfl, _, rfl, .inr ⟨rfl, rfl, .inr rfl, rfl, rfl⟩, loc_q (q_fadr_rptr rfl)⟩, ?_⟩ | refine ⟨_, .inr ⟨rfl, _, rfl, .inr ⟨rfl, rfl, .inr rfl, rfl, rfl⟩, loc_q (q_fadr_ip rfl)⟩, ?_⟩
  first | refine ⟨_, .inr ⟨rfl, _, rfl, .inr ⟨rfl, rfl, .inr rfl, rfl, rfl⟩, loc_q (q_load1_ptr rfl rfl rfl)⟩, ?_⟩ | refine ⟨_, .inr ⟨rfl, _, rfl, .inr ⟨rfl, rfl, .inr rfl, rfl, rfl⟩, loc_q (q_load1_ip rfl)⟩, ?_⟩ | refine ⟨_, .inr ⟨rfl, _, rfl, .inr ⟨rfl, rfl, .inr rfl, rfl, rfl⟩, loc_q (q_load1_rptr rfl rfl rfl rfl)⟩, ?_⟩ | refine ⟨_, .inr ⟨rfl, _, rfl, .inr ⟨rfl, rfl, .inr rfl, rfl, rfl⟩, loc_q (q_load1_rptr rfl rfl (by assumption) rfl)⟩, ?_⟩ | refine ⟨_, .inr ⟨rfl, _, rfl, .inr ⟨rfl, rfl, .inr rfl, rfl, rfl⟩, loc_q (q_load1_rptr rfl rfl (mapAt (by first | assumption | omega)) rfl)⟩, ?_⟩
  first | refine ⟨_, .inr ⟨rfl, _, rfl, .inr ⟨rfl, rfl, .inr rfl, rfl, rfl⟩, loc_q (q_mul rfl rfl (by omega))⟩, ?_⟩
  first | refine ⟨_, .inr ⟨rfl, _, rfl, .inr ⟨rfl, rfl, .inr rfl, rfl, rfl⟩, loc_q (q_mov rfl)⟩, ?_⟩
  first | refine ⟨_, .inr ⟨rfl, _, rfl, .inr ⟨rfl, rfl, .inr rfl, rfl, rfl⟩, loc_q (q_nilck_ptr rfl)⟩, ?_⟩ | refine ⟨_, .inr ⟨rfl, _, rfl, .inr ⟨rfl, rfl, .inr rfl, rfl, rfl⟩, loc_q (q_nilck_rptr rfl)⟩, ?_⟩ | refine ⟨_, .inr ⟨rfl, _, rfl, .inr ⟨rfl, rfl, .inr rfl, rfl, rfl⟩, loc_q (q_nilck_ip rfl)⟩, ?_⟩
  first | refine ⟨_, .inr ⟨rfl, _, rfl, .inr ⟨rfl, rfl, .inr rfl, rfl, rfl⟩, loc_q (q_fadr_ptr rfl)⟩, ?_⟩ | refine ⟨_, .inr ⟨rfl, _, rfl, .inr ⟨rfl, rfl, .inr rfl, rfl, rfl⟩, loc_q (q_fadr_rptr rfl)⟩, ?_⟩ | refine ⟨_, .inr ⟨rfl, _, rfl, .inr ⟨rfl, rfl, .inr rfl, rfl, rfl⟩, loc_q (q_fadr_ip rfl)⟩, ?_⟩
  first | refine ⟨_, .inr ⟨rfl, _, rfl, .inr ⟨rfl, rfl, .inr rfl, rfl, rfl⟩, loc_q (q_load1_ptr rfl rfl rfl)⟩, ?_⟩ | refine ⟨_, .inr ⟨rfl, _, rfl, .inr ⟨rfl, rfl, .inr rfl, rfl, rfl⟩, loc_q (q_load1_ip rfl)⟩, ?_⟩ | refine ⟨_, .inr ⟨rfl, _, rfl, .inr ⟨rfl, rfl, .inr rfl, rfl, rfl⟩, loc_q (q_load1_rptr rfl rfl rfl rfl)⟩, ?_⟩ | refine ⟨_, .inr ⟨rfl, _, rfl, .inr ⟨rfl, rfl, .inr rfl, rfl, rfl⟩, loc_q (q_load1_rptr rfl rfl (by assumption) rfl)⟩, ?_⟩ | refine ⟨_, .inr ⟨rfl, _, rfl, .inr ⟨rfl, rfl, .inr rfl, rfl, rfl⟩, loc_q (q_load1_rptr rfl rfl (mapAt (by first | assumption | omega)) rfl)⟩, ?_⟩
  first | refine ⟨_, .inr ⟨rfl, _, rfl, .inr ⟨rfl, rfl, .inr rfl, rfl, rfl⟩, loc_q (q_mov rfl)⟩, ?_⟩
  first | refine ⟨_, .inr ⟨rfl, _, rfl, .inr ⟨rfl, rfl, .inr rfl, rfl, rfl⟩, loc_q (q_nilck_ptr rfl)⟩, ?_⟩ | refine ⟨_, .inr ⟨rfl, _, rfl, .inr ⟨rfl, rfl, .inr rfl, rfl, rfl⟩, loc_q (q_nilck_rptr rfl)⟩, ?_⟩ | refine ⟨_, .inr ⟨rfl, _, rfl, .inr ⟨rfl, rfl, .inr rfl, rfl, rfl⟩, loc_q (q_nilck_ip rfl)⟩, ?_⟩
  first | refine ⟨_, .inr ⟨rfl, _, rfl, .inr ⟨rfl, rfl, .inr rfl, rfl, rfl⟩, loc_q (q_fadr_ptr rfl)⟩, ?_⟩ | refine ⟨_, .inr ⟨rfl, _, rfl, .inr ⟨rfl, rfl, .inr rfl, rfl, rfl⟩, loc_q (q_fadr_rptr rfl)⟩, ?_⟩ | refine ⟨_, .inr ⟨rfl, _, rfl, .inr ⟨rfl, rfl, .inr rfl, rfl, rfl⟩, loc_q (q_fadr_ip rfl)⟩, ?_⟩
  first | refine ⟨_, .inr ⟨rfl, _, rfl, .inr ⟨rfl, rfl, .inr rfl, rfl, rfl⟩, loc_q (q_load1_ptr rfl rfl rfl)⟩, ?_⟩ | refine ⟨_, .inr ⟨rfl, _, rfl, .inr ⟨rfl, rfl, .inr rfl, rfl, rfl⟩, loc_q (q_load1_ip rfl)⟩, ?_⟩ | refine ⟨_, .inr ⟨rfl, _, rfl, .inr ⟨rfl, rfl, .inr rfl, rfl, rfl⟩, loc_q (q_load1_rptr rfl rfl rfl rfl)⟩, ?_⟩ | refine ⟨_, .inr ⟨rfl, _, rfl, .inr ⟨rfl, rfl, .inr rfl, rfl, rfl⟩, loc_q (q_load1_rptr rfl rfl (by assumption) rfl)⟩, ?_⟩ | refine ⟨_, .inr ⟨rfl, _, rfl, .inr ⟨rfl, rfl, .inr rfl, rfl, rfl⟩, loc_q (q_load1_rptr rfl rfl (mapAt (by first | assumption | omega)) rfl)⟩, ?_⟩
  first | refine ⟨_, .inr ⟨rfl, _, rfl, .inr ⟨rfl, rfl, .inr rfl, rfl, rfl⟩, loc_q (q_sub rfl rfl (by omega))⟩, ?_⟩
  first | refine ⟨_, .inr ⟨rfl, _, rfl, .inr ⟨rfl, rfl, .inr rfl, rfl, rfl⟩, loc_q (q_ixI rfl rfl (by omega) (mapAt hi))⟩, ?_⟩
  first | refine ⟨_, .inr ⟨rfl, _, rfl, .inr ⟨rfl, rfl, .inr rfl, rfl, rfl⟩, loc_q (q_load1_ptr rfl rfl rfl)⟩, ?_⟩ | refine ⟨_, .inr ⟨rfl, _, rfl, .inr ⟨rfl, rfl, .inr rfl, rfl, rfl⟩, loc_q (q_load1_ip rfl)⟩, ?_⟩ | refine ⟨_, .inr ⟨rfl, _, rfl, .inr ⟨rfl, rfl, .inr rfl, rfl, rfl⟩, loc_q (q_load1_rptr rfl rfl rfl rfl)⟩, ?_⟩ | refine ⟨_, .inr ⟨rfl, _, rfl, .inr ⟨rfl, rfl, .inr rfl, rfl, rfl⟩, loc_q (q_load1_rptr rfl rfl (by assumption) rfl)⟩, ?_⟩ | refine ⟨_, .inr ⟨rfl, _, rfl, .inr ⟨rfl, rfl, .inr rfl, rfl, rfl⟩, loc_q (q_load1_rptr rfl rfl (mapAt (by first | assumption | omega)) rfl)⟩, ?_⟩
  first | refine ⟨_, .inr ⟨rfl, _, rfl, .inr ⟨rfl, rfl, .inr rfl, rfl, rfl⟩, loc_q (q_convB rfl)⟩, ?_⟩ | refine ⟨_, .inr ⟨rfl, _, rfl, .inr ⟨rfl, rfl, .inr rfl, rfl, rfl⟩, loc_q (q_convI rfl (by omega))⟩, ?_⟩ | refine ⟨_, .inr ⟨rfl, _, rfl, .inr ⟨rfl, rfl, .inr rfl, rfl, rfl⟩, loc_q (q_convU8 rfl)⟩, ?_⟩ | refine ⟨_, .inr ⟨rfl, _, rfl, .inr ⟨rfl, rfl, .inr rfl, rfl, rfl⟩, loc_q (q_conv rfl)⟩, ?_⟩
  first | refine ⟨_, .inr ⟨rfl, _, rfl, .inr ⟨rfl, rfl, .inr rfl, rfl, rfl⟩, loc_q (q_add rfl rfl (by omega))⟩, ?_⟩
  first | refine ⟨_, .inr ⟨rfl, _, rfl, .inr ⟨rfl, rfl, .inr rfl, rfl, rfl⟩, loc_q (q_add rfl rfl (by omega))⟩, ?_⟩
  first | refine ⟨_, .inr ⟨rfl, _, rfl, .inr ⟨rfl, rfl, .inr rfl, rfl, rfl⟩, loc_q (q_mod rfl rfl (by omega) (by omega))⟩, ?_⟩
  refine ⟨rfl, ?_⟩
  first | refine ax_q (q_nilck_ptr rfl) ?_ | refine ax_q (q_nilck_rptr rfl) ?_ | refine ax_q (q_nilck_ip rfl) ?_
  first | refine ax_q (q_fadr_ptr rfl) ?_ | refine ax_q (q_fadr_rptr rfl) ?_ | refine ax_q (q_fadr_ip rfl) ?_
  refine ax_e (e_st rfl rfl rfl rfl rfl rfl rfl) ?_
  refine ax_nil ?_
  refine cx_keep rfl rfl ?_
  refine cx_seq ?_
  refine cx_draw ?_
  refine ax_q (q_mov rfl) ?_
  first | refine ax_q (q_nilck_ptr rfl) ?_ | refine ax_q (q_nilck_rptr rfl) ?_ | refine ax_q (q_nilck_ip rfl) ?_
  first | refine ax_q (q_fadr_ptr rfl) ?_ | refine ax_q (q_fadr_rptr rfl) ?_ | refine ax_q (q_fadr_ip rfl) ?_
  first | refine ax_q (q_load1_ptr rfl rfl rfl) ?_ | refine ax_q (q_load1_ip rfl) ?_ | refine ax_q (q_load1_rptr rfl rfl rfl rfl) ?_ | refine ax_q (q_load1_rptr rfl rfl (by assumption) rfl) ?_ | refine ax_q (q_load1_rptr rfl rfl (mapAt (by first | assumption | omega)) rfl) ?_
  refine ax_q (q_mov rfl) ?_
  first | refine ax_q (q_nilck_ptr rfl) ?_ | refine ax_q (q_nilck_rptr rfl) ?_ | refine ax_q (q_nilck_ip rfl) ?_
  first | refine ax_q (q_fadr_ptr rfl) ?_ | refine ax_q (q_fadr_rptr rfl) ?_ | refine ax_q (q_fadr_ip rfl) ?_
  first | refine ax_q (q_load1_ptr rfl rfl rfl) ?_ | refine ax_q (q_load1_ip rfl) ?_ | refine ax_q (q_load1_rptr rfl rfl rfl rfl) ?_ | refine ax_q (q_load1_rptr rfl rfl (by assumption) rfl) ?_ | refine ax_q (q_load1_rptr rfl rfl (mapAt (by first | assumption | omega)) rfl) ?_
  refine ax_q (q_sub rfl rfl (by omega)) ?_
  refine ax_q (q_ixI rfl rfl (by omega) (mapAt hi)) ?_
  first | refine ax_q (q_load1_ptr rfl rfl rfl) ?_ | refine ax_q (q_load1_ip rfl) ?_ | refine ax_q (q_load1_rptr rfl rfl rfl rfl) ?_ | refine ax_q (q_load1_rptr rfl rfl (by assumption) rfl) ?_ | refine ax_q (q_load1_rptr rfl rfl (mapAt (by first | assumption | omega)) rfl) ?_
  first | refine ax_q (q_convB rfl) ?_ | refine ax_q (q_convI rfl (by omega)) ?_ | refine ax_q (q_convU8 rfl) ?_ | refine ax_q (q_conv rfl) ?_
  refine ax_q (q_mov rfl) ?_
  refine ax_nil ?_
  refine cx_keep rfl rfl ?_
  refine cx_ret (retN id [1000] rfl rfl rfl rfl rfl ?_)
  rw [byteF_1 h0, hg]; exact ⟨rfl, rfl⟩
 ·
  have h0 := dF h0
  refine cx_skip ?_
  refine cx_keep rfl rfl ?_
  refine cx_seq ?_
  refine cx_seq ?_
  refine cx_ops ?_
  refine ax_q (q_mov rfl) ?_
  first | refine ax_q (q_nilck_ptr rfl) ?_ | refine ax_q (q_nilck_rptr rfl) ?_ | refine ax_q (q_nilck_ip rfl) ?_
  first | refine ax_q (q_fadr_ptr rfl) ?_ | refine ax_q (q_fadr_rptr rfl) ?_ | refine ax_q (q_fadr_ip rfl) ?_
  first | refine ax_q (q_load1_ptr rfl rfl rfl) ?_ | refine ax_q (q_load1_ip rfl) ?_ | refine ax_q (q_load1_rptr rfl rfl rfl rfl) ?_ | refine ax_q (q_load1_rptr rfl rfl (by assumption) rfl) ?_ | refine ax_q (q_load1_rptr rfl rfl (mapAt (by first | assumption | omega)) rfl) ?_
  refine ax_q (q_ibin rfl rfl rfl) ?_
  refine ax_nil ?_
  refine cx_keep rfl rfl ?_
  refine cx_cond rfl (fun h1 => ?_) (fun h1 => ?_)
  ·
   have h1 := dT h1
   refine cx_seq ?_
   refine cx_ops ?_
   refine ax_q (q_mov rfl) ?_
   refine ax_nil ?_
   refine cx_keep rfl rfl ?_
   refine cx_ret (retN id [1000] rfl rfl rfl rfl rfl ?_)
   rw [byteF_2 h0 h1]; exact ⟨rfl, rfl⟩
  ·
   have h1 := dF h1
   refine cx_skip ?_
   refine cx_keep rfl rfl ?_
   refine cx_seq ?_
   refine cx_ops ?_
   refine ax_q (q_mov rfl) ?_
   refine ax_q (q_mov rfl) ?_
   first | refine ax_q (q_nilck_ptr rfl) ?_ | refine ax_q (q_nilck_rptr rfl) ?_ | refine ax_q (q_nilck_ip rfl) ?_
   first | refine ax_q (q_fadr_ptr rfl) ?_ | refine ax_q (q_fadr_rptr rfl) ?_ | refine ax_q (q_fadr_ip rfl) ?_
   first | refine ax_q (q_load1_ptr rfl rfl rfl) ?_ | refine ax_q (q_load1_ip rfl) ?_ | refine ax_q (q_load1_rptr rfl rfl rfl rfl) ?_ | refine ax_q (q_load1_rptr rfl rfl (by assumption) rfl) ?_ | refine ax_q (q_load1_rptr rfl rfl (mapAt (by first | assumption | omega)) rfl) ?_
   refine ax_q (q_mul rfl rfl (by omega)) ?_
   refine ax_q (q_add rfl rfl (by omega)) ?_
   refine ax_q (q_mod rfl rfl (by omega) (by omega)) ?_
   first | refine ax_q (q_nilck_ptr rfl) ?_ | refine ax_q (q_nilck_rptr rfl) ?_ | refine ax_q (q_nilck_ip rfl) ?_
   first | refine ax_q (q_fadr_ptr rfl) ?_ | refine ax_q (q_fadr_rptr rfl) ?_ | refine ax_q (q_fadr_ip rfl) ?_
   refine ax_e (e_st rfl rfl rfl rfl rfl rfl rfl) ?_
   refine ax_nil ?_
   refine cx_keep rfl rfl ?_
   refine cx_seq ?_
   refine cx_ops ?_
   refine ax_q (q_mov rfl) ?_
   first | refine ax_q (q_nilck_ptr rfl) ?_ | refine ax_q (q_nilck_rptr rfl) ?_ | refine ax_q (q_nilck_ip rfl) ?_
   first | refine ax_q (q_fadr_ptr rfl) ?_ | refine ax_q (q_fadr_rptr rfl) ?_ | refine ax_q (q_fadr_ip rfl) ?_
   first | refine ax_q (q_load1_ptr rfl rfl rfl) ?_ | refine ax_q (q_load1_ip rfl) ?_ | refine ax_q (q_load1_rptr rfl rfl rfl rfl) ?_ | refine ax_q (q_load1_rptr rfl rfl (by assumption) rfl) ?_ | refine ax_q (q_load1_rptr rfl rfl (mapAt (by first | assumption | omega)) rfl) ?_
   refine ax_q (q_div rfl rfl (by omega) (by omega) (by omega)) ?_
   refine ax_q (q_mod rfl rfl (by omega) (by omega)) ?_
   refine ax_q (q_mov rfl) ?_
   refine ax_nil ?_
   refine cx_keep rfl rfl ?_
   refine cx_ret (retN id [1000] rfl rfl rfl rfl rfl ?_)
   rw [byteF_3 h0 h1]; exact ⟨rfl, rfl⟩


/- (ptr loop.example/g00332/spec.l00Src).next -/
def k_c_next : XCode :=
 .seq (.ops [.op (some 4) (.mov (.k (.int .i64 0)))])
 (.keep [0, 1] (.seq (.seq (.ops [.op (some 8) (.mov (.t 1)),
   .op (some 9) (.bin .leq (.t 8) (.k (.int .i64 1)))])
  (.keep [0, 1, 9] (.cond (.t 9)
  (.seq (.ops [.op (some 4) (.mov (.k (.int .i64 0)))])
   (.keep [4] (.ret)))
  (.skip))))
 (.keep [0, 1] (.seq (.seq (.ops [.op (some 10) (.mov (.t 1)),
   .op (some 11) (.bin .leq (.t 10) (.k (.int .i64 256)))])
  (.keep [0, 1, 11] (.cond (.t 11)
  (.seq (.ops [.op (some 12) (.mov (.t 0)),
    .call (some 13) 92 [.t 12],
    .op (some 14) (.mov (.t 1)),
    .op (some 15) (.bin .rem (.t 13) (.t 14)),
    .op (some 4) (.mov (.t 15))])
   (.keep [4] (.ret)))
  (.skip))))
 (.keep [0, 1] (.seq (.ops [.op (some 16) (.mov (.t 0)),
   .call (some 17) 92 [.t 16],
   .op (some 5) (.mov (.t 17))])
 (.keep [0, 1, 5] (.seq (.ops [.op (some 18) (.mov (.t 0)),
   .call (some 19) 92 [.t 18],
   .op (some 6) (.mov (.t 19))])
 (.keep [0, 1, 5, 6] (.seq (.ops [.op (some 20) (.mov (.t 0)),
   .call (some 21) 92 [.t 20],
   .op (some 7) (.mov (.t 21))])
 (.keep [1, 5, 6, 7] (.seq (.ops [.op (some 22) (.mov (.t 5)),
   .op (some 23) (.bin .mul (.t 22) (.k (.int .i64 65536))),
   .op (some 24) (.mov (.t 6)),
   .op (some 25) (.bin .mul (.t 24) (.k (.int .i64 256))),
   .op (some 26) (.bin .add (.t 23) (.t 25)),
   .op (some 27) (.mov (.t 7)),
   .op (some 28) (.bin .add (.t 26) (.t 27)),
   .op (some 29) (.mov (.t 1)),
   .op (some 30) (.bin .rem (.t 28) (.t 29)),
   .op (some 4) (.mov (.t 30))])
 (.keep [4] (.ret))))))))))))))
theorem k_c_next_fits : fitsF Try.prog 72 ⟨31, k_c_next, [.t 4]⟩ = true := by kernel_rfl
theorem c_next {s : Src} {m : Int} {n : Nat} (hs : s.ok (n + 3)) : Con Try.prog noMv 72 [.ptr 1000 0, int m] (s.h 1000) (fun r h => r = int (nextF s m).1 ∧ h = ((nextF s m).2).h 1000) := by
 refine con_of2 k_c_next_fits rfl fun C hP hmv => ?_
 unfold k_c_next
 refine cx_seq ?_
 refine cx_ops ?_
 refine ax_q (q_mov rfl) ?_
 refine ax_nil ?_
 refine cx_keep rfl rfl ?_
 refine cx_seq ?_
 refine cx_seq ?_
 refine cx_ops ?_
 refine ax_q (q_mov rfl) ?_
 refine ax_q (q_ibin rfl rfl rfl) ?_
 refine ax_nil ?_
 refine cx_keep rfl rfl ?_
 refine cx_cond rfl (fun h0 => ?_) (fun h0 => ?_)
 ·
  have h0 := dT h0
  refine cx_seq ?_
  refine cx_ops ?_
  refine ax_q (q_mov rfl) ?_
  refine ax_nil ?_
  refine cx_keep rfl rfl ?_
  refine cx_ret (retN id [1000] rfl rfl rfl rfl rfl ?_)
  rw [nextF_1 h0]; exact ⟨rfl, rfl⟩
 ·
  have h0 := dF h0
  refine cx_skip ?_
  refine cx_keep rfl rfl ?_
  refine cx_seq ?_
  refine cx_seq ?_
  refine cx_ops ?_
  refine ax_q (q_mov rfl) ?_
  refine ax_q (q_ibin rfl rfl rfl) ?_
  refine ax_nil ?_
  refine cx_keep rfl rfl ?_
  refine cx_cond rfl (fun h1 => ?_) (fun h1 => ?_)
  ·
   have h1 := dT h1
   refine cx_seq ?_
   refine cx_ops ?_
   refine ax_q (q_mov rfl) ?_
   obtain ⟨k1, k2, k3⟩ := byteF_ok (n := n + 2) hs
   refine ax_call rfl (vcall_own (c_byte (n := n + 2) ?_) hP hmv false (fun _ => 1000) [1000] ⟨rfl, rfl, rfl, rfl, ⟨rfl, trivial⟩, rfl, rfl, rfl⟩ (.pass rfl rfl .nil) ?_)
   ·
    first | assumption | omega | (simp; done) | (simp; omega)
   rintro r h ⟨rfl, rfl⟩
   refine ⟨fun _ => 1000, [], ⟨rfl, rfl, rfl, rfl, mem1 rfl, rfl, rfl, fun h => absurd h Bool.false_ne_true⟩, ?_⟩
   refine ax_q (q_mov rfl) ?_
   refine ax_q (q_mod rfl rfl (by omega) (by omega)) ?_
   refine ax_q (q_mov rfl) ?_
   refine ax_nil ?_
   refine cx_keep rfl rfl ?_
   refine cx_ret (retN id [1000] rfl rfl rfl rfl rfl ?_)
   rw [nextF_2 h0 h1]; exact ⟨rfl, rfl⟩
  ·
   have h1 := dF h1
   refine cx_skip ?_
   refine cx_keep rfl rfl ?_
   refine cx_seq ?_
   refine cx_ops ?_
   refine ax_q (q_mov rfl) ?_
   obtain ⟨k1, k2, k3⟩ := byteF_ok (n := n + 2) hs
   obtain ⟨k4, k5, k6⟩ := byteF_ok (n := n + 1) k1
   obtain ⟨k7, k8, k9⟩ := byteF_ok (n := n) k4
   refine ax_call rfl (vcall_own (c_byte (n := n + 2) ?_) hP hmv false (fun _ => 1000) [1000] ⟨rfl, rfl, rfl, rfl, ⟨rfl, trivial⟩, rfl, rfl, rfl⟩ (.pass rfl rfl .nil) ?_)
   ·
    first | assumption | omega | (simp; done) | (simp; omega)
   rintro r h ⟨rfl, rfl⟩
   refine ⟨fun _ => 1000, [], ⟨rfl, rfl, rfl, rfl, mem1 rfl, rfl, rfl, fun h => absurd h Bool.false_ne_true⟩, ?_⟩
   refine ax_q (q_mov rfl) ?_
   refine ax_nil ?_
   refine cx_keep rfl rfl ?_
   refine cx_seq ?_
   refine cx_ops ?_
   refine ax_q (q_mov rfl) ?_
   refine ax_call rfl (vcall_own (c_byte (n := n + 1) ?_) hP hmv false (fun _ => 1000) [1000] ⟨rfl, rfl, rfl, rfl, ⟨rfl, trivial⟩, rfl, rfl, rfl⟩ (.pass rfl rfl .nil) ?_)
   ·
    first | assumption | omega | (simp; done) | (simp; omega)
   rintro r h ⟨rfl, rfl⟩
   refine ⟨fun _ => 1000, [], ⟨rfl, rfl, rfl, rfl, mem1 rfl, rfl, rfl, fun h => absurd h Bool.false_ne_true⟩, ?_⟩
   refine ax_q (q_mov rfl) ?_
   refine ax_nil ?_
   refine cx_keep rfl rfl ?_
   refine cx_seq ?_
   refine cx_ops ?_
   refine ax_q (q_mov rfl) ?_
   refine ax_call rfl (vcall_own (c_byte (n := n) ?_) hP hmv false (fun _ => 1000) [1000] ⟨rfl, rfl, rfl, rfl, ⟨rfl, trivial⟩, rfl, rfl, rfl⟩ (.pass rfl rfl .nil) ?_)
   ·
    first | assumption | omega | (simp; done) | (simp; omega)
   rintro r h ⟨rfl, rfl⟩
   refine ⟨fun _ => 1000, [], ⟨rfl, rfl, rfl, rfl, mem1 rfl, rfl, rfl, fun h => absurd h Bool.false_ne_true⟩, ?_⟩
   refine ax_q (q_mov rfl) ?_
   refine ax_nil ?_
   refine cx_keep rfl rfl ?_
   refine cx_seq ?_
   refine cx_ops ?_
   refine ax_q (q_mov rfl) ?_
   refine ax_q (q_mul rfl rfl (by omega)) ?_
   refine ax_q (q_mov rfl) ?_
   refine ax_q (q_mul rfl rfl (by omega)) ?_
   refine ax_q (q_add rfl rfl (by omega)) ?_
   refine ax_q (q_mov rfl) ?_
   refine ax_q (q_add rfl rfl (by omega)) ?_
   refine ax_q (q_mov rfl) ?_
   refine ax_q (q_mod rfl rfl (by omega) (by omega)) ?_
   refine ax_q (q_mov rfl) ?_
   refine ax_nil ?_
   refine cx_keep rfl rfl ?_
   refine cx_ret (retN id [1000] rfl rfl rfl rfl rfl ?_)
   rw [nextF_3 h0 h1]; exact ⟨rfl, rfl⟩


/- (ptr loop.example/g00332/spec.l00Src).pick -/
def k_c_pick : XCode :=
 .seq (.ops [.op (some 4) (.mov (.k (.str [])))])
 (.keep [0, 1] (.seq (.seq (.ops [.op (some 5) (.mov (.t 1)),
   .op (some 6) (.lenS (.t 5)),
   .op (some 7) (.bin .eql (.t 6) (.k (.int .i64 0)))])
  (.keep [0, 1, 7] (.cond (.t 7)
  (.seq (.ops [.op (some 4) (.mov (.k (.str [])))])
   (.keep [4] (.ret)))
  (.skip))))
 (.keep [0, 1] (.seq (.ops [.op (some 8) (.mov (.t 1)),
   .op (some 9) (.mov (.t 0)),
   .op (some 10) (.mov (.t 1)),
   .op (some 11) (.lenS (.t 10)),
   .call (some 12) 72 [.t 9, .t 11],
   .op (some 13) (.iadr 1 (.t 8) (.t 12)),
   .op (some 14) (.load1 (.t 13)),
   .op (some 4) (.mov (.t 14))])
 (.keep [4] (.ret))))))
theorem k_c_pick_fits : fitsF Try.prog 76 ⟨15, k_c_pick, [.t 4]⟩ = true := by kernel_rfl
theorem c_pick {s : Src} {ts : List Str} {n : Nat} (hs : s.ok (n + 3)) (ht : 1 ≤ ts.length ∧ ts.length ≤ 1000) : Con Try.prog noMv 76 [.ptr 1000 0, .d (.sl 1 (ts.map strRow))] (s.h 1000) (fun r h => r = str (pickF s ts).1 ∧ h = ((pickF s ts).2).h 1000) := by
 refine con_of2 k_c_pick_fits rfl fun C hP hmv => ?_
 unfold k_c_pick
 refine cx_seq ?_
 refine cx_ops ?_
 refine ax_q (q_mov rfl) ?_
 refine ax_nil ?_
 refine cx_keep rfl rfl ?_
 refine cx_seq ?_
 refine cx_seq ?_
 refine cx_ops ?_
 refine ax_q (q_mov rfl) ?_
 first | refine ax_q (q_lenS_map rfl) ?_ | refine ax_q (q_lenS_osl rfl) ?_ | refine ax_q (q_lenS_zs rfl) ?_ | refine ax_q (q_lenS rfl) ?_
 refine ax_q (q_ibin rfl rfl rfl) ?_
 refine ax_nil ?_
 refine cx_keep rfl rfl ?_
 refine cx_cond rfl (fun h0 => ?_) (fun h0 => ?_)
 ·
  have h0 := dT h0
  exfalso; omega
 ·
  have h0 := dF h0
  refine cx_skip ?_
  refine cx_keep rfl rfl ?_
  refine cx_seq ?_
  refine cx_ops ?_
  refine ax_q (q_mov rfl) ?_
  refine ax_q (q_mov rfl) ?_
  refine ax_q (q_mov rfl) ?_
  first | refine ax_q (q_lenS_map rfl) ?_ | refine ax_q (q_lenS_osl rfl) ?_ | refine ax_q (q_lenS_zs rfl) ?_ | refine ax_q (q_lenS rfl) ?_
  obtain ⟨k1, k2, k3⟩ := nextF_ok (s := s) (n := ts.length) (k := n) hs
  have k3 := k3 (by omega)
  have hk : (nextF s ts.length).1.toNat < ts.length := by omega
  refine ax_call rfl (vcall_own (c_next (n := n) ?_) hP hmv false (fun _ => 1000) [1000] ⟨rfl, rfl, rfl, rfl, ⟨rfl, trivial⟩, rfl, rfl, rfl⟩ (.pass rfl rfl (.pass rfl rfl .nil)) ?_)
  ·
   first | assumption | omega | (simp; done) | (simp; omega)
  rintro r h ⟨rfl, rfl⟩
  refine ⟨fun _ => 1000, [], ⟨rfl, rfl, rfl, rfl, mem1 rfl, rfl, rfl, fun h => absurd h Bool.false_ne_true⟩, ?_⟩
  refine ax_q (q_ixI rfl rfl (by omega) (strAt hk)) ?_
  first | refine ax_q (q_load1_ptr rfl rfl rfl) ?_ | refine ax_q (q_load1_ip rfl) ?_ | refine ax_q (q_load1_rptr rfl rfl rfl rfl) ?_ | refine ax_q (q_load1_rptr rfl rfl (by assumption) rfl) ?_ | refine ax_q (q_load1_rptr rfl rfl (mapAt (by first | assumption | omega)) rfl) ?_
  refine ax_q (q_mov rfl) ?_
  refine ax_nil ?_
  refine cx_keep rfl rfl ?_
  refine cx_ret (retN id [1000] rfl rfl rfl rfl rfl ?_)
  exact ⟨rfl, rfl⟩


/- (ptr loop.example/g00332/spec.l00Src).page -/
def k_c_page : XCode :=
 .seq (.ops [.op (some 2) (.alloc [.int .i64 0, .nils 1])])
 (.keep [0, 2] (.seq (.ops [.call (some 5) 25 [],
   .op (some 3) (.alloc [.int .i64 0, .nils 1]),
   .op none (.store 2 (.t 3) (.t 5))])
 (.keep [0, 2, 3] (.seq (.seq (.ops [.op (some 4) (.mov (.k (.int .i64 0)))])
  (.keep [0, 2, 3, 4] (.block 0 (.loop (.seq (.seq (.ops [.op (some 6) (.mov (.t 4)),
     .op (some 7) (.bin .lss (.t 6) (.k (.int .i64 4)))])
   (.keep [0, 2, 3, 4, 7] (.cond (.t 7)
    (.skip)
    (.exit 0))))
   (.keep [0, 2, 3, 4] (.seq (.block 1 (.drawE [[], [0], [], [], [], [4], [4, 5], [3, 4, 5, 6], [0, 1, 2, 3, 4, 5, 6, 7], [0, 1, 2, 3, 4, 5, 6, 7, 8]] [.op (some 10) (.fadr (.t 3) 1),
     .op (some 11) (.load1 (.t 10)),
     .op (some 12) (.mov (.t 4)),
     .op (some 13) (.mov (.t 0)),
     .op (some 14) (.mkslice 1 1 [.int .u8 0] (.k (.int .i64 30)) (.k (.int .i64 30))),
     .op (some 15) (.b2s (.t 14)),
     .op (some 16) (.bslice 1 [.k (.str []), .k (.str []), .k (.str [114, 101, 99]), .k (.str [114, 101, 99, 111, 114, 100]), .t 15]),
     .call (some 17) 76 [.t 13, .t 16]]
    [.op (some 18) (.iadr 1 (.t 11) (.t 12)),
     .op none (.store 1 (.t 18) (.t 17))]))
   (.keep [0, 2, 3, 4] (.ops [.op (some 8) (.mov (.t 4)),
    .op (some 9) (.bin .add (.t 8) (.k (.int .i64 1))),
    .op (some 4) (.mov (.t 9))])))))))))
 (.keep [0, 2, 3] (.seq (.ops [.op (some 19) (.mov (.t 0)),
   .call (some 20) 72 [.t 19, .k (.int .i64 50)],
   .op (some 21) (.fadr (.t 3) 0),
   .op none (.store 1 (.t 21) (.t 20))])
 (.keep [2, 3] (.seq (.ops [.op (some 22) (.loadN 2 (.t 3)),
   .op none (.store 2 (.t 2) (.t 22))])
 (.keep [2] (.ret))))))))))
theorem k_c_page_fits : fitsF Try.prog 42 ⟨23, k_c_page, [.cN 2 2]⟩ = true := by kernel_rfl
theorem c_page {s : Src} (hs : s.ok 1000) : Con Try.prog noMv 42 [.ptr 1000 0] [(1000, s.box)] (fun r h => ∃ (p : Page) (s2 : Src), PG p ∧ r = p.avO 0 ∧ h = (0, .rows 1 (p.slots.map strRow)) :: [(1000, s2.box)]) := by
 refine con_of2 k_c_page_fits rfl fun C hP hmv => ?_
 unfold k_c_page
 refine cx_seq ?_
 refine cx_ops ?_
 refine ax_e (e_alloc (by decide) rfl rfl) ?_
 refine ax_nil ?_
 refine cx_keep rfl rfl ?_
 refine cx_seq ?_
 refine cx_ops ?_
 first | refine ax_call rfl (vc_pure (c_sNewPage  ) hP rfl ?_) | refine ax_call rfl (vc_lend (c_sNewPage  ) hP (by repeat (first | exact lal_id _ rfl | exact LAL.nil | refine LAL.cons ?_ ?_ | exact la_id _ rfl | exact LA.lend (lend_whole rfl (by first | (simp; done) | (rw [List.length_map]; rfl))) | refine LA.agg ?_ | refine LA.fn ?_ | refine LA.lend ?_ | exact Lend.d _ | exact Lend.zs _ | exact lend_whole rfl (by first | (simp; done) | (rw [List.length_map]; rfl)) | refine Lend.ptr rfl ?_ | refine Lend.fn ?_ | exact LendL.nil | refine LendL.cons ?_ ?_)) ?_)
 rintro r h ⟨rfl, rfl⟩
 refine ⟨fun i => 5 + 200 * i, [0], ⟨rfl, rfl, rfl, rfl, rfl, (by first | exact (fun h => absurd h Bool.false_ne_true) | exact (fun _ => ⟨rfl, (noisl_of (by repeat (first | exact trivial | refine ⟨noisl_map (fun _ => rfl), ?_⟩ | refine ⟨?_, ?_⟩)))⟩))⟩, ?_⟩
 skip
 refine ax_e (e_alloc (by decide) rfl rfl) ?_
 refine ax_e (e_st rfl rfl rfl rfl rfl rfl rfl) ?_
 refine ax_nil ?_
 refine cx_keep rfl rfl ?_
 refine cx_seq ?_
 refine cx_seq ?_
 refine cx_ops ?_
 refine ax_q (q_mov rfl) ?_
 refine ax_nil ?_
 refine cx_keep rfl rfl ?_
 refine cx_block ?_
 refine cx_loopU (fun n1 (p : Nat × Nat × Src × List Str) => n1 = p.1 ∧ p.1 + p.2.1 = 4 ∧ p.2.2.1.ok (100 + 10 * p.1) ∧ p.2.2.2.length = 4 ∧ ∀ t ∈ p.2.2.2, t.length ≤ 30) (fun p => [(4, int p.2.1)]) (fun p => [(1000, p.2.2.1.box), (2, .box [int 0, .zs 1]), (3, .box [int 0, .osl 5 1 0 4]), (5, .rows 1 (p.2.2.2.map strRow))])
  ⟨_, (4, 0, s, [[], [], [], []]), ⟨rfl, rfl, hs.mono (by simp only; omega), rfl, nil4⟩, by repeat (first | exact trivial | refine ⟨rfl, ?_⟩ | refine ⟨?_, ?_⟩)⟩ ?_
 rintro n1 ⟨m, k, u, l⟩ ⟨rfl, hm, hu, h4, hl⟩
 simp only at hm hu h4 hl ⊢
 refine cx_seq ?_
 refine cx_seq ?_
 refine cx_ops ?_
 refine ax_q (q_mov rfl) ?_
 refine ax_q (q_ibin rfl rfl rfl) ?_
 refine ax_nil ?_
 refine cx_keep rfl rfl ?_
 refine cx_cond rfl (fun h0 => ?_) (fun h0 => ?_)
 ·
  have h0 := dT h0
  obtain ⟨m, rfl⟩ : ∃ m2, n1 = m2 + 1 := ⟨n1 - 1, by omega⟩
  obtain ⟨k1, k2⟩ := pickF_ok (s := u) (ts := pTexts) (n := 100 + 10 * m + 7) (hu.mono (by omega)) (by decide)
  refine cx_skip ?_
  refine cx_keep rfl rfl ?_
  refine cx_seq ?_
  refine cx_block ?_
  refine cx_drawL 7 17 (fun _ => false) (fun _ => true) [] (((pickF u pTexts).2.h 1000)) [[3], [10], [4], [0], [], [14], [15], [13, 16]] [[1000], [1000], [1000], [], [], [], [], [1000]] rfl ?_
  first | refine ⟨_, .inr ⟨rfl, _, rfl, .inr ⟨rfl, rfl, .inr rfl, rfl, rfl⟩, loc_q (q_fadr_ptr rfl)⟩, ?_⟩
  first | refine ⟨_, .inr ⟨rfl, _, rfl, .inr ⟨rfl, rfl, .inr rfl, rfl, rfl⟩, loc_q (q_load1_ptr rfl rfl rfl)⟩, ?_⟩
  first | refine ⟨_, .inr ⟨rfl, _, rfl, .inr ⟨rfl, rfl, .inr rfl, rfl, rfl⟩, loc_q (q_mov rfl)⟩, ?_⟩
  first | refine ⟨_, .inr ⟨rfl, _, rfl, .inl rfl, loc_q (q_mov rfl)⟩, ?_⟩
  first | refine ⟨_, .inr ⟨rfl, _, rfl, .inl rfl, loc_mkslice rfl rfl rfl (by omega) (by omega) (by omega)⟩, ?_⟩
  first | refine ⟨_, .inr ⟨rfl, _, rfl, .inl rfl, loc_q (q_b2s (bs := List.replicate 30 0) rfl (src_osl rfl (by decide)) rfl ⟨14, 1, 0, 30, .inl rfl⟩)⟩, ?_⟩
  first | refine ⟨_, .inr ⟨rfl, _, rfl, .inl rfl, loc_bsliceD (rows := pTexts.map strRow) rfl⟩, ?_⟩
  refine ⟨⟨17, _, []⟩, .inl ⟨rfl, rfl, rfl, locl_call (fun _ => 1000) [1000] id [] rfl (c_pick (ts := pTexts) (n := 100 + 10 * m + 7) (hu.mono (by omega)) (by decide)) hP hmv rfl rfl rfl rfl ⟨rfl, trivial⟩ rfl rfl rfl (.pass rfl rfl (.pass rfl rfl .nil)) rfl rfl rfl rfl (mem1 rfl) rfl⟩, ?_⟩
  refine ⟨rfl, ?_⟩
  refine ax_q (q_ixo rfl rfl (by omega)) ?_
  refine ax_e (e_str (rs' := (l.set k (pickF u pTexts).1).map strRow) (q := strRow (pickF u pTexts).1) rfl rfl rfl rfl rfl rfl (mapAt (show k < l.length by omega)) rfl rfl List.map_set.symm) ?_
  refine ax_nil ?_
  refine cx_keep rfl rfl ?_
  refine cx_ops ?_
  refine ax_q (q_mov rfl) ?_
  refine ax_qe (r' := int ((k + 1 : Nat) : Int)) (q_ibin rfl rfl rfl) (by rw [wi (by omega) (by omega)]; rfl) ?_
  refine ax_q (q_mov rfl) ?_
  refine ax_nil ?_
  exact ⟨_, (m, k + 1, (pickF u pTexts).2, l.set k (pickF u pTexts).1), by omega, ⟨rfl, by simp only; omega, k1.mono (by simp only; omega), by simp [h4], set_st hl (pTexts_len _ k2)⟩, by repeat (first | exact trivial | refine ⟨rfl, ?_⟩ | refine ⟨?_, ?_⟩)⟩
 ·
  have h0 := dF h0
  obtain rfl : n1 = 0 := by omega
  obtain ⟨q1, q2, q3⟩ := nextF_ok (s := u) (n := 50) (k := 90) (hu.mono (by omega))
  have q3 := q3 (by omega)
  refine cx_exit rfl ?_
  refine cx_keep rfl rfl ?_
  refine cx_seq ?_
  refine cx_ops ?_
  refine ax_q (q_mov rfl) ?_
  refine ax_call rfl (vcall_own (c_next (n := 90) ?_) hP hmv false (fun _ => 1000) [1000] ⟨rfl, rfl, rfl, rfl, ⟨rfl, trivial⟩, rfl, rfl, rfl⟩ (.pass rfl rfl (.pass rfl rfl .nil)) ?_)
  ·
   exact hu.mono (by omega)
  rintro r h ⟨rfl, rfl⟩
  refine ⟨fun _ => 1000, [], ⟨rfl, rfl, rfl, rfl, mem1 rfl, rfl, rfl, fun h => absurd h Bool.false_ne_true⟩, ?_⟩
  refine ax_q (q_fadr_ptr rfl) ?_
  refine ax_e (e_st rfl rfl rfl rfl rfl rfl rfl) ?_
  refine ax_nil ?_
  refine cx_keep rfl rfl ?_
  refine cx_seq ?_
  refine cx_ops ?_
  refine ax_q (q_ldN rfl rfl rfl) ?_
  refine ax_e (e_st rfl rfl rfl rfl rfl rfl rfl) ?_
  refine ax_nil ?_
  refine cx_keep rfl rfl ?_
  refine cx_ret (retN (fun e => bif Nat.beq e 5 then 0 else e) [5, 1000] rfl rfl rfl rfl rfl ?_)
  exact ⟨⟨(nextF u 50).1, l⟩, (nextF u 50).2, ⟨h4, hl, ⟨q2, by show (nextF u 50).1 ≤ 1000; omega⟩⟩, by show AV.agg [_, .osl 0 1 0 4] = AV.agg [_, .osl 0 1 0 l.length]; rw [h4]; rfl, rfl⟩


/- loop.example/g00332/spec.PageOf -/
def k_c_PageOf : XCode :=
 .seq (.ops [.op (some 2) (.alloc [.int .i64 0, .nils 1])])
 (.keep [0, 2] (.seq (.ops [.op (some 3) (.mov (.t 0)),
   .call (some 4) 32 [.t 3],
   .call (some 5) 42 [.t 4],
   .op none (.store 2 (.t 2) (.t 5))])
 (.keep [2] (.ret))))
theorem k_c_PageOf_fits : fitsF Try.prog 13 ⟨6, k_c_PageOf, [.cN 2 2]⟩ = true := by kernel_rfl
theorem c_PageOf {code : Str} (hl : code.length ≤ 1048576) : Con Try.prog noMv 13 [.d (.sl 1 (code.map byteRow))] [] (fun r h => ∃ p : Page, PG p ∧ r = p.avO 0 ∧ h = p.hO 0) := by
 refine con_of2 k_c_PageOf_fits rfl fun C hP hmv => ?_
 unfold k_c_PageOf
 refine cx_seq ?_
 refine cx_ops ?_
 refine ax_e (e_alloc (by decide) rfl rfl) ?_
 refine ax_nil ?_
 refine cx_keep rfl rfl ?_
 refine cx_seq ?_
 refine cx_ops ?_
 refine ax_q (q_mov rfl) ?_
 refine ax_call rfl (vc_pure (c_l00Source hl) hP rfl ?_)
 rintro r h ⟨rfl, rfl⟩
 refine ⟨fun _ => 4, [0], ⟨rfl, rfl, rfl, rfl, rfl, fun h => absurd h Bool.false_ne_true⟩, ?_⟩
 refine ax_call rfl (vcall_own (c_page ((srcOf_ok hl).mono (by omega))) hP hmv false (fun _ => 4) [1000] ⟨rfl, rfl, rfl, rfl, ⟨rfl, trivial⟩, rfl, rfl, rfl⟩ (.pass rfl rfl .nil) ?_)
 rintro r h ⟨p, s2, hp, rfl, rfl⟩
 refine ⟨fun e => bif Nat.beq e 1000 then 4 else 5, [0], ⟨rfl, rfl, rfl, rfl, mem1 rfl, rfl, rfl, fun h => absurd h Bool.false_ne_true⟩, ?_⟩
 refine ax_e (e_st rfl rfl rfl rfl rfl rfl rfl) ?_
 refine ax_nil ?_
 refine cx_keep rfl rfl ?_
 refine cx_ret (retN (fun e => bif Nat.beq e 5 then 0 else e) [5] rfl rfl rfl rfl rfl ?_)
 exact ⟨p, hp, rfl, rfl⟩


/- loop.example/g00332/impl.inRange -/
def k_c_inRange : XCode :=
 .seq (.ops [.op (some 6) (.mov (.k (.bool false)))])
 (.keep [0, 1, 2] (.seq (.ops [.op (some 7) (.mov (.t 1)),
   .op (some 8) (.mov (.t 0)),
   .op (some 9) (.bin .leq (.t 7) (.t 8)),
   .op (some 10) (.mov (.t 9)),
   .andor 14 true 3 10 [.op (some 11) (.mov (.t 0)), .op (some 12) (.mov (.t 2)), .op (some 13) (.bin .leq (.t 11) (.t 12))] (.t 13),
   .op (some 6) (.mov (.t 14))])
 (.keep [6] (.ret))))
theorem k_c_inRange_fits : fitsF Try.prog 39 ⟨15, k_c_inRange, [.t 6]⟩ = true := by kernel_rfl
theorem c_inRange {n lo hi : Int} : Con Try.prog noMv 39 [int n, int lo, int hi] [] (fun r h => r = bool (inR n lo hi) ∧ h = []) := by
 refine con_of2 k_c_inRange_fits rfl fun C hP hmv => ?_
 unfold k_c_inRange
 refine cx_seq ?_
 refine cx_ops ?_
 refine ax_q (q_mov rfl) ?_
 refine ax_nil ?_
 refine cx_keep rfl rfl ?_
 refine cx_seq ?_
 refine cx_ops ?_
 refine ax_q (q_mov rfl) ?_
 refine ax_q (q_mov rfl) ?_
 refine ax_q (q_ibin rfl rfl rfl) ?_
 refine ax_q (q_mov rfl) ?_
 apply ax_and rfl rfl
 ·
  intro g
  have g := dT g
  refine ax_q (q_mov rfl) ?_
  refine ax_q (q_mov rfl) ?_
  refine ax_q (q_ibin rfl rfl rfl) ?_
  exact ax_nil ⟨rfl, by repeat (first | exact trivial | refine ⟨rfl, ?_⟩ | refine ⟨?_, ?_⟩)⟩
 refine ax_q (q_mov rfl) ?_
 refine ax_nil ?_
 refine cx_keep rfl rfl ?_
 refine cx_ret (ret0 rfl rfl ?_)
 exact ⟨rfl, rfl⟩


/- slices.IndexFunc[[]string,string] -/
def k_c_IndexFunc_Str : XCode :=
 .seq (.ops [.op (some 4) (.mov (.k (.int .i64 0)))])
 (.keep [0, 1] (.seq (.seq (.ops [.op (some 6) (.mov (.t 0)),
   .op (some 7) (.lenS (.t 6)),
   .op (some 8) (.mov (.k (.int .i64 0)))])
  (.keep [0, 1, 7, 8] (.block 0 (.loop (.seq (.ops [.op (some 9) (.bin .lss (.t 8) (.t 7))])
   (.keep [0, 1, 7, 8, 9] (.seq (.cond (.t 9)
    (.skip)
    (.exit 0))
   (.keep [0, 1, 7, 8] (.seq (.block 1 (.seq (.ops [.op (some 10) (.mov (.t 8)),
     .op (some 5) (.mov (.t 10))])
    (.keep [0, 1, 5, 7, 8] (.seq (.ops [.op (some 11) (.mov (.t 1)),
     .op (some 12) (.mov (.t 0)),
     .op (some 13) (.mov (.t 5)),
     .op (some 14) (.iadr 1 (.t 12) (.t 13)),
     .op (some 15) (.load1 (.t 14)),
     .callv (some 16) (.t 11) [.t 15]])
    (.keep [0, 1, 5, 7, 8, 16] (.cond (.t 16)
    (.seq (.ops [.op (some 17) (.mov (.t 5)),
      .op (some 4) (.mov (.t 17))])
     (.keep [4] (.ret)))
    (.skip)))))))
   (.keep [0, 1, 7, 8] (.ops [.op (some 18) (.bin .add (.t 8) (.k (.int .i64 1))),
    .op (some 8) (.mov (.t 18))])))))))))))
 (.keep [] (.seq (.ops [.op (some 4) (.mov (.k (.int .i64 (-1))))])
 (.keep [4] (.ret))))))
theorem k_c_IndexFunc_Str_fits : fitsF Try.prog 87 ⟨19, k_c_IndexFunc_Str, [.t 4]⟩ = true := by kernel_rfl
theorem c_IndexFunc_Str {xs : List Str} {f : Nat} {ds : List D} (p : Str → Bool) (hw : xs.length ≤ 9223372036854775807) (hb : hasBody Try.prog f = true) (hf : ∀ s ∈ xs, Con Try.prog noMv f (str s :: ds.map AV.d) [] (fun r h => r = bool (p s) ∧ h = [])) : Con Try.prog noMv 87 [.d (.sl 1 (xs.map strRow)), .d (.fn (.func f) ds)] [] (fun r h => r = int (idxOf p xs 0) ∧ h = []) := by
 refine con_of2 k_c_IndexFunc_Str_fits rfl fun C hP hmv => ?_
 unfold k_c_IndexFunc_Str
 refine cx_seq ?_
 refine cx_ops ?_
 refine ax_q (q_mov rfl) ?_
 refine ax_nil ?_
 refine cx_keep rfl rfl ?_
 refine cx_seq ?_
 refine cx_seq ?_
 refine cx_ops ?_
 refine ax_q (q_mov rfl) ?_
 first | refine ax_q (q_lenS_map rfl) ?_ | refine ax_q (q_lenS_osl rfl) ?_ | refine ax_q (q_lenS_zs rfl) ?_ | refine ax_q (q_lenS rfl) ?_
 refine ax_q (q_mov rfl) ?_
 refine ax_nil ?_
 refine cx_keep rfl rfl ?_
 refine cx_block ?_
 refine cx_loopU (fun n k => k ≤ xs.length ∧ n = xs.length - k ∧ ∀ i, i < k → ∀ x, xs[i]? = some x → p x = false) (fun k : Nat => [(8, int k)]) (fun _ => []) ⟨_, 0, ⟨by omega, rfl, fun i hi => by omega⟩, by repeat (first | exact trivial | refine ⟨rfl, ?_⟩ | refine ⟨?_, ?_⟩)⟩ ?_
 rintro n k ⟨hk, rfl, ht⟩
 refine cx_seq ?_
 refine cx_ops ?_
 refine ax_q (q_ibin rfl rfl rfl) ?_
 refine ax_nil ?_
 refine cx_keep rfl rfl ?_
 refine cx_seq ?_
 refine cx_cond rfl (fun h0 => ?_) (fun h0 => ?_)
 ·
  have h0 := dT h0
  have h0x : k < xs.length := by omega
  refine cx_skip ?_
  refine cx_keep rfl rfl ?_
  refine cx_seq ?_
  refine cx_block ?_
  refine cx_seq ?_
  refine cx_ops ?_
  refine ax_q (q_mov rfl) ?_
  refine ax_q (q_mov rfl) ?_
  refine ax_nil ?_
  refine cx_keep rfl rfl ?_
  refine cx_seq ?_
  refine cx_ops ?_
  refine ax_q (q_mov rfl) ?_
  refine ax_q (q_mov rfl) ?_
  refine ax_q (q_mov rfl) ?_
  refine ax_q (q_ix rfl rfl (mapAt h0x)) ?_
  first | refine ax_q (q_load1_ptr rfl rfl rfl) ?_ | refine ax_q (q_load1_ip rfl) ?_ | refine ax_q (q_load1_rptr rfl rfl rfl rfl) ?_ | refine ax_q (q_load1_rptr rfl rfl (by assumption) rfl) ?_ | refine ax_q (q_load1_rptr rfl rfl (mapAt (by first | assumption | omega)) rfl) ?_
  refine ax_callvD rfl (by rw [hP]; exact hb) rfl (vc_pure0 (hf _ (List.getElem_mem h0x)) hP (refs_cons rfl ds) rfl ?_)
  refine ax_nil ?_
  refine cx_keep rfl rfl ?_
  refine cx_cond rfl (fun h1 => ?_) (fun h1 => ?_)
  ·
   skip
   refine cx_seq ?_
   refine cx_ops ?_
   refine ax_q (q_mov rfl) ?_
   refine ax_q (q_mov rfl) ?_
   refine ax_nil ?_
   refine cx_keep rfl rfl ?_
   refine cx_ret (ret0 rfl rfl ?_)
   exact ⟨by rw [idxOf_hit h0x ht h1]; rfl, rfl⟩
  ·
   skip
   refine cx_skip ?_
   refine cx_keep rfl rfl ?_
   refine cx_ops ?_
   refine ax_qe (r' := int ((k + 1 : Nat) : Int)) (q_ibin rfl rfl rfl) (by rw [wi (by omega) (by omega)]; rfl) ?_
   refine ax_q (q_mov rfl) ?_
   refine ax_nil ?_
   exact ⟨_, k + 1, by omega, ⟨by omega, rfl, before_step h0x ht h1⟩, by repeat (first | exact trivial | refine ⟨rfl, ?_⟩ | refine ⟨?_, ?_⟩)⟩
 ·
  have h0 := dF h0
  have h0x : k = xs.length := by omega
  refine cx_exit rfl ?_
  refine cx_keep rfl rfl ?_
  refine cx_seq ?_
  refine cx_ops ?_
  refine ax_q (q_mov rfl) ?_
  refine ax_nil ?_
  refine cx_keep rfl rfl ?_
  refine cx_ret (ret0 rfl rfl ?_)
  exact ⟨by rw [idxOf_none (fun i hi => ht i (by omega))]; rfl, rfl⟩


/- slices.ContainsFunc[[]string,string] -/
def k_c_ContainsFunc_Str : XCode :=
 .seq (.ops [.op (some 4) (.mov (.k (.bool false)))])
 (.keep [0, 1] (.seq (.ops [.op (some 5) (.mov (.t 0)),
   .op (some 6) (.mov (.t 1)),
   .call (some 7) 87 [.t 5, .t 6],
   .op (some 8) (.bin .geq (.t 7) (.k (.int .i64 0))),
   .op (some 4) (.mov (.t 8))])
 (.keep [4] (.ret))))
theorem k_c_ContainsFunc_Str_fits : fitsF Try.prog 58 ⟨9, k_c_ContainsFunc_Str, [.t 4]⟩ = true := by kernel_rfl
theorem c_ContainsFunc_Str {xs : List Str} {f : Nat} {ds : List D} (p : Str → Bool) (hw : xs.length ≤ 9223372036854775807) (hb : hasBody Try.prog f = true) (hf : ∀ s ∈ xs, Con Try.prog noMv f (str s :: ds.map AV.d) [] (fun r h => r = bool (p s) ∧ h = [])) : Con Try.prog noMv 58 [.d (.sl 1 (xs.map strRow)), .d (.fn (.func f) ds)] [] (fun r h => r = bool (xs.any p) ∧ h = []) := by
 refine con_of2 k_c_ContainsFunc_Str_fits rfl fun C hP hmv => ?_
 unfold k_c_ContainsFunc_Str
 refine cx_seq ?_
 refine cx_ops ?_
 refine ax_q (q_mov rfl) ?_
 refine ax_nil ?_
 refine cx_keep rfl rfl ?_
 refine cx_seq ?_
 refine cx_ops ?_
 refine ax_q (q_mov rfl) ?_
 refine ax_q (q_mov rfl) ?_
 refine ax_call rfl (vc_pure0 (c_IndexFunc_Str p hw hb hf) hP rfl rfl ?_)
 refine ax_qe (r' := bool (xs.any p)) (q_ibin rfl rfl rfl) (congrArg AM.bool any_idxOf) ?_
 refine ax_q (q_mov rfl) ?_
 refine ax_nil ?_
 refine cx_keep rfl rfl ?_
 refine cx_ret (ret0 rfl rfl ?_)
 exact ⟨rfl, rfl⟩


/- loop.example/g00332/impl.PageOK$1 -/
def k_c_PageOK1 : XCode :=
 .seq (.ops [.op (some 2) (.mov (.k (.bool false)))])
 (.keep [0] (.seq (.ops [.op (some 3) (.mov (.t 0)),
   .op (some 4) (.lenT (.t 3)),
   .op (some 5) (.bin .gtr (.t 4) (.k (.int .i64 30))),
   .op (some 2) (.mov (.t 5))])
 (.keep [2] (.ret))))
theorem k_c_PageOK1_fits : fitsF Try.prog 59 ⟨6, k_c_PageOK1, [.t 2]⟩ = true := by kernel_rfl
theorem c_PageOK1 {s : Str} : Con Try.prog noMv 59 [str s] [] (fun r h => r = bool (decide ((30 : Int) < (s.length : Int))) ∧ h = []) := by
 refine con_of2 k_c_PageOK1_fits rfl fun C hP hmv => ?_
 unfold k_c_PageOK1
 refine cx_seq ?_
 refine cx_ops ?_
 refine ax_q (q_mov rfl) ?_
 refine ax_nil ?_
 refine cx_keep rfl rfl ?_
 refine cx_seq ?_
 refine cx_ops ?_
 refine ax_q (q_mov rfl) ?_
 refine ax_q (q_lenT rfl) ?_
 refine ax_q (q_ibin rfl rfl rfl) ?_
 refine ax_q (q_mov rfl) ?_
 refine ax_nil ?_
 refine cx_keep rfl rfl ?_
 refine cx_ret (ret0 rfl rfl ?_)
 exact ⟨rfl, rfl⟩


/- loop.example/g00332/impl.PageOK -/
def k_c_PageOK : XCode :=
 .seq (.ops [.op (some 1) (.box (.t 0)),
   .op (some 2) (.mov (.k (.bool false)))])
 (.keep [1] (.seq (.ops [.op (some 3) (.fadr (.t 1) 0),
   .op (some 4) (.load1 (.t 3)),
   .call (some 5) 39 [.t 4, .k (.int .i64 0), .k (.int .i64 1000)],
   .op (some 6) (.mov (.t 5)),
   .andor 11 true 3 6 [.op (some 7) (.fadr (.t 1) 1), .op (some 8) (.load1 (.t 7)), .op (some 9) (.lenS (.t 8)), .op (some 10) (.bin .eql (.t 9) (.k (.int .i64 4)))] (.t 10),
   .op (some 12) (.mov (.t 11)),
   .andor 17 true 9 12 [.op (some 13) (.fadr (.t 1) 1), .op (some 14) (.load1 (.t 13)), .call (some 15) 58 [.t 14, .f 59], .op (some 16) (.not (.t 15))] (.t 16),
   .op (some 2) (.mov (.t 17))])
 (.keep [2] (.ret))))
theorem k_c_PageOK_fits : fitsF Try.prog 23 ⟨18, k_c_PageOK, [.t 2]⟩ = true := by kernel_rfl
theorem c_PageOK {p : Page} (hl : p.slots.length ≤ 1048576) : Con Try.prog noMv 23 [p.av] [] (fun r h => r = bool (pageOK p) ∧ h = []) := by
 refine con_of2 k_c_PageOK_fits rfl fun C hP hmv => ?_
 unfold k_c_PageOK
 refine cx_seq ?_
 refine cx_ops ?_
 refine ax_e (e_box rfl rfl (by decide) rfl rfl rfl) ?_
 refine ax_q (q_mov rfl) ?_
 refine ax_nil ?_
 refine cx_keep rfl rfl ?_
 refine cx_seq ?_
 refine cx_ops ?_
 refine ax_q (q_fadr_ptr rfl) ?_
 refine ax_q (q_load1_ptr rfl rfl rfl) ?_
 first | refine ax_call rfl (vc_pure0 (c_inRange  ) hP rfl rfl ?_) | refine ax_call rfl (vc_lend0 (c_inRange  ) hP (by repeat (first | exact lal_id _ rfl | exact LAL.nil | refine LAL.cons ?_ ?_ | exact la_id _ rfl | exact LA.lend (lend_whole rfl (by first | (simp; done) | (rw [List.length_map]; rfl))) | refine LA.agg ?_ | refine LA.fn ?_ | refine LA.lend ?_ | exact Lend.d _ | exact Lend.zs _ | exact lend_whole rfl (by first | (simp; done) | (rw [List.length_map]; rfl)) | refine Lend.ptr rfl ?_ | refine Lend.fn ?_ | exact LendL.nil | refine LendL.cons ?_ ?_)) rfl rfl ?_)
 refine ax_q (q_mov rfl) ?_
 apply ax_and rfl rfl
 ·
  intro g
  refine ax_q (q_fadr_ptr rfl) ?_
  refine ax_q (q_load1_ptr rfl rfl rfl) ?_
  first | refine ax_q (q_lenS_map rfl) ?_ | refine ax_q (q_lenS_osl rfl) ?_ | refine ax_q (q_lenS_zs rfl) ?_ | refine ax_q (q_lenS rfl) ?_
  refine ax_q (q_ibin rfl rfl rfl) ?_
  exact ax_nil ⟨rfl, by repeat (first | exact trivial | refine ⟨rfl, ?_⟩ | refine ⟨?_, ?_⟩)⟩
 refine ax_q (q_mov rfl) ?_
 apply ax_and rfl rfl
 ·
  intro g
  have g := (fun h => And.intro (id (and_T h).1) (dT (and_T h).2)) g
  refine ax_q (q_fadr_ptr rfl) ?_
  refine ax_q (q_load1_ptr rfl rfl rfl) ?_
  refine ax_call rfl (vc_lend0 (c_ContainsFunc_Str (xs := p.slots) (ds := []) (fun s => decide ((30 : Int) < (s.length : Int))) (by omega) (by kernel_rfl) (fun s _ => c_PageOK1)) hP (by repeat (first | exact lal_id _ rfl | exact LAL.nil | refine LAL.cons ?_ ?_ | exact la_id _ rfl | exact LA.lend (lend_whole rfl (by first | (simp; done) | (rw [List.length_map]; rfl))) | refine LA.agg ?_ | refine LA.fn ?_ | refine LA.lend ?_ | exact Lend.d _ | exact Lend.zs _ | exact lend_whole rfl (by first | (simp; done) | (rw [List.length_map]; rfl)) | refine Lend.ptr rfl ?_ | refine Lend.fn ?_ | exact LendL.nil | refine LendL.cons ?_ ?_)) rfl rfl ?_)
  refine ax_q (q_not rfl) ?_
  exact ax_nil ⟨rfl, by repeat (first | exact trivial | refine ⟨rfl, ?_⟩ | refine ⟨?_, ?_⟩)⟩
 refine ax_q (q_mov rfl) ?_
 refine ax_nil ?_
 refine cx_keep rfl rfl ?_
 refine cx_ret (ret0 rfl rfl ?_)
 exact ⟨congrArg bool (by rw [pageOK_int]), rfl⟩


/- loop.example/g00332/impl.isLong$1 -/
def k_c_isLong1 : XCode :=
 .seq (.ops [.op (some 2) (.mov (.k (.bool false)))])
 (.keep [0] (.seq (.ops [.op (some 3) (.mov (.t 0)),
   .op (some 4) (.lenT (.t 3)),
   .op (some 5) (.bin .gtr (.t 4) (.k (.int .i64 65536))),
   .op (some 2) (.mov (.t 5))])
 (.keep [2] (.ret))))
theorem k_c_isLong1_fits : fitsF Try.prog 79 ⟨6, k_c_isLong1, [.t 2]⟩ = true := by kernel_rfl
theorem c_isLong1 {s : Str} : Con Try.prog noMv 79 [str s] [] (fun r h => r = bool (long64 s) ∧ h = []) := by
 refine con_of2 k_c_isLong1_fits rfl fun C hP hmv => ?_
 unfold k_c_isLong1
 refine cx_seq ?_
 refine cx_ops ?_
 refine ax_q (q_mov rfl) ?_
 refine ax_nil ?_
 refine cx_keep rfl rfl ?_
 refine cx_seq ?_
 refine cx_ops ?_
 refine ax_q (q_mov rfl) ?_
 refine ax_q (q_lenT rfl) ?_
 refine ax_q (q_ibin rfl rfl rfl) ?_
 refine ax_q (q_mov rfl) ?_
 refine ax_nil ?_
 refine cx_keep rfl rfl ?_
 refine cx_ret (ret0 rfl rfl ?_)
 exact ⟨rfl, rfl⟩


/- loop.example/g00332/impl.isLong -/
def k_c_isLong : XCode :=
 .seq (.ops [.op (some 2) (.mov (.k (.bool false)))])
 (.keep [0] (.seq (.ops [.op (some 3) (.mov (.t 0)),
   .call (some 4) 58 [.t 3, .f 79],
   .op (some 2) (.mov (.t 4))])
 (.keep [2] (.ret))))
theorem k_c_isLong_fits : fitsF Try.prog 43 ⟨5, k_c_isLong, [.t 2]⟩ = true := by kernel_rfl
theorem c_isLong {xs : List Str} (hw : xs.length ≤ 1048576) : Con Try.prog noMv 43 [.d (.sl 1 (xs.map strRow))] [] (fun r h => r = bool (xs.any long64) ∧ h = []) := by
 refine con_of2 k_c_isLong_fits rfl fun C hP hmv => ?_
 unfold k_c_isLong
 refine cx_seq ?_
 refine cx_ops ?_
 refine ax_q (q_mov rfl) ?_
 refine ax_nil ?_
 refine cx_keep rfl rfl ?_
 refine cx_seq ?_
 refine cx_ops ?_
 refine ax_q (q_mov rfl) ?_
 refine ax_call rfl (vc_lend0 (c_ContainsFunc_Str (xs := xs) (ds := []) long64 (by omega) (by kernel_rfl) (fun s _ => c_isLong1)) hP (by repeat (first | exact lal_id _ rfl | exact LAL.nil | refine LAL.cons ?_ ?_ | exact la_id _ rfl | exact LA.lend (lend_whole rfl (by first | (simp; done) | (rw [List.length_map]; rfl))) | refine LA.agg ?_ | refine LA.fn ?_ | refine LA.lend ?_ | exact Lend.d _ | exact Lend.zs _ | exact lend_whole rfl (by first | (simp; done) | (rw [List.length_map]; rfl)) | refine Lend.ptr rfl ?_ | refine Lend.fn ?_ | exact LendL.nil | refine LendL.cons ?_ ?_)) rfl rfl ?_)
 refine ax_q (q_mov rfl) ?_
 refine ax_nil ?_
 refine cx_keep rfl rfl ?_
 refine cx_ret (ret0 rfl rfl ?_)
 exact ⟨rfl, rfl⟩


/- slices.Clone[[]string,string] -/
def k_c_Clone_Str : XCode :=
 .seq (.ops [.op (some 2) (.mov (.k (.nils 1)))])
 (.keep [0] (.seq (.seq (.ops [.op (some 3) (.mov (.t 0)),
   .op (some 4) (.eqn false (.t 3))])
  (.keep [0, 4] (.cond (.t 4)
  (.seq (.ops [.op (some 2) (.mov (.k (.nils 1)))])
   (.keep [2] (.ret)))
  (.skip))))
 (.keep [0] (.seq (.ops [.op (some 5) (.bslice 1 []),
   .op (some 6) (.mov (.t 0)),
   .op (some 7) (.app 1 16 [.str []] (.t 5) (.t 6)),
   .op (some 2) (.mov (.t 7))])
 (.keep [2] (.ret))))))
theorem k_c_Clone_Str_fits : fitsF Try.prog 77 ⟨8, k_c_Clone_Str, [.t 2]⟩ = true := by kernel_rfl
theorem c_Clone_Str {xs : List Str} (hw : xs.length ≤ 1048576) : Con Try.prog noMv 77 [.d (.sl 1 (xs.map strRow))] [] (fun r h => r = .osl 0 1 0 xs.length ∧ h = [(0, .rows 1 (xs.map strRow))]) := by
 refine con_of2 k_c_Clone_Str_fits rfl fun C hP hmv => ?_
 unfold k_c_Clone_Str
 refine cx_seq ?_
 refine cx_ops ?_
 refine ax_q (q_mov rfl) ?_
 refine ax_nil ?_
 refine cx_keep rfl rfl ?_
 refine cx_seq ?_
 refine cx_seq ?_
 refine cx_ops ?_
 refine ax_q (q_mov rfl) ?_
 refine ax_eqn_sl rfl (fun b hb => ?_)
 refine ax_nil ?_
 refine cx_keep rfl rfl ?_
 refine cx_cond rfl (fun h0 => ?_) (fun h0 => ?_)
 ·
  skip
  refine cx_seq ?_
  refine cx_ops ?_
  refine ax_q (q_mov rfl) ?_
  refine ax_nil ?_
  refine cx_keep rfl rfl ?_
  have hx : xs = [] := List.map_eq_nil_iff.1 (hb h0)
  subst hx
  refine cx_wk (wk_virt 900 1 rfl rfl rfl) ?_
  refine cx_wk (wk_zs 2 900 [] rfl rfl) ?_
  refine cx_ret (retN (fun _ => 0) [900] rfl rfl rfl rfl rfl ?_)
  exact ⟨rfl, rfl⟩
 ·
  skip
  refine cx_skip ?_
  refine cx_keep rfl rfl ?_
  refine cx_seq ?_
  refine cx_ops ?_
  refine ax_e (e_bslice rfl (by decide) rfl rfl) ?_
  refine ax_q (q_mov rfl) ?_
  refine ax_e (e_app_osl rfl rfl (Nat.le_refl _) rfl (src_sl 1 _) (.inl (by decide)) (by simp only [List.length_map, List.length_nil]; omega)) ?_
  refine ax_q (q_mov rfl) ?_
  refine ax_nil ?_
  refine cx_keep rfl rfl ?_
  refine cx_ret (retN (fun _ => 0) [5] rfl rfl rfl rfl rfl ?_)
  exact ⟨by simp [renA, mkRes], by simp [renOs, renO]⟩


/- (loop.example/g00332/impl.Page).clone -/
def k_c_cloneP : XCode :=
 .seq (.ops [.op (some 1) (.box (.t 0)),
   .op (some 2) (.alloc [.int .i64 0, .nils 1])])
 (.keep [1, 2] (.seq (.drawE [[], [0], [], [2], [2, 3], [0, 1, 2, 3, 4], [0, 1, 2, 3, 4, 5]] [.op (some 3) (.fadr (.t 1) 0),
   .op (some 4) (.load1 (.t 3)),
   .op (some 5) (.fadr (.t 1) 1),
   .op (some 6) (.load1 (.t 5)),
   .call (some 7) 77 [.t 6]]
  [.op (some 8) (.build [.int .i64 0, .nils 1] [(0, 1, .t 4), (1, 1, .t 7)]),
   .op none (.store 2 (.t 2) (.t 8))])
 (.keep [2] (.ret))))
theorem k_c_cloneP_fits : fitsF Try.prog 44 ⟨9, k_c_cloneP, [.cN 2 2]⟩ = true := by kernel_rfl
theorem c_cloneP {p : Page} (hl : p.slots.length ≤ 1048576) : Con Try.prog noMv 44 [p.av] [] (fun r h => r = p.avO 0 ∧ h = p.hO 0) := by
 refine con_of2 k_c_cloneP_fits rfl fun C hP hmv => ?_
 unfold k_c_cloneP
 refine cx_seq ?_
 refine cx_ops ?_
 refine ax_e (e_box rfl rfl (by decide) rfl rfl rfl) ?_
 refine ax_e (e_alloc (by decide) rfl rfl) ?_
 refine ax_nil ?_
 refine cx_keep rfl rfl ?_
 refine cx_seq ?_
 refine cx_drawL 0 3 (fun _ => false) (fun _ => true) [] ([]) [[1], [3], [1], [5], [6]] [[], [], [], [], []] rfl ?_
 first | refine ⟨⟨3, _, []⟩, .inl ⟨rfl, rfl, rfl, locl_of (loc_q (q_fadr_ptr rfl))⟩, ?_⟩
 first | refine ⟨_, .inr ⟨rfl, _, rfl, .inr ⟨rfl, rfl, .inl rfl, rfl, rfl⟩, loc_q (q_load1_ptr rfl rfl rfl)⟩, ?_⟩
 first | refine ⟨_, .inr ⟨rfl, _, rfl, .inr ⟨rfl, rfl, .inr rfl, rfl, rfl⟩, loc_q (q_fadr_ptr rfl)⟩, ?_⟩
 first | refine ⟨_, .inr ⟨rfl, _, rfl, .inr ⟨rfl, rfl, .inr rfl, rfl, rfl⟩, loc_q (q_load1_ptr rfl rfl rfl)⟩, ?_⟩
 first | refine ⟨_, .inr ⟨rfl, _, rfl, .inr ⟨rfl, rfl, .inr rfl, rfl, rfl⟩, loc_call (fun i => 7 + 200 * i) false rfl (c_Clone_Str  (by first | assumption | omega | (simp; done) | (simp; omega))) hP (.inr ⟨rfl, rfl, rfl⟩) rfl rfl (fun h => by cases h)⟩, ?_⟩ | refine ⟨_, .inr ⟨rfl, _, rfl, .inr ⟨rfl, rfl, .inr rfl, rfl, rfl⟩, loc_call (fun i => 7 + 200 * i) true rfl (c_Clone_Str  (by first | assumption | omega | (simp; done) | (simp; omega))) hP (.inl ⟨rfl, (by repeat (first | exact lal_id _ rfl | exact LAL.nil | refine LAL.cons ?_ ?_ | exact la_id _ rfl | exact LA.lend (lend_whole rfl (by first | (simp; done) | (rw [List.length_map]; rfl))) | refine LA.agg ?_ | refine LA.fn ?_ | refine LA.lend ?_ | exact Lend.d _ | exact Lend.zs _ | exact lend_whole rfl (by first | (simp; done) | (rw [List.length_map]; rfl)) | refine Lend.ptr rfl ?_ | refine Lend.fn ?_ | exact LendL.nil | refine LendL.cons ?_ ?_))⟩) rfl rfl (fun _ => ⟨rfl, noisl_of (by repeat (first | exact trivial | refine ⟨noisl_map (fun _ => rfl), ?_⟩ | refine ⟨?_, ?_⟩))⟩)⟩, ?_⟩
 refine ⟨rfl, ?_⟩
 refine ax_q (q_build rfl) ?_
 refine ax_e (e_st rfl rfl rfl rfl rfl rfl rfl) ?_
 refine ax_nil ?_
 refine cx_keep rfl rfl ?_
 refine cx_ret (retN (fun _ => 0) [7] rfl rfl rfl rfl rfl ?_)
 exact ⟨rfl, rfl⟩


/- slices.Index[[]string,string] -/
def k_c_Index_Str : XCode :=
 .seq (.ops [.op (some 4) (.mov (.k (.int .i64 0)))])
 (.keep [0, 1] (.seq (.seq (.ops [.op (some 6) (.mov (.t 0)),
   .op (some 7) (.lenS (.t 6)),
   .op (some 8) (.mov (.k (.int .i64 0)))])
  (.keep [0, 1, 7, 8] (.block 0 (.loop (.seq (.ops [.op (some 9) (.bin .lss (.t 8) (.t 7))])
   (.keep [0, 1, 7, 8, 9] (.seq (.cond (.t 9)
    (.skip)
    (.exit 0))
   (.keep [0, 1, 7, 8] (.seq (.block 1 (.seq (.ops [.op (some 10) (.mov (.t 8)),
     .op (some 5) (.mov (.t 10))])
    (.keep [0, 1, 5, 7, 8] (.seq (.ops [.op (some 11) (.mov (.t 1)),
     .op (some 12) (.mov (.t 0)),
     .op (some 13) (.mov (.t 5)),
     .op (some 14) (.iadr 1 (.t 12) (.t 13)),
     .op (some 15) (.load1 (.t 14)),
     .op (some 16) (.bin .eql (.t 11) (.t 15))])
    (.keep [0, 1, 5, 7, 8, 16] (.cond (.t 16)
    (.seq (.ops [.op (some 17) (.mov (.t 5)),
      .op (some 4) (.mov (.t 17))])
     (.keep [4] (.ret)))
    (.skip)))))))
   (.keep [0, 1, 7, 8] (.ops [.op (some 18) (.bin .add (.t 8) (.k (.int .i64 1))),
    .op (some 8) (.mov (.t 18))])))))))))))
 (.keep [] (.seq (.ops [.op (some 4) (.mov (.k (.int .i64 (-1))))])
 (.keep [4] (.ret))))))
theorem k_c_Index_Str_fits : fitsF Try.prog 45 ⟨19, k_c_Index_Str, [.t 4]⟩ = true := by kernel_rfl
theorem c_Index_Str {xs : List Str} {v : Str} (hw : xs.length ≤ 9223372036854775807) : Con Try.prog noMv 45 [.d (.sl 1 (xs.map strRow)), str v] [] (fun r h => r = int (idxOf (fun s => eqb v s) xs 0) ∧ h = []) := by
 refine con_of2 k_c_Index_Str_fits rfl fun C hP hmv => ?_
 unfold k_c_Index_Str
 refine cx_seq ?_
 refine cx_ops ?_
 refine ax_q (q_mov rfl) ?_
 refine ax_nil ?_
 refine cx_keep rfl rfl ?_
 refine cx_seq ?_
 refine cx_seq ?_
 refine cx_ops ?_
 refine ax_q (q_mov rfl) ?_
 first | refine ax_q (q_lenS_map rfl) ?_ | refine ax_q (q_lenS_osl rfl) ?_ | refine ax_q (q_lenS_zs rfl) ?_ | refine ax_q (q_lenS rfl) ?_
 refine ax_q (q_mov rfl) ?_
 refine ax_nil ?_
 refine cx_keep rfl rfl ?_
 refine cx_block ?_
 refine cx_loopU (fun n k => k ≤ xs.length ∧ n = xs.length - k ∧ ∀ i, i < k → ∀ x, xs[i]? = some x → (fun s => eqb v s) x = false) (fun k : Nat => [(8, int k)]) (fun _ => []) ⟨_, 0, ⟨by omega, rfl, fun i hi => by omega⟩, by repeat (first | exact trivial | refine ⟨rfl, ?_⟩ | refine ⟨?_, ?_⟩)⟩ ?_
 rintro n k ⟨hk, rfl, ht⟩
 refine cx_seq ?_
 refine cx_ops ?_
 refine ax_q (q_ibin rfl rfl rfl) ?_
 refine ax_nil ?_
 refine cx_keep rfl rfl ?_
 refine cx_seq ?_
 refine cx_cond rfl (fun h0 => ?_) (fun h0 => ?_)
 ·
  have h0 := dT h0
  have h0x : k < xs.length := by omega
  refine cx_skip ?_
  refine cx_keep rfl rfl ?_
  refine cx_seq ?_
  refine cx_block ?_
  refine cx_seq ?_
  refine cx_ops ?_
  refine ax_q (q_mov rfl) ?_
  refine ax_q (q_mov rfl) ?_
  refine ax_nil ?_
  refine cx_keep rfl rfl ?_
  refine cx_seq ?_
  refine cx_ops ?_
  refine ax_q (q_mov rfl) ?_
  refine ax_q (q_mov rfl) ?_
  refine ax_q (q_mov rfl) ?_
  refine ax_q (q_ix rfl rfl (mapAt h0x)) ?_
  first | refine ax_q (q_load1_ptr rfl rfl rfl) ?_ | refine ax_q (q_load1_ip rfl) ?_ | refine ax_q (q_load1_rptr rfl rfl rfl rfl) ?_ | refine ax_q (q_load1_rptr rfl rfl (by assumption) rfl) ?_ | refine ax_q (q_load1_rptr rfl rfl (mapAt (by first | assumption | omega)) rfl) ?_
  refine ax_q (q_sbin rfl rfl rfl) ?_
  refine ax_nil ?_
  refine cx_keep rfl rfl ?_
  refine cx_cond rfl (fun h1 => ?_) (fun h1 => ?_)
  ·
   have h1 : eqb v xs[k] = true := eqb_t (dT h1)
   refine cx_seq ?_
   refine cx_ops ?_
   refine ax_q (q_mov rfl) ?_
   refine ax_q (q_mov rfl) ?_
   refine ax_nil ?_
   refine cx_keep rfl rfl ?_
   refine cx_ret (ret0 rfl rfl ?_)
   exact ⟨by rw [idxOf_hit h0x ht h1]; rfl, rfl⟩
  ·
   have h1 : eqb v xs[k] = false := eqb_f (dF h1)
   refine cx_skip ?_
   refine cx_keep rfl rfl ?_
   refine cx_ops ?_
   refine ax_qe (r' := int ((k + 1 : Nat) : Int)) (q_ibin rfl rfl rfl) (by rw [wi (by omega) (by omega)]; rfl) ?_
   refine ax_q (q_mov rfl) ?_
   refine ax_nil ?_
   exact ⟨_, k + 1, by omega, ⟨by omega, rfl, before_step h0x ht h1⟩, by repeat (first | exact trivial | refine ⟨rfl, ?_⟩ | refine ⟨?_, ?_⟩)⟩
 ·
  have h0 := dF h0
  have h0x : k = xs.length := by omega
  refine cx_exit rfl ?_
  refine cx_keep rfl rfl ?_
  refine cx_seq ?_
  refine cx_ops ?_
  refine ax_q (q_mov rfl) ?_
  refine ax_nil ?_
  refine cx_keep rfl rfl ?_
  refine cx_ret (ret0 rfl rfl ?_)
  exact ⟨by rw [idxOf_none (fun i hi => ht i (by omega))]; rfl, rfl⟩


/- loop.example/g00332/impl.PageInsert -/
def k_c_PageInsert : XCode :=
 .seq (.ops [.op (some 2) (.box (.t 0)),
   .op (some 4) (.alloc [.int .i64 0, .nils 1]),
   .op (some 5) (.mov (.k (.int .i64 0))),
   .op (some 6) (.mov (.k (.int .i64 0)))])
 (.keep [1, 2, 4] (.seq (.block 0 (.seq (.ops [.op (some 10) (.mov (.t 1)),
    .op (some 11) (.bslice 1 [.t 10]),
    .call (some 12) 43 [.t 11],
    .op (some 9) (.mov (.t 12))])
  (.keep [1, 2, 4, 9] (.cond (.t 9)
   (.seq (.ops [.op (some 13) (.build [.int .i64 0, .nils 1] []),
     .op none (.store 2 (.t 4) (.t 13)),
     .op (some 5) (.mov (.k (.int .i64 0))),
     .op (some 6) (.mov (.k (.int .i64 2)))])
   (.keep [4, 5, 6] (.ret)))
   (.seq (.ops [.op (some 15) (.loadN 2 (.t 2)),
     .call (some 16) 23 [.t 15],
     .op (some 17) (.not (.t 16)),
     .op (some 14) (.mov (.t 17))])
   (.keep [1, 2, 4, 14] (.cond (.t 14)
    (.seq (.ops [.op (some 18) (.build [.int .i64 0, .nils 1] []),
      .op none (.store 2 (.t 4) (.t 18)),
      .op (some 5) (.mov (.k (.int .i64 0))),
      .op (some 6) (.mov (.k (.int .i64 1)))])
    (.keep [4, 5, 6] (.ret)))
    (.seq (.ops [.op (some 20) (.mov (.t 1)),
      .op (some 21) (.lenT (.t 20)),
      .call (some 22) 39 [.t 21, .k (.int .i64 1), .k (.int .i64 30)],
      .op (some 23) (.not (.t 22)),
      .op (some 19) (.mov (.t 23))])
    (.keep [1, 2, 4, 19] (.cond (.t 19)
     (.seq (.ops [.op (some 24) (.build [.int .i64 0, .nils 1] []),
       .op none (.store 2 (.t 4) (.t 24)),
       .op (some 5) (.mov (.k (.int .i64 0))),
       .op (some 6) (.mov (.k (.int .i64 4)))])
     (.keep [4, 5, 6] (.ret)))
     (.skip)))))))))))
 (.keep [1, 2, 4] (.seq (.drawE [[], [0], [], [2], [0, 1, 2, 3], [], [0, 1, 2, 3, 4, 5], [0, 1, 2, 3, 4, 5, 6]] [.op (some 25) (.loadN 2 (.t 2)),
   .call (some 26) 44 [.t 25],
   .op (some 27) (.fadr (.t 2) 1),
   .op (some 28) (.load1 (.t 27)),
   .call (some 29) 45 [.t 28, .k (.str [])],
   .op (some 7) (.alloc [.int .i64 0, .nils 1])]
  [.op none (.store 2 (.t 7) (.t 26)),
   .op (some 8) (.mov (.t 29))])
 (.keep [1, 4, 7, 8] (.seq (.seq (.ops [.op (some 30) (.mov (.t 8)),
   .op (some 31) (.bin .lss (.t 30) (.k (.int .i64 0)))])
  (.keep [1, 4, 7, 8, 31] (.cond (.t 31)
  (.seq (.ops [.op (some 32) (.loadN 2 (.t 7)),
    .op none (.store 2 (.t 4) (.t 32)),
    .op (some 5) (.mov (.k (.int .i64 0))),
    .op (some 6) (.mov (.k (.int .i64 7)))])
   (.keep [4, 5, 6] (.ret)))
  (.skip))))
 (.keep [1, 4, 7, 8] (.seq (.ops [.op (some 33) (.fadr (.t 7) 1),
   .op (some 34) (.load1 (.t 33)),
   .op (some 35) (.mov (.t 8)),
   .op (some 36) (.mov (.t 1)),
   .op (some 37) (.iadr 1 (.t 34) (.t 35)),
   .op none (.store 1 (.t 37) (.t 36))])
 (.keep [4, 7, 8] (.seq (.ops [.op (some 38) (.loadN 2 (.t 7)),
   .op (some 39) (.mov (.t 8)),
   .op none (.store 2 (.t 4) (.t 38)),
   .op (some 5) (.mov (.t 39)),
   .op (some 6) (.mov (.k (.int .i64 0)))])
 (.keep [4, 5, 6] (.ret))))))))))))
theorem k_c_PageInsert_fits : fitsF Try.prog 14 ⟨40, k_c_PageInsert, [.cN 4 2, .t 5, .t 6]⟩ = true := by kernel_rfl
theorem c_PageInsert {p : Page} {x : Str} (hl : p.slots.length ≤ 1048576) : Con Try.prog noMv 14 [p.av, str x] [] (fun r h => r = .tup [(pageInsert p x).1.avO 0, int (pageInsert p x).2.1, int (pageInsert p x).2.2] ∧ h = (pageInsert p x).1.hO 0) := by
 refine con_of2 k_c_PageInsert_fits rfl fun C hP hmv => ?_
 unfold k_c_PageInsert
 refine cx_seq ?_
 refine cx_ops ?_
 refine ax_e (e_box rfl rfl (by decide) rfl rfl rfl) ?_
 refine ax_e (e_alloc (by decide) rfl rfl) ?_
 refine ax_q (q_mov rfl) ?_
 refine ax_q (q_mov rfl) ?_
 refine ax_nil ?_
 refine cx_keep rfl rfl ?_
 refine cx_seq ?_
 refine cx_block ?_
 refine cx_seq ?_
 refine cx_ops ?_
 refine ax_q (q_mov rfl) ?_
 refine ax_e (e_bslice rfl (by decide) rfl rfl) ?_
 first | refine ax_call rfl (vc_pure0 (c_isLong (xs := [x]) ?_) hP rfl rfl ?_) | refine ax_call rfl (vc_lend0 (c_isLong (xs := [x]) ?_) hP (by repeat (first | exact lal_id _ rfl | exact LAL.nil | refine LAL.cons ?_ ?_ | exact la_id _ rfl | exact LA.lend (lend_whole rfl (by first | (simp; done) | (rw [List.length_map]; rfl))) | refine LA.agg ?_ | refine LA.fn ?_ | refine LA.lend ?_ | exact Lend.d _ | exact Lend.zs _ | exact lend_whole rfl (by first | (simp; done) | (rw [List.length_map]; rfl)) | refine Lend.ptr rfl ?_ | refine Lend.fn ?_ | exact LendL.nil | refine LendL.cons ?_ ?_)) rfl rfl ?_)
 ·
  simp
 refine ax_q (q_mov rfl) ?_
 refine ax_nil ?_
 refine cx_keep rfl rfl ?_
 refine cx_cond rfl (fun h0 => ?_) (fun h0 => ?_)
 ·
  have h0 : 65536 < (x.length : Int) := by simpa [long64] using h0
  refine cx_seq ?_
  refine cx_ops ?_
  refine ax_q (q_build rfl) ?_
  refine ax_e (e_st rfl rfl rfl rfl rfl rfl rfl) ?_
  refine ax_q (q_mov rfl) ?_
  refine ax_q (q_mov rfl) ?_
  refine ax_nil ?_
  refine cx_keep rfl rfl ?_
  have e : pageInsert p x = (.zero, 0, 2) := by unfold pageInsert; rw [if_pos h0]
  refine cx_wk (wk_virt 900 1 rfl rfl rfl) ?_
  refine cx_wk (wk_zsb 4 900 1 rfl rfl rfl) ?_
  refine cx_ret (retN (fun _ => 0) [900] rfl rfl rfl rfl rfl ?_)
  rw [e]; exact ⟨rfl, rfl⟩
 ·
  have h0 : ¬ 65536 < (x.length : Int) := by simpa [long64] using h0
  refine cx_seq ?_
  refine cx_ops ?_
  refine ax_q (q_ldN rfl rfl rfl) ?_
  first | refine ax_call rfl (vc_pure0 (c_PageOK  ?_) hP rfl rfl ?_) | refine ax_call rfl (vc_lend0 (c_PageOK  ?_) hP (by repeat (first | exact lal_id _ rfl | exact LAL.nil | refine LAL.cons ?_ ?_ | exact la_id _ rfl | exact LA.lend (lend_whole rfl (by first | (simp; done) | (rw [List.length_map]; rfl))) | refine LA.agg ?_ | refine LA.fn ?_ | refine LA.lend ?_ | exact Lend.d _ | exact Lend.zs _ | exact lend_whole rfl (by first | (simp; done) | (rw [List.length_map]; rfl)) | refine Lend.ptr rfl ?_ | refine Lend.fn ?_ | exact LendL.nil | refine LendL.cons ?_ ?_)) rfl rfl ?_)
  ·
   first | assumption | omega | (simp; done) | (simp; omega)
  refine ax_q (q_not rfl) ?_
  refine ax_q (q_mov rfl) ?_
  refine ax_nil ?_
  refine cx_keep rfl rfl ?_
  refine cx_cond rfl (fun h1 => ?_) (fun h1 => ?_)
  ·
   have h1 := bT h1
   refine cx_seq ?_
   refine cx_ops ?_
   refine ax_q (q_build rfl) ?_
   refine ax_e (e_st rfl rfl rfl rfl rfl rfl rfl) ?_
   refine ax_q (q_mov rfl) ?_
   refine ax_q (q_mov rfl) ?_
   refine ax_nil ?_
   refine cx_keep rfl rfl ?_
   have e : pageInsert p x = (.zero, 0, 1) := by unfold pageInsert; rw [if_neg h0, if_pos h1]
   refine cx_wk (wk_virt 900 1 rfl rfl rfl) ?_
   refine cx_wk (wk_zsb 4 900 1 rfl rfl rfl) ?_
   refine cx_ret (retN (fun _ => 0) [900] rfl rfl rfl rfl rfl ?_)
   rw [e]; exact ⟨rfl, rfl⟩
  ·
   have h1 := bF h1
   refine cx_seq ?_
   refine cx_ops ?_
   refine ax_q (q_mov rfl) ?_
   refine ax_q (q_lenT rfl) ?_
   first | refine ax_call rfl (vc_pure0 (c_inRange  ) hP rfl rfl ?_) | refine ax_call rfl (vc_lend0 (c_inRange  ) hP (by repeat (first | exact lal_id _ rfl | exact LAL.nil | refine LAL.cons ?_ ?_ | exact la_id _ rfl | exact LA.lend (lend_whole rfl (by first | (simp; done) | (rw [List.length_map]; rfl))) | refine LA.agg ?_ | refine LA.fn ?_ | refine LA.lend ?_ | exact Lend.d _ | exact Lend.zs _ | exact lend_whole rfl (by first | (simp; done) | (rw [List.length_map]; rfl)) | refine Lend.ptr rfl ?_ | refine Lend.fn ?_ | exact LendL.nil | refine LendL.cons ?_ ?_)) rfl rfl ?_)
   refine ax_q (q_not rfl) ?_
   refine ax_q (q_mov rfl) ?_
   refine ax_nil ?_
   refine cx_keep rfl rfl ?_
   refine cx_cond rfl (fun h2 => ?_) (fun h2 => ?_)
   ·
    have h2 := bT h2
    refine cx_seq ?_
    refine cx_ops ?_
    refine ax_q (q_build rfl) ?_
    refine ax_e (e_st rfl rfl rfl rfl rfl rfl rfl) ?_
    refine ax_q (q_mov rfl) ?_
    refine ax_q (q_mov rfl) ?_
    refine ax_nil ?_
    refine cx_keep rfl rfl ?_
    have e : pageInsert p x = (.zero, 0, 4) := by unfold pageInsert; rw [if_neg h0, if_neg (by rw [h1]; simp), if_pos h2]
    refine cx_wk (wk_virt 900 1 rfl rfl rfl) ?_
    refine cx_wk (wk_zsb 4 900 1 rfl rfl rfl) ?_
    refine cx_ret (retN (fun _ => 0) [900] rfl rfl rfl rfl rfl ?_)
    rw [e]; exact ⟨rfl, rfl⟩
   ·
    have h2 := bF h2
    refine cx_skip ?_
    refine cx_keep rfl rfl ?_
    refine cx_seq ?_
    refine cx_drawL 0 25 (fun _ => false) (fun _ => true) [] ([]) [[2], [25], [2], [27], [28], []] [[], [], [], [], [], []] rfl ?_
    first | refine ⟨⟨25, _, []⟩, .inl ⟨rfl, rfl, rfl, locl_of (loc_q (q_ldN rfl rfl rfl))⟩, ?_⟩
    first | refine ⟨_, .inr ⟨rfl, _, rfl, .inr ⟨rfl, rfl, .inl rfl, rfl, rfl⟩, loc_call (fun i => 26 + 200 * i) false rfl (c_cloneP  (by first | assumption | omega | (simp; done) | (simp; omega))) hP (.inr ⟨rfl, rfl, rfl⟩) rfl rfl (fun h => by cases h)⟩, ?_⟩ | refine ⟨_, .inr ⟨rfl, _, rfl, .inr ⟨rfl, rfl, .inl rfl, rfl, rfl⟩, loc_call (fun i => 26 + 200 * i) true rfl (c_cloneP  (by first | assumption | omega | (simp; done) | (simp; omega))) hP (.inl ⟨rfl, (by repeat (first | exact lal_id _ rfl | exact LAL.nil | refine LAL.cons ?_ ?_ | exact la_id _ rfl | exact LA.lend (lend_whole rfl (by first | (simp; done) | (rw [List.length_map]; rfl))) | refine LA.agg ?_ | refine LA.fn ?_ | refine LA.lend ?_ | exact Lend.d _ | exact Lend.zs _ | exact lend_whole rfl (by first | (simp; done) | (rw [List.length_map]; rfl)) | refine Lend.ptr rfl ?_ | refine Lend.fn ?_ | exact LendL.nil | refine LendL.cons ?_ ?_))⟩) rfl rfl (fun _ => ⟨rfl, noisl_of (by repeat (first | exact trivial | refine ⟨noisl_map (fun _ => rfl), ?_⟩ | refine ⟨?_, ?_⟩))⟩)⟩, ?_⟩
    first | refine ⟨_, .inr ⟨rfl, _, rfl, .inr ⟨rfl, rfl, .inr rfl, rfl, rfl⟩, loc_q (q_fadr_ptr rfl)⟩, ?_⟩
    first | refine ⟨_, .inr ⟨rfl, _, rfl, .inr ⟨rfl, rfl, .inr rfl, rfl, rfl⟩, loc_q (q_load1_ptr rfl rfl rfl)⟩, ?_⟩
    first | refine ⟨_, .inr ⟨rfl, _, rfl, .inr ⟨rfl, rfl, .inl rfl, rfl, rfl⟩, loc_call (fun i => 29 + 200 * i) false rfl (c_Index_Str  (by first | assumption | omega | (simp; done) | (simp; omega))) hP (.inr ⟨rfl, rfl, rfl⟩) rfl rfl (fun h => by cases h)⟩, ?_⟩ | refine ⟨_, .inr ⟨rfl, _, rfl, .inr ⟨rfl, rfl, .inl rfl, rfl, rfl⟩, loc_call (fun i => 29 + 200 * i) true rfl (c_Index_Str  (by first | assumption | omega | (simp; done) | (simp; omega))) hP (.inl ⟨rfl, (by repeat (first | exact lal_id _ rfl | exact LAL.nil | refine LAL.cons ?_ ?_ | exact la_id _ rfl | exact LA.lend (lend_whole rfl (by first | (simp; done) | (rw [List.length_map]; rfl))) | refine LA.agg ?_ | refine LA.fn ?_ | refine LA.lend ?_ | exact Lend.d _ | exact Lend.zs _ | exact lend_whole rfl (by first | (simp; done) | (rw [List.length_map]; rfl)) | refine Lend.ptr rfl ?_ | refine Lend.fn ?_ | exact LendL.nil | refine LendL.cons ?_ ?_))⟩) rfl rfl (fun _ => ⟨rfl, noisl_of (by repeat (first | exact trivial | refine ⟨noisl_map (fun _ => rfl), ?_⟩ | refine ⟨?_, ?_⟩))⟩)⟩, ?_⟩
    first | refine ⟨_, .inr ⟨rfl, _, rfl, .inr ⟨rfl, rfl, .inr rfl, rfl, rfl⟩, loc_alloc⟩, ?_⟩
    refine ⟨rfl, ?_⟩
    refine ax_e (e_st rfl rfl rfl rfl rfl rfl rfl) ?_
    refine ax_q (q_mov rfl) ?_
    refine ax_nil ?_
    refine cx_keep rfl rfl ?_
    refine cx_seq ?_
    refine cx_seq ?_
    refine cx_ops ?_
    refine ax_q (q_mov rfl) ?_
    refine ax_q (q_ibin rfl rfl rfl) ?_
    refine ax_nil ?_
    refine cx_keep rfl rfl ?_
    refine cx_cond rfl (fun h3 => ?_) (fun h3 => ?_)
    ·
     have h3 := dT h3
     rw [idx_eq] at h3
     refine cx_seq ?_
     refine cx_ops ?_
     refine ax_q (q_ldN rfl rfl rfl) ?_
     refine ax_e (e_st rfl rfl rfl rfl rfl rfl rfl) ?_
     refine ax_q (q_mov rfl) ?_
     refine ax_q (q_mov rfl) ?_
     refine ax_nil ?_
     refine cx_keep rfl rfl ?_
     have e : pageInsert p x = (p, 0, 7) := by unfold pageInsert; rw [if_neg h0, if_neg (by rw [h1]; simp), if_neg (by rw [h2]; simp)]; simp only [if_pos h3]
     refine cx_ret (retN (fun _ => 0) [26] rfl rfl rfl rfl rfl ?_)
     rw [e]; exact ⟨rfl, rfl⟩
    ·
     have h3 := dF h3
     rw [idx_eq] at h3
     obtain ⟨k, hk0, hk, e⟩ := pageInsert_set h0 h1 h2 h3
     rw [idx_eq, hk0]
     refine cx_skip ?_
     refine cx_keep rfl rfl ?_
     refine cx_seq ?_
     refine cx_ops ?_
     refine ax_q (q_fadr_ptr rfl) ?_
     refine ax_q (q_load1_ptr rfl rfl rfl) ?_
     refine ax_q (q_mov rfl) ?_
     refine ax_q (q_mov rfl) ?_
     refine ax_q (q_ixo rfl rfl hk) ?_
     refine ax_e (e_str (rs' := (p.slots.set k x).map strRow) (q := strRow x) rfl rfl rfl rfl rfl rfl (mapAt hk) rfl rfl List.map_set.symm) ?_
     refine ax_nil ?_
     refine cx_keep rfl rfl ?_
     refine cx_seq ?_
     refine cx_ops ?_
     refine ax_q (q_ldN rfl rfl rfl) ?_
     refine ax_q (q_mov rfl) ?_
     refine ax_e (e_st rfl rfl rfl rfl rfl rfl rfl) ?_
     refine ax_q (q_mov rfl) ?_
     refine ax_q (q_mov rfl) ?_
     refine ax_nil ?_
     refine cx_keep rfl rfl ?_
     refine cx_ret (retN (fun _ => 0) [26] rfl rfl rfl rfl rfl ?_)
     rw [e]; exact ⟨by show AV.tup [AV.agg [int p.lsn, .osl 0 1 0 p.slots.length], int k, int 0] = AV.tup [AV.agg [int p.lsn, .osl 0 1 0 (p.slots.set k x).length], int k, int 0]; rw [List.length_set], rfl⟩


/- loop.example/g00332/spec.l01In -/
def k_c_l01In : XCode :=
 .seq (.ops [.op (some 6) (.mov (.k (.bool false)))])
 (.keep [0, 1, 2] (.seq (.ops [.op (some 7) (.mov (.t 1)),
   .op (some 8) (.mov (.t 0)),
   .op (some 9) (.bin .leq (.t 7) (.t 8)),
   .op (some 10) (.mov (.t 9)),
   .andor 14 true 3 10 [.op (some 11) (.mov (.t 0)), .op (some 12) (.mov (.t 2)), .op (some 13) (.bin .leq (.t 11) (.t 12))] (.t 13),
   .op (some 6) (.mov (.t 14))])
 (.keep [6] (.ret))))
theorem k_c_l01In_fits : fitsF Try.prog 47 ⟨15, k_c_l01In, [.t 6]⟩ = true := by kernel_rfl
theorem c_l01In {n lo hi : Int} : Con Try.prog noMv 47 [int n, int lo, int hi] [] (fun r h => r = bool (inR n lo hi) ∧ h = []) := by
 refine con_of2 k_c_l01In_fits rfl fun C hP hmv => ?_
 unfold k_c_l01In
 refine cx_seq ?_
 refine cx_ops ?_
 refine ax_q (q_mov rfl) ?_
 refine ax_nil ?_
 refine cx_keep rfl rfl ?_
 refine cx_seq ?_
 refine cx_ops ?_
 refine ax_q (q_mov rfl) ?_
 refine ax_q (q_mov rfl) ?_
 refine ax_q (q_ibin rfl rfl rfl) ?_
 refine ax_q (q_mov rfl) ?_
 apply ax_and rfl rfl
 ·
  intro g
  have g := dT g
  refine ax_q (q_mov rfl) ?_
  refine ax_q (q_mov rfl) ?_
  refine ax_q (q_ibin rfl rfl rfl) ?_
  exact ax_nil ⟨rfl, by repeat (first | exact trivial | refine ⟨rfl, ?_⟩ | refine ⟨?_, ?_⟩)⟩
 refine ax_q (q_mov rfl) ?_
 refine ax_nil ?_
 refine cx_keep rfl rfl ?_
 refine cx_ret (ret0 rfl rfl ?_)
 exact ⟨rfl, rfl⟩


/- loop.example/g00332/spec.PageOK -/
def k_c_sPageOK : XCode :=
 .seq (.ops [.op (some 1) (.box (.t 0)),
   .op (some 2) (.mov (.k (.bool false)))])
 (.keep [1] (.seq (.seq (.ops [.op (some 4) (.fadr (.t 1) 0),
   .op (some 5) (.load1 (.t 4)),
   .call (some 6) 47 [.t 5, .k (.int .i64 0), .k (.int .i64 1000)],
   .op (some 7) (.not (.t 6)),
   .op (some 8) (.mov (.t 7)),
   .andor 13 false 4 8 [.op (some 9) (.fadr (.t 1) 1), .op (some 10) (.load1 (.t 9)), .op (some 11) (.lenS (.t 10)), .op (some 12) (.bin .neq (.t 11) (.k (.int .i64 4)))] (.t 12)])
  (.keep [1, 13] (.cond (.t 13)
  (.seq (.ops [.op (some 2) (.mov (.k (.bool false)))])
   (.keep [2] (.ret)))
  (.skip))))
 (.keep [1] (.seq (.seq (.ops [.op (some 3) (.mov (.k (.int .i64 0)))])
  (.keep [1, 3] (.block 0 (.loop (.seq (.seq (.ops [.op (some 14) (.mov (.t 3)),
     .op (some 15) (.bin .lss (.t 14) (.k (.int .i64 4)))])
   (.keep [1, 3, 15] (.cond (.t 15)
    (.skip)
    (.exit 0))))
   (.keep [1, 3] (.seq (.block 1 (.seq (.ops [.op (some 18) (.fadr (.t 1) 1),
     .op (some 19) (.load1 (.t 18)),
     .op (some 20) (.mov (.t 3)),
     .op (some 21) (.iadr 1 (.t 19) (.t 20)),
     .op (some 22) (.load1 (.t 21)),
     .op (some 23) (.lenT (.t 22)),
     .op (some 24) (.bin .gtr (.t 23) (.k (.int .i64 30)))])
    (.keep [1, 3, 24] (.cond (.t 24)
    (.seq (.ops [.op (some 2) (.mov (.k (.bool false)))])
     (.keep [2] (.ret)))
    (.skip)))))
   (.keep [1, 3] (.ops [.op (some 16) (.mov (.t 3)),
    .op (some 17) (.bin .add (.t 16) (.k (.int .i64 1))),
    .op (some 3) (.mov (.t 17))])))))))))
 (.keep [] (.seq (.ops [.op (some 2) (.mov (.k (.bool true)))])
 (.keep [2] (.ret))))))))
theorem k_c_sPageOK_fits : fitsF Try.prog 46 ⟨25, k_c_sPageOK, [.t 2]⟩ = true := by kernel_rfl
theorem c_sPageOK {p : Page} (hl : p.slots.length ≤ 1048576) : Con Try.prog noMv 46 [p.av] [] (fun r h => r = bool (pageOK p) ∧ h = []) := by
 refine con_of2 k_c_sPageOK_fits rfl fun C hP hmv => ?_
 unfold k_c_sPageOK
 refine cx_seq ?_
 refine cx_ops ?_
 refine ax_e (e_box rfl rfl (by decide) rfl rfl rfl) ?_
 refine ax_q (q_mov rfl) ?_
 refine ax_nil ?_
 refine cx_keep rfl rfl ?_
 refine cx_seq ?_
 refine cx_seq ?_
 refine cx_ops ?_
 refine ax_q (q_fadr_ptr rfl) ?_
 refine ax_q (q_load1_ptr rfl rfl rfl) ?_
 first | refine ax_call rfl (vc_pure0 (c_l01In  ) hP rfl rfl ?_) | refine ax_call rfl (vc_lend0 (c_l01In  ) hP (by repeat (first | exact lal_id _ rfl | exact LAL.nil | refine LAL.cons ?_ ?_ | exact la_id _ rfl | exact LA.lend (lend_whole rfl (by first | (simp; done) | (rw [List.length_map]; rfl))) | refine LA.agg ?_ | refine LA.fn ?_ | refine LA.lend ?_ | exact Lend.d _ | exact Lend.zs _ | exact lend_whole rfl (by first | (simp; done) | (rw [List.length_map]; rfl)) | refine Lend.ptr rfl ?_ | refine Lend.fn ?_ | exact LendL.nil | refine LendL.cons ?_ ?_)) rfl rfl ?_)
 refine ax_q (q_not rfl) ?_
 refine ax_q (q_mov rfl) ?_
 apply ax_or rfl rfl
 ·
  intro g
  have g := bF g
  refine ax_q (q_fadr_ptr rfl) ?_
  refine ax_q (q_load1_ptr rfl rfl rfl) ?_
  first | refine ax_q (q_lenS_map rfl) ?_ | refine ax_q (q_lenS_osl rfl) ?_ | refine ax_q (q_lenS_zs rfl) ?_ | refine ax_q (q_lenS rfl) ?_
  refine ax_q (q_ibin rfl rfl rfl) ?_
  exact ax_nil ⟨rfl, by repeat (first | exact trivial | refine ⟨rfl, ?_⟩ | refine ⟨?_, ?_⟩)⟩
 refine ax_nil ?_
 refine cx_keep rfl rfl ?_
 refine cx_cond rfl (fun h0 => ?_) (fun h0 => ?_)
 ·
  have h0 : hdP p = true := h0
  refine cx_seq ?_
  refine cx_ops ?_
  refine ax_q (q_mov rfl) ?_
  refine ax_nil ?_
  refine cx_keep rfl rfl ?_
  refine cx_ret (ret0 rfl rfl ?_)
  exact ⟨by rw [pageOK_hd h0]; rfl, rfl⟩
 ·
  have h0 : hdP p = false := h0
  have h4 := hdP_len h0
  refine cx_skip ?_
  refine cx_keep rfl rfl ?_
  refine cx_seq ?_
  refine cx_seq ?_
  refine cx_ops ?_
  refine ax_q (q_mov rfl) ?_
  refine ax_nil ?_
  refine cx_keep rfl rfl ?_
  refine cx_block ?_
  refine cx_loopU (fun n k => k ≤ 4 ∧ n = 4 - k ∧ ∀ j, j < k → ∀ x, p.slots[j]? = some x → decide ((30 : Int) < (x.length : Int)) = false) (fun k : Nat => [(3, int k)]) (fun _ => [(1, .box [.d (.int .i64 p.lsn), .d (.sl 1 (p.slots.map strRow))])]) ⟨_, 0, ⟨Nat.zero_le _, rfl, fun j hj => by omega⟩, by repeat (first | exact trivial | refine ⟨rfl, ?_⟩ | refine ⟨?_, ?_⟩)⟩ ?_
  rintro n k ⟨hk, rfl, hb⟩
  refine cx_seq ?_
  refine cx_seq ?_
  refine cx_ops ?_
  refine ax_q (q_mov rfl) ?_
  refine ax_q (q_ibin rfl rfl rfl) ?_
  refine ax_nil ?_
  refine cx_keep rfl rfl ?_
  refine cx_cond rfl (fun h1 => ?_) (fun h1 => ?_)
  ·
   have h1 := dT h1
   have h1x : k < p.slots.length := by omega
   refine cx_skip ?_
   refine cx_keep rfl rfl ?_
   refine cx_seq ?_
   refine cx_block ?_
   refine cx_seq ?_
   refine cx_ops ?_
   refine ax_q (q_fadr_ptr rfl) ?_
   refine ax_q (q_load1_ptr rfl rfl rfl) ?_
   refine ax_q (q_mov rfl) ?_
   refine ax_q (q_ix rfl rfl (mapAt h1x)) ?_
   first | refine ax_q (q_load1_ptr rfl rfl rfl) ?_ | refine ax_q (q_load1_ip rfl) ?_ | refine ax_q (q_load1_rptr rfl rfl rfl rfl) ?_ | refine ax_q (q_load1_rptr rfl rfl (by assumption) rfl) ?_ | refine ax_q (q_load1_rptr rfl rfl (mapAt (by first | assumption | omega)) rfl) ?_
   refine ax_q (q_lenT rfl) ?_
   refine ax_q (q_ibin rfl rfl rfl) ?_
   refine ax_nil ?_
   refine cx_keep rfl rfl ?_
   refine cx_cond rfl (fun h2 => ?_) (fun h2 => ?_)
   ·
    have h2 : decide ((30 : Int) < (p.slots[k].length : Int)) = true := h2
    refine cx_seq ?_
    refine cx_ops ?_
    refine ax_q (q_mov rfl) ?_
    refine ax_nil ?_
    refine cx_keep rfl rfl ?_
    refine cx_ret (ret0 rfl rfl ?_)
    exact ⟨by rw [pageOK_int, any_hit h1x h2, Bool.not_true, Bool.and_false]; rfl, rfl⟩
   ·
    have h2 : decide ((30 : Int) < (p.slots[k].length : Int)) = false := h2
    refine cx_skip ?_
    refine cx_keep rfl rfl ?_
    refine cx_ops ?_
    refine ax_q (q_mov rfl) ?_
    refine ax_qe (r' := int ((k + 1 : Nat) : Int)) (q_ibin rfl rfl rfl) (by rw [wi (by omega) (by omega)]; rfl) ?_
    refine ax_q (q_mov rfl) ?_
    refine ax_nil ?_
    exact ⟨_, k + 1, by omega, ⟨by omega, rfl, before_step h1x hb h2⟩, by repeat (first | exact trivial | refine ⟨rfl, ?_⟩ | refine ⟨?_, ?_⟩)⟩
  ·
   have h1 := dF h1
   have h1x : k = p.slots.length := by omega
   subst h1x
   refine cx_exit rfl ?_
   refine cx_keep rfl rfl ?_
   refine cx_seq ?_
   refine cx_ops ?_
   refine ax_q (q_mov rfl) ?_
   refine ax_nil ?_
   refine cx_keep rfl rfl ?_
   refine cx_ret (ret0 rfl rfl ?_)
   exact ⟨by rw [pageOK_int, any_all (fun i hi => hb i (by omega)), hdP_in h0]; rfl, rfl⟩


/- loop.example/g00332/spec.l03Free -/
def k_c_l03Free : XCode :=
 .seq (.ops [.op (some 1) (.box (.t 0)),
   .op (some 2) (.mov (.k (.int .i64 0)))])
 (.keep [1] (.seq (.seq (.ops [.op (some 3) (.mov (.k (.int .i64 0)))])
  (.keep [1, 3] (.block 0 (.loop (.seq (.seq (.ops [.op (some 4) (.mov (.t 3)),
     .op (some 5) (.bin .lss (.t 4) (.k (.int .i64 4)))])
   (.keep [1, 3, 5] (.cond (.t 5)
    (.skip)
    (.exit 0))))
   (.keep [1, 3] (.seq (.block 1 (.seq (.ops [.op (some 8) (.fadr (.t 1) 1),
     .op (some 9) (.load1 (.t 8)),
     .op (some 10) (.mov (.t 3)),
     .op (some 11) (.iadr 1 (.t 9) (.t 10)),
     .op (some 12) (.load1 (.t 11)),
     .op (some 13) (.bin .eql (.t 12) (.k (.str [])))])
    (.keep [1, 3, 13] (.cond (.t 13)
    (.seq (.ops [.op (some 14) (.mov (.t 3)),
      .op (some 2) (.mov (.t 14))])
     (.keep [2] (.ret)))
    (.skip)))))
   (.keep [1, 3] (.ops [.op (some 6) (.mov (.t 3)),
    .op (some 7) (.bin .add (.t 6) (.k (.int .i64 1))),
    .op (some 3) (.mov (.t 7))])))))))))
 (.keep [] (.seq (.ops [.op (some 2) (.mov (.k (.int .i64 (-1))))])
 (.keep [2] (.ret))))))
theorem k_c_l03Free_fits : fitsF Try.prog 48 ⟨15, k_c_l03Free, [.t 2]⟩ = true := by kernel_rfl
theorem c_l03Free {p : Page} (hl : p.slots.length = 4) : Con Try.prog noMv 48 [p.av] [] (fun r h => r = int (idxOf (fun s => decide (s = [])) p.slots 0) ∧ h = []) := by
 refine con_of2 k_c_l03Free_fits rfl fun C hP hmv => ?_
 unfold k_c_l03Free
 refine cx_seq ?_
 refine cx_ops ?_
 refine ax_e (e_box rfl rfl (by decide) rfl rfl rfl) ?_
 refine ax_q (q_mov rfl) ?_
 refine ax_nil ?_
 refine cx_keep rfl rfl ?_
 refine cx_seq ?_
 refine cx_seq ?_
 refine cx_ops ?_
 refine ax_q (q_mov rfl) ?_
 refine ax_nil ?_
 refine cx_keep rfl rfl ?_
 refine cx_block ?_
 refine cx_loopU (fun n k => k ≤ 4 ∧ n = 4 - k ∧ ∀ j, j < k → ∀ x, p.slots[j]? = some x → decide (x = []) = false) (fun k : Nat => [(3, int k)]) (fun _ => [(1, .box [.d (.int .i64 p.lsn), .d (.sl 1 (p.slots.map strRow))])]) ⟨_, 0, ⟨Nat.zero_le _, rfl, fun j hj => by omega⟩, by repeat (first | exact trivial | refine ⟨rfl, ?_⟩ | refine ⟨?_, ?_⟩)⟩ ?_
 rintro n k ⟨hk, rfl, hb⟩
 refine cx_seq ?_
 refine cx_seq ?_
 refine cx_ops ?_
 refine ax_q (q_mov rfl) ?_
 refine ax_q (q_ibin rfl rfl rfl) ?_
 refine ax_nil ?_
 refine cx_keep rfl rfl ?_
 refine cx_cond rfl (fun h0 => ?_) (fun h0 => ?_)
 ·
  have h0 := dT h0
  have h0x : k < p.slots.length := by omega
  refine cx_skip ?_
  refine cx_keep rfl rfl ?_
  refine cx_seq ?_
  refine cx_block ?_
  refine cx_seq ?_
  refine cx_ops ?_
  refine ax_q (q_fadr_ptr rfl) ?_
  refine ax_q (q_load1_ptr rfl rfl rfl) ?_
  refine ax_q (q_mov rfl) ?_
  refine ax_q (q_ix rfl rfl (mapAt h0x)) ?_
  first | refine ax_q (q_load1_ptr rfl rfl rfl) ?_ | refine ax_q (q_load1_ip rfl) ?_ | refine ax_q (q_load1_rptr rfl rfl rfl rfl) ?_ | refine ax_q (q_load1_rptr rfl rfl (by assumption) rfl) ?_ | refine ax_q (q_load1_rptr rfl rfl (mapAt (by first | assumption | omega)) rfl) ?_
  refine ax_q (q_sbin rfl rfl rfl) ?_
  refine ax_nil ?_
  refine cx_keep rfl rfl ?_
  refine cx_cond rfl (fun h1 => ?_) (fun h1 => ?_)
  ·
   have h1 := dT h1
   refine cx_seq ?_
   refine cx_ops ?_
   refine ax_q (q_mov rfl) ?_
   refine ax_q (q_mov rfl) ?_
   refine ax_nil ?_
   refine cx_keep rfl rfl ?_
   refine cx_ret (ret0 rfl rfl ?_)
   exact ⟨by rw [idxOf_hit h0x hb (decide_eq_true h1)]; rfl, rfl⟩
  ·
   have h1 := dF h1
   refine cx_skip ?_
   refine cx_keep rfl rfl ?_
   refine cx_ops ?_
   refine ax_q (q_mov rfl) ?_
   refine ax_qe (r' := int ((k + 1 : Nat) : Int)) (q_ibin rfl rfl rfl) (by rw [wi (by omega) (by omega)]; rfl) ?_
   refine ax_q (q_mov rfl) ?_
   refine ax_nil ?_
   exact ⟨_, k + 1, by omega, ⟨by omega, rfl, before_step h0x hb (decide_eq_false h1)⟩, by repeat (first | exact trivial | refine ⟨rfl, ?_⟩ | refine ⟨?_, ?_⟩)⟩
 ·
  have h0 := dF h0
  have h0x : k = p.slots.length := by omega
  subst h0x
  refine cx_exit rfl ?_
  refine cx_keep rfl rfl ?_
  refine cx_seq ?_
  refine cx_ops ?_
  refine ax_q (q_mov rfl) ?_
  refine ax_nil ?_
  refine cx_keep rfl rfl ?_
  refine cx_ret (ret0 rfl rfl ?_)
  exact ⟨by rw [idxOf_none (fun i hi => hb i (by omega))]; rfl, rfl⟩


/- loop.example/g00332/spec.l03Own -/
def k_c_l03Own : XCode :=
 .seq (.ops [.op (some 1) (.box (.t 0)),
   .op (some 2) (.alloc [.int .i64 0, .nils 1])])
 (.keep [1, 2] (.seq (.ops [.op (some 3) (.bslice 1 []),
   .op (some 4) (.fadr (.t 1) 1),
   .op (some 5) (.load1 (.t 4)),
   .op (some 6) (.app 1 16 [.str []] (.t 3) (.t 5)),
   .op (some 7) (.fadr (.t 1) 1),
   .op none (.store 1 (.t 7) (.t 6))])
 (.keep [1, 2] (.seq (.ops [.op (some 8) (.loadN 2 (.t 1)),
   .op none (.store 2 (.t 2) (.t 8))])
 (.keep [2] (.ret))))))
theorem k_c_l03Own_fits : fitsF Try.prog 49 ⟨9, k_c_l03Own, [.cN 2 2]⟩ = true := by kernel_rfl
theorem c_l03Own {p : Page} (hl : p.slots.length ≤ 1048576) : Con Try.prog noMv 49 [p.av] [] (fun r h => r = p.avO 0 ∧ h = p.hO 0) := by
 refine con_of2 k_c_l03Own_fits rfl fun C hP hmv => ?_
 unfold k_c_l03Own
 refine cx_seq ?_
 refine cx_ops ?_
 refine ax_e (e_box rfl rfl (by decide) rfl rfl rfl) ?_
 refine ax_e (e_alloc (by decide) rfl rfl) ?_
 refine ax_nil ?_
 refine cx_keep rfl rfl ?_
 refine cx_seq ?_
 refine cx_ops ?_
 refine ax_e (e_bslice rfl (by decide) rfl rfl) ?_
 refine ax_q (q_fadr_ptr rfl) ?_
 refine ax_q (q_load1_ptr rfl rfl rfl) ?_
 refine ax_e (e_appn (n' := p.slots.length) (rs' := p.slots.map strRow) rfl rfl (Nat.le_refl _) rfl (src_sl 1 _) (.inl (by decide)) (by simp only [List.length_map, List.length_nil]; omega) (by simp) (by simp)) ?_
 refine ax_q (q_fadr_ptr rfl) ?_
 refine ax_e (e_st rfl rfl rfl rfl rfl rfl rfl) ?_
 refine ax_nil ?_
 refine cx_keep rfl rfl ?_
 refine cx_seq ?_
 refine cx_ops ?_
 refine ax_q (q_ldN rfl rfl rfl) ?_
 refine ax_e (e_st rfl rfl rfl rfl rfl rfl rfl) ?_
 refine ax_nil ?_
 refine cx_keep rfl rfl ?_
 refine cx_ret (retN (fun _ => 0) [3] rfl rfl rfl rfl rfl ?_)
 exact ⟨rfl, rfl⟩


/- loop.example/g00332/spec.PageInsert -/
def k_c_sPageInsert : XCode :=
 .seq (.ops [.op (some 2) (.box (.t 0)),
   .op (some 4) (.alloc [.int .i64 0, .nils 1]),
   .op (some 5) (.mov (.k (.int .i64 0))),
   .op (some 6) (.mov (.k (.int .i64 0)))])
 (.keep [1, 2, 4] (.seq (.seq (.ops [.op (some 9) (.mov (.t 1)),
   .op (some 10) (.lenT (.t 9)),
   .op (some 11) (.bin .gtr (.t 10) (.k (.int .i64 65536)))])
  (.keep [1, 2, 4, 11] (.cond (.t 11)
  (.seq (.ops [.op (some 12) (.build [.int .i64 0, .nils 1] []),
    .op none (.store 2 (.t 4) (.t 12)),
    .op (some 5) (.mov (.k (.int .i64 0))),
    .op (some 6) (.mov (.k (.int .i64 2)))])
   (.keep [4, 5, 6] (.ret)))
  (.skip))))
 (.keep [1, 2, 4] (.seq (.seq (.ops [.op (some 13) (.loadN 2 (.t 2)),
   .call (some 14) 46 [.t 13],
   .op (some 15) (.not (.t 14))])
  (.keep [1, 2, 4, 15] (.cond (.t 15)
  (.seq (.ops [.op (some 16) (.build [.int .i64 0, .nils 1] []),
    .op none (.store 2 (.t 4) (.t 16)),
    .op (some 5) (.mov (.k (.int .i64 0))),
    .op (some 6) (.mov (.k (.int .i64 1)))])
   (.keep [4, 5, 6] (.ret)))
  (.skip))))
 (.keep [1, 2, 4] (.seq (.seq (.ops [.op (some 17) (.mov (.t 1)),
   .op (some 18) (.lenT (.t 17)),
   .call (some 19) 47 [.t 18, .k (.int .i64 1), .k (.int .i64 30)],
   .op (some 20) (.not (.t 19))])
  (.keep [1, 2, 4, 20] (.cond (.t 20)
  (.seq (.ops [.op (some 21) (.build [.int .i64 0, .nils 1] []),
    .op none (.store 2 (.t 4) (.t 21)),
    .op (some 5) (.mov (.k (.int .i64 0))),
    .op (some 6) (.mov (.k (.int .i64 4)))])
   (.keep [4, 5, 6] (.ret)))
  (.skip))))
 (.keep [1, 2, 4] (.seq (.ops [.op (some 22) (.loadN 2 (.t 2)),
   .call (some 23) 48 [.t 22],
   .op (some 7) (.mov (.t 23))])
 (.keep [1, 2, 4, 7] (.seq (.seq (.ops [.op (some 24) (.mov (.t 7)),
   .op (some 25) (.bin .lss (.t 24) (.k (.int .i64 0)))])
  (.keep [1, 2, 4, 7, 25] (.cond (.t 25)
  (.seq (.ops [.op (some 26) (.loadN 2 (.t 2)),
    .call (some 27) 49 [.t 26],
    .op none (.store 2 (.t 4) (.t 27)),
    .op (some 5) (.mov (.k (.int .i64 0))),
    .op (some 6) (.mov (.k (.int .i64 7)))])
   (.keep [4, 5, 6] (.ret)))
  (.skip))))
 (.keep [1, 2, 4, 7] (.seq (.ops [.op (some 28) (.loadN 2 (.t 2)),
   .call (some 29) 49 [.t 28],
   .op (some 8) (.alloc [.int .i64 0, .nils 1]),
   .op none (.store 2 (.t 8) (.t 29))])
 (.keep [1, 4, 7, 8] (.seq (.ops [.op (some 30) (.fadr (.t 8) 1),
   .op (some 31) (.load1 (.t 30)),
   .op (some 32) (.mov (.t 7)),
   .op (some 33) (.mov (.t 1)),
   .op (some 34) (.iadr 1 (.t 31) (.t 32)),
   .op none (.store 1 (.t 34) (.t 33))])
 (.keep [4, 7, 8] (.seq (.ops [.op (some 35) (.loadN 2 (.t 8)),
   .op (some 36) (.mov (.t 7)),
   .op none (.store 2 (.t 4) (.t 35)),
   .op (some 5) (.mov (.t 36)),
   .op (some 6) (.mov (.k (.int .i64 0)))])
 (.keep [4, 5, 6] (.ret))))))))))))))))))
theorem k_c_sPageInsert_fits : fitsF Try.prog 15 ⟨37, k_c_sPageInsert, [.cN 4 2, .t 5, .t 6]⟩ = true := by kernel_rfl
theorem c_sPageInsert {p : Page} {x : Str} (hl : p.slots.length ≤ 1048576) : Con Try.prog noMv 15 [p.av, str x] [] (fun r h => r = .tup [(pageInsert p x).1.avO 0, int (pageInsert p x).2.1, int (pageInsert p x).2.2] ∧ h = (pageInsert p x).1.hO 0) := by
 refine con_of2 k_c_sPageInsert_fits rfl fun C hP hmv => ?_
 unfold k_c_sPageInsert
 refine cx_seq ?_
 refine cx_ops ?_
 refine ax_e (e_box rfl rfl (by decide) rfl rfl rfl) ?_
 refine ax_e (e_alloc (by decide) rfl rfl) ?_
 refine ax_q (q_mov rfl) ?_
 refine ax_q (q_mov rfl) ?_
 refine ax_nil ?_
 refine cx_keep rfl rfl ?_
 refine cx_seq ?_
 refine cx_seq ?_
 refine cx_ops ?_
 refine ax_q (q_mov rfl) ?_
 refine ax_q (q_lenT rfl) ?_
 refine ax_q (q_ibin rfl rfl rfl) ?_
 refine ax_nil ?_
 refine cx_keep rfl rfl ?_
 refine cx_cond rfl (fun h0 => ?_) (fun h0 => ?_)
 ·
  have h0 := dT h0
  refine cx_seq ?_
  refine cx_ops ?_
  refine ax_q (q_build rfl) ?_
  refine ax_e (e_st rfl rfl rfl rfl rfl rfl rfl) ?_
  refine ax_q (q_mov rfl) ?_
  refine ax_q (q_mov rfl) ?_
  refine ax_nil ?_
  refine cx_keep rfl rfl ?_
  have e : pageInsert p x = (.zero, 0, 2) := by unfold pageInsert; rw [if_pos h0]
  refine cx_wk (wk_virt 900 1 rfl rfl rfl) ?_
  refine cx_wk (wk_zsb 4 900 1 rfl rfl rfl) ?_
  refine cx_ret (retN (fun _ => 0) [900] rfl rfl rfl rfl rfl ?_)
  rw [e]; exact ⟨rfl, rfl⟩
 ·
  have h0 := dF h0
  refine cx_skip ?_
  refine cx_keep rfl rfl ?_
  refine cx_seq ?_
  refine cx_seq ?_
  refine cx_ops ?_
  refine ax_q (q_ldN rfl rfl rfl) ?_
  first | refine ax_call rfl (vc_pure0 (c_sPageOK  ?_) hP rfl rfl ?_) | refine ax_call rfl (vc_lend0 (c_sPageOK  ?_) hP (by repeat (first | exact lal_id _ rfl | exact LAL.nil | refine LAL.cons ?_ ?_ | exact la_id _ rfl | exact LA.lend (lend_whole rfl (by first | (simp; done) | (rw [List.length_map]; rfl))) | refine LA.agg ?_ | refine LA.fn ?_ | refine LA.lend ?_ | exact Lend.d _ | exact Lend.zs _ | exact lend_whole rfl (by first | (simp; done) | (rw [List.length_map]; rfl)) | refine Lend.ptr rfl ?_ | refine Lend.fn ?_ | exact LendL.nil | refine LendL.cons ?_ ?_)) rfl rfl ?_)
  ·
   first | assumption | omega | (simp; done) | (simp; omega)
  refine ax_q (q_not rfl) ?_
  refine ax_nil ?_
  refine cx_keep rfl rfl ?_
  refine cx_cond rfl (fun h1 => ?_) (fun h1 => ?_)
  ·
   have h1 := bT h1
   refine cx_seq ?_
   refine cx_ops ?_
   refine ax_q (q_build rfl) ?_
   refine ax_e (e_st rfl rfl rfl rfl rfl rfl rfl) ?_
   refine ax_q (q_mov rfl) ?_
   refine ax_q (q_mov rfl) ?_
   refine ax_nil ?_
   refine cx_keep rfl rfl ?_
   have e : pageInsert p x = (.zero, 0, 1) := by unfold pageInsert; rw [if_neg h0, if_pos h1]
   refine cx_wk (wk_virt 900 1 rfl rfl rfl) ?_
   refine cx_wk (wk_zsb 4 900 1 rfl rfl rfl) ?_
   refine cx_ret (retN (fun _ => 0) [900] rfl rfl rfl rfl rfl ?_)
   rw [e]; exact ⟨rfl, rfl⟩
  ·
   have h1 := bF h1
   refine cx_skip ?_
   refine cx_keep rfl rfl ?_
   refine cx_seq ?_
   refine cx_seq ?_
   refine cx_ops ?_
   refine ax_q (q_mov rfl) ?_
   refine ax_q (q_lenT rfl) ?_
   first | refine ax_call rfl (vc_pure0 (c_l01In  ) hP rfl rfl ?_) | refine ax_call rfl (vc_lend0 (c_l01In  ) hP (by repeat (first | exact lal_id _ rfl | exact LAL.nil | refine LAL.cons ?_ ?_ | exact la_id _ rfl | exact LA.lend (lend_whole rfl (by first | (simp; done) | (rw [List.length_map]; rfl))) | refine LA.agg ?_ | refine LA.fn ?_ | refine LA.lend ?_ | exact Lend.d _ | exact Lend.zs _ | exact lend_whole rfl (by first | (simp; done) | (rw [List.length_map]; rfl)) | refine Lend.ptr rfl ?_ | refine Lend.fn ?_ | exact LendL.nil | refine LendL.cons ?_ ?_)) rfl rfl ?_)
   refine ax_q (q_not rfl) ?_
   refine ax_nil ?_
   refine cx_keep rfl rfl ?_
   refine cx_cond rfl (fun h2 => ?_) (fun h2 => ?_)
   ·
    have h2 := bT h2
    refine cx_seq ?_
    refine cx_ops ?_
    refine ax_q (q_build rfl) ?_
    refine ax_e (e_st rfl rfl rfl rfl rfl rfl rfl) ?_
    refine ax_q (q_mov rfl) ?_
    refine ax_q (q_mov rfl) ?_
    refine ax_nil ?_
    refine cx_keep rfl rfl ?_
    have e : pageInsert p x = (.zero, 0, 4) := by unfold pageInsert; rw [if_neg h0, if_neg (by rw [h1]; simp), if_pos h2]
    refine cx_wk (wk_virt 900 1 rfl rfl rfl) ?_
    refine cx_wk (wk_zsb 4 900 1 rfl rfl rfl) ?_
    refine cx_ret (retN (fun _ => 0) [900] rfl rfl rfl rfl rfl ?_)
    rw [e]; exact ⟨rfl, rfl⟩
   ·
    have h2 := bF h2
    refine cx_skip ?_
    refine cx_keep rfl rfl ?_
    refine cx_seq ?_
    refine cx_ops ?_
    refine ax_q (q_ldN rfl rfl rfl) ?_
    first | refine ax_call rfl (vc_pure0 (c_l03Free  ?_) hP rfl rfl ?_) | refine ax_call rfl (vc_lend0 (c_l03Free  ?_) hP (by repeat (first | exact lal_id _ rfl | exact LAL.nil | refine LAL.cons ?_ ?_ | exact la_id _ rfl | exact LA.lend (lend_whole rfl (by first | (simp; done) | (rw [List.length_map]; rfl))) | refine LA.agg ?_ | refine LA.fn ?_ | refine LA.lend ?_ | exact Lend.d _ | exact Lend.zs _ | exact lend_whole rfl (by first | (simp; done) | (rw [List.length_map]; rfl)) | refine Lend.ptr rfl ?_ | refine Lend.fn ?_ | exact LendL.nil | refine LendL.cons ?_ ?_)) rfl rfl ?_)
    ·
     exact pageOK_len h1
    refine ax_q (q_mov rfl) ?_
    refine ax_nil ?_
    refine cx_keep rfl rfl ?_
    refine cx_seq ?_
    refine cx_seq ?_
    refine cx_ops ?_
    refine ax_q (q_mov rfl) ?_
    refine ax_q (q_ibin rfl rfl rfl) ?_
    refine ax_nil ?_
    refine cx_keep rfl rfl ?_
    refine cx_cond rfl (fun h3 => ?_) (fun h3 => ?_)
    ·
     have h3 := dT h3
     refine cx_seq ?_
     refine cx_ops ?_
     refine ax_q (q_ldN rfl rfl rfl) ?_
     first | refine ax_call rfl (vc_pure (c_l03Own  ?_) hP rfl ?_) | refine ax_call rfl (vc_lend (c_l03Own  ?_) hP (by repeat (first | exact lal_id _ rfl | exact LAL.nil | refine LAL.cons ?_ ?_ | exact la_id _ rfl | exact LA.lend (lend_whole rfl (by first | (simp; done) | (rw [List.length_map]; rfl))) | refine LA.agg ?_ | refine LA.fn ?_ | refine LA.lend ?_ | exact Lend.d _ | exact Lend.zs _ | exact lend_whole rfl (by first | (simp; done) | (rw [List.length_map]; rfl)) | refine Lend.ptr rfl ?_ | refine Lend.fn ?_ | exact LendL.nil | refine LendL.cons ?_ ?_)) ?_)
     ·
      first | assumption | omega | (simp; done) | (simp; omega)
     rintro r h ⟨rfl, rfl⟩
     refine ⟨fun i => 27 + 200 * i, [0], ⟨rfl, rfl, rfl, rfl, rfl, (by first | exact (fun h => absurd h Bool.false_ne_true) | exact (fun _ => ⟨rfl, (noisl_of (by repeat (first | exact trivial | refine ⟨noisl_map (fun _ => rfl), ?_⟩ | refine ⟨?_, ?_⟩)))⟩))⟩, ?_⟩
     skip
     refine ax_e (e_st rfl rfl rfl rfl rfl rfl rfl) ?_
     refine ax_q (q_mov rfl) ?_
     refine ax_q (q_mov rfl) ?_
     refine ax_nil ?_
     refine cx_keep rfl rfl ?_
     have e : pageInsert p x = (p, 0, 7) := by unfold pageInsert; rw [if_neg h0, if_neg (by rw [h1]; simp), if_neg (by rw [h2]; simp)]; simp only [if_pos h3]
     refine cx_ret (retN (fun _ => 0) [27] rfl rfl rfl rfl rfl ?_)
     rw [e]; exact ⟨rfl, rfl⟩
    ·
     have h3 := dF h3
     obtain ⟨k, hk0, hk, e⟩ := pageInsert_set h0 h1 h2 h3
     rw [hk0]
     refine cx_skip ?_
     refine cx_keep rfl rfl ?_
     refine cx_seq ?_
     refine cx_ops ?_
     refine ax_q (q_ldN rfl rfl rfl) ?_
     first | refine ax_call rfl (vc_pure (c_l03Own  ?_) hP rfl ?_) | refine ax_call rfl (vc_lend (c_l03Own  ?_) hP (by repeat (first | exact lal_id _ rfl | exact LAL.nil | refine LAL.cons ?_ ?_ | exact la_id _ rfl | exact LA.lend (lend_whole rfl (by first | (simp; done) | (rw [List.length_map]; rfl))) | refine LA.agg ?_ | refine LA.fn ?_ | refine LA.lend ?_ | exact Lend.d _ | exact Lend.zs _ | exact lend_whole rfl (by first | (simp; done) | (rw [List.length_map]; rfl)) | refine Lend.ptr rfl ?_ | refine Lend.fn ?_ | exact LendL.nil | refine LendL.cons ?_ ?_)) ?_)
     ·
      first | assumption | omega | (simp; done) | (simp; omega)
     rintro r h ⟨rfl, rfl⟩
     refine ⟨fun i => 29 + 200 * i, [0], ⟨rfl, rfl, rfl, rfl, rfl, (by first | exact (fun h => absurd h Bool.false_ne_true) | exact (fun _ => ⟨rfl, (noisl_of (by repeat (first | exact trivial | refine ⟨noisl_map (fun _ => rfl), ?_⟩ | refine ⟨?_, ?_⟩)))⟩))⟩, ?_⟩
     skip
     refine ax_e (e_alloc (by decide) rfl rfl) ?_
     refine ax_e (e_st rfl rfl rfl rfl rfl rfl rfl) ?_
     refine ax_nil ?_
     refine cx_keep rfl rfl ?_
     refine cx_seq ?_
     refine cx_ops ?_
     refine ax_q (q_fadr_ptr rfl) ?_
     refine ax_q (q_load1_ptr rfl rfl rfl) ?_
     refine ax_q (q_mov rfl) ?_
     refine ax_q (q_mov rfl) ?_
     refine ax_q (q_ixo rfl rfl hk) ?_
     refine ax_e (e_str (rs' := (p.slots.set k x).map strRow) (q := strRow x) rfl rfl rfl rfl rfl rfl (mapAt hk) rfl rfl List.map_set.symm) ?_
     refine ax_nil ?_
     refine cx_keep rfl rfl ?_
     refine cx_seq ?_
     refine cx_ops ?_
     refine ax_q (q_ldN rfl rfl rfl) ?_
     refine ax_q (q_mov rfl) ?_
     refine ax_e (e_st rfl rfl rfl rfl rfl rfl rfl) ?_
     refine ax_q (q_mov rfl) ?_
     refine ax_q (q_mov rfl) ?_
     refine ax_nil ?_
     refine cx_keep rfl rfl ?_
     refine cx_ret (retN (fun _ => 0) [29] rfl rfl rfl rfl rfl ?_)
     rw [e]; exact ⟨by show AV.tup [AV.agg [int p.lsn, .osl 0 1 0 p.slots.length], int k, int 0] = AV.tup [AV.agg [int p.lsn, .osl 0 1 0 (p.slots.set k x).length], int k, int 0]; rw [List.length_set], rfl⟩


/- loop.example/g00332/impl.PageUsed -/
def k_c_PageUsed : XCode :=
 .seq (.ops [.op (some 1) (.box (.t 0)),
   .op (some 2) (.mov (.k (.int .i64 0))),
   .op (some 3) (.mov (.k (.int .i64 0)))])
 (.keep [1] (.seq (.seq (.ops [.op (some 7) (.loadN 2 (.t 1)),
   .call (some 8) 23 [.t 7],
   .op (some 9) (.not (.t 8))])
  (.keep [1, 9] (.cond (.t 9)
  (.seq (.ops [.op (some 2) (.mov (.k (.int .i64 0))),
    .op (some 3) (.mov (.k (.int .i64 1)))])
   (.keep [2, 3] (.ret)))
  (.skip))))
 (.keep [1] (.seq (.ops [.op (some 4) (.mov (.k (.int .i64 0)))])
 (.keep [1, 4] (.seq (.seq (.ops [.op (some 10) (.fadr (.t 1) 1),
   .op (some 11) (.load1 (.t 10)),
   .op (some 12) (.lenS (.t 11)),
   .op (some 13) (.mov (.k (.int .i64 0)))])
  (.keep [4, 11, 12, 13] (.block 0 (.loop (.seq (.ops [.op (some 14) (.bin .lss (.t 13) (.t 12))])
   (.keep [4, 11, 12, 13, 14] (.seq (.cond (.t 14)
    (.skip)
    (.exit 0))
   (.keep [4, 11, 12, 13] (.seq (.block 1 (.seq (.ops [.op (some 15) (.iadr 1 (.t 11) (.t 13)),
     .op (some 16) (.load1 (.t 15)),
     .op (some 6) (.mov (.t 16))])
    (.keep [4, 6, 11, 12, 13] (.seq (.ops [.op (some 17) (.mov (.t 6)),
     .op (some 18) (.bin .neq (.t 17) (.k (.str [])))])
    (.keep [4, 11, 12, 13, 18] (.cond (.t 18)
    (.ops [.op (some 19) (.mov (.t 4)),
      .op (some 20) (.bin .add (.t 19) (.k (.int .i64 1))),
      .op (some 4) (.mov (.t 20))])
    (.skip)))))))
   (.keep [4, 11, 12, 13] (.ops [.op (some 21) (.bin .add (.t 13) (.k (.int .i64 1))),
    .op (some 13) (.mov (.t 21))])))))))))))
 (.keep [4] (.seq (.ops [.op (some 22) (.mov (.t 4)),
   .op (some 2) (.mov (.t 22)),
   .op (some 3) (.mov (.k (.int .i64 0)))])
 (.keep [2, 3] (.ret))))))))))
theorem k_c_PageUsed_fits : fitsF Try.prog 16 ⟨23, k_c_PageUsed, [.t 2, .t 3]⟩ = true := by kernel_rfl
theorem c_PageUsed {p : Page} (hl : p.slots.length ≤ 1048576) : Con Try.prog noMv 16 [p.av] [] (fun r h => r = .tup [int (if pageOK p = true then (usedN p.slots : Int) else 0), int (if pageOK p = true then 0 else 1)] ∧ h = []) := by
 refine con_of2 k_c_PageUsed_fits rfl fun C hP hmv => ?_
 unfold k_c_PageUsed
 refine cx_seq ?_
 refine cx_ops ?_
 refine ax_e (e_box rfl rfl (by decide) rfl rfl rfl) ?_
 refine ax_q (q_mov rfl) ?_
 refine ax_q (q_mov rfl) ?_
 refine ax_nil ?_
 refine cx_keep rfl rfl ?_
 refine cx_seq ?_
 refine cx_seq ?_
 refine cx_ops ?_
 refine ax_q (q_ldN rfl rfl rfl) ?_
 first | refine ax_call rfl (vc_pure0 (c_PageOK  ?_) hP rfl rfl ?_) | refine ax_call rfl (vc_lend0 (c_PageOK  ?_) hP (by repeat (first | exact lal_id _ rfl | exact LAL.nil | refine LAL.cons ?_ ?_ | exact la_id _ rfl | exact LA.lend (lend_whole rfl (by first | (simp; done) | (rw [List.length_map]; rfl))) | refine LA.agg ?_ | refine LA.fn ?_ | refine LA.lend ?_ | exact Lend.d _ | exact Lend.zs _ | exact lend_whole rfl (by first | (simp; done) | (rw [List.length_map]; rfl)) | refine Lend.ptr rfl ?_ | refine Lend.fn ?_ | exact LendL.nil | refine LendL.cons ?_ ?_)) rfl rfl ?_)
 ·
  first | assumption | omega | (simp; done) | (simp; omega)
 refine ax_q (q_not rfl) ?_
 refine ax_nil ?_
 refine cx_keep rfl rfl ?_
 refine cx_cond rfl (fun h0 => ?_) (fun h0 => ?_)
 ·
  have h0 := bT h0
  refine cx_seq ?_
  refine cx_ops ?_
  refine ax_q (q_mov rfl) ?_
  refine ax_q (q_mov rfl) ?_
  refine ax_nil ?_
  refine cx_keep rfl rfl ?_
  refine cx_ret (ret0 rfl rfl ?_)
  exact ⟨by rw [if_neg (by rw [h0]; simp), if_neg (by rw [h0]; simp)]; rfl, rfl⟩
 ·
  have h0 := bF h0
  refine cx_skip ?_
  refine cx_keep rfl rfl ?_
  refine cx_seq ?_
  refine cx_ops ?_
  refine ax_q (q_mov rfl) ?_
  refine ax_nil ?_
  refine cx_keep rfl rfl ?_
  refine cx_seq ?_
  refine cx_seq ?_
  refine cx_ops ?_
  refine ax_q (q_fadr_ptr rfl) ?_
  refine ax_q (q_load1_ptr rfl rfl rfl) ?_
  first | refine ax_q (q_lenS_map rfl) ?_ | refine ax_q (q_lenS_osl rfl) ?_ | refine ax_q (q_lenS_zs rfl) ?_ | refine ax_q (q_lenS rfl) ?_
  refine ax_q (q_mov rfl) ?_
  refine ax_nil ?_
  refine cx_keep rfl rfl ?_
  refine cx_block ?_
  refine cx_loopU (fun n k => k ≤ p.slots.length ∧ n = p.slots.length - k) (fun k : Nat => [(4, int (usedK p.slots k)), (13, int k)]) (fun _ => []) ⟨_, 0, ⟨Nat.zero_le _, rfl⟩, by repeat (first | exact trivial | refine ⟨rfl, ?_⟩ | refine ⟨?_, ?_⟩)⟩ ?_
  rintro n k ⟨hk, rfl⟩
  have hul := @usedK_le p.slots k
  refine cx_seq ?_
  refine cx_ops ?_
  refine ax_q (q_ibin rfl rfl rfl) ?_
  refine ax_nil ?_
  refine cx_keep rfl rfl ?_
  refine cx_seq ?_
  refine cx_cond rfl (fun h1 => ?_) (fun h1 => ?_)
  ·
   have h1 := dT h1
   have h1x : k < p.slots.length := by omega
   refine cx_skip ?_
   refine cx_keep rfl rfl ?_
   refine cx_seq ?_
   refine cx_block ?_
   refine cx_seq ?_
   refine cx_ops ?_
   refine ax_q (q_ix rfl rfl (mapAt h1x)) ?_
   first | refine ax_q (q_load1_ptr rfl rfl rfl) ?_ | refine ax_q (q_load1_ip rfl) ?_ | refine ax_q (q_load1_rptr rfl rfl rfl rfl) ?_ | refine ax_q (q_load1_rptr rfl rfl (by assumption) rfl) ?_ | refine ax_q (q_load1_rptr rfl rfl (mapAt (by first | assumption | omega)) rfl) ?_
   refine ax_q (q_mov rfl) ?_
   refine ax_nil ?_
   refine cx_keep rfl rfl ?_
   refine cx_seq ?_
   refine cx_ops ?_
   refine ax_q (q_mov rfl) ?_
   refine ax_q (q_sbin rfl rfl rfl) ?_
   refine ax_nil ?_
   refine cx_keep rfl rfl ?_
   refine cx_cond rfl (fun h2 => ?_) (fun h2 => ?_)
   ·
    have h2 := nT h2
    refine cx_ops ?_
    refine ax_q (q_mov rfl) ?_
    refine ax_qe (r' := int ((usedK p.slots k + 1 : Nat) : Int)) (q_ibin rfl rfl rfl) (by rw [wi (by omega) (by omega)]; rfl) ?_
    refine ax_q (q_mov rfl) ?_
    refine ax_nil ?_
    refine cx_keep rfl rfl ?_
    refine cx_ops ?_
    refine ax_qe (r' := int ((k + 1 : Nat) : Int)) (q_ibin rfl rfl rfl) (by rw [wi (by omega) (by omega)]; rfl) ?_
    refine ax_q (q_mov rfl) ?_
    refine ax_nil ?_
    exact ⟨_, k + 1, by omega, ⟨by omega, rfl⟩, by rw [usedK_t h1x h2]; exact (by repeat (first | exact trivial | refine ⟨rfl, ?_⟩ | refine ⟨?_, ?_⟩))⟩
   ·
    have h2 := nF h2
    refine cx_skip ?_
    refine cx_keep rfl rfl ?_
    refine cx_ops ?_
    refine ax_qe (r' := int ((k + 1 : Nat) : Int)) (q_ibin rfl rfl rfl) (by rw [wi (by omega) (by omega)]; rfl) ?_
    refine ax_q (q_mov rfl) ?_
    refine ax_nil ?_
    exact ⟨_, k + 1, by omega, ⟨by omega, rfl⟩, by rw [usedK_f h1x h2]; exact (by repeat (first | exact trivial | refine ⟨rfl, ?_⟩ | refine ⟨?_, ?_⟩))⟩
  ·
   have h1 := dF h1
   obtain rfl : k = p.slots.length := by omega
   refine cx_exit rfl ?_
   refine cx_keep rfl rfl ?_
   refine cx_seq ?_
   refine cx_ops ?_
   refine ax_q (q_mov rfl) ?_
   refine ax_q (q_mov rfl) ?_
   refine ax_q (q_mov rfl) ?_
   refine ax_nil ?_
   refine cx_keep rfl rfl ?_
   refine cx_ret (ret0 rfl rfl ?_)
   exact ⟨by rw [if_pos h0, if_pos h0]; rfl, rfl⟩


/- loop.example/g00332/laws.at -/
def k_c_at : XCode :=
 .seq (.ops [.op (some 6) (.mov (.k (.int .i64 0)))])
 (.keep [0, 1, 2] (.seq (.seq (.ops [.op (some 7) (.mov (.t 2)),
   .op (some 8) (.bin .leq (.t 7) (.k (.int .i64 1)))])
  (.keep [0, 1, 2, 8] (.cond (.t 8)
  (.seq (.ops [.op (some 6) (.mov (.k (.int .i64 0)))])
   (.keep [6] (.ret)))
  (.skip))))
 (.keep [0, 1, 2] (.seq (.seq (.ops [.op (some 9) (.mov (.t 0)),
   .op (some 10) (.lenS (.t 9)),
   .op (some 11) (.bin .eql (.t 10) (.k (.int .i64 0)))])
  (.keep [0, 1, 2, 11] (.cond (.t 11)
  (.seq (.ops [.op (some 12) (.mov (.t 1)),
    .op (some 13) (.bin .mul (.t 12) (.k (.int .i64 7))),
    .op (some 14) (.mov (.t 2)),
    .op (some 15) (.bin .rem (.t 13) (.t 14)),
    .op (some 6) (.mov (.t 15))])
   (.keep [6] (.ret)))
  (.skip))))
 (.keep [0, 1, 2] (.seq (.draw [.op (some 16) (.mov (.t 0)),
   .op (some 17) (.mov (.t 1)),
   .op (some 18) (.mov (.t 0)),
   .op (some 19) (.lenS (.t 18)),
   .op (some 20) (.bin .rem (.t 17) (.t 19)),
   .op (some 21) (.iadr 1 (.t 16) (.t 20)),
   .op (some 22) (.load1 (.t 21)),
   .op (some 23) (.conv .i64 (.t 22)),
   .op (some 24) (.bin .mul (.t 23) (.k (.int .i64 31))),
   .op (some 25) (.mov (.t 0)),
   .op (some 26) (.mov (.t 1)),
   .op (some 27) (.bin .add (.t 26) (.k (.int .i64 1))),
   .op (some 28) (.mov (.t 0)),
   .op (some 29) (.lenS (.t 28)),
   .op (some 30) (.bin .rem (.t 27) (.t 29)),
   .op (some 31) (.iadr 1 (.t 25) (.t 30)),
   .op (some 32) (.load1 (.t 31)),
   .op (some 33) (.conv .i64 (.t 32)),
   .op (some 34) (.bin .add (.t 24) (.t 33)),
   .op (some 35) (.mov (.t 1)),
   .op (some 36) (.mov (.t 0)),
   .op (some 37) (.lenS (.t 36)),
   .op (some 38) (.bin .quo (.t 35) (.t 37)),
   .op (some 39) (.bin .add (.t 34) (.t 38)),
   .op (some 40) (.mov (.t 2)),
   .op (some 41) (.bin .rem (.t 39) (.t 40)),
   .op (some 6) (.mov (.t 41))])
 (.keep [6] (.ret))))))))
theorem k_c_at_fits : fitsF Try.prog 17 ⟨42, k_c_at, [.t 6]⟩ = true := by kernel_rfl
theorem c_at {more : Str} {i n : Int} (hl : more.length ≤ 1048576) (hi : 0 ≤ i ∧ i ≤ 1000) (hn : n ≤ 1000000000) : Con Try.prog noMv 17 [.d (.sl 1 (more.map byteRow)), int i, int n] [] (fun r h => r = int (atF more i n) ∧ h = []) := by
 refine con_of2 k_c_at_fits rfl fun C hP hmv => ?_
 unfold k_c_at
 refine cx_seq ?_
 refine cx_ops ?_
 refine ax_q (q_mov rfl) ?_
 refine ax_nil ?_
 refine cx_keep rfl rfl ?_
 refine cx_seq ?_
 refine cx_seq ?_
 refine cx_ops ?_
 refine ax_q (q_mov rfl) ?_
 refine ax_q (q_ibin rfl rfl rfl) ?_
 refine ax_nil ?_
 refine cx_keep rfl rfl ?_
 refine cx_cond rfl (fun h0 => ?_) (fun h0 => ?_)
 ·
  have h0 := dT h0
  refine cx_seq ?_
  refine cx_ops ?_
  refine ax_q (q_mov rfl) ?_
  refine ax_nil ?_
  refine cx_keep rfl rfl ?_
  refine cx_ret (ret0 rfl rfl ?_)
  exact ⟨by unfold atF; rw [if_pos h0]; rfl, rfl⟩
 ·
  have h0 := dF h0
  refine cx_skip ?_
  refine cx_keep rfl rfl ?_
  refine cx_seq ?_
  refine cx_seq ?_
  refine cx_ops ?_
  refine ax_q (q_mov rfl) ?_
  first | refine ax_q (q_lenS_map rfl) ?_ | refine ax_q (q_lenS_osl rfl) ?_ | refine ax_q (q_lenS_zs rfl) ?_ | refine ax_q (q_lenS rfl) ?_
  refine ax_q (q_ibin rfl rfl rfl) ?_
  refine ax_nil ?_
  refine cx_keep rfl rfl ?_
  refine cx_cond rfl (fun h1 => ?_) (fun h1 => ?_)
  ·
   have h1 := dT h1
   have hm0 : more = [] := List.eq_nil_of_length_eq_zero (by omega)
   refine cx_seq ?_
   refine cx_ops ?_
   refine ax_q (q_mov rfl) ?_
   refine ax_q (q_mul rfl rfl (by omega)) ?_
   refine ax_q (q_mov rfl) ?_
   refine ax_q (q_mod rfl rfl (by omega) (by omega)) ?_
   refine ax_q (q_mov rfl) ?_
   refine ax_nil ?_
   refine cx_keep rfl rfl ?_
   refine cx_ret (ret0 rfl rfl ?_)
   exact ⟨by unfold atF; rw [if_neg h0, if_pos hm0]; rfl, rfl⟩
  ·
   have h1 := dF h1
   have hm0 : more ≠ [] := fun h => h1 (by rw [h]; rfl)
   have hm1 : 0 < more.length := List.length_pos_iff.2 hm0
   have hi1 : (i % more.length).toNat < more.length := by have := Int.emod_nonneg i (show (more.length : Int) ≠ 0 by omega); have := Int.emod_lt_of_pos i (show 0 < (more.length : Int) by omega); omega
   have hi2 : ((i + 1) % more.length).toNat < more.length := by have := Int.emod_nonneg (i + 1) (show (more.length : Int) ≠ 0 by omega); have := Int.emod_lt_of_pos (i + 1) (show 0 < (more.length : Int) by omega); omega
   have hb1 := (more[(i % more.length).toNat]).toNat_lt
   have hb2 := (more[((i + 1) % more.length).toNat]).toNat_lt
   have hdv := ediv_bounds (a := i) (b := more.length) hi.1 (by omega)
   refine cx_skip ?_
   refine cx_keep rfl rfl ?_
   refine cx_seq ?_
   refine cx_draw ?_
   refine ax_q (q_mov rfl) ?_
   refine ax_q (q_mov rfl) ?_
   refine ax_q (q_mov rfl) ?_
   first | refine ax_q (q_lenS_map rfl) ?_ | refine ax_q (q_lenS_osl rfl) ?_ | refine ax_q (q_lenS_zs rfl) ?_ | refine ax_q (q_lenS rfl) ?_
   refine ax_q (q_mod rfl rfl (by omega) (by omega)) ?_
   refine ax_q (q_ixI rfl rfl (Int.emod_nonneg _ (by omega)) (mapAt hi1)) ?_
   first | refine ax_q (q_load1_ptr rfl rfl rfl) ?_ | refine ax_q (q_load1_ip rfl) ?_ | refine ax_q (q_load1_rptr rfl rfl rfl rfl) ?_ | refine ax_q (q_load1_rptr rfl rfl (by assumption) rfl) ?_ | refine ax_q (q_load1_rptr rfl rfl (mapAt (by first | assumption | omega)) rfl) ?_
   first | refine ax_q (q_convB rfl) ?_ | refine ax_q (q_convI rfl (by omega)) ?_ | refine ax_q (q_convU8 rfl) ?_ | refine ax_q (q_conv rfl) ?_
   refine ax_q (q_mul rfl rfl (by omega)) ?_
   refine ax_q (q_mov rfl) ?_
   refine ax_q (q_mov rfl) ?_
   refine ax_q (q_add rfl rfl (by omega)) ?_
   refine ax_q (q_mov rfl) ?_
   first | refine ax_q (q_lenS_map rfl) ?_ | refine ax_q (q_lenS_osl rfl) ?_ | refine ax_q (q_lenS_zs rfl) ?_ | refine ax_q (q_lenS rfl) ?_
   refine ax_q (q_mod rfl rfl (by omega) (by omega)) ?_
   refine ax_q (q_ixI rfl rfl (Int.emod_nonneg _ (by omega)) (mapAt hi2)) ?_
   first | refine ax_q (q_load1_ptr rfl rfl rfl) ?_ | refine ax_q (q_load1_ip rfl) ?_ | refine ax_q (q_load1_rptr rfl rfl rfl rfl) ?_ | refine ax_q (q_load1_rptr rfl rfl (by assumption) rfl) ?_ | refine ax_q (q_load1_rptr rfl rfl (mapAt (by first | assumption | omega)) rfl) ?_
   first | refine ax_q (q_convB rfl) ?_ | refine ax_q (q_convI rfl (by omega)) ?_ | refine ax_q (q_convU8 rfl) ?_ | refine ax_q (q_conv rfl) ?_
   refine ax_q (q_add rfl rfl (by omega)) ?_
   refine ax_q (q_mov rfl) ?_
   refine ax_q (q_mov rfl) ?_
   first | refine ax_q (q_lenS_map rfl) ?_ | refine ax_q (q_lenS_osl rfl) ?_ | refine ax_q (q_lenS_zs rfl) ?_ | refine ax_q (q_lenS rfl) ?_
   refine ax_q (q_div rfl rfl (by omega) (by omega) (by omega)) ?_
   refine ax_q (q_add rfl rfl (by omega)) ?_
   refine ax_q (q_mov rfl) ?_
   refine ax_q (q_mod rfl rfl (by omega) (by omega)) ?_
   refine ax_q (q_mov rfl) ?_
   refine ax_nil ?_
   refine cx_keep rfl rfl ?_
   refine cx_ret (ret0 rfl rfl ?_)
   exact ⟨by unfold atF; rw [if_neg h0, if_neg hm0, getD_at hi1, getD_at hi2]; rfl, rfl⟩


/- loop.example/g00332/impl.isPlace -/
def k_c_isPlace : XCode :=
 .seq (.ops [.op (some 4) (.mov (.k (.bool false)))])
 (.keep [0, 1] (.seq (.ops [.op (some 5) (.mov (.t 0)),
   .op (some 6) (.mov (.t 1)),
   .op (some 7) (.bin .sub (.t 6) (.k (.int .i64 1))),
   .call (some 8) 39 [.t 5, .k (.int .i64 0), .t 7],
   .op (some 4) (.mov (.t 8))])
 (.keep [4] (.ret))))
theorem k_c_isPlace_fits : fitsF Try.prog 50 ⟨9, k_c_isPlace, [.t 4]⟩ = true := by kernel_rfl
theorem c_isPlace {n k : Int} (hk : 0 ≤ k ∧ k ≤ 1048576) : Con Try.prog noMv 50 [int n, int k] [] (fun r h => r = bool (inR n 0 (k - 1)) ∧ h = []) := by
 refine con_of2 k_c_isPlace_fits rfl fun C hP hmv => ?_
 unfold k_c_isPlace
 refine cx_seq ?_
 refine cx_ops ?_
 refine ax_q (q_mov rfl) ?_
 refine ax_nil ?_
 refine cx_keep rfl rfl ?_
 refine cx_seq ?_
 refine cx_ops ?_
 refine ax_q (q_mov rfl) ?_
 refine ax_q (q_mov rfl) ?_
 refine ax_q (q_sub rfl rfl (by omega)) ?_
 first | refine ax_call rfl (vc_pure0 (c_inRange  ) hP rfl rfl ?_) | refine ax_call rfl (vc_lend0 (c_inRange  ) hP (by repeat (first | exact lal_id _ rfl | exact LAL.nil | refine LAL.cons ?_ ?_ | exact la_id _ rfl | exact LA.lend (lend_whole rfl (by first | (simp; done) | (rw [List.length_map]; rfl))) | refine LA.agg ?_ | refine LA.fn ?_ | refine LA.lend ?_ | exact Lend.d _ | exact Lend.zs _ | exact lend_whole rfl (by first | (simp; done) | (rw [List.length_map]; rfl)) | refine Lend.ptr rfl ?_ | refine Lend.fn ?_ | exact LendL.nil | refine LendL.cons ?_ ?_)) rfl rfl ?_)
 refine ax_q (q_mov rfl) ?_
 refine ax_nil ?_
 refine cx_keep rfl rfl ?_
 refine cx_ret (ret0 rfl rfl ?_)
 exact ⟨rfl, rfl⟩


/- loop.example/g00332/impl.PageSet -/
def k_c_PageSet : XCode :=
 .seq (.ops [.op (some 4) (.box (.t 0)),
   .op (some 8) (.alloc [.int .i64 0, .nils 1]),
   .op (some 9) (.mov (.k (.int .i64 0)))])
 (.keep [1, 2, 3, 4, 8] (.seq (.block 0 (.seq (.ops [.op (some 12) (.mov (.t 2)),
    .op (some 13) (.bslice 1 [.t 12]),
    .call (some 14) 43 [.t 13],
    .op (some 11) (.mov (.t 14))])
  (.keep [1, 2, 3, 4, 8, 11] (.cond (.t 11)
   (.seq (.ops [.op (some 15) (.build [.int .i64 0, .nils 1] []),
     .op none (.store 2 (.t 8) (.t 15)),
     .op (some 9) (.mov (.k (.int .i64 2)))])
   (.keep [8, 9] (.ret)))
   (.seq (.ops [.op (some 17) (.loadN 2 (.t 4)),
     .call (some 18) 23 [.t 17],
     .op (some 19) (.not (.t 18)),
     .op (some 16) (.mov (.t 19))])
   (.keep [1, 2, 3, 4, 8, 16] (.cond (.t 16)
    (.seq (.ops [.op (some 20) (.build [.int .i64 0, .nils 1] []),
      .op none (.store 2 (.t 8) (.t 20)),
      .op (some 9) (.mov (.k (.int .i64 1)))])
    (.keep [8, 9] (.ret)))
    (.seq (.ops [.op (some 22) (.mov (.t 1)),
      .call (some 23) 50 [.t 22, .k (.int .i64 4)],
      .op (some 24) (.not (.t 23)),
      .op (some 25) (.mov (.t 24)),
      .andor 29 false 3 25 [.op (some 26) (.mov (.t 2)), .op (some 27) (.lenT (.t 26)), .op (some 28) (.bin .gtr (.t 27) (.k (.int .i64 30)))] (.t 28),
      .op (some 30) (.mov (.t 29)),
      .andor 34 false 8 30 [.op (some 31) (.mov (.t 3)), .call (some 32) 39 [.t 31, .k (.int .i64 0), .k (.int .i64 1000)], .op (some 33) (.not (.t 32))] (.t 33),
      .op (some 21) (.mov (.t 34))])
    (.keep [1, 2, 3, 4, 8, 21] (.cond (.t 21)
     (.seq (.ops [.op (some 35) (.build [.int .i64 0, .nils 1] []),
       .op none (.store 2 (.t 8) (.t 35)),
       .op (some 9) (.mov (.k (.int .i64 4)))])
     (.keep [8, 9] (.ret)))
     (.skip)))))))))))
 (.keep [1, 2, 3, 4, 8] (.seq (.ops [.op (some 36) (.loadN 2 (.t 4)),
   .call (some 37) 44 [.t 36],
   .op (some 10) (.alloc [.int .i64 0, .nils 1]),
   .op none (.store 2 (.t 10) (.t 37))])
 (.keep [1, 2, 3, 8, 10] (.seq (.ops [.op (some 38) (.fadr (.t 10) 1),
   .op (some 39) (.load1 (.t 38)),
   .op (some 40) (.mov (.t 1)),
   .op (some 41) (.mov (.t 2)),
   .op (some 42) (.mov (.t 3)),
   .op (some 43) (.iadr 1 (.t 39) (.t 40)),
   .op none (.store 1 (.t 43) (.t 41)),
   .op (some 44) (.fadr (.t 10) 0),
   .op none (.store 1 (.t 44) (.t 42))])
 (.keep [8, 10] (.seq (.ops [.op (some 45) (.loadN 2 (.t 10)),
   .op none (.store 2 (.t 8) (.t 45)),
   .op (some 9) (.mov (.k (.int .i64 0)))])
 (.keep [8, 9] (.ret))))))))))
theorem k_c_PageSet_fits : fitsF Try.prog 18 ⟨46, k_c_PageSet, [.cN 8 2, .t 9]⟩ = true := by kernel_rfl
theorem c_PageSet {p : Page} {slot lsn : Int} {x : Str} (hl : p.slots.length ≤ 1048576) : Con Try.prog noMv 18 [p.av, int slot, str x, int lsn] [] (fun r h => r = .tup [(pageSet p slot x lsn).1.avO 0, int (pageSet p slot x lsn).2] ∧ h = (pageSet p slot x lsn).1.hO 0) := by
 refine con_of2 k_c_PageSet_fits rfl fun C hP hmv => ?_
 unfold k_c_PageSet
 refine cx_seq ?_
 refine cx_ops ?_
 refine ax_e (e_box rfl rfl (by decide) rfl rfl rfl) ?_
 refine ax_e (e_alloc (by decide) rfl rfl) ?_
 refine ax_q (q_mov rfl) ?_
 refine ax_nil ?_
 refine cx_keep rfl rfl ?_
 refine cx_seq ?_
 refine cx_block ?_
 refine cx_seq ?_
 refine cx_ops ?_
 refine ax_q (q_mov rfl) ?_
 refine ax_e (e_bslice rfl (by decide) rfl rfl) ?_
 first | refine ax_call rfl (vc_pure0 (c_isLong (xs := [x]) ?_) hP rfl rfl ?_) | refine ax_call rfl (vc_lend0 (c_isLong (xs := [x]) ?_) hP (by repeat (first | exact lal_id _ rfl | exact LAL.nil | refine LAL.cons ?_ ?_ | exact la_id _ rfl | exact LA.lend (lend_whole rfl (by first | (simp; done) | (rw [List.length_map]; rfl))) | refine LA.agg ?_ | refine LA.fn ?_ | refine LA.lend ?_ | exact Lend.d _ | exact Lend.zs _ | exact lend_whole rfl (by first | (simp; done) | (rw [List.length_map]; rfl)) | refine Lend.ptr rfl ?_ | refine Lend.fn ?_ | exact LendL.nil | refine LendL.cons ?_ ?_)) rfl rfl ?_)
 ·
  simp
 refine ax_q (q_mov rfl) ?_
 refine ax_nil ?_
 refine cx_keep rfl rfl ?_
 refine cx_cond rfl (fun h0 => ?_) (fun h0 => ?_)
 ·
  have h0 : 65536 < (x.length : Int) := by simpa [long64] using h0
  refine cx_seq ?_
  refine cx_ops ?_
  refine ax_q (q_build rfl) ?_
  refine ax_e (e_st rfl rfl rfl rfl rfl rfl rfl) ?_
  refine ax_q (q_mov rfl) ?_
  refine ax_nil ?_
  refine cx_keep rfl rfl ?_
  have e : pageSet p slot x lsn = (.zero, 2) := by unfold pageSet; rw [if_pos h0]
  refine cx_wk (wk_virt 900 1 rfl rfl rfl) ?_
  refine cx_wk (wk_zsb 8 900 1 rfl rfl rfl) ?_
  refine cx_ret (retN (fun _ => 0) [900] rfl rfl rfl rfl rfl ?_)
  rw [e]; exact ⟨rfl, rfl⟩
 ·
  have h0 : ¬ 65536 < (x.length : Int) := by simpa [long64] using h0
  refine cx_seq ?_
  refine cx_ops ?_
  refine ax_q (q_ldN rfl rfl rfl) ?_
  first | refine ax_call rfl (vc_pure0 (c_PageOK  ?_) hP rfl rfl ?_) | refine ax_call rfl (vc_lend0 (c_PageOK  ?_) hP (by repeat (first | exact lal_id _ rfl | exact LAL.nil | refine LAL.cons ?_ ?_ | exact la_id _ rfl | exact LA.lend (lend_whole rfl (by first | (simp; done) | (rw [List.length_map]; rfl))) | refine LA.agg ?_ | refine LA.fn ?_ | refine LA.lend ?_ | exact Lend.d _ | exact Lend.zs _ | exact lend_whole rfl (by first | (simp; done) | (rw [List.length_map]; rfl)) | refine Lend.ptr rfl ?_ | refine Lend.fn ?_ | exact LendL.nil | refine LendL.cons ?_ ?_)) rfl rfl ?_)
  ·
   first | assumption | omega | (simp; done) | (simp; omega)
  refine ax_q (q_not rfl) ?_
  refine ax_q (q_mov rfl) ?_
  refine ax_nil ?_
  refine cx_keep rfl rfl ?_
  refine cx_cond rfl (fun h1 => ?_) (fun h1 => ?_)
  ·
   have h1 := bT h1
   refine cx_seq ?_
   refine cx_ops ?_
   refine ax_q (q_build rfl) ?_
   refine ax_e (e_st rfl rfl rfl rfl rfl rfl rfl) ?_
   refine ax_q (q_mov rfl) ?_
   refine ax_nil ?_
   refine cx_keep rfl rfl ?_
   have e : pageSet p slot x lsn = (.zero, 1) := by unfold pageSet; rw [if_neg h0, if_pos h1]
   refine cx_wk (wk_virt 900 1 rfl rfl rfl) ?_
   refine cx_wk (wk_zsb 8 900 1 rfl rfl rfl) ?_
   refine cx_ret (retN (fun _ => 0) [900] rfl rfl rfl rfl rfl ?_)
   rw [e]; exact ⟨rfl, rfl⟩
  ·
   have h1 := bF h1
   refine cx_seq ?_
   refine cx_ops ?_
   refine ax_q (q_mov rfl) ?_
   first | refine ax_call rfl (vc_pure0 (c_isPlace  ?_) hP rfl rfl ?_) | refine ax_call rfl (vc_lend0 (c_isPlace  ?_) hP (by repeat (first | exact lal_id _ rfl | exact LAL.nil | refine LAL.cons ?_ ?_ | exact la_id _ rfl | exact LA.lend (lend_whole rfl (by first | (simp; done) | (rw [List.length_map]; rfl))) | refine LA.agg ?_ | refine LA.fn ?_ | refine LA.lend ?_ | exact Lend.d _ | exact Lend.zs _ | exact lend_whole rfl (by first | (simp; done) | (rw [List.length_map]; rfl)) | refine Lend.ptr rfl ?_ | refine Lend.fn ?_ | exact LendL.nil | refine LendL.cons ?_ ?_)) rfl rfl ?_)
   ·
    first | assumption | omega | (simp; done) | (simp; omega)
   refine ax_q (q_not rfl) ?_
   refine ax_q (q_mov rfl) ?_
   apply ax_or rfl rfl
   ·
    intro g
    have g := bF g
    refine ax_q (q_mov rfl) ?_
    refine ax_q (q_lenT rfl) ?_
    refine ax_q (q_ibin rfl rfl rfl) ?_
    exact ax_nil ⟨rfl, by repeat (first | exact trivial | refine ⟨rfl, ?_⟩ | refine ⟨?_, ?_⟩)⟩
   refine ax_q (q_mov rfl) ?_
   apply ax_or rfl rfl
   ·
    intro g
    have g := (fun h => And.intro (bF (or_F h).1) (dF (or_F h).2)) g
    refine ax_q (q_mov rfl) ?_
    first | refine ax_call rfl (vc_pure0 (c_inRange  ) hP rfl rfl ?_) | refine ax_call rfl (vc_lend0 (c_inRange  ) hP (by repeat (first | exact lal_id _ rfl | exact LAL.nil | refine LAL.cons ?_ ?_ | exact la_id _ rfl | exact LA.lend (lend_whole rfl (by first | (simp; done) | (rw [List.length_map]; rfl))) | refine LA.agg ?_ | refine LA.fn ?_ | refine LA.lend ?_ | exact Lend.d _ | exact Lend.zs _ | exact lend_whole rfl (by first | (simp; done) | (rw [List.length_map]; rfl)) | refine Lend.ptr rfl ?_ | refine Lend.fn ?_ | exact LendL.nil | refine LendL.cons ?_ ?_)) rfl rfl ?_)
    refine ax_q (q_not rfl) ?_
    exact ax_nil ⟨rfl, by repeat (first | exact trivial | refine ⟨rfl, ?_⟩ | refine ⟨?_, ?_⟩)⟩
   refine ax_q (q_mov rfl) ?_
   refine ax_nil ?_
   refine cx_keep rfl rfl ?_
   refine cx_cond rfl (fun h2 => ?_) (fun h2 => ?_)
   ·
    have h2 : (!inR slot 0 3 || decide ((30 : Int) < (x.length : Int)) || !inR lsn 0 1000) = true := h2
    refine cx_seq ?_
    refine cx_ops ?_
    refine ax_q (q_build rfl) ?_
    refine ax_e (e_st rfl rfl rfl rfl rfl rfl rfl) ?_
    refine ax_q (q_mov rfl) ?_
    refine ax_nil ?_
    refine cx_keep rfl rfl ?_
    have e : pageSet p slot x lsn = (.zero, 4) := by unfold pageSet; rw [if_neg h0, if_neg (by rw [h1]; simp), if_pos h2]
    refine cx_wk (wk_virt 900 1 rfl rfl rfl) ?_
    refine cx_wk (wk_zsb 8 900 1 rfl rfl rfl) ?_
    refine cx_ret (retN (fun _ => 0) [900] rfl rfl rfl rfl rfl ?_)
    rw [e]; exact ⟨rfl, rfl⟩
   ·
    obtain ⟨e, k, rfl, hk⟩ := pageSet_set h0 h1 h2
    refine cx_skip ?_
    refine cx_keep rfl rfl ?_
    refine cx_seq ?_
    refine cx_ops ?_
    refine ax_q (q_ldN rfl rfl rfl) ?_
    first | refine ax_call rfl (vc_pure (c_cloneP  ?_) hP rfl ?_) | refine ax_call rfl (vc_lend (c_cloneP  ?_) hP (by repeat (first | exact lal_id _ rfl | exact LAL.nil | refine LAL.cons ?_ ?_ | exact la_id _ rfl | exact LA.lend (lend_whole rfl (by first | (simp; done) | (rw [List.length_map]; rfl))) | refine LA.agg ?_ | refine LA.fn ?_ | refine LA.lend ?_ | exact Lend.d _ | exact Lend.zs _ | exact lend_whole rfl (by first | (simp; done) | (rw [List.length_map]; rfl)) | refine Lend.ptr rfl ?_ | refine Lend.fn ?_ | exact LendL.nil | refine LendL.cons ?_ ?_)) ?_)
    ·
     first | assumption | omega | (simp; done) | (simp; omega)
    rintro r h ⟨rfl, rfl⟩
    refine ⟨fun i => 37 + 200 * i, [0], ⟨rfl, rfl, rfl, rfl, rfl, (by first | exact (fun h => absurd h Bool.false_ne_true) | exact (fun _ => ⟨rfl, (noisl_of (by repeat (first | exact trivial | refine ⟨noisl_map (fun _ => rfl), ?_⟩ | refine ⟨?_, ?_⟩)))⟩))⟩, ?_⟩
    skip
    refine ax_e (e_alloc (by decide) rfl rfl) ?_
    refine ax_e (e_st rfl rfl rfl rfl rfl rfl rfl) ?_
    refine ax_nil ?_
    refine cx_keep rfl rfl ?_
    refine cx_seq ?_
    refine cx_ops ?_
    refine ax_q (q_fadr_ptr rfl) ?_
    refine ax_q (q_load1_ptr rfl rfl rfl) ?_
    refine ax_q (q_mov rfl) ?_
    refine ax_q (q_mov rfl) ?_
    refine ax_q (q_mov rfl) ?_
    refine ax_q (q_ixo rfl rfl hk) ?_
    refine ax_e (e_str (rs' := (p.slots.set k x).map strRow) (q := strRow x) rfl rfl rfl rfl rfl rfl (mapAt hk) rfl rfl List.map_set.symm) ?_
    refine ax_q (q_fadr_ptr rfl) ?_
    refine ax_e (e_st rfl rfl rfl rfl rfl rfl rfl) ?_
    refine ax_nil ?_
    refine cx_keep rfl rfl ?_
    refine cx_seq ?_
    refine cx_ops ?_
    refine ax_q (q_ldN rfl rfl rfl) ?_
    refine ax_e (e_st rfl rfl rfl rfl rfl rfl rfl) ?_
    refine ax_q (q_mov rfl) ?_
    refine ax_nil ?_
    refine cx_keep rfl rfl ?_
    refine cx_ret (retN (fun _ => 0) [37] rfl rfl rfl rfl rfl ?_)
    rw [e]; exact ⟨by show AV.tup [AV.agg [int lsn, .osl 0 1 0 p.slots.length], int 0] = AV.tup [AV.agg [int lsn, .osl 0 1 0 (p.slots.set k x).length], int 0]; rw [List.length_set], rfl⟩


/- loop.example/g00332/impl.check32 -/
def k_c_check32 : XCode :=
 .seq (.ops [.op (some 2) (.mov (.k (.int .u32 0)))])
 (.keep [0] (.seq (.ops [.op (some 3) (.mov (.k (.int .u32 4294967295)))])
 (.keep [0, 3] (.seq (.seq (.ops [.op (some 6) (.mov (.t 0)),
   .op (some 7) (.lenS (.t 6)),
   .op (some 8) (.mov (.k (.int .i64 0)))])
  (.keep [3, 6, 7, 8] (.block 0 (.loop (.seq (.ops [.op (some 9) (.bin .lss (.t 8) (.t 7))])
   (.keep [3, 6, 7, 8, 9] (.seq (.cond (.t 9)
    (.skip)
    (.exit 0))
   (.keep [3, 6, 7, 8] (.seq (.block 1 (.seq (.ops [.op (some 10) (.iadr 1 (.t 6) (.t 8)),
     .op (some 11) (.load1 (.t 10)),
     .op (some 5) (.mov (.t 11))])
    (.keep [3, 5, 6, 7, 8] (.seq (.ops [.op (some 12) (.mov (.t 3)),
     .op (some 13) (.mov (.t 5)),
     .op (some 14) (.conv .u32 (.t 13)),
     .op (some 15) (.bin .xor (.t 12) (.t 14)),
     .op (some 3) (.mov (.t 15))])
    (.keep [3, 6, 7, 8] (.seq (.ops [.op (some 16) (.mov (.k (.int .i64 0)))])
    (.keep [3, 6, 7, 8, 16] (.block 2 (.loop (.seq (.ops [.op (some 17) (.bin .lss (.t 16) (.k (.int .i64 8)))])
     (.keep [3, 6, 7, 8, 16, 17] (.seq (.cond (.t 17)
      (.skip)
      (.exit 2))
     (.keep [3, 6, 7, 8, 16] (.seq (.block 3 (.seq (.ops [.op (some 18) (.mov (.t 3)),
       .op (some 19) (.bin .and (.t 18) (.k (.int .u32 1))),
       .op (some 20) (.bin .eql (.t 19) (.k (.int .u32 1)))])
      (.keep [3, 6, 7, 8, 16, 20] (.cond (.t 20)
      (.ops [.op (some 21) (.mov (.t 3)),
        .op (some 22) (.bin .shr (.t 21) (.k (.int .u64 1))),
        .op (some 23) (.bin .xor (.t 22) (.k (.int .u32 3988292384))),
        .op (some 3) (.mov (.t 23))])
      (.ops [.op (some 24) (.mov (.t 3)),
        .op (some 25) (.bin .shr (.t 24) (.k (.int .u64 1))),
        .op (some 3) (.mov (.t 25))])))))
     (.keep [3, 6, 7, 8, 16] (.ops [.op (some 26) (.bin .add (.t 16) (.k (.int .i64 1))),
      .op (some 16) (.mov (.t 26))]))))))))))))))))
   (.keep [3, 6, 7, 8] (.ops [.op (some 27) (.bin .add (.t 8) (.k (.int .i64 1))),
    .op (some 8) (.mov (.t 27))])))))))))))
 (.keep [3] (.seq (.ops [.op (some 28) (.mov (.t 3)),
   .op (some 29) (.bin .xor (.t 28) (.k (.int .u32 4294967295))),
   .op (some 2) (.mov (.t 29))])
 (.keep [2] (.ret))))))))
theorem k_c_check32_fits : fitsF Try.prog 85 ⟨30, k_c_check32, [.t 2]⟩ = true := by kernel_rfl
theorem c_check32 {l : Str} (hl : l.length ≤ 1048576) : Con Try.prog noMv 85 [.d (.sl 1 (l.map byteRow))] [] (fun r h => r = .d (.int .u32 (crcN l : Int)) ∧ h = []) := by
 refine con_of2 k_c_check32_fits rfl fun C hP hmv => ?_
 unfold k_c_check32
 refine cx_seq ?_
 refine cx_ops ?_
 refine ax_q (q_mov rfl) ?_
 refine ax_nil ?_
 refine cx_keep rfl rfl ?_
 refine cx_seq ?_
 refine cx_ops ?_
 refine ax_q (q_mov rfl) ?_
 refine ax_nil ?_
 refine cx_keep rfl rfl ?_
 refine cx_seq ?_
 refine cx_seq ?_
 refine cx_ops ?_
 refine ax_q (q_mov rfl) ?_
 first | refine ax_q (q_lenS_map rfl) ?_ | refine ax_q (q_lenS_osl rfl) ?_ | refine ax_q (q_lenS_zs rfl) ?_ | refine ax_q (q_lenS rfl) ?_
 refine ax_q (q_mov rfl) ?_
 refine ax_nil ?_
 refine cx_keep rfl rfl ?_
 refine cx_block ?_
 refine cx_loopU (fun n k => k ≤ l.length ∧ n = l.length - k) (fun k : Nat => [(3, .d (.int .u32 (crcS (l.take k) : Int))), (8, int k)]) (fun _ => []) ⟨_, 0, ⟨Nat.zero_le _, rfl⟩, by repeat (first | exact trivial | refine ⟨rfl, ?_⟩ | refine ⟨?_, ?_⟩)⟩ ?_
 rintro n k ⟨hk, rfl⟩
 refine cx_seq ?_
 refine cx_ops ?_
 refine ax_q (q_ibin rfl rfl rfl) ?_
 refine ax_nil ?_
 refine cx_keep rfl rfl ?_
 refine cx_seq ?_
 refine cx_cond rfl (fun h0 => ?_) (fun h0 => ?_)
 ·
  have h0 := dT h0
  have h0x : k < l.length := by omega
  have hlt : crcS (l.take k) < 4294967296 := crcS_lt
  have hxb : (crcS (l.take k) ^^^ l[k].toNat) < 4294967296 := xb_lt hlt
  have hc := l[k].toNat_lt
  refine cx_skip ?_
  refine cx_keep rfl rfl ?_
  refine cx_seq ?_
  refine cx_block ?_
  refine cx_seq ?_
  refine cx_ops ?_
  refine ax_q (q_ix rfl rfl (mapAt h0x)) ?_
  first | refine ax_q (q_load1_ptr rfl rfl rfl) ?_ | refine ax_q (q_load1_ip rfl) ?_ | refine ax_q (q_load1_rptr rfl rfl rfl rfl) ?_ | refine ax_q (q_load1_rptr rfl rfl (by assumption) rfl) ?_ | refine ax_q (q_load1_rptr rfl rfl (mapAt (by first | assumption | omega)) rfl) ?_
  refine ax_q (q_mov rfl) ?_
  refine ax_nil ?_
  refine cx_keep rfl rfl ?_
  refine cx_seq ?_
  refine cx_ops ?_
  refine ax_q (q_mov rfl) ?_
  refine ax_q (q_mov rfl) ?_
  refine ax_qe (r' := .d (.int .u32 (l[k].toNat : Int))) (q_conv rfl) (by rw [wr_u32 (by omega) (by omega)]) ?_
  refine ax_qe (r' := .d (.int .u32 (((crcS (l.take k) ^^^ l[k].toNat : Nat)) : Int))) (q_ibit rfl rfl rfl) (by rw [x32 hlt (by omega)]) ?_
  refine ax_q (q_mov rfl) ?_
  refine ax_nil ?_
  refine cx_keep rfl rfl ?_
  refine cx_seq ?_
  refine cx_ops ?_
  refine ax_q (q_mov rfl) ?_
  refine ax_nil ?_
  refine cx_keep rfl rfl ?_
  refine cx_block ?_
  refine cx_loopU (fun n j => j ≤ 8 ∧ n = 8 - j) (fun j : Nat => [(3, .d (.int .u32 (bitsN j (crcS (l.take k) ^^^ l[k].toNat) : Int))), (16, int j)]) (fun _ => []) ⟨_, 0, ⟨Nat.zero_le _, rfl⟩, by repeat (first | exact trivial | refine ⟨rfl, ?_⟩ | refine ⟨?_, ?_⟩)⟩ ?_
  rintro n j ⟨hj, rfl⟩
  refine cx_seq ?_
  refine cx_ops ?_
  refine ax_q (q_ibin rfl rfl rfl) ?_
  refine ax_nil ?_
  refine cx_keep rfl rfl ?_
  refine cx_seq ?_
  refine cx_cond rfl (fun h1 => ?_) (fun h1 => ?_)
  ·
   have h1 := dT h1
   have hbl : bitsN j (crcS (l.take k) ^^^ l[k].toNat) < 4294967296 := bitsN_lt hxb j
   refine cx_skip ?_
   refine cx_keep rfl rfl ?_
   refine cx_seq ?_
   refine cx_block ?_
   refine cx_seq ?_
   refine cx_ops ?_
   refine ax_q (q_mov rfl) ?_
   refine ax_qe (r' := .d (.int .u32 ((bitsN j (crcS (l.take k) ^^^ l[k].toNat) % 2 : Nat) : Int))) (q_ibit rfl rfl rfl) (by rw [a32 hbl]) ?_
   refine ax_q (q_ibin rfl rfl rfl) ?_
   refine ax_nil ?_
   refine cx_keep rfl rfl ?_
   refine cx_cond rfl (fun h2 => ?_) (fun h2 => ?_)
   ·
    have h2 := dT h2
    refine cx_ops ?_
    refine ax_q (q_mov rfl) ?_
    refine ax_qe (r' := .d (.int .u32 ((bitsN j (crcS (l.take k) ^^^ l[k].toNat) / 2 : Nat) : Int))) (q_ishf rfl rfl rfl (by omega)) (congrArg (fun z => AV.d (.int .u32 z)) sh1) ?_
    refine ax_qe (r' := .d (.int .u32 (((bitsN j (crcS (l.take k) ^^^ l[k].toNat) / 2) ^^^ 3988292384 : Nat) : Int))) (q_ibit rfl rfl rfl) (congrArg (fun z => AV.d (.int .u32 z)) (x32 (b := 3988292384) (by omega) (by omega))) ?_
    refine ax_q (q_mov rfl) ?_
    refine ax_nil ?_
    refine cx_keep rfl rfl ?_
    refine cx_ops ?_
    refine ax_qe (r' := int ((j + 1 : Nat) : Int)) (q_ibin rfl rfl rfl) (by rw [wi (by omega) (by omega)]; rfl) ?_
    refine ax_q (q_mov rfl) ?_
    refine ax_nil ?_
    exact ⟨_, j + 1, by omega, ⟨by omega, rfl⟩, by rw [show bitsN (j + 1) (crcS (l.take k) ^^^ l[k].toNat) = _ from bit1_t (s := bitsN j (crcS (l.take k) ^^^ l[k].toNat)) (by omega)]; exact (by repeat (first | exact trivial | refine ⟨rfl, ?_⟩ | refine ⟨?_, ?_⟩))⟩
   ·
    have h2 := dF h2
    refine cx_ops ?_
    refine ax_q (q_mov rfl) ?_
    refine ax_qe (r' := .d (.int .u32 ((bitsN j (crcS (l.take k) ^^^ l[k].toNat) / 2 : Nat) : Int))) (q_ishf rfl rfl rfl (by omega)) (congrArg (fun z => AV.d (.int .u32 z)) sh1) ?_
    refine ax_q (q_mov rfl) ?_
    refine ax_nil ?_
    refine cx_keep rfl rfl ?_
    refine cx_ops ?_
    refine ax_qe (r' := int ((j + 1 : Nat) : Int)) (q_ibin rfl rfl rfl) (by rw [wi (by omega) (by omega)]; rfl) ?_
    refine ax_q (q_mov rfl) ?_
    refine ax_nil ?_
    exact ⟨_, j + 1, by omega, ⟨by omega, rfl⟩, by rw [show bitsN (j + 1) (crcS (l.take k) ^^^ l[k].toNat) = _ from bit1_f (s := bitsN j (crcS (l.take k) ^^^ l[k].toNat)) (by omega)]; exact (by repeat (first | exact trivial | refine ⟨rfl, ?_⟩ | refine ⟨?_, ?_⟩))⟩
  ·
   have h1 := dF h1
   obtain rfl : j = 8 := by omega
   refine cx_exit rfl ?_
   refine cx_keep rfl rfl ?_
   refine cx_ops ?_
   refine ax_qe (r' := int ((k + 1 : Nat) : Int)) (q_ibin rfl rfl rfl) (by rw [wi (by omega) (by omega)]; rfl) ?_
   refine ax_q (q_mov rfl) ?_
   refine ax_nil ?_
   exact ⟨_, k + 1, by omega, ⟨by omega, rfl⟩, by rw [crcS_succ h0x]; exact (by repeat (first | exact trivial | refine ⟨rfl, ?_⟩ | refine ⟨?_, ?_⟩))⟩
 ·
  have h0 := dF h0
  obtain rfl : k = l.length := by omega
  refine cx_exit rfl ?_
  refine cx_keep rfl rfl ?_
  refine cx_seq ?_
  refine cx_ops ?_
  refine ax_q (q_mov rfl) ?_
  refine ax_qe (r' := .d (.int .u32 (crcN l : Int))) (q_ibit rfl rfl rfl) (by rw [List.take_length]; exact congrArg (fun z => AV.d (.int .u32 z)) (x32 (b := 4294967295) crcS_lt (by omega))) ?_
  refine ax_q (q_mov rfl) ?_
  refine ax_nil ?_
  refine cx_keep rfl rfl ?_
  refine cx_ret (ret0 rfl rfl ?_)
  exact ⟨rfl, rfl⟩


/- loop.example/g00332/impl.four -/
def k_c_four : XCode :=
 .seq (.ops [.op (some 2) (.mov (.k (.nils 1)))])
 (.keep [0] (.seq (.ops [.op (some 3) (.mov (.t 0)),
   .op (some 4) (.bin .shr (.t 3) (.k (.int .u64 24))),
   .op (some 5) (.conv .u8 (.t 4)),
   .op (some 6) (.mov (.t 0)),
   .op (some 7) (.bin .shr (.t 6) (.k (.int .u64 16))),
   .op (some 8) (.conv .u8 (.t 7)),
   .op (some 9) (.mov (.t 0)),
   .op (some 10) (.bin .shr (.t 9) (.k (.int .u64 8))),
   .op (some 11) (.conv .u8 (.t 10)),
   .op (some 12) (.mov (.t 0)),
   .op (some 13) (.conv .u8 (.t 12)),
   .op (some 14) (.bslice 1 [.t 5, .t 8, .t 11, .t 13]),
   .op (some 2) (.mov (.t 14))])
 (.keep [2] (.ret))))
theorem k_c_four_fits : fitsF Try.prog 93 ⟨15, k_c_four, [.t 2]⟩ = true := by kernel_rfl
theorem c_four {n : Int} (hn : 0 ≤ n ∧ n < 4294967296) : Con Try.prog noMv 93 [int n] [] (fun r h => r = .osl 0 1 0 (fourB n).length ∧ h = [(0, .rows 1 ((fourB n).map byteRow))]) := by
 refine con_of2 k_c_four_fits rfl fun C hP hmv => ?_
 unfold k_c_four
 refine cx_seq ?_
 refine cx_ops ?_
 refine ax_q (q_mov rfl) ?_
 refine ax_nil ?_
 refine cx_keep rfl rfl ?_
 refine cx_seq ?_
 refine cx_ops ?_
 refine ax_q (q_mov rfl) ?_
 refine ax_q (q_ishf rfl rfl rfl (by omega)) ?_
 first | refine ax_q (q_convB rfl) ?_ | refine ax_q (q_convI rfl (by omega)) ?_ | refine ax_q (q_convU8 rfl) ?_ | refine ax_q (q_conv rfl) ?_
 refine ax_q (q_mov rfl) ?_
 refine ax_q (q_ishf rfl rfl rfl (by omega)) ?_
 first | refine ax_q (q_convB rfl) ?_ | refine ax_q (q_convI rfl (by omega)) ?_ | refine ax_q (q_convU8 rfl) ?_ | refine ax_q (q_conv rfl) ?_
 refine ax_q (q_mov rfl) ?_
 refine ax_q (q_ishf rfl rfl rfl (by omega)) ?_
 first | refine ax_q (q_convB rfl) ?_ | refine ax_q (q_convI rfl (by omega)) ?_ | refine ax_q (q_convU8 rfl) ?_ | refine ax_q (q_conv rfl) ?_
 refine ax_q (q_mov rfl) ?_
 first | refine ax_q (q_convB rfl) ?_ | refine ax_q (q_convI rfl (by omega)) ?_ | refine ax_q (q_convU8 rfl) ?_ | refine ax_q (q_conv rfl) ?_
 refine ax_e (e_bslice rfl (by decide) rfl rfl) ?_
 refine ax_q (q_mov rfl) ?_
 refine ax_nil ?_
 refine cx_keep rfl rfl ?_
 refine cx_ret (retN (fun _ => 0) [14] rfl rfl rfl rfl rfl ?_)
 exact ⟨rfl, rfl⟩


/- loop.example/g00332/impl.sealed -/
def k_c_sealed : XCode :=
 .seq (.ops [.op (some 2) (.mov (.k (.nils 1)))])
 (.keep [0] (.seq (.ops [.op (some 3) (.mov (.t 0)),
   .op (some 4) (.mov (.t 0)),
   .call (some 5) 85 [.t 4],
   .op (some 6) (.conv .i64 (.t 5)),
   .call (some 7) 93 [.t 6],
   .op (some 8) (.app 1 1 [.int .u8 0] (.t 3) (.t 7)),
   .op (some 2) (.mov (.t 8))])
 (.keep [2] (.ret))))
theorem k_c_sealed_fits : fitsF Try.prog 80 ⟨9, k_c_sealed, [.t 2]⟩ = true := by kernel_rfl
theorem c_sealed {b : Str} (hb : b.length ≤ 1000000) : Con Try.prog (fun e => Nat.beq e 1000) 80 [.osl 1000 1 0 b.length] [(1000, .rows 1 (b.map byteRow))] (fun r h => r = .osl 1000 1 0 (sealB b).length ∧ h = [(1000, .rows 1 ((sealB b).map byteRow))]) := by
 refine con_of2 k_c_sealed_fits rfl fun C hP hmv => ?_
 unfold k_c_sealed
 refine cx_seq ?_
 refine cx_ops ?_
 refine ax_q (q_mov rfl) ?_
 refine ax_nil ?_
 refine cx_keep rfl rfl ?_
 refine cx_seq ?_
 refine cx_ops ?_
 refine ax_q (q_mov rfl) ?_
 refine ax_q (q_mov rfl) ?_
 have hcl := @crcN_lt b
 refine ax_call rfl (vc_lend0 (c_check32 (l := b) (by omega)) hP (.cons (.lend (lend_whole rfl (by simp))) .nil) rfl rfl ?_)
 first | refine ax_q (q_convB rfl) ?_ | refine ax_q (q_convI rfl (by omega)) ?_ | refine ax_q (q_convU8 rfl) ?_ | refine ax_q (q_conv rfl) ?_
 first | refine ax_call rfl (vc_pure (c_four (n := (crcN b : Int)) ?_) hP rfl ?_) | refine ax_call rfl (vc_lend (c_four (n := (crcN b : Int)) ?_) hP (by repeat (first | exact lal_id _ rfl | exact LAL.nil | refine LAL.cons ?_ ?_ | exact la_id _ rfl | exact LA.lend (lend_whole rfl (by first | (simp; done) | (rw [List.length_map]; rfl))) | refine LA.agg ?_ | refine LA.fn ?_ | refine LA.lend ?_ | exact Lend.d _ | exact Lend.zs _ | exact lend_whole rfl (by first | (simp; done) | (rw [List.length_map]; rfl)) | refine Lend.ptr rfl ?_ | refine Lend.fn ?_ | exact LendL.nil | refine LendL.cons ?_ ?_)) ?_)
 ·
  first | assumption | omega | (simp; done) | (simp; omega)
 rintro r h ⟨rfl, rfl⟩
 refine ⟨fun i => 7 + 200 * i, [0], ⟨rfl, rfl, rfl, rfl, rfl, (by first | exact (fun h => absurd h Bool.false_ne_true) | exact (fun _ => ⟨rfl, (noisl_of (by repeat (first | exact trivial | refine ⟨noisl_map (fun _ => rfl), ?_⟩ | refine ⟨?_, ?_⟩)))⟩))⟩, ?_⟩
 skip
 refine ax_e (e_appn (n' := (sealB b).length) (rs' := (sealB b).map byteRow) rfl rfl (by simp) rfl (src_osl rfl (by simp)) (.inr (by rw [hmv]; rfl)) (hbnd (by omega) (by rw [len_rows]; show 4 ≤ _; omega) (by decide)) (by rw [len_rows, seal_len]; rfl) app_rows) ?_
 refine ax_q (q_mov rfl) ?_
 refine ax_nil ?_
 refine cx_keep rfl rfl ?_
 refine cx_ret (retN id [1000] rfl rfl rfl rfl rfl ?_)
 exact ⟨rfl, rfl⟩


/- loop.example/g00332/impl.putFields -/
def k_c_putFields : XCode :=
 .seq (.ops [.op (some 4) (.mov (.k (.nils 1)))])
 (.keep [0, 1] (.seq (.ops [.op (some 7) (.mov (.t 0)),
   .op (some 8) (.mov (.t 1)),
   .op (some 9) (.lenS (.t 8)),
   .op (some 10) (.conv .u8 (.t 9)),
   .op (some 11) (.bslice 1 [.t 10]),
   .op (some 12) (.app 1 1 [.int .u8 0] (.t 7) (.t 11)),
   .op (some 0) (.mov (.t 12))])
 (.keep [0, 1] (.seq (.seq (.ops [.op (some 13) (.mov (.t 1)),
   .op (some 14) (.lenS (.t 13)),
   .op (some 15) (.mov (.k (.int .i64 0)))])
  (.keep [0, 13, 14, 15] (.block 0 (.loop (.seq (.ops [.op (some 16) (.bin .lss (.t 15) (.t 14))])
   (.keep [0, 13, 14, 15, 16] (.seq (.cond (.t 16)
    (.skip)
    (.exit 0))
   (.keep [0, 13, 14, 15] (.seq (.block 1 (.seq (.ops [.op (some 17) (.iadr 1 (.t 13) (.t 15)),
     .op (some 18) (.load1 (.t 17)),
     .op (some 6) (.mov (.t 18))])
    (.keep [0, 6, 13, 14, 15] (.ops [.op (some 19) (.mov (.t 0)),
     .op (some 20) (.mov (.t 6)),
     .op (some 21) (.lenT (.t 20)),
     .op (some 22) (.conv .u8 (.t 21)),
     .op (some 23) (.bslice 1 [.t 22]),
     .op (some 24) (.app 1 1 [.int .u8 0] (.t 19) (.t 23)),
     .op (some 25) (.mov (.t 6)),
     .op (some 26) (.app 1 1 [.int .u8 0] (.t 24) (.t 25)),
     .op (some 0) (.mov (.t 26))]))))
   (.keep [0, 13, 14, 15] (.ops [.op (some 27) (.bin .add (.t 15) (.k (.int .i64 1))),
    .op (some 15) (.mov (.t 27))])))))))))))
 (.keep [0] (.seq (.ops [.op (some 28) (.mov (.t 0)),
   .op (some 4) (.mov (.t 28))])
 (.keep [4] (.ret))))))))
theorem k_c_putFields_fits : fitsF Try.prog 81 ⟨29, k_c_putFields, [.t 4]⟩ = true := by kernel_rfl
theorem c_putFields {b : Str} {ts : List Str} (hb : b.length ≤ 1000) (ht : ts.length ≤ 255) (hs : ∀ t ∈ ts, t.length ≤ 1000) : Con Try.prog (fun e => Nat.beq e 1000) 81 [.osl 1000 1 0 b.length, .d (.sl 1 (ts.map strRow))] [(1000, .rows 1 (b.map byteRow))] (fun r h => r = .osl 1000 1 0 (putFs b ts).length ∧ h = [(1000, .rows 1 ((putFs b ts).map byteRow))]) := by
 refine con_of2 k_c_putFields_fits rfl fun C hP hmv => ?_
 unfold k_c_putFields
 refine cx_seq ?_
 refine cx_ops ?_
 refine ax_q (q_mov rfl) ?_
 refine ax_nil ?_
 refine cx_keep rfl rfl ?_
 refine cx_seq ?_
 refine cx_ops ?_
 refine ax_q (q_mov rfl) ?_
 refine ax_q (q_mov rfl) ?_
 first | refine ax_q (q_lenS_map rfl) ?_ | refine ax_q (q_lenS_osl rfl) ?_ | refine ax_q (q_lenS_zs rfl) ?_ | refine ax_q (q_lenS rfl) ?_
 first | refine ax_q (q_convB rfl) ?_ | refine ax_q (q_convI rfl (by omega)) ?_ | refine ax_q (q_convU8 rfl) ?_ | refine ax_q (q_conv rfl) ?_
 refine ax_e (e_bslice rfl (by decide) rfl rfl) ?_
 refine ax_e (e_appn (n' := (putK b ts 0).length) (rs' := (putK b ts 0).map byteRow) rfl rfl (by simp) rfl (src_osl rfl (by simp)) (.inr (by rw [hmv]; rfl)) (hbnd (by omega) (by simp) (by decide)) (by rw [putK_0]; simp) (by rw [putK_0]; exact app1 rfl)) ?_
 refine ax_q (q_mov rfl) ?_
 refine ax_nil ?_
 refine cx_keep rfl rfl ?_
 refine cx_seq ?_
 refine cx_seq ?_
 refine cx_ops ?_
 refine ax_q (q_mov rfl) ?_
 first | refine ax_q (q_lenS_map rfl) ?_ | refine ax_q (q_lenS_osl rfl) ?_ | refine ax_q (q_lenS_zs rfl) ?_ | refine ax_q (q_lenS rfl) ?_
 refine ax_q (q_mov rfl) ?_
 refine ax_nil ?_
 refine cx_keep rfl rfl ?_
 refine cx_block ?_
 refine cx_loopU (fun n k => k ≤ ts.length ∧ n = ts.length - k) (fun k : Nat => [(0, .osl 1000 1 0 (putK b ts k).length), (15, int k)]) (fun k => [(1000, .rows 1 ((putK b ts k).map byteRow))]) ⟨_, 0, ⟨Nat.zero_le _, rfl⟩, by repeat (first | exact trivial | refine ⟨rfl, ?_⟩ | refine ⟨?_, ?_⟩)⟩ ?_
 rintro n k ⟨hk, rfl⟩
 have hpl := @putK_len b ts k
 have hlk := lenK_le hs k
 refine cx_seq ?_
 refine cx_ops ?_
 refine ax_q (q_ibin rfl rfl rfl) ?_
 refine ax_nil ?_
 refine cx_keep rfl rfl ?_
 refine cx_seq ?_
 refine cx_cond rfl (fun h0 => ?_) (fun h0 => ?_)
 ·
  have h0 := dT h0
  have h0x : k < ts.length := by omega
  have hps := putK_succ (b := b) h0x
  have hs1 := hs _ (List.getElem_mem h0x)
  refine cx_skip ?_
  refine cx_keep rfl rfl ?_
  refine cx_seq ?_
  refine cx_block ?_
  refine cx_seq ?_
  refine cx_ops ?_
  refine ax_q (q_ix rfl rfl (mapAt h0x)) ?_
  first | refine ax_q (q_load1_ptr rfl rfl rfl) ?_ | refine ax_q (q_load1_ip rfl) ?_ | refine ax_q (q_load1_rptr rfl rfl rfl rfl) ?_ | refine ax_q (q_load1_rptr rfl rfl (by assumption) rfl) ?_ | refine ax_q (q_load1_rptr rfl rfl (mapAt (by first | assumption | omega)) rfl) ?_
  refine ax_q (q_mov rfl) ?_
  refine ax_nil ?_
  refine cx_keep rfl rfl ?_
  refine cx_ops ?_
  refine ax_q (q_mov rfl) ?_
  refine ax_q (q_mov rfl) ?_
  refine ax_q (q_lenT rfl) ?_
  first | refine ax_q (q_convB rfl) ?_ | refine ax_q (q_convI rfl (by omega)) ?_ | refine ax_q (q_convU8 rfl) ?_ | refine ax_q (q_conv rfl) ?_
  refine ax_e (e_bslice rfl (by decide) rfl rfl) ?_
  refine ax_e (e_appn (n' := (putK b ts k ++ [Go.AM.byteOf ts[k].length]).length) (rs' := (putK b ts k ++ [Go.AM.byteOf ts[k].length]).map byteRow) rfl rfl (by simp) rfl (src_osl rfl (by simp)) (.inr (by rw [hmv]; rfl)) (hbnd (by omega) (by simp) (by decide)) (by simp) (app1 rfl)) ?_
  refine ax_q (q_mov rfl) ?_
  refine ax_e (e_appn (n' := (putK b ts (k + 1)).length) (rs' := (putK b ts (k + 1)).map byteRow) rfl rfl (by simp) rfl (src_str _) (.inr (by rw [hmv]; rfl)) (hbnd (by simp; omega) (by simp; omega) (by decide)) (by rw [hps]; simp; omega) (by rw [hps]; exact app_str)) ?_
  refine ax_q (q_mov rfl) ?_
  refine ax_nil ?_
  refine cx_keep rfl rfl ?_
  refine cx_ops ?_
  refine ax_qe (r' := int ((k + 1 : Nat) : Int)) (q_ibin rfl rfl rfl) (by rw [wi (by omega) (by omega)]; rfl) ?_
  refine ax_q (q_mov rfl) ?_
  refine ax_nil ?_
  exact ⟨_, k + 1, by omega, ⟨by omega, rfl⟩, by repeat (first | exact trivial | refine ⟨rfl, ?_⟩ | refine ⟨?_, ?_⟩)⟩
 ·
  have h0 := dF h0
  obtain rfl : k = ts.length := by omega
  refine cx_exit rfl ?_
  refine cx_keep rfl rfl ?_
  refine cx_seq ?_
  refine cx_ops ?_
  refine ax_q (q_mov rfl) ?_
  refine ax_q (q_mov rfl) ?_
  refine ax_nil ?_
  refine cx_keep rfl rfl ?_
  refine cx_ret (retN id [1000] rfl rfl rfl rfl rfl ?_)
  exact ⟨rfl, rfl⟩


/- loop.example/g00332/impl.pageBytes -/
def k_c_pageBytes : XCode :=
 .seq (.ops [.op (some 3) (.box (.t 1)),
   .op (some 4) (.mov (.k (.nils 1)))])
 (.keep [0, 3] (.seq (.ops [.op (some 5) (.mov (.t 0)),
   .op (some 6) (.conv .u8 (.t 5)),
   .op (some 7) (.fadr (.t 3) 0),
   .op (some 8) (.load1 (.t 7)),
   .op (some 9) (.bin .shr (.t 8) (.k (.int .u64 8))),
   .op (some 10) (.conv .u8 (.t 9)),
   .op (some 11) (.fadr (.t 3) 0),
   .op (some 12) (.load1 (.t 11)),
   .op (some 13) (.conv .u8 (.t 12)),
   .op (some 14) (.bslice 1 [.k (.int .u8 112), .t 6, .t 10, .t 13]),
   .op (some 15) (.fadr (.t 3) 1),
   .op (some 16) (.load1 (.t 15)),
   .call (some 17) 81 [.t 14, .t 16],
   .call (some 18) 80 [.t 17],
   .op (some 4) (.mov (.t 18))])
 (.keep [4] (.ret))))
theorem k_c_pageBytes_fits : fitsF Try.prog 51 ⟨19, k_c_pageBytes, [.t 4]⟩ = true := by kernel_rfl
theorem c_pageBytes {no : Int} {p : Page} (hp : PG p) (hn : 0 ≤ no ∧ no ≤ 255) : Con Try.prog noMv 51 [int no, p.av] [] (fun r h => r = .osl 0 1 0 (pbF no p).length ∧ h = [(0, .rows 1 ((pbF no p).map byteRow))]) := by
 refine con_of2 k_c_pageBytes_fits rfl fun C hP hmv => ?_
 unfold k_c_pageBytes
 have hp1 := hp.ln
 have hp2 := hp.ls
 have hpok := hp.ok
 have hsl : ∀ t ∈ p.slots, t.length ≤ 1000 := fun t ht => by have := hp.st t ht; omega
 have hpl : (putFs [112, Go.AM.byteOf no, shB p.lsn 8, Go.AM.byteOf p.lsn] p.slots).length ≤ 1000000 := by unfold putFs; rw [putK_len]; have := lenK_le hsl p.slots.length; rw [hp1] at this ⊢; simp only [List.length_cons, List.length_nil]; omega
 refine cx_seq ?_
 refine cx_ops ?_
 refine ax_e (e_box rfl rfl (by decide) rfl rfl rfl) ?_
 refine ax_q (q_mov rfl) ?_
 refine ax_nil ?_
 refine cx_keep rfl rfl ?_
 refine cx_seq ?_
 refine cx_ops ?_
 refine ax_q (q_mov rfl) ?_
 first | refine ax_q (q_convB rfl) ?_ | refine ax_q (q_convI rfl (by omega)) ?_ | refine ax_q (q_convU8 rfl) ?_ | refine ax_q (q_conv rfl) ?_
 refine ax_q (q_fadr_ptr rfl) ?_
 refine ax_q (q_load1_ptr rfl rfl rfl) ?_
 refine ax_q (q_ishf rfl rfl rfl (by omega)) ?_
 first | refine ax_q (q_convB rfl) ?_ | refine ax_q (q_convI rfl (by omega)) ?_ | refine ax_q (q_convU8 rfl) ?_ | refine ax_q (q_conv rfl) ?_
 refine ax_q (q_fadr_ptr rfl) ?_
 refine ax_q (q_load1_ptr rfl rfl rfl) ?_
 first | refine ax_q (q_convB rfl) ?_ | refine ax_q (q_convI rfl (by omega)) ?_ | refine ax_q (q_convU8 rfl) ?_ | refine ax_q (q_conv rfl) ?_
 refine ax_e (e_bslice rfl (by decide) rfl rfl) ?_
 refine ax_q (q_fadr_ptr rfl) ?_
 refine ax_q (q_load1_ptr rfl rfl rfl) ?_
 refine ax_call rfl (vcall_own (c_putFields (b := [112, Go.AM.byteOf no, shB p.lsn 8, Go.AM.byteOf p.lsn]) (ts := p.slots) (by simp) (by omega) hsl) hP hmv false (fun _ => 14) [1000] ⟨rfl, rfl, rfl, rfl, ⟨rfl, trivial⟩, rfl, rfl, rfl⟩ (.pass rfl rfl (.pass rfl rfl .nil)) ?_)
 rintro r h ⟨rfl, rfl⟩
 refine ⟨fun _ => 14, [], ⟨rfl, rfl, rfl, rfl, mem1 rfl, rfl, rfl, fun h => absurd h Bool.false_ne_true⟩, ?_⟩
 refine ax_call rfl (vcall_own (c_sealed (b := putFs [112, Go.AM.byteOf no, shB p.lsn 8, Go.AM.byteOf p.lsn] p.slots) hpl) hP hmv false (fun _ => 14) [1000] ⟨rfl, rfl, rfl, rfl, ⟨rfl, trivial⟩, rfl, rfl, rfl⟩ (.pass rfl rfl .nil) ?_)
 rintro r h ⟨rfl, rfl⟩
 refine ⟨fun _ => 14, [], ⟨rfl, rfl, rfl, rfl, mem1 rfl, rfl, rfl, fun h => absurd h Bool.false_ne_true⟩, ?_⟩
 refine ax_q (q_mov rfl) ?_
 refine ax_nil ?_
 refine cx_keep rfl rfl ?_
 refine cx_ret (retN (fun _ => 0) [14] rfl rfl rfl rfl rfl ?_)
 exact ⟨rfl, rfl⟩


/- loop.example/g00332/impl.PageBytes -/
def k_c_PageBytes : XCode :=
 .seq (.ops [.op (some 3) (.box (.t 1)),
   .op (some 4) (.mov (.k (.nils 1))),
   .op (some 5) (.mov (.k (.int .i64 0)))])
 (.keep [0, 3] (.seq (.block 0 (.seq (.ops [.op (some 7) (.loadN 2 (.t 3)),
    .call (some 8) 23 [.t 7],
    .op (some 9) (.not (.t 8)),
    .op (some 6) (.mov (.t 9))])
  (.keep [0, 3, 6] (.cond (.t 6)
   (.seq (.ops [.op (some 4) (.mov (.k (.nils 1))),
     .op (some 5) (.mov (.k (.int .i64 1)))])
   (.keep [4, 5] (.ret)))
   (.seq (.ops [.op (some 11) (.mov (.t 0)),
     .call (some 12) 39 [.t 11, .k (.int .i64 0), .k (.int .i64 255)],
     .op (some 13) (.not (.t 12)),
     .op (some 10) (.mov (.t 13))])
   (.keep [0, 3, 10] (.cond (.t 10)
    (.seq (.ops [.op (some 4) (.mov (.k (.nils 1))),
      .op (some 5) (.mov (.k (.int .i64 4)))])
    (.keep [4, 5] (.ret)))
    (.skip))))))))
 (.keep [0, 3] (.seq (.ops [.op (some 14) (.mov (.t 0)),
   .op (some 15) (.loadN 2 (.t 3)),
   .call (some 16) 51 [.t 14, .t 15],
   .op (some 4) (.mov (.t 16)),
   .op (some 5) (.mov (.k (.int .i64 0)))])
 (.keep [4, 5] (.ret))))))
theorem k_c_PageBytes_fits : fitsF Try.prog 19 ⟨17, k_c_PageBytes, [.t 4, .t 5]⟩ = true := by kernel_rfl
theorem c_PageBytes {no : Int} {p : Page} (hp : PG p) (hn : 0 ≤ no ∧ no ≤ 255) : Con Try.prog noMv 19 [int no, p.av] [] (fun r h => r = .tup [.osl 0 1 0 (pbF no p).length, int 0] ∧ h = [(0, .rows 1 ((pbF no p).map byteRow))]) := by
 refine con_of2 k_c_PageBytes_fits rfl fun C hP hmv => ?_
 unfold k_c_PageBytes
 have hp1 := hp.ln
 have hp2 := hp.ls
 have hpok := hp.ok
 have hsl : ∀ t ∈ p.slots, t.length ≤ 1000 := fun t ht => by have := hp.st t ht; omega
 refine cx_seq ?_
 refine cx_ops ?_
 refine ax_e (e_box rfl rfl (by decide) rfl rfl rfl) ?_
 refine ax_q (q_mov rfl) ?_
 refine ax_q (q_mov rfl) ?_
 refine ax_nil ?_
 refine cx_keep rfl rfl ?_
 refine cx_seq ?_
 refine cx_block ?_
 refine cx_seq ?_
 refine cx_ops ?_
 refine ax_q (q_ldN rfl rfl rfl) ?_
 first | refine ax_call rfl (vc_pure0 (c_PageOK  ?_) hP rfl rfl ?_) | refine ax_call rfl (vc_lend0 (c_PageOK  ?_) hP (by repeat (first | exact lal_id _ rfl | exact LAL.nil | refine LAL.cons ?_ ?_ | exact la_id _ rfl | exact LA.lend (lend_whole rfl (by first | (simp; done) | (rw [List.length_map]; rfl))) | refine LA.agg ?_ | refine LA.fn ?_ | refine LA.lend ?_ | exact Lend.d _ | exact Lend.zs _ | exact lend_whole rfl (by first | (simp; done) | (rw [List.length_map]; rfl)) | refine Lend.ptr rfl ?_ | refine Lend.fn ?_ | exact LendL.nil | refine LendL.cons ?_ ?_)) rfl rfl ?_)
 ·
  first | assumption | omega | (simp; done) | (simp; omega)
 refine ax_q (q_not rfl) ?_
 refine ax_q (q_mov rfl) ?_
 refine ax_nil ?_
 refine cx_keep rfl rfl ?_
 refine cx_cond rfl (fun h0 => ?_) (fun h0 => ?_)
 ·
  have h0 := bT h0
  exfalso; rw [hpok] at h0; cases h0
 ·
  have h0 := bF h0
  refine cx_seq ?_
  refine cx_ops ?_
  refine ax_q (q_mov rfl) ?_
  first | refine ax_call rfl (vc_pure0 (c_inRange  ) hP rfl rfl ?_) | refine ax_call rfl (vc_lend0 (c_inRange  ) hP (by repeat (first | exact lal_id _ rfl | exact LAL.nil | refine LAL.cons ?_ ?_ | exact la_id _ rfl | exact LA.lend (lend_whole rfl (by first | (simp; done) | (rw [List.length_map]; rfl))) | refine LA.agg ?_ | refine LA.fn ?_ | refine LA.lend ?_ | exact Lend.d _ | exact Lend.zs _ | exact lend_whole rfl (by first | (simp; done) | (rw [List.length_map]; rfl)) | refine Lend.ptr rfl ?_ | refine Lend.fn ?_ | exact LendL.nil | refine LendL.cons ?_ ?_)) rfl rfl ?_)
  refine ax_q (q_not rfl) ?_
  refine ax_q (q_mov rfl) ?_
  refine ax_nil ?_
  refine cx_keep rfl rfl ?_
  refine cx_cond rfl (fun h1 => ?_) (fun h1 => ?_)
  ·
   have h1 := bT h1
   exfalso; rw [inR_iff.2 hn] at h1; cases h1
  ·
   have h1 := bF h1
   refine cx_skip ?_
   refine cx_keep rfl rfl ?_
   refine cx_seq ?_
   refine cx_ops ?_
   refine ax_q (q_mov rfl) ?_
   refine ax_q (q_ldN rfl rfl rfl) ?_
   first | refine ax_call rfl (vc_pure (c_pageBytes  ?_ ?_) hP rfl ?_) | refine ax_call rfl (vc_lend (c_pageBytes  ?_ ?_) hP (by repeat (first | exact lal_id _ rfl | exact LAL.nil | refine LAL.cons ?_ ?_ | exact la_id _ rfl | exact LA.lend (lend_whole rfl (by first | (simp; done) | (rw [List.length_map]; rfl))) | refine LA.agg ?_ | refine LA.fn ?_ | refine LA.lend ?_ | exact Lend.d _ | exact Lend.zs _ | exact lend_whole rfl (by first | (simp; done) | (rw [List.length_map]; rfl)) | refine Lend.ptr rfl ?_ | refine Lend.fn ?_ | exact LendL.nil | refine LendL.cons ?_ ?_)) ?_)
   ·
    first | assumption | omega | (simp; done) | (simp; omega)
   ·
    first | assumption | omega | (simp; done) | (simp; omega)
   rintro r h ⟨rfl, rfl⟩
   refine ⟨fun i => 16 + 200 * i, [0], ⟨rfl, rfl, rfl, rfl, rfl, (by first | exact (fun h => absurd h Bool.false_ne_true) | exact (fun _ => ⟨rfl, (noisl_of (by repeat (first | exact trivial | refine ⟨noisl_map (fun _ => rfl), ?_⟩ | refine ⟨?_, ?_⟩)))⟩))⟩, ?_⟩
   skip
   refine ax_q (q_mov rfl) ?_
   refine ax_q (q_mov rfl) ?_
   refine ax_nil ?_
   refine cx_keep rfl rfl ?_
   refine cx_ret (retN (fun _ => 0) [16] rfl rfl rfl rfl rfl ?_)
   exact ⟨rfl, rfl⟩


/- loop.example/g00332/spec.l01Number -/
def k_c_l01Number : XCode :=
 .seq (.ops [.op (some 4) (.mov (.k (.nils 1)))])
 (.keep [0, 1] (.seq (.ops [.op (some 7) (.bslice 1 []),
   .op (some 5) (.mov (.t 7))])
 (.keep [0, 1, 5] (.seq (.seq (.ops [.op (some 8) (.mov (.t 1)),
   .op (some 9) (.bin .sub (.t 8) (.k (.int .i64 1))),
   .op (some 6) (.mov (.t 9))])
  (.keep [0, 5, 6] (.block 0 (.loop (.seq (.seq (.ops [.op (some 10) (.mov (.t 6)),
     .op (some 11) (.bin .geq (.t 10) (.k (.int .i64 0)))])
   (.keep [0, 5, 6, 11] (.cond (.t 11)
    (.skip)
    (.exit 0))))
   (.keep [0, 5, 6] (.seq (.block 1 (.ops [.op (some 14) (.mov (.t 5)),
     .op (some 15) (.mov (.t 0)),
     .op (some 16) (.mov (.t 6)),
     .op (some 17) (.bin .mul (.k (.int .i64 8)) (.t 16)),
     .op (some 18) (.conv .u64 (.t 17)),
     .op (some 19) (.bin .shr (.t 15) (.t 18)),
     .op (some 20) (.conv .u8 (.t 19)),
     .op (some 21) (.bslice 1 [.t 20]),
     .op (some 22) (.app 1 1 [.int .u8 0] (.t 14) (.t 21)),
     .op (some 5) (.mov (.t 22))]))
   (.keep [0, 5, 6] (.ops [.op (some 12) (.mov (.t 6)),
    .op (some 13) (.bin .sub (.t 12) (.k (.int .i64 1))),
    .op (some 6) (.mov (.t 13))])))))))))
 (.keep [5] (.seq (.ops [.op (some 23) (.mov (.t 5)),
   .op (some 4) (.mov (.t 23))])
 (.keep [4] (.ret))))))))
theorem k_c_l01Number_fits : fitsF Try.prog 83 ⟨24, k_c_l01Number, [.t 4]⟩ = true := by kernel_rfl
theorem c_l01Number {n : Int} {size : Nat} (hs : 1 ≤ size ∧ size ≤ 4) : Con Try.prog noMv 83 [int n, int size] [] (fun r h => r = .osl 0 1 0 (numT n size size).length ∧ h = [(0, .rows 1 ((numT n size size).map byteRow))]) := by
 refine con_of2 k_c_l01Number_fits rfl fun C hP hmv => ?_
 unfold k_c_l01Number
 refine cx_seq ?_
 refine cx_ops ?_
 refine ax_q (q_mov rfl) ?_
 refine ax_nil ?_
 refine cx_keep rfl rfl ?_
 refine cx_seq ?_
 refine cx_ops ?_
 refine ax_e (e_bslice rfl (by decide) rfl rfl) ?_
 refine ax_q (q_mov rfl) ?_
 refine ax_nil ?_
 refine cx_keep rfl rfl ?_
 refine cx_seq ?_
 refine cx_seq ?_
 refine cx_ops ?_
 refine ax_q (q_mov rfl) ?_
 refine ax_qe (r' := int ((size : Int) - 1)) (q_ibin rfl rfl rfl) (wi (by omega) (by omega)) ?_
 refine ax_q (q_mov rfl) ?_
 refine ax_nil ?_
 refine cx_keep rfl rfl ?_
 refine cx_block ?_
 refine cx_loopU (fun m k => k ≤ size ∧ m = size - k) (fun k : Nat => [(5, .osl 7 1 0 (numT n size k).length), (6, int ((size : Int) - 1 - k))]) (fun k => [(7, .rows 1 ((numT n size k).map byteRow))]) ⟨_, 0, ⟨Nat.zero_le _, rfl⟩, by rw [show (size : Int) - 1 - ((0 : Nat) : Int) = size - 1 from by omega]; exact (by repeat (first | exact trivial | refine ⟨rfl, ?_⟩ | refine ⟨?_, ?_⟩))⟩ ?_
 rintro m k ⟨hk, rfl⟩
 refine cx_seq ?_
 refine cx_seq ?_
 refine cx_ops ?_
 refine ax_q (q_mov rfl) ?_
 refine ax_q (q_ibin rfl rfl rfl) ?_
 refine ax_nil ?_
 refine cx_keep rfl rfl ?_
 refine cx_cond rfl (fun h0 => ?_) (fun h0 => ?_)
 ·
  have h0 := dT h0
  have h0x : k < size := by omega
  obtain ⟨i, hi⟩ : ∃ i : Nat, i = size - 1 - k := ⟨_, rfl⟩
  have hnl := @numT_len n size k
  have hns : numT n size (k + 1) = numT n size k ++ [shB n (8 * (i : Int))] := by rw [hi]; exact numT_succ
  refine cx_skip ?_
  refine cx_keep rfl rfl ?_
  refine cx_seq ?_
  refine cx_block ?_
  refine cx_ops ?_
  refine ax_q (q_mov rfl) ?_
  refine ax_q (q_mov rfl) ?_
  refine ax_q (q_mov rfl) ?_
  refine ax_qe (r' := int (8 * (i : Int))) (q_ibin rfl rfl rfl) (by rw [wi (by omega) (by omega)]; exact congrArg AM.int (by omega)) ?_
  refine ax_qe (r' := .d (.int .u64 (8 * (i : Int)))) (q_conv rfl) (by rw [wr_u64 (by omega) (by omega)]) ?_
  refine ax_q (q_ishf rfl rfl rfl (by omega)) ?_
  first | refine ax_q (q_convB rfl) ?_ | refine ax_q (q_convI rfl (by omega)) ?_ | refine ax_q (q_convU8 rfl) ?_ | refine ax_q (q_conv rfl) ?_
  refine ax_e (e_bslice rfl (by decide) rfl rfl) ?_
  refine ax_e (e_appn (n' := (numT n size (k + 1)).length) (rs' := (numT n size (k + 1)).map byteRow) rfl rfl (by simp) rfl (src_osl rfl (by simp)) (.inl (by decide)) (hbnd (by omega) (by simp) (by decide)) (by rw [hns]; simp) (by rw [hns]; exact app1 rfl)) ?_
  refine ax_q (q_mov rfl) ?_
  refine ax_nil ?_
  refine cx_keep rfl rfl ?_
  refine cx_ops ?_
  refine ax_q (q_mov rfl) ?_
  refine ax_qe (r' := int ((size : Int) - 1 - ((k + 1 : Nat) : Int))) (q_ibin rfl rfl rfl) (by rw [wi (by omega) (by omega)]; exact congrArg AM.int (by omega)) ?_
  refine ax_q (q_mov rfl) ?_
  refine ax_nil ?_
  exact ⟨_, k + 1, by omega, ⟨by omega, rfl⟩, by repeat (first | exact trivial | refine ⟨rfl, ?_⟩ | refine ⟨?_, ?_⟩)⟩
 ·
  have h0 := dF h0
  obtain rfl : k = size := by omega
  refine cx_exit rfl ?_
  refine cx_keep rfl rfl ?_
  refine cx_seq ?_
  refine cx_ops ?_
  refine ax_q (q_mov rfl) ?_
  refine ax_q (q_mov rfl) ?_
  refine ax_nil ?_
  refine cx_keep rfl rfl ?_
  refine cx_ret (retN (fun _ => 0) [7] rfl rfl rfl rfl rfl ?_)
  exact ⟨rfl, rfl⟩


/- loop.example/g00332/spec.l01Check -/
def k_c_l01Check : XCode :=
 .seq (.ops [.op (some 2) (.mov (.k (.int .i64 0)))])
 (.keep [0] (.seq (.ops [.op (some 3) (.mov (.k (.int .i64 4294967295)))])
 (.keep [0, 3] (.seq (.seq (.ops [.op (some 4) (.mov (.k (.int .i64 0)))])
  (.keep [0, 3, 4] (.block 0 (.loop (.seq (.seq (.ops [.op (some 6) (.mov (.t 4)),
     .op (some 7) (.mov (.t 0)),
     .op (some 8) (.lenS (.t 7)),
     .op (some 9) (.bin .lss (.t 6) (.t 8))])
   (.keep [0, 3, 4, 9] (.cond (.t 9)
    (.skip)
    (.exit 0))))
   (.keep [0, 3, 4] (.seq (.block 1 (.seq (.ops [.op (some 12) (.mov (.t 3)),
     .op (some 13) (.mov (.t 0)),
     .op (some 14) (.mov (.t 4)),
     .op (some 15) (.iadr 1 (.t 13) (.t 14)),
     .op (some 16) (.load1 (.t 15)),
     .op (some 17) (.conv .i64 (.t 16)),
     .op (some 18) (.bin .xor (.t 12) (.t 17)),
     .op (some 3) (.mov (.t 18))])
    (.keep [0, 3, 4] (.seq (.ops [.op (some 5) (.mov (.k (.int .i64 0)))])
    (.keep [0, 3, 4, 5] (.block 2 (.loop (.seq (.seq (.ops [.op (some 19) (.mov (.t 5)),
       .op (some 20) (.bin .lss (.t 19) (.k (.int .i64 8)))])
     (.keep [0, 3, 4, 5, 20] (.cond (.t 20)
      (.skip)
      (.exit 2))))
     (.keep [0, 3, 4, 5] (.seq (.block 3 (.ops [.op (some 23) (.mov (.t 3)),
       .op (some 24) (.bin .shr (.t 23) (.k (.int .u64 1))),
       .op (some 25) (.mov (.t 3)),
       .op (some 26) (.bin .and (.t 25) (.k (.int .i64 1))),
       .op (some 27) (.bin .mul (.t 26) (.k (.int .i64 3988292384))),
       .op (some 28) (.bin .xor (.t 24) (.t 27)),
       .op (some 3) (.mov (.t 28))]))
     (.keep [0, 3, 4, 5] (.ops [.op (some 21) (.mov (.t 5)),
      .op (some 22) (.bin .add (.t 21) (.k (.int .i64 1))),
      .op (some 5) (.mov (.t 22))]))))))))))))
   (.keep [0, 3, 4] (.ops [.op (some 10) (.mov (.t 4)),
    .op (some 11) (.bin .add (.t 10) (.k (.int .i64 1))),
    .op (some 4) (.mov (.t 11))])))))))))
 (.keep [3] (.seq (.ops [.op (some 29) (.mov (.t 3)),
   .op (some 30) (.bin .xor (.t 29) (.k (.int .i64 4294967295))),
   .op (some 2) (.mov (.t 30))])
 (.keep [2] (.ret))))))))
theorem k_c_l01Check_fits : fitsF Try.prog 94 ⟨31, k_c_l01Check, [.t 2]⟩ = true := by kernel_rfl
theorem c_l01Check {l : Str} (hl : l.length ≤ 1048576) : Con Try.prog noMv 94 [.d (.sl 1 (l.map byteRow))] [] (fun r h => r = int (crcN l) ∧ h = []) := by
 refine con_of2 k_c_l01Check_fits rfl fun C hP hmv => ?_
 unfold k_c_l01Check
 refine cx_seq ?_
 refine cx_ops ?_
 refine ax_q (q_mov rfl) ?_
 refine ax_nil ?_
 refine cx_keep rfl rfl ?_
 refine cx_seq ?_
 refine cx_ops ?_
 refine ax_q (q_mov rfl) ?_
 refine ax_nil ?_
 refine cx_keep rfl rfl ?_
 refine cx_seq ?_
 refine cx_seq ?_
 refine cx_ops ?_
 refine ax_q (q_mov rfl) ?_
 refine ax_nil ?_
 refine cx_keep rfl rfl ?_
 refine cx_block ?_
 refine cx_loopU (fun n k => k ≤ l.length ∧ n = l.length - k) (fun k : Nat => [(3, int (crcS (l.take k))), (4, int k)]) (fun _ => []) ⟨_, 0, ⟨Nat.zero_le _, rfl⟩, by repeat (first | exact trivial | refine ⟨rfl, ?_⟩ | refine ⟨?_, ?_⟩)⟩ ?_
 rintro n k ⟨hk, rfl⟩
 refine cx_seq ?_
 refine cx_seq ?_
 refine cx_ops ?_
 refine ax_q (q_mov rfl) ?_
 refine ax_q (q_mov rfl) ?_
 first | refine ax_q (q_lenS_map rfl) ?_ | refine ax_q (q_lenS_osl rfl) ?_ | refine ax_q (q_lenS_zs rfl) ?_ | refine ax_q (q_lenS rfl) ?_
 refine ax_q (q_ibin rfl rfl rfl) ?_
 refine ax_nil ?_
 refine cx_keep rfl rfl ?_
 refine cx_cond rfl (fun h0 => ?_) (fun h0 => ?_)
 ·
  have h0 := dT h0
  have h0x : k < l.length := by omega
  have hlt : crcS (l.take k) < 4294967296 := crcS_lt
  have hxb : (crcS (l.take k) ^^^ l[k].toNat) < 4294967296 := xb_lt hlt
  have hc := l[k].toNat_lt
  refine cx_skip ?_
  refine cx_keep rfl rfl ?_
  refine cx_seq ?_
  refine cx_block ?_
  refine cx_seq ?_
  refine cx_ops ?_
  refine ax_q (q_mov rfl) ?_
  refine ax_q (q_mov rfl) ?_
  refine ax_q (q_mov rfl) ?_
  refine ax_q (q_ix rfl rfl (mapAt h0x)) ?_
  first | refine ax_q (q_load1_ptr rfl rfl rfl) ?_ | refine ax_q (q_load1_ip rfl) ?_ | refine ax_q (q_load1_rptr rfl rfl rfl rfl) ?_ | refine ax_q (q_load1_rptr rfl rfl (by assumption) rfl) ?_ | refine ax_q (q_load1_rptr rfl rfl (mapAt (by first | assumption | omega)) rfl) ?_
  first | refine ax_q (q_convB rfl) ?_ | refine ax_q (q_convI rfl (by omega)) ?_ | refine ax_q (q_convU8 rfl) ?_ | refine ax_q (q_conv rfl) ?_
  refine ax_qe (r' := int ((crcS (l.take k) ^^^ l[k].toNat : Nat) : Int)) (q_ibit rfl rfl rfl) (by rw [x64 hlt (by omega)]) ?_
  refine ax_q (q_mov rfl) ?_
  refine ax_nil ?_
  refine cx_keep rfl rfl ?_
  refine cx_seq ?_
  refine cx_ops ?_
  refine ax_q (q_mov rfl) ?_
  refine ax_nil ?_
  refine cx_keep rfl rfl ?_
  refine cx_block ?_
  refine cx_loopU (fun n j => j ≤ 8 ∧ n = 8 - j) (fun j : Nat => [(3, int (bitsN j (crcS (l.take k) ^^^ l[k].toNat))), (5, int j)]) (fun _ => []) ⟨_, 0, ⟨Nat.zero_le _, rfl⟩, by repeat (first | exact trivial | refine ⟨rfl, ?_⟩ | refine ⟨?_, ?_⟩)⟩ ?_
  rintro n j ⟨hj, rfl⟩
  refine cx_seq ?_
  refine cx_seq ?_
  refine cx_ops ?_
  refine ax_q (q_mov rfl) ?_
  refine ax_q (q_ibin rfl rfl rfl) ?_
  refine ax_nil ?_
  refine cx_keep rfl rfl ?_
  refine cx_cond rfl (fun h1 => ?_) (fun h1 => ?_)
  ·
   have h1 := dT h1
   have hbl : bitsN j (crcS (l.take k) ^^^ l[k].toNat) < 4294967296 := bitsN_lt hxb j
   have hm2 := Nat.mod_lt (bitsN j (crcS (l.take k) ^^^ l[k].toNat)) (show 0 < 2 by omega)
   refine cx_skip ?_
   refine cx_keep rfl rfl ?_
   refine cx_seq ?_
   refine cx_block ?_
   refine cx_ops ?_
   refine ax_q (q_mov rfl) ?_
   refine ax_qe (r' := int ((bitsN j (crcS (l.take k) ^^^ l[k].toNat) / 2 : Nat) : Int)) (q_ishf rfl rfl rfl (by omega)) (congrArg AM.int sh1) ?_
   refine ax_q (q_mov rfl) ?_
   refine ax_qe (r' := int ((bitsN j (crcS (l.take k) ^^^ l[k].toNat) % 2 : Nat) : Int)) (q_ibit rfl rfl rfl) (by rw [a64 hbl]) ?_
   refine ax_qe (r' := int ((bitsN j (crcS (l.take k) ^^^ l[k].toNat) % 2 * 3988292384 : Nat) : Int)) (q_ibin rfl rfl rfl) (by rw [wi (by omega) (by omega)]; exact congrArg AM.int (by omega)) ?_
   refine ax_qe (r' := int (bitsN (j + 1) (crcS (l.take k) ^^^ l[k].toNat) : Nat)) (q_ibit rfl rfl rfl) (congrArg AM.int (bit1_x64 hbl)) ?_
   refine ax_q (q_mov rfl) ?_
   refine ax_nil ?_
   refine cx_keep rfl rfl ?_
   refine cx_ops ?_
   refine ax_q (q_mov rfl) ?_
   refine ax_qe (r' := int ((j + 1 : Nat) : Int)) (q_ibin rfl rfl rfl) (by rw [wi (by omega) (by omega)]; rfl) ?_
   refine ax_q (q_mov rfl) ?_
   refine ax_nil ?_
   exact ⟨_, j + 1, by omega, ⟨by omega, rfl⟩, by repeat (first | exact trivial | refine ⟨rfl, ?_⟩ | refine ⟨?_, ?_⟩)⟩
  ·
   have h1 := dF h1
   obtain rfl : j = 8 := by omega
   refine cx_exit rfl ?_
   refine cx_keep rfl rfl ?_
   refine cx_ops ?_
   refine ax_q (q_mov rfl) ?_
   refine ax_qe (r' := int ((k + 1 : Nat) : Int)) (q_ibin rfl rfl rfl) (by rw [wi (by omega) (by omega)]; rfl) ?_
   refine ax_q (q_mov rfl) ?_
   refine ax_nil ?_
   exact ⟨_, k + 1, by omega, ⟨by omega, rfl⟩, by rw [crcS_succ h0x]; exact (by repeat (first | exact trivial | refine ⟨rfl, ?_⟩ | refine ⟨?_, ?_⟩))⟩
 ·
  have h0 := dF h0
  obtain rfl : k = l.length := by omega
  refine cx_exit rfl ?_
  refine cx_keep rfl rfl ?_
  refine cx_seq ?_
  refine cx_ops ?_
  refine ax_q (q_mov rfl) ?_
  refine ax_qe (r' := int (crcN l)) (q_ibit rfl rfl rfl) (by rw [List.take_length]; exact congrArg AM.int (x64 (b := 4294967295) crcS_lt (by omega))) ?_
  refine ax_q (q_mov rfl) ?_
  refine ax_nil ?_
  refine cx_keep rfl rfl ?_
  refine cx_ret (ret0 rfl rfl ?_)
  exact ⟨rfl, rfl⟩


/- loop.example/g00332/spec.l03Sealed -/
def k_c_l03Sealed : XCode :=
 .seq (.ops [.op (some 2) (.mov (.k (.nils 1)))])
 (.keep [0] (.seq (.ops [.op (some 3) (.mov (.t 0)),
   .op (some 4) (.mov (.t 0)),
   .call (some 5) 94 [.t 4],
   .call (some 6) 83 [.t 5, .k (.int .i64 4)],
   .op (some 7) (.app 1 1 [.int .u8 0] (.t 3) (.t 6)),
   .op (some 2) (.mov (.t 7))])
 (.keep [2] (.ret))))
theorem k_c_l03Sealed_fits : fitsF Try.prog 82 ⟨8, k_c_l03Sealed, [.t 2]⟩ = true := by kernel_rfl
theorem c_l03Sealed {b : Str} (hb : b.length ≤ 1000000) : Con Try.prog (fun e => Nat.beq e 1000) 82 [.osl 1000 1 0 b.length] [(1000, .rows 1 (b.map byteRow))] (fun r h => r = .osl 1000 1 0 (sealB b).length ∧ h = [(1000, .rows 1 ((sealB b).map byteRow))]) := by
 refine con_of2 k_c_l03Sealed_fits rfl fun C hP hmv => ?_
 unfold k_c_l03Sealed
 refine cx_seq ?_
 refine cx_ops ?_
 refine ax_q (q_mov rfl) ?_
 refine ax_nil ?_
 refine cx_keep rfl rfl ?_
 refine cx_seq ?_
 refine cx_ops ?_
 refine ax_q (q_mov rfl) ?_
 refine ax_q (q_mov rfl) ?_
 have hcl := @crcN_lt b
 refine ax_call rfl (vc_lend0 (c_l01Check (l := b) (by omega)) hP (.cons (.lend (lend_whole rfl (by simp))) .nil) rfl rfl ?_)
 first | refine ax_call rfl (vc_pure (c_l01Number (n := (crcN b : Int)) (size := 4) ?_) hP rfl ?_) | refine ax_call rfl (vc_lend (c_l01Number (n := (crcN b : Int)) (size := 4) ?_) hP (by repeat (first | exact lal_id _ rfl | exact LAL.nil | refine LAL.cons ?_ ?_ | exact la_id _ rfl | exact LA.lend (lend_whole rfl (by first | (simp; done) | (rw [List.length_map]; rfl))) | refine LA.agg ?_ | refine LA.fn ?_ | refine LA.lend ?_ | exact Lend.d _ | exact Lend.zs _ | exact lend_whole rfl (by first | (simp; done) | (rw [List.length_map]; rfl)) | refine Lend.ptr rfl ?_ | refine Lend.fn ?_ | exact LendL.nil | refine LendL.cons ?_ ?_)) ?_)
 ·
  first | assumption | omega | (simp; done) | (simp; omega)
 rintro r h ⟨rfl, rfl⟩
 refine ⟨fun i => 6 + 200 * i, [0], ⟨rfl, rfl, rfl, rfl, rfl, (by first | exact (fun h => absurd h Bool.false_ne_true) | exact (fun _ => ⟨rfl, (noisl_of (by repeat (first | exact trivial | refine ⟨noisl_map (fun _ => rfl), ?_⟩ | refine ⟨?_, ?_⟩)))⟩))⟩, ?_⟩
 skip
 refine ax_e (e_appn (n' := (sealB b).length) (rs' := (sealB b).map byteRow) rfl rfl (by simp) rfl (src_osl rfl (by simp)) (.inr (by rw [hmv]; rfl)) (hbnd (by omega) (by rw [len_rows, numT_len]; omega) (by decide)) (by rw [len_rows, seal_len, numT_len]) (by rw [app_rows, numT_4]; rfl)) ?_
 refine ax_q (q_mov rfl) ?_
 refine ax_nil ?_
 refine cx_keep rfl rfl ?_
 refine cx_ret (retN id [1000] rfl rfl rfl rfl rfl ?_)
 exact ⟨rfl, rfl⟩


/- loop.example/g00332/spec.l01Fields -/
def k_c_l01Fields : XCode :=
 .seq (.ops [.op (some 2) (.mov (.k (.nils 1)))])
 (.keep [0] (.seq (.ops [.op (some 5) (.mov (.t 0)),
   .op (some 6) (.lenS (.t 5)),
   .op (some 7) (.conv .u8 (.t 6)),
   .op (some 8) (.bslice 1 [.t 7]),
   .op (some 3) (.mov (.t 8))])
 (.keep [0, 3] (.seq (.seq (.ops [.op (some 4) (.mov (.k (.int .i64 0)))])
  (.keep [0, 3, 4] (.block 0 (.loop (.seq (.seq (.ops [.op (some 9) (.mov (.t 4)),
     .op (some 10) (.mov (.t 0)),
     .op (some 11) (.lenS (.t 10)),
     .op (some 12) (.bin .lss (.t 9) (.t 11))])
   (.keep [0, 3, 4, 12] (.cond (.t 12)
    (.skip)
    (.exit 0))))
   (.keep [0, 3, 4] (.seq (.block 1 (.drawE [[], [], [], [1, 2], [1, 2, 3], [1, 2, 3, 4], [1, 2, 3, 4, 5], [1, 2, 3, 4, 5, 6], [0, 1, 2, 3, 4, 5, 6, 7], [], [], [9, 10], [9, 10, 11], [0, 1, 2, 3, 4, 5, 6, 7, 8, 9, 10, 11, 12], [0, 1, 2, 3, 4, 5, 6, 7, 8, 9, 10, 11, 12, 13]] [.op (some 15) (.mov (.t 3)),
     .op (some 16) (.mov (.t 0)),
     .op (some 17) (.mov (.t 4)),
     .op (some 18) (.iadr 1 (.t 16) (.t 17)),
     .op (some 19) (.load1 (.t 18)),
     .op (some 20) (.lenT (.t 19)),
     .op (some 21) (.conv .u8 (.t 20)),
     .op (some 22) (.bslice 1 [.t 21]),
     .op (some 23) (.app 1 1 [.int .u8 0] (.t 15) (.t 22)),
     .op (some 24) (.mov (.t 0)),
     .op (some 25) (.mov (.t 4)),
     .op (some 26) (.iadr 1 (.t 24) (.t 25)),
     .op (some 27) (.load1 (.t 26))]
    [.op (some 28) (.app 1 1 [.int .u8 0] (.t 23) (.t 27)),
     .op (some 3) (.mov (.t 28))]))
   (.keep [0, 3, 4] (.ops [.op (some 13) (.mov (.t 4)),
    .op (some 14) (.bin .add (.t 13) (.k (.int .i64 1))),
    .op (some 4) (.mov (.t 14))])))))))))
 (.keep [3] (.seq (.ops [.op (some 29) (.mov (.t 3)),
   .op (some 2) (.mov (.t 29))])
 (.keep [2] (.ret))))))))
theorem k_c_l01Fields_fits : fitsF Try.prog 84 ⟨30, k_c_l01Fields, [.t 2]⟩ = true := by kernel_rfl
set_option maxHeartbeats 2000000 in
theorem c_l01Fields {ts : List Str} (ht : ts.length ≤ 255) (hs : ∀ t ∈ ts, t.length ≤ 1000) : Con Try.prog noMv 84 [.d (.sl 1 (ts.map strRow))] [] (fun r h => r = .osl 0 1 0 (putFs [] ts).length ∧ h = [(0, .rows 1 ((putFs [] ts).map byteRow))]) := by
 refine con_of2 k_c_l01Fields_fits rfl fun C hP hmv => ?_
 unfold k_c_l01Fields
 refine cx_seq ?_
 refine cx_ops ?_
 refine ax_q (q_mov rfl) ?_
 refine ax_nil ?_
 refine cx_keep rfl rfl ?_
 refine cx_seq ?_
 refine cx_ops ?_
 refine ax_q (q_mov rfl) ?_
 first | refine ax_q (q_lenS_map rfl) ?_ | refine ax_q (q_lenS_osl rfl) ?_ | refine ax_q (q_lenS_zs rfl) ?_ | refine ax_q (q_lenS rfl) ?_
 first | refine ax_q (q_convB rfl) ?_ | refine ax_q (q_convI rfl (by omega)) ?_ | refine ax_q (q_convU8 rfl) ?_ | refine ax_q (q_conv rfl) ?_
 refine ax_e (e_bslice rfl (by decide) rfl rfl) ?_
 refine ax_q (q_mov rfl) ?_
 refine ax_nil ?_
 refine cx_keep rfl rfl ?_
 refine cx_seq ?_
 refine cx_seq ?_
 refine cx_ops ?_
 refine ax_q (q_mov rfl) ?_
 refine ax_nil ?_
 refine cx_keep rfl rfl ?_
 refine cx_block ?_
 refine cx_loopU (fun n k => k ≤ ts.length ∧ n = ts.length - k) (fun k : Nat => [(3, .osl 8 1 0 (putK [] ts k).length), (4, int k)]) (fun k => [(8, .rows 1 ((putK [] ts k).map byteRow))]) ⟨_, 0, ⟨Nat.zero_le _, rfl⟩, by rw [putK_0]; exact (by repeat (first | exact trivial | refine ⟨rfl, ?_⟩ | refine ⟨?_, ?_⟩))⟩ ?_
 rintro n k ⟨hk, rfl⟩
 have hpl := @putK_len [] ts k
 rw [List.length_nil] at hpl
 have hlk := lenK_le hs k
 refine cx_seq ?_
 refine cx_seq ?_
 refine cx_ops ?_
 refine ax_q (q_mov rfl) ?_
 refine ax_q (q_mov rfl) ?_
 first | refine ax_q (q_lenS_map rfl) ?_ | refine ax_q (q_lenS_osl rfl) ?_ | refine ax_q (q_lenS_zs rfl) ?_ | refine ax_q (q_lenS rfl) ?_
 refine ax_q (q_ibin rfl rfl rfl) ?_
 refine ax_nil ?_
 refine cx_keep rfl rfl ?_
 refine cx_cond rfl (fun h0 => ?_) (fun h0 => ?_)
 ·
  have h0 := dT h0
  have h0x : k < ts.length := by omega
  have hps := putK_succ (b := []) h0x
  have hs1 := hs _ (List.getElem_mem h0x)
  refine cx_skip ?_
  refine cx_keep rfl rfl ?_
  refine cx_seq ?_
  refine cx_block ?_
  refine cx_drawL 8 23 (Nat.beq 8) (nrA 8) [] ([(8, .rows 1 ((putK [] ts k ++ [Go.AM.byteOf ts[k].length]).map byteRow))]) [[3], [0], [4], [16, 17], [18], [19], [20], [21], [15, 22], [0], [4], [24, 25], [26]] [[], [], [], [], [], [], [], [], [8], [8], [8], [8], [8]] rfl ?_
  first | refine ⟨_, .inr ⟨rfl, _, rfl, .inl rfl, loc_q (q_mov rfl)⟩, ?_⟩
  first | refine ⟨_, .inr ⟨rfl, _, rfl, .inl rfl, loc_q (q_mov rfl)⟩, ?_⟩
  first | refine ⟨_, .inr ⟨rfl, _, rfl, .inl rfl, loc_q (q_mov rfl)⟩, ?_⟩
  first | refine ⟨_, .inr ⟨rfl, _, rfl, .inl rfl, loc_q (q_ix rfl rfl (mapAt h0x))⟩, ?_⟩
  first | refine ⟨_, .inr ⟨rfl, _, rfl, .inl rfl, loc_q (q_load1_ptr rfl rfl rfl)⟩, ?_⟩ | refine ⟨_, .inr ⟨rfl, _, rfl, .inl rfl, loc_q (q_load1_ip rfl)⟩, ?_⟩ | refine ⟨_, .inr ⟨rfl, _, rfl, .inl rfl, loc_q (q_load1_rptr rfl rfl rfl rfl)⟩, ?_⟩ | refine ⟨_, .inr ⟨rfl, _, rfl, .inl rfl, loc_q (q_load1_rptr rfl rfl (by assumption) rfl)⟩, ?_⟩ | refine ⟨_, .inr ⟨rfl, _, rfl, .inl rfl, loc_q (q_load1_rptr rfl rfl (mapAt (by first | assumption | omega)) rfl)⟩, ?_⟩
  first | refine ⟨_, .inr ⟨rfl, _, rfl, .inl rfl, loc_q (q_lenT rfl)⟩, ?_⟩
  first | refine ⟨_, .inr ⟨rfl, _, rfl, .inl rfl, loc_q (q_convB rfl)⟩, ?_⟩ | refine ⟨_, .inr ⟨rfl, _, rfl, .inl rfl, loc_q (q_convI rfl (by omega))⟩, ?_⟩ | refine ⟨_, .inr ⟨rfl, _, rfl, .inl rfl, loc_q (q_convU8 rfl)⟩, ?_⟩ | refine ⟨_, .inr ⟨rfl, _, rfl, .inl rfl, loc_q (q_conv rfl)⟩, ?_⟩
  first | refine ⟨_, .inr ⟨rfl, _, rfl, .inl rfl, loc_bslice rfl⟩, ?_⟩
  refine ⟨⟨23, _, []⟩, .inl ⟨rfl, rfl, rfl, locl_app (n' := (putK [] ts k ++ [Go.AM.byteOf ts[k].length]).length) (rs' := (putK [] ts k ++ [Go.AM.byteOf ts[k].length]).map byteRow) rfl rfl (by simp) rfl (fun _ _ h => src_osl (h _ _ rfl) (by simp)) (.inl (by decide)) (hbnd (by omega) (by simp) (by decide)) (by simp) (app1 rfl)⟩, ?_⟩
  first | refine ⟨_, .inr ⟨rfl, _, rfl, .inr ⟨rfl, rfl, .inr rfl, rfl, rfl⟩, loc_q (q_mov rfl)⟩, ?_⟩
  first | refine ⟨_, .inr ⟨rfl, _, rfl, .inr ⟨rfl, rfl, .inr rfl, rfl, rfl⟩, loc_q (q_mov rfl)⟩, ?_⟩
  first | refine ⟨_, .inr ⟨rfl, _, rfl, .inr ⟨rfl, rfl, .inr rfl, rfl, rfl⟩, loc_q (q_ix rfl rfl (mapAt h0x))⟩, ?_⟩
  first | refine ⟨_, .inr ⟨rfl, _, rfl, .inr ⟨rfl, rfl, .inr rfl, rfl, rfl⟩, loc_q (q_load1_ptr rfl rfl rfl)⟩, ?_⟩ | refine ⟨_, .inr ⟨rfl, _, rfl, .inr ⟨rfl, rfl, .inr rfl, rfl, rfl⟩, loc_q (q_load1_ip rfl)⟩, ?_⟩ | refine ⟨_, .inr ⟨rfl, _, rfl, .inr ⟨rfl, rfl, .inr rfl, rfl, rfl⟩, loc_q (q_load1_rptr rfl rfl rfl rfl)⟩, ?_⟩ | refine ⟨_, .inr ⟨rfl, _, rfl, .inr ⟨rfl, rfl, .inr rfl, rfl, rfl⟩, loc_q (q_load1_rptr rfl rfl (by assumption) rfl)⟩, ?_⟩ | refine ⟨_, .inr ⟨rfl, _, rfl, .inr ⟨rfl, rfl, .inr rfl, rfl, rfl⟩, loc_q (q_load1_rptr rfl rfl (mapAt (by first | assumption | omega)) rfl)⟩, ?_⟩
  refine ⟨rfl, ?_⟩
  refine ax_e (e_appn (n' := (putK [] ts (k + 1)).length) (rs' := (putK [] ts (k + 1)).map byteRow) rfl rfl (by simp) rfl (src_str _) (.inl (by decide)) (hbnd (by simp; omega) (by simp; omega) (by decide)) (by rw [hps]; simp; omega) (by rw [hps]; exact app_str)) ?_
  refine ax_q (q_mov rfl) ?_
  refine ax_nil ?_
  refine cx_keep rfl rfl ?_
  refine cx_ops ?_
  refine ax_q (q_mov rfl) ?_
  refine ax_qe (r' := int ((k + 1 : Nat) : Int)) (q_ibin rfl rfl rfl) (by rw [wi (by omega) (by omega)]; rfl) ?_
  refine ax_q (q_mov rfl) ?_
  refine ax_nil ?_
  exact ⟨_, k + 1, by omega, ⟨by omega, rfl⟩, by repeat (first | exact trivial | refine ⟨rfl, ?_⟩ | refine ⟨?_, ?_⟩)⟩
 ·
  have h0 := dF h0
  obtain rfl : k = ts.length := by omega
  refine cx_exit rfl ?_
  refine cx_keep rfl rfl ?_
  refine cx_seq ?_
  refine cx_ops ?_
  refine ax_q (q_mov rfl) ?_
  refine ax_q (q_mov rfl) ?_
  refine ax_nil ?_
  refine cx_keep rfl rfl ?_
  refine cx_ret (retN (fun _ => 0) [8] rfl rfl rfl rfl rfl ?_)
  exact ⟨rfl, rfl⟩


/- loop.example/g00332/spec.l03Bytes -/
def k_c_l03Bytes : XCode :=
 .seq (.ops [.op (some 3) (.box (.t 1)),
   .op (some 4) (.mov (.k (.nils 1)))])
 (.keep [0, 3] (.seq (.drawE [[], [0], [0, 1], [], [3], [3, 4], [0, 1, 2, 3, 4, 5], [], [7], [0, 1, 2, 3, 4, 5, 6, 7, 8], [0, 1, 2, 3, 4, 5, 6, 7, 8, 9], [0, 1, 2, 3, 4, 5, 6, 7, 8, 9, 10], [0, 1, 2, 3, 4, 5, 6, 7, 8, 9, 10, 11]] [.op (some 5) (.mov (.t 0)),
   .op (some 6) (.conv .u8 (.t 5)),
   .op (some 7) (.bslice 1 [.k (.int .u8 112), .t 6]),
   .op (some 8) (.fadr (.t 3) 0),
   .op (some 9) (.load1 (.t 8)),
   .call (some 10) 83 [.t 9, .k (.int .i64 2)],
   .op (some 11) (.app 1 1 [.int .u8 0] (.t 7) (.t 10)),
   .op (some 12) (.fadr (.t 3) 1),
   .op (some 13) (.load1 (.t 12))]
  [.call (some 14) 84 [.t 13],
   .op (some 15) (.app 1 1 [.int .u8 0] (.t 11) (.t 14)),
   .call (some 16) 82 [.t 15],
   .op (some 4) (.mov (.t 16))])
 (.keep [4] (.ret))))
theorem k_c_l03Bytes_fits : fitsF Try.prog 52 ⟨17, k_c_l03Bytes, [.t 4]⟩ = true := by kernel_rfl
theorem c_l03Bytes {no : Int} {p : Page} (hp : PG p) (hn : 0 ≤ no ∧ no ≤ 255) : Con Try.prog noMv 52 [int no, p.av] [] (fun r h => r = .osl 0 1 0 (pbF no p).length ∧ h = [(0, .rows 1 ((pbF no p).map byteRow))]) := by
 refine con_of2 k_c_l03Bytes_fits rfl fun C hP hmv => ?_
 unfold k_c_l03Bytes
 have hp1 := hp.ln
 have hp2 := hp.ls
 have hpok := hp.ok
 have hsl : ∀ t ∈ p.slots, t.length ≤ 1000 := fun t ht => by have := hp.st t ht; omega
 have hpl : (putFs [112, Go.AM.byteOf no, shB p.lsn 8, Go.AM.byteOf p.lsn] p.slots).length ≤ 1000000 := by unfold putFs; rw [putK_len]; have := lenK_le hsl p.slots.length; rw [hp1] at this ⊢; simp only [List.length_cons, List.length_nil]; omega
 have hpl2 : (putFs [] p.slots).length ≤ 1000000 := by unfold putFs; rw [putK_len]; have := lenK_le hsl p.slots.length; rw [hp1] at this ⊢; simp only [List.length_cons, List.length_nil]; omega
 refine cx_seq ?_
 refine cx_ops ?_
 refine ax_e (e_box rfl rfl (by decide) rfl rfl rfl) ?_
 refine ax_q (q_mov rfl) ?_
 refine ax_nil ?_
 refine cx_keep rfl rfl ?_
 refine cx_seq ?_
 refine cx_drawL 6 11 (Nat.beq 7) (nrA 7) [] ([(7, .rows 1 (([112, Go.AM.byteOf no, shB p.lsn 8, Go.AM.byteOf p.lsn] : Str).map byteRow))]) [[0], [5], [6], [3], [8], [9], [7, 10], [3], [12]] [[], [], [], [], [], [], [7], [7], [7]] rfl ?_
 first | refine ⟨_, .inr ⟨rfl, _, rfl, .inl rfl, loc_q (q_mov rfl)⟩, ?_⟩
 first | refine ⟨_, .inr ⟨rfl, _, rfl, .inl rfl, loc_q (q_convB rfl)⟩, ?_⟩ | refine ⟨_, .inr ⟨rfl, _, rfl, .inl rfl, loc_q (q_convI rfl (by omega))⟩, ?_⟩ | refine ⟨_, .inr ⟨rfl, _, rfl, .inl rfl, loc_q (q_convU8 rfl)⟩, ?_⟩ | refine ⟨_, .inr ⟨rfl, _, rfl, .inl rfl, loc_q (q_conv rfl)⟩, ?_⟩
 first | refine ⟨_, .inr ⟨rfl, _, rfl, .inl rfl, loc_bslice rfl⟩, ?_⟩
 first | refine ⟨_, .inr ⟨rfl, _, rfl, .inl rfl, loc_q (q_fadr_ptr rfl)⟩, ?_⟩
 first | refine ⟨_, .inr ⟨rfl, _, rfl, .inl rfl, loc_q (q_load1_ptr rfl rfl rfl)⟩, ?_⟩
 first | refine ⟨_, .inr ⟨rfl, _, rfl, .inl rfl, loc_call (fun i => 10 + 200 * i) false rfl (c_l01Number  (by first | assumption | omega | (simp; done) | (simp; omega))) hP (.inr ⟨rfl, rfl, rfl⟩) rfl rfl (fun h => by cases h)⟩, ?_⟩ | refine ⟨_, .inr ⟨rfl, _, rfl, .inl rfl, loc_call (fun i => 10 + 200 * i) true rfl (c_l01Number  (by first | assumption | omega | (simp; done) | (simp; omega))) hP (.inl ⟨rfl, (by repeat (first | exact lal_id _ rfl | exact LAL.nil | refine LAL.cons ?_ ?_ | exact la_id _ rfl | exact LA.lend (lend_whole rfl (by first | (simp; done) | (rw [List.length_map]; rfl))) | refine LA.agg ?_ | refine LA.fn ?_ | refine LA.lend ?_ | exact Lend.d _ | exact Lend.zs _ | exact lend_whole rfl (by first | (simp; done) | (rw [List.length_map]; rfl)) | refine Lend.ptr rfl ?_ | refine Lend.fn ?_ | exact LendL.nil | refine LendL.cons ?_ ?_))⟩) rfl rfl (fun _ => ⟨rfl, noisl_of (by repeat (first | exact trivial | refine ⟨noisl_map (fun _ => rfl), ?_⟩ | refine ⟨?_, ?_⟩))⟩)⟩, ?_⟩
 refine ⟨⟨11, _, []⟩, .inl ⟨rfl, rfl, rfl, locl_app (n' := 4) (rs' := ([112, Go.AM.byteOf no, shB p.lsn 8, Go.AM.byteOf p.lsn] : Str).map byteRow) rfl rfl (by simp) rfl (fun _ _ h => src_osl (h _ _ rfl) (by simp)) (.inl (by decide)) (hbnd (by simp) (by rw [len_rows, numT_len]; decide) (by decide)) (by rw [len_rows, numT_len]; rfl) ((app_rows (x := [112, Go.AM.byteOf no])).trans (by rw [numT_2]; rfl))⟩, ?_⟩
 first | refine ⟨_, .inr ⟨rfl, _, rfl, .inr ⟨rfl, rfl, .inr rfl, rfl, rfl⟩, loc_q (q_fadr_ptr rfl)⟩, ?_⟩
 first | refine ⟨_, .inr ⟨rfl, _, rfl, .inr ⟨rfl, rfl, .inr rfl, rfl, rfl⟩, loc_q (q_load1_ptr rfl rfl rfl)⟩, ?_⟩
 refine ⟨rfl, ?_⟩
 first | refine ax_call rfl (vc_pure (c_l01Fields  ?_ ?_) hP rfl ?_) | refine ax_call rfl (vc_lend (c_l01Fields  ?_ ?_) hP (by repeat (first | exact lal_id _ rfl | exact LAL.nil | refine LAL.cons ?_ ?_ | exact la_id _ rfl | exact LA.lend (lend_whole rfl (by first | (simp; done) | (rw [List.length_map]; rfl))) | refine LA.agg ?_ | refine LA.fn ?_ | refine LA.lend ?_ | exact Lend.d _ | exact Lend.zs _ | exact lend_whole rfl (by first | (simp; done) | (rw [List.length_map]; rfl)) | refine Lend.ptr rfl ?_ | refine Lend.fn ?_ | exact LendL.nil | refine LendL.cons ?_ ?_)) ?_)
 ·
  first | assumption | omega | (simp; done) | (simp; omega)
 ·
  first | assumption | omega | (simp; done) | (simp; omega)
 rintro r h ⟨rfl, rfl⟩
 refine ⟨fun i => 14 + 200 * i, [0], ⟨rfl, rfl, rfl, rfl, rfl, (by first | exact (fun h => absurd h Bool.false_ne_true) | exact (fun _ => ⟨rfl, (noisl_of (by repeat (first | exact trivial | refine ⟨noisl_map (fun _ => rfl), ?_⟩ | refine ⟨?_, ?_⟩)))⟩))⟩, ?_⟩
 skip
 refine ax_e (e_appn (n' := (putFs [112, Go.AM.byteOf no, shB p.lsn 8, Go.AM.byteOf p.lsn] p.slots).length) (rs' := (putFs [112, Go.AM.byteOf no, shB p.lsn 8, Go.AM.byteOf p.lsn] p.slots).map byteRow) rfl rfl (by simp) rfl (src_osl rfl (by simp)) (.inl (by decide)) (hbnd (by simp) (by rw [len_rows]; omega) (by decide)) (by rw [len_rows, putFs_len (b := [112, Go.AM.byteOf no, shB p.lsn 8, Go.AM.byteOf p.lsn])]; rfl) ((app_rows (x := [112, Go.AM.byteOf no, shB p.lsn 8, Go.AM.byteOf p.lsn])).trans (by rw [putFs_app]))) ?_
 refine ax_call rfl (vcall_own (c_l03Sealed (b := putFs [112, Go.AM.byteOf no, shB p.lsn 8, Go.AM.byteOf p.lsn] p.slots) hpl) hP hmv false (fun _ => 7) [1000] ⟨rfl, rfl, rfl, rfl, ⟨rfl, trivial⟩, rfl, rfl, rfl⟩ (.pass rfl rfl .nil) ?_)
 rintro r h ⟨rfl, rfl⟩
 refine ⟨fun _ => 7, [], ⟨rfl, rfl, rfl, rfl, mem1 rfl, rfl, rfl, fun h => absurd h Bool.false_ne_true⟩, ?_⟩
 refine ax_q (q_mov rfl) ?_
 refine ax_nil ?_
 refine cx_keep rfl rfl ?_
 refine cx_ret (retN (fun _ => 0) [7] rfl rfl rfl rfl rfl ?_)
 exact ⟨rfl, rfl⟩


/- loop.example/g00332/spec.PageBytes -/
def k_c_sPageBytes : XCode :=
 .seq (.ops [.op (some 3) (.box (.t 1)),
   .op (some 4) (.mov (.k (.nils 1))),
   .op (some 5) (.mov (.k (.int .i64 0)))])
 (.keep [0, 3] (.seq (.seq (.ops [.op (some 6) (.loadN 2 (.t 3)),
   .call (some 7) 46 [.t 6],
   .op (some 8) (.not (.t 7))])
  (.keep [0, 3, 8] (.cond (.t 8)
  (.seq (.ops [.op (some 9) (.bslice 1 []),
    .op (some 4) (.mov (.t 9)),
    .op (some 5) (.mov (.k (.int .i64 1)))])
   (.keep [4, 5] (.ret)))
  (.skip))))
 (.keep [0, 3] (.seq (.seq (.ops [.op (some 10) (.mov (.t 0)),
   .call (some 11) 47 [.t 10, .k (.int .i64 0), .k (.int .i64 255)],
   .op (some 12) (.not (.t 11))])
  (.keep [0, 3, 12] (.cond (.t 12)
  (.seq (.ops [.op (some 13) (.bslice 1 []),
    .op (some 4) (.mov (.t 13)),
    .op (some 5) (.mov (.k (.int .i64 4)))])
   (.keep [4, 5] (.ret)))
  (.skip))))
 (.keep [0, 3] (.seq (.ops [.op (some 14) (.mov (.t 0)),
   .op (some 15) (.loadN 2 (.t 3)),
   .call (some 16) 52 [.t 14, .t 15],
   .op (some 4) (.mov (.t 16)),
   .op (some 5) (.mov (.k (.int .i64 0)))])
 (.keep [4, 5] (.ret))))))))
theorem k_c_sPageBytes_fits : fitsF Try.prog 20 ⟨17, k_c_sPageBytes, [.t 4, .t 5]⟩ = true := by kernel_rfl
theorem c_sPageBytes {no : Int} {p : Page} (hp : PG p) (hn : 0 ≤ no ∧ no ≤ 255) : Con Try.prog noMv 20 [int no, p.av] [] (fun r h => r = .tup [.osl 0 1 0 (pbF no p).length, int 0] ∧ h = [(0, .rows 1 ((pbF no p).map byteRow))]) := by
 refine con_of2 k_c_sPageBytes_fits rfl fun C hP hmv => ?_
 unfold k_c_sPageBytes
 have hp1 := hp.ln
 have hp2 := hp.ls
 have hpok := hp.ok
 have hsl : ∀ t ∈ p.slots, t.length ≤ 1000 := fun t ht => by have := hp.st t ht; omega
 refine cx_seq ?_
 refine cx_ops ?_
 refine ax_e (e_box rfl rfl (by decide) rfl rfl rfl) ?_
 refine ax_q (q_mov rfl) ?_
 refine ax_q (q_mov rfl) ?_
 refine ax_nil ?_
 refine cx_keep rfl rfl ?_
 refine cx_seq ?_
 refine cx_seq ?_
 refine cx_ops ?_
 refine ax_q (q_ldN rfl rfl rfl) ?_
 first | refine ax_call rfl (vc_pure0 (c_sPageOK  ?_) hP rfl rfl ?_) | refine ax_call rfl (vc_lend0 (c_sPageOK  ?_) hP (by repeat (first | exact lal_id _ rfl | exact LAL.nil | refine LAL.cons ?_ ?_ | exact la_id _ rfl | exact LA.lend (lend_whole rfl (by first | (simp; done) | (rw [List.length_map]; rfl))) | refine LA.agg ?_ | refine LA.fn ?_ | refine LA.lend ?_ | exact Lend.d _ | exact Lend.zs _ | exact lend_whole rfl (by first | (simp; done) | (rw [List.length_map]; rfl)) | refine Lend.ptr rfl ?_ | refine Lend.fn ?_ | exact LendL.nil | refine LendL.cons ?_ ?_)) rfl rfl ?_)
 ·
  first | assumption | omega | (simp; done) | (simp; omega)
 refine ax_q (q_not rfl) ?_
 refine ax_nil ?_
 refine cx_keep rfl rfl ?_
 refine cx_cond rfl (fun h0 => ?_) (fun h0 => ?_)
 ·
  have h0 := bT h0
  exfalso; rw [hpok] at h0; cases h0
 ·
  have h0 := bF h0
  refine cx_skip ?_
  refine cx_keep rfl rfl ?_
  refine cx_seq ?_
  refine cx_seq ?_
  refine cx_ops ?_
  refine ax_q (q_mov rfl) ?_
  first | refine ax_call rfl (vc_pure0 (c_l01In  ) hP rfl rfl ?_) | refine ax_call rfl (vc_lend0 (c_l01In  ) hP (by repeat (first | exact lal_id _ rfl | exact LAL.nil | refine LAL.cons ?_ ?_ | exact la_id _ rfl | exact LA.lend (lend_whole rfl (by first | (simp; done) | (rw [List.length_map]; rfl))) | refine LA.agg ?_ | refine LA.fn ?_ | refine LA.lend ?_ | exact Lend.d _ | exact Lend.zs _ | exact lend_whole rfl (by first | (simp; done) | (rw [List.length_map]; rfl)) | refine Lend.ptr rfl ?_ | refine Lend.fn ?_ | exact LendL.nil | refine LendL.cons ?_ ?_)) rfl rfl ?_)
  refine ax_q (q_not rfl) ?_
  refine ax_nil ?_
  refine cx_keep rfl rfl ?_
  refine cx_cond rfl (fun h1 => ?_) (fun h1 => ?_)
  ·
   have h1 := bT h1
   exfalso; rw [inR_iff.2 hn] at h1; cases h1
  ·
   have h1 := bF h1
   refine cx_skip ?_
   refine cx_keep rfl rfl ?_
   refine cx_seq ?_
   refine cx_ops ?_
   refine ax_q (q_mov rfl) ?_
   refine ax_q (q_ldN rfl rfl rfl) ?_
   first | refine ax_call rfl (vc_pure (c_l03Bytes  ?_ ?_) hP rfl ?_) | refine ax_call rfl (vc_lend (c_l03Bytes  ?_ ?_) hP (by repeat (first | exact lal_id _ rfl | exact LAL.nil | refine LAL.cons ?_ ?_ | exact la_id _ rfl | exact LA.lend (lend_whole rfl (by first | (simp; done) | (rw [List.length_map]; rfl))) | refine LA.agg ?_ | refine LA.fn ?_ | refine LA.lend ?_ | exact Lend.d _ | exact Lend.zs _ | exact lend_whole rfl (by first | (simp; done) | (rw [List.length_map]; rfl)) | refine Lend.ptr rfl ?_ | refine Lend.fn ?_ | exact LendL.nil | refine LendL.cons ?_ ?_)) ?_)
   ·
    first | assumption | omega | (simp; done) | (simp; omega)
   ·
    first | assumption | omega | (simp; done) | (simp; omega)
   rintro r h ⟨rfl, rfl⟩
   refine ⟨fun i => 16 + 200 * i, [0], ⟨rfl, rfl, rfl, rfl, rfl, (by first | exact (fun h => absurd h Bool.false_ne_true) | exact (fun _ => ⟨rfl, (noisl_of (by repeat (first | exact trivial | refine ⟨noisl_map (fun _ => rfl), ?_⟩ | refine ⟨?_, ?_⟩)))⟩))⟩, ?_⟩
   skip
   refine ax_q (q_mov rfl) ?_
   refine ax_q (q_mov rfl) ?_
   refine ax_nil ?_
   refine cx_keep rfl rfl ?_
   refine cx_ret (retN (fun _ => 0) [16] rfl rfl rfl rfl rfl ?_)
   exact ⟨rfl, rfl⟩


/- loop.example/g00332/impl.big -/
def k_c_big : XCode :=
 .seq (.ops [.op (some 2) (.mov (.k (.int .i64 0)))])
 (.keep [0] (.seq (.ops [.op (some 3) (.mov (.k (.int .i64 0)))])
 (.keep [0, 3] (.seq (.seq (.ops [.op (some 6) (.mov (.t 0)),
   .op (some 7) (.lenS (.t 6)),
   .op (some 8) (.mov (.k (.int .i64 0)))])
  (.keep [3, 6, 7, 8] (.block 0 (.loop (.seq (.ops [.op (some 9) (.bin .lss (.t 8) (.t 7))])
   (.keep [3, 6, 7, 8, 9] (.seq (.cond (.t 9)
    (.skip)
    (.exit 0))
   (.keep [3, 6, 7, 8] (.seq (.block 1 (.seq (.ops [.op (some 10) (.iadr 1 (.t 6) (.t 8)),
     .op (some 11) (.load1 (.t 10)),
     .op (some 5) (.mov (.t 11))])
    (.keep [3, 5, 6, 7, 8] (.ops [.op (some 12) (.mov (.t 3)),
     .op (some 13) (.bin .shl (.t 12) (.k (.int .u64 8))),
     .op (some 14) (.mov (.t 5)),
     .op (some 15) (.conv .i64 (.t 14)),
     .op (some 16) (.bin .or (.t 13) (.t 15)),
     .op (some 3) (.mov (.t 16))]))))
   (.keep [3, 6, 7, 8] (.ops [.op (some 17) (.bin .add (.t 8) (.k (.int .i64 1))),
    .op (some 8) (.mov (.t 17))])))))))))))
 (.keep [3] (.seq (.ops [.op (some 18) (.mov (.t 3)),
   .op (some 2) (.mov (.t 18))])
 (.keep [2] (.ret))))))))
theorem k_c_big_fits : fitsF Try.prog 55 ⟨19, k_c_big, [.t 2]⟩ = true := by kernel_rfl
theorem c_big {l : Str} (hl : l.length ≤ 4) : Con Try.prog noMv 55 [.d (.sl 1 (l.map byteRow))] [] (fun r h => r = int (bigN l) ∧ h = []) := by
 refine con_of2 k_c_big_fits rfl fun C hP hmv => ?_
 unfold k_c_big
 refine cx_seq ?_
 refine cx_ops ?_
 refine ax_q (q_mov rfl) ?_
 refine ax_nil ?_
 refine cx_keep rfl rfl ?_
 refine cx_seq ?_
 refine cx_ops ?_
 refine ax_q (q_mov rfl) ?_
 refine ax_nil ?_
 refine cx_keep rfl rfl ?_
 refine cx_seq ?_
 refine cx_seq ?_
 refine cx_ops ?_
 refine ax_q (q_mov rfl) ?_
 first | refine ax_q (q_lenS_map rfl) ?_ | refine ax_q (q_lenS_osl rfl) ?_ | refine ax_q (q_lenS_zs rfl) ?_ | refine ax_q (q_lenS rfl) ?_
 refine ax_q (q_mov rfl) ?_
 refine ax_nil ?_
 refine cx_keep rfl rfl ?_
 refine cx_block ?_
 refine cx_loopU (fun n k => k ≤ l.length ∧ n = l.length - k) (fun k : Nat => [(3, int (bigN (l.take k))), (8, int k)]) (fun _ => []) ⟨_, 0, ⟨Nat.zero_le _, rfl⟩, by repeat (first | exact trivial | refine ⟨rfl, ?_⟩ | refine ⟨?_, ?_⟩)⟩ ?_
 rintro n k ⟨hk, rfl⟩
 refine cx_seq ?_
 refine cx_ops ?_
 refine ax_q (q_ibin rfl rfl rfl) ?_
 refine ax_nil ?_
 refine cx_keep rfl rfl ?_
 refine cx_seq ?_
 refine cx_cond rfl (fun h0 => ?_) (fun h0 => ?_)
 ·
  have h0 := dT h0
  have h0x : k < l.length := by omega
  have hlt := bigN_lt3 hl h0x
  refine cx_skip ?_
  refine cx_keep rfl rfl ?_
  refine cx_seq ?_
  refine cx_block ?_
  refine cx_seq ?_
  refine cx_ops ?_
  refine ax_q (q_ix rfl rfl (mapAt h0x)) ?_
  first | refine ax_q (q_load1_ptr rfl rfl rfl) ?_ | refine ax_q (q_load1_ip rfl) ?_ | refine ax_q (q_load1_rptr rfl rfl rfl rfl) ?_ | refine ax_q (q_load1_rptr rfl rfl (by assumption) rfl) ?_ | refine ax_q (q_load1_rptr rfl rfl (mapAt (by first | assumption | omega)) rfl) ?_
  refine ax_q (q_mov rfl) ?_
  refine ax_nil ?_
  refine cx_keep rfl rfl ?_
  refine cx_ops ?_
  refine ax_q (q_mov rfl) ?_
  refine ax_qe (r' := int ((bigN (l.take k) * 256 : Nat) : Int)) (q_ishf rfl rfl rfl (by omega)) (by exact congrArg AM.int (shlW hlt)) ?_
  refine ax_q (q_mov rfl) ?_
  first | refine ax_q (q_convB rfl) ?_ | refine ax_q (q_convI rfl (by omega)) ?_ | refine ax_q (q_convU8 rfl) ?_ | refine ax_q (q_conv rfl) ?_
  refine ax_qe (r' := int ((bigN (l.take k) * 256 + l[k].toNat : Nat) : Int)) (q_ibit rfl rfl rfl) (congrArg AM.int (orW hlt)) ?_
  refine ax_q (q_mov rfl) ?_
  refine ax_nil ?_
  refine cx_keep rfl rfl ?_
  refine cx_ops ?_
  refine ax_qe (r' := int ((k + 1 : Nat) : Int)) (q_ibin rfl rfl rfl) (by rw [wi (by omega) (by omega)]; rfl) ?_
  refine ax_q (q_mov rfl) ?_
  refine ax_nil ?_
  exact ⟨_, k + 1, by omega, ⟨by omega, rfl⟩, by rw [bigN_succ h0x]; exact (by repeat (first | exact trivial | refine ⟨rfl, ?_⟩ | refine ⟨?_, ?_⟩))⟩
 ·
  have h0 := dF h0
  obtain rfl : k = l.length := by omega
  rw [List.take_length]
  refine cx_exit rfl ?_
  refine cx_keep rfl rfl ?_
  refine cx_seq ?_
  refine cx_ops ?_
  refine ax_q (q_mov rfl) ?_
  refine ax_q (q_mov rfl) ?_
  refine ax_nil ?_
  refine cx_keep rfl rfl ?_
  refine cx_ret (ret0 rfl rfl ?_)
  exact ⟨rfl, rfl⟩


/- loop.example/g00332/impl.unsealed -/
def k_c_unsealed : XCode :=
 .seq (.ops [.op (some 2) (.mov (.k (.nils 1))),
   .op (some 3) (.mov (.k (.bool false)))])
 (.keep [0] (.seq (.ops [.op (some 5) (.mov (.t 0)),
   .op (some 6) (.lenS (.t 5)),
   .op (some 7) (.bin .sub (.t 6) (.k (.int .i64 4))),
   .op (some 4) (.mov (.t 7))])
 (.keep [0, 4] (.seq (.seq (.draw [.op (some 8) (.mov (.t 4)),
   .op (some 9) (.bin .lss (.t 8) (.k (.int .i64 0))),
   .op (some 10) (.mov (.t 9)),
   .andor 21 false 2 10 [.op (some 11) (.mov (.t 0)), .op (some 12) (.mov (.t 4)), .op (some 13) (.slc 1 (.t 11) none (some (.t 12)) none), .call (some 14) 85 [.t 13], .op (some 15) (.conv .i64 (.t 14)), .op (some 16) (.mov (.t 0)), .op (some 17) (.mov (.t 4)), .op (some 18) (.slc 1 (.t 16) (some (.t 17)) none none), .call (some 19) 55 [.t 18], .op (some 20) (.bin .neq (.t 15) (.t 19))] (.t 20)])
  (.keep [0, 4, 21] (.cond (.t 21)
  (.seq (.ops [.op (some 2) (.mov (.k (.nils 1))),
    .op (some 3) (.mov (.k (.bool false)))])
   (.keep [2, 3] (.ret)))
  (.skip))))
 (.keep [0, 4] (.seq (.ops [.op (some 22) (.mov (.t 0)),
   .op (some 23) (.mov (.t 4)),
   .op (some 24) (.slc 1 (.t 22) none (some (.t 23)) none),
   .op (some 2) (.mov (.t 24)),
   .op (some 3) (.mov (.k (.bool true)))])
 (.keep [2, 3] (.ret))))))))
theorem k_c_unsealed_fits : fitsF Try.prog 53 ⟨25, k_c_unsealed, [.t 2, .t 3]⟩ = true := by kernel_rfl
theorem c_unsealed {l : Str} (hl : l.length ≤ 1048576) : Con Try.prog noMv 53 [.d (.sl 1 (l.map byteRow))] [] (fun r h => r = .tup [.d (.sl 1 ((unsealF l).1.map byteRow)), bool (unsealF l).2] ∧ h = []) := by
 refine con_of2 k_c_unsealed_fits rfl fun C hP hmv => ?_
 unfold k_c_unsealed
 refine cx_seq ?_
 refine cx_ops ?_
 refine ax_q (q_mov rfl) ?_
 refine ax_q (q_mov rfl) ?_
 refine ax_nil ?_
 refine cx_keep rfl rfl ?_
 refine cx_seq ?_
 refine cx_ops ?_
 refine ax_q (q_mov rfl) ?_
 first | refine ax_q (q_lenS_map rfl) ?_ | refine ax_q (q_lenS_osl rfl) ?_ | refine ax_q (q_lenS_zs rfl) ?_ | refine ax_q (q_lenS rfl) ?_
 have hcl := @crcN_lt (l.take (l.length - 4))
 refine ax_qe (r' := int ((l.length : Int) - 4)) (q_ibin rfl rfl rfl) (by rw [wi (by omega) (by omega)]) ?_
 refine ax_q (q_mov rfl) ?_
 refine ax_nil ?_
 refine cx_keep rfl rfl ?_
 refine cx_seq ?_
 refine cx_seq ?_
 refine cx_draw ?_
 refine ax_q (q_mov rfl) ?_
 refine ax_q (q_ibin rfl rfl rfl) ?_
 refine ax_q (q_mov rfl) ?_
 apply ax_or rfl rfl
 ·
  intro g
  have g := dF g
  refine ax_q (q_mov rfl) ?_
  refine ax_q (q_mov rfl) ?_
  refine ax_qe (r' := .d (.sl 1 ((l.take (l.length - 4)).map byteRow))) (q_slc rfl rfl rfl (by omega) (by omega) (by simp; omega)) (slc_take (by omega)) ?_
  first | refine ax_callq rfl (c_check32 (l := l.take (l.length - 4)) ?_) hP (lal_id _ rfl) rfl ?_ | refine ax_callq rfl (c_check32 (l := l.take (l.length - 4)) ?_) hP (by repeat (first | exact lal_id _ rfl | exact LAL.nil | refine LAL.cons ?_ ?_ | exact la_id _ rfl | exact LA.lend (lend_whole rfl (by first | (simp; done) | (rw [List.length_map]; rfl))) | refine LA.agg ?_ | refine LA.fn ?_ | refine LA.lend ?_ | exact Lend.d _ | exact Lend.zs _ | exact lend_whole rfl (by first | (simp; done) | (rw [List.length_map]; rfl)) | refine Lend.ptr rfl ?_ | refine Lend.fn ?_ | exact LendL.nil | refine LendL.cons ?_ ?_)) rfl ?_
  ·
   simp; omega
  first | refine ax_q (q_convB rfl) ?_ | refine ax_q (q_convI rfl (by omega)) ?_ | refine ax_q (q_convU8 rfl) ?_ | refine ax_q (q_conv rfl) ?_
  refine ax_q (q_mov rfl) ?_
  refine ax_q (q_mov rfl) ?_
  refine ax_qe (r' := .d (.sl 1 ((l.drop (l.length - 4)).map byteRow))) (q_slc rfl rfl rfl (by omega) (by simp; omega) (by simp)) (slc_drop2 (by omega)) ?_
  first | refine ax_callq rfl (c_big (l := l.drop (l.length - 4)) ?_) hP (lal_id _ rfl) rfl ?_ | refine ax_callq rfl (c_big (l := l.drop (l.length - 4)) ?_) hP (by repeat (first | exact lal_id _ rfl | exact LAL.nil | refine LAL.cons ?_ ?_ | exact la_id _ rfl | exact LA.lend (lend_whole rfl (by first | (simp; done) | (rw [List.length_map]; rfl))) | refine LA.agg ?_ | refine LA.fn ?_ | refine LA.lend ?_ | exact Lend.d _ | exact Lend.zs _ | exact lend_whole rfl (by first | (simp; done) | (rw [List.length_map]; rfl)) | refine Lend.ptr rfl ?_ | refine Lend.fn ?_ | exact LendL.nil | refine LendL.cons ?_ ?_)) rfl ?_
  ·
   simp; omega
  refine ax_q (q_ibin rfl rfl rfl) ?_
  exact ax_nil ⟨rfl, by repeat (first | exact trivial | refine ⟨rfl, ?_⟩ | refine ⟨?_, ?_⟩)⟩
 refine ax_nil ?_
 refine cx_keep rfl rfl ?_
 refine cx_cond rfl (fun h0 => ?_) (fun h0 => ?_)
 ·
  have h0 := (fun h => (or_T h).imp dT nT) h0
  refine cx_seq ?_
  refine cx_ops ?_
  refine ax_q (q_mov rfl) ?_
  refine ax_q (q_mov rfl) ?_
  refine ax_nil ?_
  refine cx_keep rfl rfl ?_
  refine cx_wk (wk_virt 900 1 rfl rfl rfl) ?_
  refine cx_wk (wk_zs 2 900 [] rfl rfl) ?_
  refine cx_wk (wk_frz 2 900 rfl rfl (.whole rfl) rfl) ?_
  refine cx_ret (retN id [] rfl rfl rfl rfl rfl ?_)
  rw [unseal_1 h0]; exact ⟨rfl, rfl⟩
 ·
  have h0 := (fun h => And.intro (dF (or_F h).1) (nF (or_F h).2)) h0
  refine cx_skip ?_
  refine cx_keep rfl rfl ?_
  refine cx_seq ?_
  refine cx_ops ?_
  refine ax_q (q_mov rfl) ?_
  refine ax_q (q_mov rfl) ?_
  refine ax_qe (r' := .d (.sl 1 ((l.take (l.length - 4)).map byteRow))) (q_slc rfl rfl rfl (by omega) (by omega) (by simp; omega)) (slc_take (by omega)) ?_
  refine ax_q (q_mov rfl) ?_
  refine ax_q (q_mov rfl) ?_
  refine ax_nil ?_
  refine cx_keep rfl rfl ?_
  refine cx_ret (ret0 rfl rfl ?_)
  exact ⟨by rw [unseal_2 (fun h => h.elim h0.1 (fun q => q h0.2))]; rfl, rfl⟩


/- (ptr loop.example/g00332/impl.byteReader).take -/
def k_c_take : XCode :=
 .seq (.ops [.op (some 4) (.mov (.k (.nils 1)))])
 (.keep [0, 1] (.seq (.seq (.ops [.op (some 6) (.mov (.t 1)),
   .op (some 7) (.mov (.t 0)),
   .op (some 8) (.nilck (.t 7)),
   .op (some 9) (.fadr (.t 8) 0),
   .op (some 10) (.load1 (.t 9)),
   .op (some 11) (.lenS (.t 10)),
   .op (some 12) (.bin .gtr (.t 6) (.t 11))])
  (.keep [0, 1, 12] (.cond (.t 12)
  (.seq (.ops [.op (some 13) (.mov (.t 0)),
    .op (some 14) (.nilck (.t 13)),
    .op (some 15) (.fadr (.t 14) 1),
    .op none (.store 1 (.t 15) (.k (.bool true)))])
   (.keep [1] (.seq (.ops [.op (some 16) (.mov (.t 1)),
    .op (some 17) (.mkslice 1 1 [.int .u8 0] (.t 16) (.t 16)),
    .op (some 4) (.mov (.t 17))])
   (.keep [4] (.ret)))))
  (.skip))))
 (.keep [0, 1] (.seq (.ops [.op (some 18) (.mov (.t 0)),
   .op (some 19) (.nilck (.t 18)),
   .op (some 20) (.fadr (.t 19) 0),
   .op (some 21) (.load1 (.t 20)),
   .op (some 22) (.mov (.t 1)),
   .op (some 23) (.slc 1 (.t 21) none (some (.t 22)) none),
   .op (some 5) (.mov (.t 23))])
 (.keep [0, 1, 5] (.seq (.ops [.op (some 24) (.mov (.t 0)),
   .op (some 25) (.mov (.t 0)),
   .op (some 26) (.nilck (.t 25)),
   .op (some 27) (.fadr (.t 26) 0),
   .op (some 28) (.load1 (.t 27)),
   .op (some 29) (.mov (.t 1)),
   .op (some 30) (.slc 1 (.t 28) (some (.t 29)) none none),
   .op (some 31) (.nilck (.t 24)),
   .op (some 32) (.fadr (.t 31) 0),
   .op none (.store 1 (.t 32) (.t 30))])
 (.keep [5] (.seq (.ops [.op (some 33) (.mov (.t 5)),
   .op (some 4) (.mov (.t 33))])
 (.keep [4] (.ret))))))))))
theorem k_c_take_fits : fitsF Try.prog 54 ⟨34, k_c_take, [.t 4]⟩ = true := by kernel_rfl
theorem c_take {r0 : Rd} {n : Nat} (hn : n ≤ 1048576) (hl : r0.rest.length ≤ 1048576) : Con Try.prog noMv 54 [.ptr 1000 0, int n] [(1000, r0.box)] (fun r h => r = .d (.sl 1 ((takeF r0 n).1.map byteRow)) ∧ h = [(1000, ((takeF r0 n).2).box)]) := by
 refine con_of2 k_c_take_fits rfl fun C hP hmv => ?_
 unfold k_c_take
 refine cx_seq ?_
 refine cx_ops ?_
 refine ax_q (q_mov rfl) ?_
 refine ax_nil ?_
 refine cx_keep rfl rfl ?_
 refine cx_seq ?_
 refine cx_seq ?_
 refine cx_ops ?_
 refine ax_q (q_mov rfl) ?_
 refine ax_q (q_mov rfl) ?_
 first | refine ax_q (q_nilck_ptr rfl) ?_ | refine ax_q (q_nilck_rptr rfl) ?_ | refine ax_q (q_nilck_ip rfl) ?_
 first | refine ax_q (q_fadr_ptr rfl) ?_ | refine ax_q (q_fadr_rptr rfl) ?_ | refine ax_q (q_fadr_ip rfl) ?_
 first | refine ax_q (q_load1_ptr rfl rfl rfl) ?_ | refine ax_q (q_load1_ip rfl) ?_ | refine ax_q (q_load1_rptr rfl rfl rfl rfl) ?_ | refine ax_q (q_load1_rptr rfl rfl (by assumption) rfl) ?_ | refine ax_q (q_load1_rptr rfl rfl (mapAt (by first | assumption | omega)) rfl) ?_
 first | refine ax_q (q_lenS_map rfl) ?_ | refine ax_q (q_lenS_osl rfl) ?_ | refine ax_q (q_lenS_zs rfl) ?_ | refine ax_q (q_lenS rfl) ?_
 refine ax_q (q_ibin rfl rfl rfl) ?_
 refine ax_nil ?_
 refine cx_keep rfl rfl ?_
 refine cx_cond rfl (fun h0 => ?_) (fun h0 => ?_)
 ·
  have h0 := dT h0
  refine cx_seq ?_
  refine cx_ops ?_
  refine ax_q (q_mov rfl) ?_
  first | refine ax_q (q_nilck_ptr rfl) ?_ | refine ax_q (q_nilck_rptr rfl) ?_ | refine ax_q (q_nilck_ip rfl) ?_
  first | refine ax_q (q_fadr_ptr rfl) ?_ | refine ax_q (q_fadr_rptr rfl) ?_ | refine ax_q (q_fadr_ip rfl) ?_
  refine ax_e (e_st rfl rfl rfl rfl rfl rfl rfl) ?_
  refine ax_nil ?_
  refine cx_keep rfl rfl ?_
  refine cx_seq ?_
  refine cx_ops ?_
  refine ax_q (q_mov rfl) ?_
  refine ax_ee (st'' := ⟨(17, .osl 17 1 0 n) :: _, (17, .rows 1 ((List.replicate n (0 : UInt8)).map byteRow)) :: _⟩) (e_mkslice rfl rfl rfl (by omega) (by omega) (by omega) (by decide) rfl rfl) (by rw [Int.toNat_natCast, List.map_replicate]; rfl) ?_
  refine ax_q (q_mov rfl) ?_
  refine ax_nil ?_
  refine cx_keep rfl rfl ?_
  refine cx_wk (wk_frz 4 17 rfl rfl (.whole (by simp)) rfl) ?_
  refine cx_ret (retN id [1000] rfl rfl rfl rfl rfl ?_)
  rw [takeF_1 h0]; exact ⟨rfl, rfl⟩
 ·
  have h0 := dF h0
  refine cx_skip ?_
  refine cx_keep rfl rfl ?_
  refine cx_seq ?_
  refine cx_ops ?_
  refine ax_q (q_mov rfl) ?_
  first | refine ax_q (q_nilck_ptr rfl) ?_ | refine ax_q (q_nilck_rptr rfl) ?_ | refine ax_q (q_nilck_ip rfl) ?_
  first | refine ax_q (q_fadr_ptr rfl) ?_ | refine ax_q (q_fadr_rptr rfl) ?_ | refine ax_q (q_fadr_ip rfl) ?_
  first | refine ax_q (q_load1_ptr rfl rfl rfl) ?_ | refine ax_q (q_load1_ip rfl) ?_ | refine ax_q (q_load1_rptr rfl rfl rfl rfl) ?_ | refine ax_q (q_load1_rptr rfl rfl (by assumption) rfl) ?_ | refine ax_q (q_load1_rptr rfl rfl (mapAt (by first | assumption | omega)) rfl) ?_
  refine ax_q (q_mov rfl) ?_
  refine ax_qe (r' := .d (.sl 1 ((r0.rest.take n).map byteRow))) (q_slc rfl rfl rfl (by omega) (by omega) (by simp; omega)) (by simp [List.map_take]) ?_
  refine ax_q (q_mov rfl) ?_
  refine ax_nil ?_
  refine cx_keep rfl rfl ?_
  refine cx_seq ?_
  refine cx_ops ?_
  refine ax_q (q_mov rfl) ?_
  refine ax_q (q_mov rfl) ?_
  first | refine ax_q (q_nilck_ptr rfl) ?_ | refine ax_q (q_nilck_rptr rfl) ?_ | refine ax_q (q_nilck_ip rfl) ?_
  first | refine ax_q (q_fadr_ptr rfl) ?_ | refine ax_q (q_fadr_rptr rfl) ?_ | refine ax_q (q_fadr_ip rfl) ?_
  first | refine ax_q (q_load1_ptr rfl rfl rfl) ?_ | refine ax_q (q_load1_ip rfl) ?_ | refine ax_q (q_load1_rptr rfl rfl rfl rfl) ?_ | refine ax_q (q_load1_rptr rfl rfl (by assumption) rfl) ?_ | refine ax_q (q_load1_rptr rfl rfl (mapAt (by first | assumption | omega)) rfl) ?_
  refine ax_q (q_mov rfl) ?_
  refine ax_qe (r' := .d (.sl 1 ((r0.rest.drop n).map byteRow))) (q_slc rfl rfl rfl (by omega) (by simp; omega) (by simp)) (slc_drop) ?_
  first | refine ax_q (q_nilck_ptr rfl) ?_ | refine ax_q (q_nilck_rptr rfl) ?_ | refine ax_q (q_nilck_ip rfl) ?_
  first | refine ax_q (q_fadr_ptr rfl) ?_ | refine ax_q (q_fadr_rptr rfl) ?_ | refine ax_q (q_fadr_ip rfl) ?_
  refine ax_e (e_st rfl rfl rfl rfl rfl rfl rfl) ?_
  refine ax_nil ?_
  refine cx_keep rfl rfl ?_
  refine cx_seq ?_
  refine cx_ops ?_
  refine ax_q (q_mov rfl) ?_
  refine ax_q (q_mov rfl) ?_
  refine ax_nil ?_
  refine cx_keep rfl rfl ?_
  refine cx_ret (retN id [1000] rfl rfl rfl rfl rfl ?_)
  rw [takeF_2 h0]; exact ⟨rfl, rfl⟩


/- (ptr loop.example/g00332/impl.byteReader).num -/
def k_c_num : XCode :=
 .seq (.ops [.op (some 2) (.mov (.k (.int .i64 0)))])
 (.keep [0] (.seq (.ops [.op (some 3) (.mov (.t 0)),
   .call (some 4) 54 [.t 3, .k (.int .i64 1)],
   .op (some 5) (.iadr 1 (.t 4) (.k (.int .i64 0))),
   .op (some 6) (.load1 (.t 5)),
   .op (some 7) (.conv .i64 (.t 6)),
   .op (some 2) (.mov (.t 7))])
 (.keep [2] (.ret))))
theorem k_c_num_fits : fitsF Try.prog 86 ⟨8, k_c_num, [.t 2]⟩ = true := by kernel_rfl
theorem c_num {r0 : Rd} (hl : r0.rest.length ≤ 1048576) : Con Try.prog noMv 86 [.ptr 1000 0] [(1000, r0.box)] (fun r h => r = int (numF r0).1 ∧ h = [(1000, ((numF r0).2).box)]) := by
 refine con_of2 k_c_num_fits rfl fun C hP hmv => ?_
 unfold k_c_num
 refine cx_seq ?_
 refine cx_ops ?_
 refine ax_q (q_mov rfl) ?_
 refine ax_nil ?_
 refine cx_keep rfl rfl ?_
 refine cx_seq ?_
 refine cx_ops ?_
 refine ax_q (q_mov rfl) ?_
 refine ax_call rfl (vcall_own (c_take (n := 1) ?_ ?_) hP hmv false (fun _ => 1000) [1000] ⟨rfl, rfl, rfl, rfl, ⟨rfl, trivial⟩, rfl, rfl, rfl⟩ (.pass rfl rfl (.pass rfl rfl .nil)) ?_)
 ·
  first | assumption | omega | (simp; done) | (simp; omega)
 ·
  first | assumption | omega | (simp; done) | (simp; omega)
 rintro r h ⟨rfl, rfl⟩
 refine ⟨fun _ => 1000, [], ⟨rfl, rfl, rfl, rfl, mem1 rfl, rfl, rfl, fun h => absurd h Bool.false_ne_true⟩, ?_⟩
 have ht1 : (takeF r0 1).1.length = 1 := takeF_len.1
 refine ax_q (q_ixI rfl rfl (by omega) (mapAt (by omega))) ?_
 first | refine ax_q (q_load1_ptr rfl rfl rfl) ?_ | refine ax_q (q_load1_ip rfl) ?_ | refine ax_q (q_load1_rptr rfl rfl rfl rfl) ?_ | refine ax_q (q_load1_rptr rfl rfl (by assumption) rfl) ?_ | refine ax_q (q_load1_rptr rfl rfl (mapAt (by first | assumption | omega)) rfl) ?_
 first | refine ax_q (q_convB rfl) ?_ | refine ax_q (q_convI rfl (by omega)) ?_ | refine ax_q (q_convU8 rfl) ?_ | refine ax_q (q_conv rfl) ?_
 refine ax_q (q_mov rfl) ?_
 refine ax_nil ?_
 refine cx_keep rfl rfl ?_
 refine cx_ret (retN id [1000] rfl rfl rfl rfl rfl ?_)
 unfold numF; rw [getD_at (by omega)]; exact ⟨rfl, rfl⟩


/- (ptr loop.example/g00332/impl.byteReader).fields -/
def k_c_fields : XCode :=
 .seq (.ops [.op (some 2) (.mov (.k (.nils 1)))])
 (.keep [0] (.seq (.ops [.op (some 4) (.bslice 1 []),
   .op (some 3) (.mov (.t 4))])
 (.keep [0, 3] (.seq (.seq (.ops [.op (some 5) (.mov (.t 0)),
   .call (some 6) 86 [.t 5],
   .op (some 7) (.mov (.k (.int .i64 0)))])
  (.keep [0, 3, 6, 7] (.block 0 (.loop (.seq (.ops [.op (some 8) (.bin .lss (.t 7) (.t 6))])
   (.keep [0, 3, 6, 7, 8] (.seq (.cond (.t 8)
    (.skip)
    (.exit 0))
   (.keep [0, 3, 6, 7] (.seq (.block 1 (.ops [.op (some 9) (.mov (.t 3)),
     .op (some 10) (.mov (.t 0)),
     .op (some 11) (.mov (.t 0)),
     .call (some 12) 86 [.t 11],
     .call (some 13) 54 [.t 10, .t 12],
     .op (some 14) (.b2s (.t 13)),
     .op (some 15) (.bslice 1 [.t 14]),
     .op (some 16) (.app 1 16 [.str []] (.t 9) (.t 15)),
     .op (some 3) (.mov (.t 16))]))
   (.keep [0, 3, 6, 7] (.ops [.op (some 17) (.bin .add (.t 7) (.k (.int .i64 1))),
    .op (some 7) (.mov (.t 17))])))))))))))
 (.keep [3] (.seq (.ops [.op (some 18) (.mov (.t 3)),
   .op (some 2) (.mov (.t 18))])
 (.keep [2] (.ret))))))))
theorem k_c_fields_fits : fitsF Try.prog 56 ⟨19, k_c_fields, [.t 2]⟩ = true := by kernel_rfl
theorem c_fields {r0 : Rd} (hl : r0.rest.length ≤ 1048576) : Con Try.prog noMv 56 [.ptr 1000 0] [(1000, r0.box)] (fun r h => r = .osl 0 1 0 (fieldsF r0).1.length ∧ h = [(0, .rows 1 ((fieldsF r0).1.map strRow)), (1000, (fieldsF r0).2.box)]) := by
 refine con_of2 k_c_fields_fits rfl fun C hP hmv => ?_
 unfold k_c_fields
 refine cx_seq ?_
 refine cx_ops ?_
 refine ax_q (q_mov rfl) ?_
 refine ax_nil ?_
 refine cx_keep rfl rfl ?_
 refine cx_seq ?_
 refine cx_ops ?_
 refine ax_e (e_bslice rfl (by decide) rfl rfl) ?_
 refine ax_q (q_mov rfl) ?_
 refine ax_nil ?_
 refine cx_keep rfl rfl ?_
 refine cx_seq ?_
 refine cx_seq ?_
 refine cx_ops ?_
 refine ax_q (q_mov rfl) ?_
 refine ax_call rfl (vcall_own (c_num  ?_) hP hmv false (fun _ => 1000) [1000] ⟨rfl, rfl, rfl, rfl, ⟨rfl, trivial⟩, rfl, rfl, rfl⟩ (.pass rfl rfl .nil) ?_)
 ·
  first | assumption | omega | (simp; done) | (simp; omega)
 rintro r h ⟨rfl, rfl⟩
 refine ⟨fun _ => 1000, [], ⟨rfl, rfl, rfl, rfl, mem1 rfl, rfl, rfl, fun h => absurd h Bool.false_ne_true⟩, ?_⟩
 obtain ⟨q1, q2⟩ := @numF_lt r0
 refine ax_q (q_mov rfl) ?_
 refine ax_nil ?_
 refine cx_keep rfl rfl ?_
 refine cx_block ?_
 refine cx_loopU (fun n1 (p : Nat × Nat × Rd × List Str) => n1 = p.1 ∧ p.1 + p.2.1 = (numF r0).1 ∧ p.2.2.2.length = p.2.1 ∧ p.2.2.1.rest.length ≤ 1048576 ∧ fldL p.1 p.2.2.1 p.2.2.2 = fieldsF r0) (fun p => [(3, .osl 4 1 0 p.2.2.2.length), (7, int p.2.1)]) (fun p => [(1000, p.2.2.1.box), (4, .rows 1 (p.2.2.2.map strRow))])
  ⟨_, ((numF r0).1, 0, (numF r0).2, []), ⟨rfl, rfl, rfl, by simp only; omega, rfl⟩, by repeat (first | exact trivial | refine ⟨rfl, ?_⟩ | refine ⟨?_, ?_⟩)⟩ ?_
 rintro n1 ⟨m, k, u, l⟩ ⟨rfl, hm, hk, hu, he⟩
 simp only at hm hk hu he ⊢
 refine cx_seq ?_
 refine cx_ops ?_
 refine ax_q (q_ibin rfl rfl rfl) ?_
 refine ax_nil ?_
 refine cx_keep rfl rfl ?_
 refine cx_seq ?_
 refine cx_cond rfl (fun h0 => ?_) (fun h0 => ?_)
 ·
  have h0 := dT h0
  obtain ⟨m, rfl⟩ : ∃ m2, n1 = m2 + 1 := ⟨n1 - 1, by omega⟩
  obtain ⟨k1, k2⟩ := @numF_lt u
  obtain ⟨k3, k4⟩ := @takeF_len (numF u).2 (numF u).1
  refine cx_skip ?_
  refine cx_keep rfl rfl ?_
  refine cx_seq ?_
  refine cx_block ?_
  refine cx_ops ?_
  refine ax_q (q_mov rfl) ?_
  refine ax_q (q_mov rfl) ?_
  refine ax_q (q_mov rfl) ?_
  refine ax_call rfl (vcall_own (c_num  ?_) hP hmv false (fun _ => 1000) [1000] ⟨rfl, rfl, rfl, rfl, ⟨rfl, trivial⟩, rfl, rfl, rfl⟩ (.pass rfl rfl .nil) ?_)
  ·
   first | assumption | omega | (simp; done) | (simp; omega)
  rintro r h ⟨rfl, rfl⟩
  refine ⟨fun _ => 1000, [], ⟨rfl, rfl, rfl, rfl, mem1 rfl, rfl, rfl, fun h => absurd h Bool.false_ne_true⟩, ?_⟩
  refine ax_call rfl (vcall_own (c_take (n := (numF u).1) ?_ ?_) hP hmv false (fun _ => 1000) [1000] ⟨rfl, rfl, rfl, rfl, ⟨rfl, trivial⟩, rfl, rfl, rfl⟩ (.pass rfl rfl (.pass rfl rfl .nil)) ?_)
  ·
   first | assumption | omega | (simp; done) | (simp; omega)
  ·
   first | assumption | omega | (simp; done) | (simp; omega)
  rintro r h ⟨rfl, rfl⟩
  refine ⟨fun _ => 1000, [], ⟨rfl, rfl, rfl, rfl, mem1 rfl, rfl, rfl, fun h => absurd h Bool.false_ne_true⟩, ?_⟩
  refine ax_qe (r' := .d (.str (takeF (numF u).2 (numF u).1).1)) (q_b2s rfl (src_sl 1 _) rfl ⟨0, 1, 0, 0, .inr (.inr rfl)⟩) (rfl) ?_
  refine ax_e (e_bslice rfl (by decide) rfl rfl) ?_
  refine ax_e (e_appn (n' := (l ++ [(takeF (numF u).2 (numF u).1).1]).length) (rs' := (l ++ [(takeF (numF u).2 (numF u).1).1]).map strRow) rfl rfl (by simp) rfl (src_osl rfl (by simp)) (.inl (by decide)) (hbnd (by omega) (by simp) (by decide)) (by simp) (app1 rfl)) ?_
  refine ax_q (q_mov rfl) ?_
  refine ax_nil ?_
  refine cx_keep rfl rfl ?_
  refine cx_ops ?_
  refine ax_qe (r' := int ((k + 1 : Nat) : Int)) (q_ibin rfl rfl rfl) (by rw [wi (by omega) (by omega)]; rfl) ?_
  refine ax_q (q_mov rfl) ?_
  refine ax_nil ?_
  exact ⟨_, (m, k + 1, (takeF (numF u).2 (numF u).1).2, l ++ [(takeF (numF u).2 (numF u).1).1]), by omega, ⟨rfl, by simp only; omega, by simp [hk], by simp only; omega, by rw [← he]; rfl⟩, by repeat (first | exact trivial | refine ⟨rfl, ?_⟩ | refine ⟨?_, ?_⟩)⟩
 ·
  have h0 := dF h0
  obtain rfl : n1 = 0 := by omega
  have he2 : fieldsF r0 = (l, u) := he.symm
  refine cx_exit rfl ?_
  refine cx_keep rfl rfl ?_
  refine cx_seq ?_
  refine cx_ops ?_
  refine ax_q (q_mov rfl) ?_
  refine ax_q (q_mov rfl) ?_
  refine ax_nil ?_
  refine cx_keep rfl rfl ?_
  refine cx_ret (retN (fun e => bif Nat.beq e 4 then 0 else e) [4, 1000] rfl rfl rfl rfl rfl ?_)
  rw [he2]; exact ⟨rfl, rfl⟩


/- (ptr loop.example/g00332/impl.byteReader).isDone -/
def k_c_isDone : XCode :=
 .seq (.ops [.op (some 2) (.mov (.k (.bool false)))])
 (.keep [0] (.seq (.ops [.op (some 3) (.mov (.t 0)),
   .op (some 4) (.nilck (.t 3)),
   .op (some 5) (.fadr (.t 4) 1),
   .op (some 6) (.load1 (.t 5)),
   .op (some 7) (.not (.t 6)),
   .op (some 8) (.mov (.t 7)),
   .andor 15 true 5 8 [.op (some 9) (.mov (.t 0)), .op (some 10) (.nilck (.t 9)), .op (some 11) (.fadr (.t 10) 0), .op (some 12) (.load1 (.t 11)), .op (some 13) (.lenS (.t 12)), .op (some 14) (.bin .eql (.t 13) (.k (.int .i64 0)))] (.t 14),
   .op (some 2) (.mov (.t 15))])
 (.keep [2] (.ret))))
theorem k_c_isDone_fits : fitsF Try.prog 57 ⟨16, k_c_isDone, [.t 2]⟩ = true := by kernel_rfl
theorem c_isDone {r0 : Rd}  : Con Try.prog noMv 57 [.ptr 1000 0] [(1000, r0.box)] (fun r h => r = bool (doneF r0) ∧ h = [(1000, (r0).box)]) := by
 refine con_of2 k_c_isDone_fits rfl fun C hP hmv => ?_
 unfold k_c_isDone
 refine cx_seq ?_
 refine cx_ops ?_
 refine ax_q (q_mov rfl) ?_
 refine ax_nil ?_
 refine cx_keep rfl rfl ?_
 refine cx_seq ?_
 refine cx_ops ?_
 refine ax_q (q_mov rfl) ?_
 first | refine ax_q (q_nilck_ptr rfl) ?_ | refine ax_q (q_nilck_rptr rfl) ?_ | refine ax_q (q_nilck_ip rfl) ?_
 first | refine ax_q (q_fadr_ptr rfl) ?_ | refine ax_q (q_fadr_rptr rfl) ?_ | refine ax_q (q_fadr_ip rfl) ?_
 first | refine ax_q (q_load1_ptr rfl rfl rfl) ?_ | refine ax_q (q_load1_ip rfl) ?_ | refine ax_q (q_load1_rptr rfl rfl rfl rfl) ?_ | refine ax_q (q_load1_rptr rfl rfl (by assumption) rfl) ?_ | refine ax_q (q_load1_rptr rfl rfl (mapAt (by first | assumption | omega)) rfl) ?_
 refine ax_q (q_not rfl) ?_
 refine ax_q (q_mov rfl) ?_
 apply ax_and rfl rfl
 ·
  intro g
  have g := bT g
  refine ax_q (q_mov rfl) ?_
  first | refine ax_q (q_nilck_ptr rfl) ?_ | refine ax_q (q_nilck_rptr rfl) ?_ | refine ax_q (q_nilck_ip rfl) ?_
  first | refine ax_q (q_fadr_ptr rfl) ?_ | refine ax_q (q_fadr_rptr rfl) ?_ | refine ax_q (q_fadr_ip rfl) ?_
  first | refine ax_q (q_load1_ptr rfl rfl rfl) ?_ | refine ax_q (q_load1_ip rfl) ?_ | refine ax_q (q_load1_rptr rfl rfl rfl rfl) ?_ | refine ax_q (q_load1_rptr rfl rfl (by assumption) rfl) ?_ | refine ax_q (q_load1_rptr rfl rfl (mapAt (by first | assumption | omega)) rfl) ?_
  first | refine ax_q (q_lenS_map rfl) ?_ | refine ax_q (q_lenS_osl rfl) ?_ | refine ax_q (q_lenS_zs rfl) ?_ | refine ax_q (q_lenS rfl) ?_
  refine ax_q (q_ibin rfl rfl rfl) ?_
  exact ax_nil ⟨rfl, by repeat (first | exact trivial | refine ⟨rfl, ?_⟩ | refine ⟨?_, ?_⟩)⟩
 refine ax_q (q_mov rfl) ?_
 refine ax_nil ?_
 refine cx_keep rfl rfl ?_
 refine cx_ret (retN id [1000] rfl rfl rfl rfl rfl ?_)
 exact ⟨rfl, rfl⟩


/- loop.example/g00332/impl.ReadPage -/
def k_c_ReadPage : XCode :=
 .seq (.ops [.op (some 4) (.alloc [.int .i64 0, .nils 1]),
   .op (some 5) (.mov (.k (.int .i64 0)))])
 (.keep [0, 1, 4] (.seq (.seq (.ops [.op (some 11) (.mov (.t 1)),
   .op (some 12) (.lenS (.t 11)),
   .op (some 13) (.bin .gtr (.t 12) (.k (.int .i64 65536)))])
  (.keep [0, 1, 4, 13] (.cond (.t 13)
  (.seq (.ops [.op (some 14) (.build [.int .i64 0, .nils 1] []),
    .op none (.store 2 (.t 4) (.t 14)),
    .op (some 5) (.mov (.k (.int .i64 2)))])
   (.keep [4, 5] (.ret)))
  (.skip))))
 (.keep [0, 1, 4] (.seq (.ops [.op (some 16) (.mov (.t 1)),
   .call (some 17) 53 [.t 16],
   .op (some 15) (.mov (.t 17)),
   .op (some 18) (.ext (.t 15) 0),
   .op (some 19) (.ext (.t 15) 1),
   .op (some 6) (.mov (.t 18)),
   .op (some 7) (.mov (.t 19))])
 (.keep [0, 4, 6, 7] (.seq (.seq (.ops [.op (some 20) (.mov (.t 7)),
   .op (some 21) (.not (.t 20))])
  (.keep [0, 4, 6, 21] (.cond (.t 21)
  (.seq (.ops [.op (some 22) (.build [.int .i64 0, .nils 1] []),
    .op none (.store 2 (.t 4) (.t 22)),
    .op (some 5) (.mov (.k (.int .i64 8)))])
   (.keep [4, 5] (.ret)))
  (.skip))))
 (.keep [0, 4, 6] (.seq (.ops [.op (some 23) (.mov (.t 6)),
   .op (some 24) (.build [.nils 1, .bool false] [(0, 1, .t 23)]),
   .op (some 25) (.box (.t 24)),
   .op (some 8) (.mov (.t 25))])
 (.keep [0, 4, 8] (.seq (.ops [.op (some 26) (.mov (.t 8)),
   .call (some 27) 54 [.t 26, .k (.int .i64 4)],
   .op (some 9) (.mov (.t 27))])
 (.keep [0, 4, 8, 9] (.seq (.ops [.op (some 28) (.mov (.t 9)),
   .op (some 29) (.slc 1 (.t 28) (some (.k (.int .i64 2))) none none),
   .call (some 30) 55 [.t 29],
   .op (some 31) (.mov (.t 8)),
   .call (some 32) 56 [.t 31],
   .op (some 33) (.build [.int .i64 0, .nils 1] [(0, 1, .t 30), (1, 1, .t 32)]),
   .op (some 10) (.alloc [.int .i64 0, .nils 1]),
   .op none (.store 2 (.t 10) (.t 33))])
 (.keep [0, 4, 8, 9, 10] (.seq (.seq (.ops [.op (some 34) (.mov (.t 8)),
   .call (some 35) 57 [.t 34],
   .op (some 36) (.not (.t 35)),
   .op (some 37) (.mov (.t 36)),
   .andor 42 false 3 37 [.op (some 38) (.mov (.t 9)), .op (some 39) (.iadr 1 (.t 38) (.k (.int .i64 0))), .op (some 40) (.load1 (.t 39)), .op (some 41) (.bin .neq (.t 40) (.k (.int .u8 112)))] (.t 41),
   .op (some 43) (.mov (.t 42)),
   .andor 50 false 9 43 [.op (some 44) (.mov (.t 9)), .op (some 45) (.iadr 1 (.t 44) (.k (.int .i64 1))), .op (some 46) (.load1 (.t 45)), .op (some 47) (.conv .i64 (.t 46)), .op (some 48) (.mov (.t 0)), .op (some 49) (.bin .neq (.t 47) (.t 48))] (.t 49),
   .op (some 51) (.mov (.t 50)),
   .andor 55 false 17 51 [.op (some 52) (.loadN 2 (.t 10)), .call (some 53) 23 [.t 52], .op (some 54) (.not (.t 53))] (.t 54)])
  (.keep [4, 10, 55] (.cond (.t 55)
  (.seq (.ops [.op (some 56) (.build [.int .i64 0, .nils 1] []),
    .op none (.store 2 (.t 4) (.t 56)),
    .op (some 5) (.mov (.k (.int .i64 3)))])
   (.keep [4, 5] (.ret)))
  (.skip))))
 (.keep [4, 10] (.seq (.ops [.op (some 57) (.loadN 2 (.t 10)),
   .op none (.store 2 (.t 4) (.t 57)),
   .op (some 5) (.mov (.k (.int .i64 0)))])
 (.keep [4, 5] (.ret))))))))))))))))))
theorem k_c_ReadPage_fits : fitsF Try.prog 21 ⟨58, k_c_ReadPage, [.cN 4 2, .t 5]⟩ = true := by kernel_rfl
set_option maxHeartbeats 2000000 in
theorem c_ReadPage {no : Int} {b : Str} (hl : b.length ≤ 1048576) : Con Try.prog noMv 21 [int no, .d (.sl 1 (b.map byteRow))] [] (fun r h => r = .tup [(rpF no b).1.avO 0, int (rpF no b).2] ∧ h = (rpF no b).1.hO 0) := by
 refine con_of2 k_c_ReadPage_fits rfl fun C hP hmv => ?_
 unfold k_c_ReadPage
 refine cx_seq ?_
 refine cx_ops ?_
 refine ax_e (e_alloc (by decide) rfl rfl) ?_
 refine ax_q (q_mov rfl) ?_
 refine ax_nil ?_
 refine cx_keep rfl rfl ?_
 refine cx_seq ?_
 refine cx_seq ?_
 refine cx_ops ?_
 refine ax_q (q_mov rfl) ?_
 first | refine ax_q (q_lenS_map rfl) ?_ | refine ax_q (q_lenS_osl rfl) ?_ | refine ax_q (q_lenS_zs rfl) ?_ | refine ax_q (q_lenS rfl) ?_
 refine ax_q (q_ibin rfl rfl rfl) ?_
 refine ax_nil ?_
 refine cx_keep rfl rfl ?_
 refine cx_cond rfl (fun h0 => ?_) (fun h0 => ?_)
 ·
  have h0 := dT h0
  refine cx_seq ?_
  refine cx_ops ?_
  refine ax_q (q_build rfl) ?_
  refine ax_e (e_st rfl rfl rfl rfl rfl rfl rfl) ?_
  refine ax_q (q_mov rfl) ?_
  refine ax_nil ?_
  refine cx_keep rfl rfl ?_
  have e : rpF no b = (.zero, 2) := rpF_1 h0
  refine cx_wk (wk_virt 900 1 rfl rfl rfl) ?_
  refine cx_wk (wk_zsb 4 900 1 rfl rfl rfl) ?_
  refine cx_ret (retN (fun _ => 0) [900] rfl rfl rfl rfl rfl ?_)
  rw [e]; exact ⟨rfl, rfl⟩
 ·
  have h0 := dF h0
  refine cx_skip ?_
  refine cx_keep rfl rfl ?_
  refine cx_seq ?_
  refine cx_ops ?_
  refine ax_q (q_mov rfl) ?_
  have hul := @unseal_len b
  first | refine ax_call rfl (vc_pure0 (c_unsealed (l := b) ?_) hP rfl rfl ?_) | refine ax_call rfl (vc_lend0 (c_unsealed (l := b) ?_) hP (by repeat (first | exact lal_id _ rfl | exact LAL.nil | refine LAL.cons ?_ ?_ | exact la_id _ rfl | exact LA.lend (lend_whole rfl (by first | (simp; done) | (rw [List.length_map]; rfl))) | refine LA.agg ?_ | refine LA.fn ?_ | refine LA.lend ?_ | exact Lend.d _ | exact Lend.zs _ | exact lend_whole rfl (by first | (simp; done) | (rw [List.length_map]; rfl)) | refine Lend.ptr rfl ?_ | refine Lend.fn ?_ | exact LendL.nil | refine LendL.cons ?_ ?_)) rfl rfl ?_)
  ·
   first | assumption | omega | (simp; done) | (simp; omega)
  refine ax_q (q_mov rfl) ?_
  refine ax_q (q_ext rfl rfl) ?_
  refine ax_q (q_ext rfl rfl) ?_
  refine ax_q (q_mov rfl) ?_
  refine ax_q (q_mov rfl) ?_
  refine ax_nil ?_
  refine cx_keep rfl rfl ?_
  refine cx_seq ?_
  refine cx_seq ?_
  refine cx_ops ?_
  refine ax_q (q_mov rfl) ?_
  refine ax_q (q_not rfl) ?_
  refine ax_nil ?_
  refine cx_keep rfl rfl ?_
  refine cx_cond rfl (fun h1 => ?_) (fun h1 => ?_)
  ·
   have h1 := bT h1
   refine cx_seq ?_
   refine cx_ops ?_
   refine ax_q (q_build rfl) ?_
   refine ax_e (e_st rfl rfl rfl rfl rfl rfl rfl) ?_
   refine ax_q (q_mov rfl) ?_
   refine ax_nil ?_
   refine cx_keep rfl rfl ?_
   have e : rpF no b = (.zero, 8) := rpF_2 h0 h1
   refine cx_wk (wk_virt 900 1 rfl rfl rfl) ?_
   refine cx_wk (wk_zsb 4 900 1 rfl rfl rfl) ?_
   refine cx_ret (retN (fun _ => 0) [900] rfl rfl rfl rfl rfl ?_)
   rw [e]; exact ⟨rfl, rfl⟩
  ·
   have h1 := bF h1
   refine cx_skip ?_
   refine cx_keep rfl rfl ?_
   refine cx_seq ?_
   refine cx_ops ?_
   refine ax_q (q_mov rfl) ?_
   refine ax_q (q_build rfl) ?_
   refine ax_e (e_box rfl rfl (by decide) rfl rfl rfl) ?_
   refine ax_q (q_mov rfl) ?_
   refine ax_nil ?_
   refine cx_keep rfl rfl ?_
   refine cx_seq ?_
   refine cx_ops ?_
   refine ax_q (q_mov rfl) ?_
   refine ax_call rfl (vcall_own (c_take (r0 := ⟨(unsealF b).1, false⟩) (n := 4) ?_ ?_) hP hmv false (fun _ => 25) [1000] ⟨rfl, rfl, rfl, rfl, ⟨rfl, trivial⟩, rfl, rfl, rfl⟩ (.pass rfl rfl (.pass rfl rfl .nil)) ?_)
   ·
    first | assumption | omega | (simp; done) | (simp; omega)
   ·
    first | assumption | omega | (simp; done) | (simp; omega)
   rintro r h ⟨rfl, rfl⟩
   refine ⟨fun _ => 25, [], ⟨rfl, rfl, rfl, rfl, mem1 rfl, rfl, rfl, fun h => absurd h Bool.false_ne_true⟩, ?_⟩
   obtain ⟨t1, t2⟩ := @takeF_len ⟨(unsealF b).1, false⟩ 4
   have hh := @hdF_len (unsealF b).1
   obtain ⟨f1, f2⟩ := @fields_len (takeF ⟨(unsealF b).1, false⟩ 4).2
   refine ax_q (q_mov rfl) ?_
   refine ax_nil ?_
   refine cx_keep rfl rfl ?_
   refine cx_seq ?_
   refine cx_ops ?_
   refine ax_q (q_mov rfl) ?_
   refine ax_qe (r' := .d (.sl 1 (((hdF (unsealF b).1).drop 2).map byteRow))) (q_slc rfl rfl rfl (by omega) (by simp; omega) (by simp)) (slc_drop) ?_
   first | refine ax_call rfl (vc_pure0 (c_big (l := (hdF (unsealF b).1).drop 2) ?_) hP rfl rfl ?_) | refine ax_call rfl (vc_lend0 (c_big (l := (hdF (unsealF b).1).drop 2) ?_) hP (by repeat (first | exact lal_id _ rfl | exact LAL.nil | refine LAL.cons ?_ ?_ | exact la_id _ rfl | exact LA.lend (lend_whole rfl (by first | (simp; done) | (rw [List.length_map]; rfl))) | refine LA.agg ?_ | refine LA.fn ?_ | refine LA.lend ?_ | exact Lend.d _ | exact Lend.zs _ | exact lend_whole rfl (by first | (simp; done) | (rw [List.length_map]; rfl)) | refine Lend.ptr rfl ?_ | refine Lend.fn ?_ | exact LendL.nil | refine LendL.cons ?_ ?_)) rfl rfl ?_)
   ·
    rw [List.length_drop]; omega
   refine ax_q (q_mov rfl) ?_
   refine ax_call rfl (vcall_own (c_fields (r0 := (takeF ⟨(unsealF b).1, false⟩ 4).2) (by simp only at t2; omega)) hP hmv false (fun _ => 25) [1000] ⟨rfl, rfl, rfl, rfl, ⟨rfl, trivial⟩, rfl, rfl, rfl⟩ (.pass rfl rfl .nil) ?_)
   rintro r h ⟨rfl, rfl⟩
   refine ⟨fun e => bif Nat.beq e 1000 then 25 else 32, [0], ⟨rfl, rfl, rfl, rfl, mem1 rfl, rfl, rfl, fun h => absurd h Bool.false_ne_true⟩, ?_⟩
   refine ax_q (q_build rfl) ?_
   refine ax_e (e_alloc (by decide) rfl rfl) ?_
   refine ax_e (e_st rfl rfl rfl rfl rfl rfl rfl) ?_
   refine ax_nil ?_
   refine cx_keep rfl rfl ?_
   refine cx_seq ?_
   refine cx_seq ?_
   refine cx_ops ?_
   refine ax_q (q_mov rfl) ?_
   refine ax_call rfl (vcall_own (c_isDone (r0 := rdE (unsealF b).1) ) hP hmv false (fun _ => 25) [1000] ⟨rfl, rfl, rfl, rfl, ⟨rfl, trivial⟩, rfl, rfl, rfl⟩ (.pass rfl rfl .nil) ?_)
   rintro r h ⟨rfl, rfl⟩
   refine ⟨fun _ => 25, [], ⟨rfl, rfl, rfl, rfl, mem1 rfl, rfl, rfl, fun h => absurd h Bool.false_ne_true⟩, ?_⟩
   refine ax_q (q_not rfl) ?_
   refine ax_q (q_mov rfl) ?_
   apply ax_or rfl rfl
   ·
    intro g
    have g := bF g
    refine ax_q (q_mov rfl) ?_
    refine ax_q (q_ixI rfl rfl (by omega) (mapAt (by show 0 < (hdF _).length; omega))) ?_
    refine ax_qe (r' := .d (.int .u8 (((hdF (unsealF b).1).getD 0 0).toNat : Int))) (q_load1_ip rfl) (by rw [getD_at (by omega)]; rfl) ?_
    refine ax_q (q_ibin rfl rfl rfl) ?_
    exact ax_nil ⟨rfl, by repeat (first | exact trivial | refine ⟨rfl, ?_⟩ | refine ⟨?_, ?_⟩)⟩
   refine ax_q (q_mov rfl) ?_
   apply ax_or rfl rfl
   ·
    intro g
    have g := (fun h => And.intro (bF (or_F h).1) (nF (or_F h).2)) g
    refine ax_q (q_mov rfl) ?_
    refine ax_q (q_ixI rfl rfl (by omega) (mapAt (by show 1 < (hdF _).length; omega))) ?_
    refine ax_qe (r' := .d (.int .u8 (((hdF (unsealF b).1).getD 1 0).toNat : Int))) (q_load1_ip rfl) (by rw [getD_at (by omega)]; rfl) ?_
    first | refine ax_q (q_convB rfl) ?_ | refine ax_q (q_convI rfl (by omega)) ?_ | refine ax_q (q_convU8 rfl) ?_ | refine ax_q (q_conv rfl) ?_
    refine ax_q (q_mov rfl) ?_
    refine ax_q (q_ibin rfl rfl rfl) ?_
    exact ax_nil ⟨rfl, by repeat (first | exact trivial | refine ⟨rfl, ?_⟩ | refine ⟨?_, ?_⟩)⟩
   refine ax_q (q_mov rfl) ?_
   apply ax_or rfl rfl
   ·
    intro g
    have g := (fun h => And.intro ((fun h => And.intro (bF (or_F h).1) (nF (or_F h).2)) (or_F h).1) (nF (or_F h).2)) g
    refine ax_q (q_ldN rfl rfl rfl) ?_
    first | refine ax_call rfl (vc_pure0 (c_PageOK (p := rdP (unsealF b).1) ?_) hP rfl rfl ?_) | refine ax_call rfl (vc_lend0 (c_PageOK (p := rdP (unsealF b).1) ?_) hP (by repeat (first | exact lal_id _ rfl | exact LAL.nil | refine LAL.cons ?_ ?_ | exact la_id _ rfl | exact LA.lend (lend_whole rfl (by first | (simp; done) | (rw [List.length_map]; rfl))) | refine LA.agg ?_ | refine LA.fn ?_ | refine LA.lend ?_ | exact Lend.d _ | exact Lend.zs _ | exact lend_whole rfl (by first | (simp; done) | (rw [List.length_map]; rfl)) | refine Lend.ptr rfl ?_ | refine Lend.fn ?_ | exact LendL.nil | refine LendL.cons ?_ ?_)) rfl rfl ?_)
    ·
     show (fieldsF _).1.length ≤ _; omega
    refine ax_q (q_not rfl) ?_
    exact ax_nil ⟨rfl, by repeat (first | exact trivial | refine ⟨rfl, ?_⟩ | refine ⟨?_, ?_⟩)⟩
   refine ax_nil ?_
   refine cx_keep rfl rfl ?_
   refine cx_cond rfl (fun h2 => ?_) (fun h2 => ?_)
   ·
    have h2 : badP no (unsealF b).1 = true := h2
    refine cx_seq ?_
    refine cx_ops ?_
    refine ax_q (q_build rfl) ?_
    refine ax_e (e_st rfl rfl rfl rfl rfl rfl rfl) ?_
    refine ax_q (q_mov rfl) ?_
    refine ax_nil ?_
    refine cx_keep rfl rfl ?_
    have e : rpF no b = (.zero, 3) := rpF_3 h0 h1 h2
    refine cx_wk (wk_virt 900 1 rfl rfl rfl) ?_
    refine cx_wk (wk_zsb 4 900 1 rfl rfl rfl) ?_
    refine cx_ret (retN (fun _ => 0) [900] rfl rfl rfl rfl rfl ?_)
    rw [e]; exact ⟨rfl, rfl⟩
   ·
    have h2 : badP no (unsealF b).1 = false := h2
    refine cx_skip ?_
    refine cx_keep rfl rfl ?_
    refine cx_seq ?_
    refine cx_ops ?_
    refine ax_q (q_ldN rfl rfl rfl) ?_
    refine ax_e (e_st rfl rfl rfl rfl rfl rfl rfl) ?_
    refine ax_q (q_mov rfl) ?_
    refine ax_nil ?_
    refine cx_keep rfl rfl ?_
    have e : rpF no b = (rdP (unsealF b).1, 0) := rpF_4 h0 h1 h2
    refine cx_ret (retN (fun _ => 0) [32] rfl rfl rfl rfl rfl ?_)
    rw [e]; exact ⟨rfl, rfl⟩


/- loop.example/g00332/laws.sameTexts -/
def k_c_sameTexts : XCode :=
 .seq (.ops [.op (some 4) (.mov (.k (.bool false)))])
 (.keep [0, 1] (.seq (.seq (.ops [.op (some 6) (.mov (.t 0)),
   .op (some 7) (.lenS (.t 6)),
   .op (some 8) (.mov (.t 1)),
   .op (some 9) (.lenS (.t 8)),
   .op (some 10) (.bin .neq (.t 7) (.t 9))])
  (.keep [0, 1, 10] (.cond (.t 10)
  (.seq (.ops [.op (some 4) (.mov (.k (.bool false)))])
   (.keep [4] (.ret)))
  (.skip))))
 (.keep [0, 1] (.seq (.seq (.ops [.op (some 5) (.mov (.k (.int .i64 0)))])
  (.keep [0, 1, 5] (.block 0 (.loop (.seq (.seq (.ops [.op (some 11) (.mov (.t 5)),
     .op (some 12) (.mov (.t 0)),
     .op (some 13) (.lenS (.t 12)),
     .op (some 14) (.bin .lss (.t 11) (.t 13))])
   (.keep [0, 1, 5, 14] (.cond (.t 14)
    (.skip)
    (.exit 0))))
   (.keep [0, 1, 5] (.seq (.block 1 (.seq (.draw [.op (some 17) (.mov (.t 0)),
     .op (some 18) (.mov (.t 5)),
     .op (some 19) (.iadr 1 (.t 17) (.t 18)),
     .op (some 20) (.load1 (.t 19)),
     .op (some 21) (.mov (.t 1)),
     .op (some 22) (.mov (.t 5)),
     .op (some 23) (.iadr 1 (.t 21) (.t 22)),
     .op (some 24) (.load1 (.t 23)),
     .op (some 25) (.bin .neq (.t 20) (.t 24))])
    (.keep [0, 1, 5, 25] (.cond (.t 25)
    (.seq (.ops [.op (some 4) (.mov (.k (.bool false)))])
     (.keep [4] (.ret)))
    (.skip)))))
   (.keep [0, 1, 5] (.ops [.op (some 15) (.mov (.t 5)),
    .op (some 16) (.bin .add (.t 15) (.k (.int .i64 1))),
    .op (some 5) (.mov (.t 16))])))))))))
 (.keep [] (.seq (.ops [.op (some 4) (.mov (.k (.bool true)))])
 (.keep [4] (.ret))))))))
theorem k_c_sameTexts_fits : fitsF Try.prog 40 ⟨26, k_c_sameTexts, [.t 4]⟩ = true := by kernel_rfl
theorem c_sameTexts {xs ys : List Str} (hx : xs.length ≤ 1048576) (hy : ys.length ≤ 1048576) : Con Try.prog noMv 40 [.d (.sl 1 (xs.map strRow)), .d (.sl 1 (ys.map strRow))] [] (fun r h => r = bool (eqb xs ys) ∧ h = []) := by
 refine con_of2 k_c_sameTexts_fits rfl fun C hP hmv => ?_
 unfold k_c_sameTexts
 refine cx_seq ?_
 refine cx_ops ?_
 refine ax_q (q_mov rfl) ?_
 refine ax_nil ?_
 refine cx_keep rfl rfl ?_
 refine cx_seq ?_
 refine cx_seq ?_
 refine cx_ops ?_
 refine ax_q (q_mov rfl) ?_
 first | refine ax_q (q_lenS_map rfl) ?_ | refine ax_q (q_lenS_osl rfl) ?_ | refine ax_q (q_lenS_zs rfl) ?_ | refine ax_q (q_lenS rfl) ?_
 refine ax_q (q_mov rfl) ?_
 first | refine ax_q (q_lenS_map rfl) ?_ | refine ax_q (q_lenS_osl rfl) ?_ | refine ax_q (q_lenS_zs rfl) ?_ | refine ax_q (q_lenS rfl) ?_
 refine ax_q (q_ibin rfl rfl rfl) ?_
 refine ax_nil ?_
 refine cx_keep rfl rfl ?_
 refine cx_cond rfl (fun h0 => ?_) (fun h0 => ?_)
 ·
  have h0 := nT h0
  refine cx_seq ?_
  refine cx_ops ?_
  refine ax_q (q_mov rfl) ?_
  refine ax_nil ?_
  refine cx_keep rfl rfl ?_
  refine cx_ret (ret0 rfl rfl ?_)
  exact ⟨congrArg AM.bool (eqb_f (fun h => h0 (by rw [h]))).symm, rfl⟩
 ·
  have h0 := nF h0
  refine cx_skip ?_
  refine cx_keep rfl rfl ?_
  refine cx_seq ?_
  refine cx_seq ?_
  refine cx_ops ?_
  refine ax_q (q_mov rfl) ?_
  refine ax_nil ?_
  refine cx_keep rfl rfl ?_
  refine cx_block ?_
  have hl : xs.length = ys.length := by omega
  refine cx_loopU (fun n k => k ≤ xs.length ∧ n = xs.length - k ∧ xs.take k = ys.take k) (fun k : Nat => [(5, int k)]) (fun _ => []) ⟨_, 0, ⟨Nat.zero_le _, rfl, rfl⟩, by repeat (first | exact trivial | refine ⟨rfl, ?_⟩ | refine ⟨?_, ?_⟩)⟩ ?_
  rintro n k ⟨hk, rfl, ht⟩
  refine cx_seq ?_
  refine cx_seq ?_
  refine cx_ops ?_
  refine ax_q (q_mov rfl) ?_
  refine ax_q (q_mov rfl) ?_
  first | refine ax_q (q_lenS_map rfl) ?_ | refine ax_q (q_lenS_osl rfl) ?_ | refine ax_q (q_lenS_zs rfl) ?_ | refine ax_q (q_lenS rfl) ?_
  refine ax_q (q_ibin rfl rfl rfl) ?_
  refine ax_nil ?_
  refine cx_keep rfl rfl ?_
  refine cx_cond rfl (fun h1 => ?_) (fun h1 => ?_)
  ·
   have h1 := dT h1
   have h1x : k < xs.length := by omega
   have h1y : k < ys.length := by omega
   refine cx_skip ?_
   refine cx_keep rfl rfl ?_
   refine cx_seq ?_
   refine cx_block ?_
   refine cx_seq ?_
   refine cx_draw ?_
   refine ax_q (q_mov rfl) ?_
   refine ax_q (q_mov rfl) ?_
   refine ax_q (q_ix rfl rfl (mapAt h1x)) ?_
   first | refine ax_q (q_load1_ptr rfl rfl rfl) ?_ | refine ax_q (q_load1_ip rfl) ?_ | refine ax_q (q_load1_rptr rfl rfl rfl rfl) ?_ | refine ax_q (q_load1_rptr rfl rfl (by assumption) rfl) ?_ | refine ax_q (q_load1_rptr rfl rfl (mapAt (by first | assumption | omega)) rfl) ?_
   refine ax_q (q_mov rfl) ?_
   refine ax_q (q_mov rfl) ?_
   refine ax_q (q_ix rfl rfl (mapAt h1y)) ?_
   first | refine ax_q (q_load1_ptr rfl rfl rfl) ?_ | refine ax_q (q_load1_ip rfl) ?_ | refine ax_q (q_load1_rptr rfl rfl rfl rfl) ?_ | refine ax_q (q_load1_rptr rfl rfl (by assumption) rfl) ?_ | refine ax_q (q_load1_rptr rfl rfl (mapAt (by first | assumption | omega)) rfl) ?_
   refine ax_q (q_sbin rfl rfl rfl) ?_
   refine ax_nil ?_
   refine cx_keep rfl rfl ?_
   refine cx_cond rfl (fun h2 => ?_) (fun h2 => ?_)
   ·
    have h2 := nT h2
    refine cx_seq ?_
    refine cx_ops ?_
    refine ax_q (q_mov rfl) ?_
    refine ax_nil ?_
    refine cx_keep rfl rfl ?_
    refine cx_ret (ret0 rfl rfl ?_)
    exact ⟨congrArg AM.bool (eqbL_no h1x h1y (eqb_f h2)).symm, rfl⟩
   ·
    have h2 := nF h2
    refine cx_skip ?_
    refine cx_keep rfl rfl ?_
    refine cx_ops ?_
    refine ax_q (q_mov rfl) ?_
    refine ax_qe (r' := int ((k + 1 : Nat) : Int)) (q_ibin rfl rfl rfl) (by rw [wi (by omega) (by omega)]; rfl) ?_
    refine ax_q (q_mov rfl) ?_
    refine ax_nil ?_
    exact ⟨_, k + 1, by omega, ⟨by omega, rfl, eqbL_step h1x h1y ht (eqb_t h2)⟩, by repeat (first | exact trivial | refine ⟨rfl, ?_⟩ | refine ⟨?_, ?_⟩)⟩
  ·
   have h1 := dF h1
   refine cx_exit rfl ?_
   refine cx_keep rfl rfl ?_
   refine cx_seq ?_
   refine cx_ops ?_
   refine ax_q (q_mov rfl) ?_
   refine ax_nil ?_
   refine cx_keep rfl rfl ?_
   refine cx_ret (ret0 rfl rfl ?_)
   exact ⟨congrArg AM.bool (eqb_t (eq_of_take hl (by rwa [show k = xs.length from by omega] at ht))).symm, rfl⟩


/- loop.example/g00332/laws.samePage -/
def k_c_samePage : XCode :=
 .seq (.ops [.op (some 2) (.box (.t 0)),
   .op (some 3) (.box (.t 1)),
   .op (some 4) (.mov (.k (.bool false)))])
 (.keep [2, 3] (.seq (.ops [.op (some 5) (.fadr (.t 2) 0),
   .op (some 6) (.load1 (.t 5)),
   .op (some 7) (.fadr (.t 3) 0),
   .op (some 8) (.load1 (.t 7)),
   .op (some 9) (.bin .eql (.t 6) (.t 8)),
   .op (some 10) (.mov (.t 9)),
   .andor 16 true 5 10 [.op (some 11) (.fadr (.t 2) 1), .op (some 12) (.load1 (.t 11)), .op (some 13) (.fadr (.t 3) 1), .op (some 14) (.load1 (.t 13)), .call (some 15) 40 [.t 12, .t 14]] (.t 15),
   .op (some 4) (.mov (.t 16))])
 (.keep [4] (.ret))))
theorem k_c_samePage_fits : fitsF Try.prog 22 ⟨17, k_c_samePage, [.t 4]⟩ = true := by kernel_rfl
theorem c_samePage {x y : Page} (hx : x.slots.length ≤ 1048576) (hy : y.slots.length ≤ 1048576) : Con Try.prog noMv 22 [x.av, y.av] [] (fun r h => r = bool (samP x y) ∧ h = []) := by
 refine con_of2 k_c_samePage_fits rfl fun C hP hmv => ?_
 unfold k_c_samePage
 refine cx_seq ?_
 refine cx_ops ?_
 refine ax_e (e_box rfl rfl (by decide) rfl rfl rfl) ?_
 refine ax_e (e_box rfl rfl (by decide) rfl rfl rfl) ?_
 refine ax_q (q_mov rfl) ?_
 refine ax_nil ?_
 refine cx_keep rfl rfl ?_
 refine cx_seq ?_
 refine cx_ops ?_
 refine ax_q (q_fadr_ptr rfl) ?_
 refine ax_q (q_load1_ptr rfl rfl rfl) ?_
 refine ax_q (q_fadr_ptr rfl) ?_
 refine ax_q (q_load1_ptr rfl rfl rfl) ?_
 refine ax_q (q_ibin rfl rfl rfl) ?_
 refine ax_q (q_mov rfl) ?_
 apply ax_and rfl rfl
 ·
  intro g
  have g := dT g
  refine ax_q (q_fadr_ptr rfl) ?_
  refine ax_q (q_load1_ptr rfl rfl rfl) ?_
  refine ax_q (q_fadr_ptr rfl) ?_
  refine ax_q (q_load1_ptr rfl rfl rfl) ?_
  first | refine ax_call rfl (vc_pure0 (c_sameTexts (xs := x.slots) (ys := y.slots) ?_ ?_) hP rfl rfl ?_) | refine ax_call rfl (vc_lend0 (c_sameTexts (xs := x.slots) (ys := y.slots) ?_ ?_) hP (by repeat (first | exact lal_id _ rfl | exact LAL.nil | refine LAL.cons ?_ ?_ | exact la_id _ rfl | exact LA.lend (lend_whole rfl (by first | (simp; done) | (rw [List.length_map]; rfl))) | refine LA.agg ?_ | refine LA.fn ?_ | refine LA.lend ?_ | exact Lend.d _ | exact Lend.zs _ | exact lend_whole rfl (by first | (simp; done) | (rw [List.length_map]; rfl)) | refine Lend.ptr rfl ?_ | refine Lend.fn ?_ | exact LendL.nil | refine LendL.cons ?_ ?_)) rfl rfl ?_)
  ·
   first | assumption | omega | (simp; done) | (simp; omega)
  ·
   first | assumption | omega | (simp; done) | (simp; omega)
  exact ax_nil ⟨rfl, by repeat (first | exact trivial | refine ⟨rfl, ?_⟩ | refine ⟨?_, ?_⟩)⟩
 refine ax_q (q_mov rfl) ?_
 refine ax_nil ?_
 refine cx_keep rfl rfl ?_
 refine cx_ret (ret0 rfl rfl ?_)
 exact ⟨rfl, rfl⟩


/- loop.example/g00332/impl.NewPage -/
def k_c_NewPage : XCode :=
 .seq (.ops [.op (some 0) (.alloc [.int .i64 0, .nils 1])])
 (.keep [0] (.seq (.ops [.op (some 1) (.mkslice 1 16 [.str []] (.k (.int .i64 4)) (.k (.int .i64 4))),
   .op (some 2) (.build [.int .i64 0, .nils 1] [(1, 1, .t 1)]),
   .op none (.store 2 (.t 0) (.t 2))])
 (.keep [0] (.ret))))
theorem k_c_NewPage_fits : fitsF Try.prog 24 ⟨3, k_c_NewPage, [.cN 0 2]⟩ = true := by kernel_rfl
theorem c_NewPage  : Con Try.prog noMv 24 [] [] (fun r h => r = (⟨0, [[], [], [], []]⟩ : Page).avO 0 ∧ h = (⟨0, [[], [], [], []]⟩ : Page).hO 0) := by
 refine con_of2 k_c_NewPage_fits rfl fun C hP hmv => ?_
 unfold k_c_NewPage
 refine cx_seq ?_
 refine cx_ops ?_
 refine ax_e (e_alloc (by decide) rfl rfl) ?_
 refine ax_nil ?_
 refine cx_keep rfl rfl ?_
 refine cx_seq ?_
 refine cx_ops ?_
 refine ax_e (e_mkslice rfl rfl rfl (by omega) (by omega) (by omega) (by decide) rfl rfl) ?_
 refine ax_q (q_build rfl) ?_
 refine ax_e (e_st rfl rfl rfl rfl rfl rfl rfl) ?_
 refine ax_nil ?_
 refine cx_keep rfl rfl ?_
 refine cx_ret (retN (fun _ => 0) [1] rfl rfl rfl rfl rfl ?_)
 exact ⟨rfl, rfl⟩

end Go.Proofs.Ythalkmobccealaa
