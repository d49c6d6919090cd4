/- The walks: what each function computes, as a contract without a world (part 1). -/
import Derived.Test.YtioeeemlghkekaaProg
import Derived.Test.YtioeeemlghkekaaW0
namespace Go.Proofs.Ytioeeemlghkekaa
open Go Go.AM
set_option maxRecDepth 10000
set_option linter.unusedVariables false
/- loop.example/g00332/spec.l02Sync -/
def k_c_l02Sync : XCode :=
  .seq (.ops [.op (some 1) (.box (.t 0)),
     .op (some 2) (.alloc [.nils 1, .nils 2, .bool false, .nils 1]),
     .op (some 3) (.mov (.k (.bool false)))])
  (.keep [1, 2] (.seq (.seq (.ops [.op (some 6) (.fadr (.t 1) 2),
      .op (some 7) (.load1 (.t 6))])
   (.keep [1, 2, 7] (.cond (.t 7)
    (.seq (.ops [.op (some 8) (.loadN 4 (.t 1)),
        .op (some 9) (.fadr (.t 1) 3),
        .op (some 10) (.load1 (.t 9)),
        .call (some 11) 91 [.t 8, .t 10],
        .op none (.store 4 (.t 2) (.t 11)),
        .op (some 3) (.mov (.k (.bool false)))])
     (.keep [2, 3] (.ret)))
    (.skip))))
  (.keep [1, 2] (.seq (.ops [.op (some 12) (.loadN 4 (.t 1)),
     .call (some 13) 88 [.t 12],
     .op (some 4) (.alloc [.nils 1, .nils 2, .bool false, .nils 1]),
     .op none (.store 4 (.t 4) (.t 13))])
  (.keep [1, 2, 4] (.seq (.seq (.ops [.op (some 5) (.mov (.k (.int .i64 0)))])
   (.keep [1, 2, 4, 5] (.block 0 (.loop (.seq (.seq (.ops [.op (some 14) (.mov (.t 5)),
         .op (some 15) (.fadr (.t 1) 1),
         .op (some 16) (.load1 (.t 15)),
         .op (some 17) (.lenS (.t 16)),
         .op (some 18) (.bin .lss (.t 14) (.t 17))])
      (.keep [1, 2, 4, 5, 18] (.cond (.t 18)
       (.skip)
       (.exit 0))))
     (.keep [1, 2, 4, 5] (.seq (.block 1 (.drawE [[], [0], [], [2], [], [2, 3, 4], [2, 3, 4, 5], [2, 3, 4, 5, 6], [], [8], [], [8, 9, 10], [8, 9, 10, 11], [8, 9, 10, 11, 12], [0, 1, 2, 3, 4, 5, 6, 7, 8, 9, 10, 11, 12, 13], [0, 1, 2, 3, 4, 5, 6, 7, 8, 9, 10, 11, 12, 13, 14]] [.op (some 21) (.fadr (.t 4) 0),
         .op (some 22) (.load1 (.t 21)),
         .op (some 23) (.fadr (.t 1) 1),
         .op (some 24) (.load1 (.t 23)),
         .op (some 25) (.mov (.t 5)),
         .op (some 26) (.iadr 2 (.t 24) (.t 25)),
         .op (some 27) (.fadr (.t 26) 0),
         .op (some 28) (.load1 (.t 27)),
         .op (some 29) (.fadr (.t 1) 1),
         .op (some 30) (.load1 (.t 29)),
         .op (some 31) (.mov (.t 5)),
         .op (some 32) (.iadr 2 (.t 30) (.t 31)),
         .op (some 33) (.fadr (.t 32) 1),
         .op (some 34) (.load1 (.t 33))]
        [.op (some 35) (.iadr 1 (.t 22) (.t 28)),
         .op none (.store 1 (.t 35) (.t 34))]))
     (.keep [1, 2, 4, 5] (.ops [.op (some 19) (.mov (.t 5)),
       .op (some 20) (.bin .add (.t 19) (.k (.int .i64 1))),
       .op (some 5) (.mov (.t 20))])))))))))
  (.keep [2, 4] (.seq (.ops [.op (some 36) (.bslice 2 []),
     .op (some 37) (.fadr (.t 4) 1),
     .op none (.store 1 (.t 37) (.t 36))])
  (.keep [2, 4] (.seq (.ops [.op (some 38) (.loadN 4 (.t 4)),
     .op none (.store 4 (.t 2) (.t 38)),
     .op (some 3) (.mov (.k (.bool true)))])
  (.keep [2, 3] (.ret))))))))))))
theorem k_c_l02Sync_fits : fitsF Try.prog 92 ⟨39, k_c_l02Sync, [.cN 2 4, .t 3]⟩ = true := by kernel_rfl
set_option maxHeartbeats 2000000 in
theorem c_l02Sync {d : GDisk} (hw0 : d.Sectors.length ≤ 1048576) (hw1 : d.Cache.length ≤ 1048576) (hw2 : d.Keep.length ≤ 1048576) (hat : ∀ p ∈ d.Cache, 0 ≤ p.At ∧ p.At.toNat < d.Sectors.length) : Con Try.prog noMv 92 [d.av] [] (fun r h => r = .tup [(syncD d).1.avO 0 1 2, bool (syncD d).2] ∧ h = (syncD d).1.hO 0 1 2) := by
  refine con_of2 k_c_l02Sync_fits rfl fun C hP hmv => ?_
  unfold k_c_l02Sync
  refine cx_seq ?_
  refine cx_ops ?_
  refine ax_e (e_box rfl rfl (by decide) rfl rfl rfl) ?_
  refine ax_e (e_alloc (by decide) rfl rfl) ?_
  refine ax_q (q_mov rfl) ?_
  refine ax_nil ?_
  refine cx_keep rfl rfl ?_
  refine cx_seq ?_
  refine cx_seq ?_
  refine cx_ops ?_
  first | refine ax_q (q_fadr_ptr rfl) ?_ | refine ax_q (q_fadr_rptr rfl) ?_ | refine ax_q (q_fadr_ip rfl) ?_
  first | refine ax_q (q_load1_ptr rfl rfl rfl) ?_ | refine ax_q (q_load1_ip rfl) ?_ | refine ax_q (q_load1_rptr rfl rfl rfl rfl) ?_ | refine ax_q (q_load1_rptr rfl rfl (by assumption) rfl) ?_ | refine ax_q (q_load1_rptr rfl rfl (mapAt (by first | assumption | omega)) rfl) ?_
  refine ax_nil ?_
  refine cx_keep rfl rfl ?_
  refine cx_cond rfl (fun h0 => ?_) (fun h0 => ?_)
  · skip
    refine cx_seq ?_
    refine cx_ops ?_
    first | refine ax_q (q_ldN rfl rfl rfl) ?_ | refine ax_q (q_loadN_ip rfl (Nat.le_refl _)) ?_ | refine ax_q (q_loadN_ip rfl (by decide)) ?_ | refine ax_q (q_loadN_rptr rfl rfl (by assumption) (by decide)) ?_ | refine ax_q (q_loadN_rptr rfl rfl (mapAt (by first | assumption | omega)) (by decide)) ?_
    first | refine ax_q (q_fadr_ptr rfl) ?_ | refine ax_q (q_fadr_rptr rfl) ?_ | refine ax_q (q_fadr_ip rfl) ?_
    first | refine ax_q (q_load1_ptr rfl rfl rfl) ?_ | refine ax_q (q_load1_ip rfl) ?_ | refine ax_q (q_load1_rptr rfl rfl rfl rfl) ?_ | refine ax_q (q_load1_rptr rfl rfl (by assumption) rfl) ?_ | refine ax_q (q_load1_rptr rfl rfl (mapAt (by first | assumption | omega)) rfl) ?_
    first | refine ax_call rfl (vc_pure (c_l02Crash  ?_ ?_ ?_ ?_ ?_) hP rfl ?_) | refine ax_call rfl (vc_lend (c_l02Crash  ?_ ?_ ?_ ?_ ?_) hP (by repeat (first | exact lal_id _ rfl | exact LAL.nil | refine LAL.cons ?_ ?_ | exact la_id _ rfl | exact LA.lend (lend_whole rfl (by first | (simp; done) | (rw [List.length_map]; rfl))) | refine LA.agg ?_ | refine LA.fn ?_ | refine LA.lend ?_ | exact Lend.d _ | exact Lend.zs _ | exact lend_whole rfl (by first | (simp; done) | (rw [List.length_map]; rfl)) | refine Lend.ptr rfl ?_ | refine Lend.fn ?_ | exact LendL.nil | refine LendL.cons ?_ ?_)) ?_)
    · first | assumption | omega | (simp; done) | (simp; omega)
    · first | assumption | omega | (simp; done) | (simp; omega)
    · first | assumption | omega | (simp; done) | (simp; omega)
    · first | assumption | omega | (simp; done) | (simp; omega)
    · first | assumption | omega | (simp; done) | (simp; omega)
    rintro r h ⟨rfl, rfl⟩
    refine ⟨fun i => 11 + 200 * i, [0, 1, 2], ⟨rfl, rfl, rfl, rfl, rfl, (by first | exact (fun h => absurd h Bool.false_ne_true) | exact (fun _ => ⟨rfl, (noisl_of (by repeat (first | exact trivial | refine ⟨noisl_map (fun _ => rfl), ?_⟩ | refine ⟨?_, ?_⟩)))⟩))⟩, ?_⟩
    skip
    refine ax_e (e_st rfl rfl rfl rfl rfl rfl rfl) ?_
    refine ax_q (q_mov rfl) ?_
    refine ax_nil ?_
    refine cx_keep rfl rfl ?_
    refine cx_ret (retN (fun e => bif Nat.beq e 11 then 0 else bif Nat.beq e 211 then 1 else 2) [11, 211, 411] rfl rfl rfl rfl rfl ?_)
    rw [syncD_1 h0]; exact ⟨rfl, rfl⟩
  · skip
    refine cx_skip ?_
    refine cx_keep rfl rfl ?_
    refine cx_seq ?_
    refine cx_ops ?_
    first | refine ax_q (q_ldN rfl rfl rfl) ?_ | refine ax_q (q_loadN_ip rfl (Nat.le_refl _)) ?_ | refine ax_q (q_loadN_ip rfl (by decide)) ?_ | refine ax_q (q_loadN_rptr rfl rfl (by assumption) (by decide)) ?_ | refine ax_q (q_loadN_rptr rfl rfl (mapAt (by first | assumption | omega)) (by decide)) ?_
    first | refine ax_call rfl (vc_pure (c_l02Own  ?_ ?_ ?_) hP rfl ?_) | refine ax_call rfl (vc_lend (c_l02Own  ?_ ?_ ?_) hP (by repeat (first | exact lal_id _ rfl | exact LAL.nil | refine LAL.cons ?_ ?_ | exact la_id _ rfl | exact LA.lend (lend_whole rfl (by first | (simp; done) | (rw [List.length_map]; rfl))) | refine LA.agg ?_ | refine LA.fn ?_ | refine LA.lend ?_ | exact Lend.d _ | exact Lend.zs _ | exact lend_whole rfl (by first | (simp; done) | (rw [List.length_map]; rfl)) | refine Lend.ptr rfl ?_ | refine Lend.fn ?_ | exact LendL.nil | refine LendL.cons ?_ ?_)) ?_)
    · first | assumption | omega | (simp; done) | (simp; omega)
    · first | assumption | omega | (simp; done) | (simp; omega)
    · first | assumption | omega | (simp; done) | (simp; omega)
    rintro r h ⟨rfl, rfl⟩
    refine ⟨fun i => 13 + 200 * i, [0, 1, 2], ⟨rfl, rfl, rfl, rfl, rfl, (by first | exact (fun h => absurd h Bool.false_ne_true) | exact (fun _ => ⟨rfl, (noisl_of (by repeat (first | exact trivial | refine ⟨noisl_map (fun _ => rfl), ?_⟩ | refine ⟨?_, ?_⟩)))⟩))⟩, ?_⟩
    skip
    refine ax_e (e_alloc (by decide) rfl rfl) ?_
    refine ax_e (e_st rfl rfl rfl rfl rfl rfl rfl) ?_
    refine ax_nil ?_
    refine cx_keep rfl rfl ?_
    refine cx_seq ?_
    refine cx_seq ?_
    refine cx_ops ?_
    refine ax_q (q_mov rfl) ?_
    refine ax_nil ?_
    refine cx_keep rfl rfl ?_
    refine cx_block ?_
    refine cx_loopU (fun n k => k ≤ d.Cache.length ∧ n = d.Cache.length - k) (fun k : Nat => [(5, int k)]) (fun k => [(1, .box [.d (.sl 1 (d.Sectors.map strRow)), .d (.sl 2 (d.Cache.map GPending.row)), .d (.bool d.Armed), .d (.sl 1 (d.Keep.map intRow))]), (2, .box [.zs 1, .zs 2, .d (.bool false), .zs 1]), (4, .box [.osl 13 1 0 d.Sectors.length, .osl 213 2 0 d.Cache.length, .d (.bool d.Armed), .osl 413 1 0 d.Keep.length]), (13, .rows 1 ((syncTo d.Sectors d.Cache k).map strRow)), (213, .rows 2 (d.Cache.map GPending.row)), (413, .rows 1 (d.Keep.map intRow))]) ⟨_, 0, ⟨Nat.zero_le _, rfl⟩, by repeat (first | exact trivial | refine ⟨rfl, ?_⟩ | refine ⟨?_, ?_⟩)⟩ ?_
    rintro n k ⟨hk2, rfl⟩
    refine cx_seq ?_
    refine cx_seq ?_
    refine cx_ops ?_
    refine ax_q (q_mov rfl) ?_
    first | refine ax_q (q_fadr_ptr rfl) ?_ | refine ax_q (q_fadr_rptr rfl) ?_ | refine ax_q (q_fadr_ip rfl) ?_
    first | refine ax_q (q_load1_ptr rfl rfl rfl) ?_ | refine ax_q (q_load1_ip rfl) ?_ | refine ax_q (q_load1_rptr rfl rfl rfl rfl) ?_ | refine ax_q (q_load1_rptr rfl rfl (by assumption) rfl) ?_ | refine ax_q (q_load1_rptr rfl rfl (mapAt (by first | assumption | omega)) rfl) ?_
    first | refine ax_q (q_lenS_map rfl) ?_ | refine ax_q (q_lenS_osl rfl) ?_ | refine ax_q (q_lenS_zs rfl) ?_ | refine ax_q (q_lenS rfl) ?_
    refine ax_q (q_ibin rfl rfl rfl) ?_
    refine ax_nil ?_
    refine cx_keep rfl rfl ?_
    refine cx_cond rfl (fun h1 => ?_) (fun h1 => ?_)
    · have h1 := dT h1
      have h1x : k < d.Cache.length := by omega
      have e1 : (syncTo d.Sectors d.Cache (k + 1)) = _ := syncTo_succ h1x
      refine cx_skip ?_
      refine cx_keep rfl rfl ?_
      refine cx_seq ?_
      refine cx_block ?_
      refine cx_drawL 0 21 (fun _ => false) (fun _ => true) [] ([]) [[4], [21], [1], [23], [5], [24, 25], [26], [27], [1], [29], [5], [30, 31], [32], [33]] [[], [], [], [], [], [], [], [], [], [], [], [], [], []] rfl ?_
      first | refine ⟨⟨21, _, []⟩, .inl ⟨rfl, rfl, rfl, locl_of (loc_q (q_fadr_ptr rfl))⟩, ?_⟩ | refine ⟨⟨21, _, []⟩, .inl ⟨rfl, rfl, rfl, locl_of (loc_q (q_fadr_rptr rfl))⟩, ?_⟩ | refine ⟨⟨21, _, []⟩, .inl ⟨rfl, rfl, rfl, locl_of (loc_q (q_fadr_ip rfl))⟩, ?_⟩
      first | refine ⟨_, .inr ⟨rfl, _, rfl, .inr ⟨rfl, rfl, .inl rfl, rfl, rfl⟩, loc_q (q_load1_ptr rfl rfl rfl)⟩, ?_⟩ | refine ⟨_, .inr ⟨rfl, _, rfl, .inr ⟨rfl, rfl, .inl rfl, rfl, rfl⟩, loc_q (q_load1_ip rfl)⟩, ?_⟩ | refine ⟨_, .inr ⟨rfl, _, rfl, .inr ⟨rfl, rfl, .inl rfl, rfl, rfl⟩, loc_q (q_load1_rptr rfl rfl rfl rfl)⟩, ?_⟩ | refine ⟨_, .inr ⟨rfl, _, rfl, .inr ⟨rfl, rfl, .inl rfl, rfl, rfl⟩, loc_q (q_load1_rptr rfl rfl (by assumption) rfl)⟩, ?_⟩ | refine ⟨_, .inr ⟨rfl, _, rfl, .inr ⟨rfl, rfl, .inl rfl, rfl, rfl⟩, loc_q (q_load1_rptr rfl rfl (mapAt (by first | assumption | omega)) rfl)⟩, ?_⟩
      first | refine ⟨_, .inr ⟨rfl, _, rfl, .inr ⟨rfl, rfl, .inr rfl, rfl, rfl⟩, loc_q (q_fadr_ptr rfl)⟩, ?_⟩ | refine ⟨_, .inr ⟨rfl, _, rfl, .inr ⟨rfl, rfl, .inr rfl, rfl, rfl⟩, loc_q (q_fadr_rptr rfl)⟩, ?_⟩ | refine ⟨_, .inr ⟨rfl, _, rfl, .inr ⟨rfl, rfl, .inr rfl, rfl, rfl⟩, loc_q (q_fadr_ip rfl)⟩, ?_⟩
      first | refine ⟨_, .inr ⟨rfl, _, rfl, .inr ⟨rfl, rfl, .inr rfl, rfl, rfl⟩, loc_q (q_load1_ptr rfl rfl rfl)⟩, ?_⟩ | refine ⟨_, .inr ⟨rfl, _, rfl, .inr ⟨rfl, rfl, .inr rfl, rfl, rfl⟩, loc_q (q_load1_ip rfl)⟩, ?_⟩ | refine ⟨_, .inr ⟨rfl, _, rfl, .inr ⟨rfl, rfl, .inr rfl, rfl, rfl⟩, loc_q (q_load1_rptr rfl rfl rfl rfl)⟩, ?_⟩ | refine ⟨_, .inr ⟨rfl, _, rfl, .inr ⟨rfl, rfl, .inr rfl, rfl, rfl⟩, loc_q (q_load1_rptr rfl rfl (by assumption) rfl)⟩, ?_⟩ | refine ⟨_, .inr ⟨rfl, _, rfl, .inr ⟨rfl, rfl, .inr rfl, rfl, rfl⟩, loc_q (q_load1_rptr rfl rfl (mapAt (by first | assumption | omega)) rfl)⟩, ?_⟩
      first | refine ⟨_, .inr ⟨rfl, _, rfl, .inr ⟨rfl, rfl, .inr rfl, rfl, rfl⟩, loc_q (q_mov rfl)⟩, ?_⟩
      first | refine ⟨_, .inr ⟨rfl, _, rfl, .inr ⟨rfl, rfl, .inr rfl, rfl, rfl⟩, loc_q (q_ix rfl rfl (mapAt h1x))⟩, ?_⟩
      first | refine ⟨_, .inr ⟨rfl, _, rfl, .inr ⟨rfl, rfl, .inr rfl, rfl, rfl⟩, loc_q (q_fadr_ptr rfl)⟩, ?_⟩ | refine ⟨_, .inr ⟨rfl, _, rfl, .inr ⟨rfl, rfl, .inr rfl, rfl, rfl⟩, loc_q (q_fadr_rptr rfl)⟩, ?_⟩ | refine ⟨_, .inr ⟨rfl, _, rfl, .inr ⟨rfl, rfl, .inr rfl, rfl, rfl⟩, loc_q (q_fadr_ip rfl)⟩, ?_⟩
      first | refine ⟨_, .inr ⟨rfl, _, rfl, .inr ⟨rfl, rfl, .inr rfl, rfl, rfl⟩, loc_q (q_load1_ptr rfl rfl rfl)⟩, ?_⟩ | refine ⟨_, .inr ⟨rfl, _, rfl, .inr ⟨rfl, rfl, .inr rfl, rfl, rfl⟩, loc_q (q_load1_ip rfl)⟩, ?_⟩ | refine ⟨_, .inr ⟨rfl, _, rfl, .inr ⟨rfl, rfl, .inr rfl, rfl, rfl⟩, loc_q (q_load1_rptr rfl rfl rfl rfl)⟩, ?_⟩ | refine ⟨_, .inr ⟨rfl, _, rfl, .inr ⟨rfl, rfl, .inr rfl, rfl, rfl⟩, loc_q (q_load1_rptr rfl rfl (by assumption) rfl)⟩, ?_⟩ | refine ⟨_, .inr ⟨rfl, _, rfl, .inr ⟨rfl, rfl, .inr rfl, rfl, rfl⟩, loc_q (q_load1_rptr rfl rfl (mapAt (by first | assumption | omega)) rfl)⟩, ?_⟩
      first | refine ⟨_, .inr ⟨rfl, _, rfl, .inr ⟨rfl, rfl, .inr rfl, rfl, rfl⟩, loc_q (q_fadr_ptr rfl)⟩, ?_⟩ | refine ⟨_, .inr ⟨rfl, _, rfl, .inr ⟨rfl, rfl, .inr rfl, rfl, rfl⟩, loc_q (q_fadr_rptr rfl)⟩, ?_⟩ | refine ⟨_, .inr ⟨rfl, _, rfl, .inr ⟨rfl, rfl, .inr rfl, rfl, rfl⟩, loc_q (q_fadr_ip rfl)⟩, ?_⟩
      first | refine ⟨_, .inr ⟨rfl, _, rfl, .inr ⟨rfl, rfl, .inr rfl, rfl, rfl⟩, loc_q (q_load1_ptr rfl rfl rfl)⟩, ?_⟩ | refine ⟨_, .inr ⟨rfl, _, rfl, .inr ⟨rfl, rfl, .inr rfl, rfl, rfl⟩, loc_q (q_load1_ip rfl)⟩, ?_⟩ | refine ⟨_, .inr ⟨rfl, _, rfl, .inr ⟨rfl, rfl, .inr rfl, rfl, rfl⟩, loc_q (q_load1_rptr rfl rfl rfl rfl)⟩, ?_⟩ | refine ⟨_, .inr ⟨rfl, _, rfl, .inr ⟨rfl, rfl, .inr rfl, rfl, rfl⟩, loc_q (q_load1_rptr rfl rfl (by assumption) rfl)⟩, ?_⟩ | refine ⟨_, .inr ⟨rfl, _, rfl, .inr ⟨rfl, rfl, .inr rfl, rfl, rfl⟩, loc_q (q_load1_rptr rfl rfl (mapAt (by first | assumption | omega)) rfl)⟩, ?_⟩
      first | refine ⟨_, .inr ⟨rfl, _, rfl, .inr ⟨rfl, rfl, .inr rfl, rfl, rfl⟩, loc_q (q_mov rfl)⟩, ?_⟩
      first | refine ⟨_, .inr ⟨rfl, _, rfl, .inr ⟨rfl, rfl, .inr rfl, rfl, rfl⟩, loc_q (q_ix rfl rfl (mapAt h1x))⟩, ?_⟩
      first | refine ⟨_, .inr ⟨rfl, _, rfl, .inr ⟨rfl, rfl, .inr rfl, rfl, rfl⟩, loc_q (q_fadr_ptr rfl)⟩, ?_⟩ | refine ⟨_, .inr ⟨rfl, _, rfl, .inr ⟨rfl, rfl, .inr rfl, rfl, rfl⟩, loc_q (q_fadr_rptr rfl)⟩, ?_⟩ | refine ⟨_, .inr ⟨rfl, _, rfl, .inr ⟨rfl, rfl, .inr rfl, rfl, rfl⟩, loc_q (q_fadr_ip rfl)⟩, ?_⟩
      first | refine ⟨_, .inr ⟨rfl, _, rfl, .inr ⟨rfl, rfl, .inr rfl, rfl, rfl⟩, loc_q (q_load1_ptr rfl rfl rfl)⟩, ?_⟩ | refine ⟨_, .inr ⟨rfl, _, rfl, .inr ⟨rfl, rfl, .inr rfl, rfl, rfl⟩, loc_q (q_load1_ip rfl)⟩, ?_⟩ | refine ⟨_, .inr ⟨rfl, _, rfl, .inr ⟨rfl, rfl, .inr rfl, rfl, rfl⟩, loc_q (q_load1_rptr rfl rfl rfl rfl)⟩, ?_⟩ | refine ⟨_, .inr ⟨rfl, _, rfl, .inr ⟨rfl, rfl, .inr rfl, rfl, rfl⟩, loc_q (q_load1_rptr rfl rfl (by assumption) rfl)⟩, ?_⟩ | refine ⟨_, .inr ⟨rfl, _, rfl, .inr ⟨rfl, rfl, .inr rfl, rfl, rfl⟩, loc_q (q_load1_rptr rfl rfl (mapAt (by first | assumption | omega)) rfl)⟩, ?_⟩
      refine ⟨rfl, ?_⟩
      refine ax_q (q_ixoI rfl rfl (hat _ (List.getElem_mem h1x)).1 (hat _ (List.getElem_mem h1x)).2) ?_
      refine ax_e (e_str (rs' := (syncTo d.Sectors d.Cache (k + 1)).map strRow) (q := strRow d.Cache[k].Data) rfl rfl rfl rfl rfl rfl (mapAt (by rw [syncTo_len]; exact (hat _ (List.getElem_mem h1x)).2)) rfl rfl (by rw [e1]; exact List.map_set.symm)) ?_
      refine ax_nil ?_
      refine cx_keep rfl rfl ?_
      refine cx_ops ?_
      refine ax_q (q_mov rfl) ?_
      refine ax_qe (r' := int ((k + 1 : Nat) : Int)) (q_ibin rfl rfl rfl) (by rw [wi (by omega) (by omega)]; rfl) ?_
      refine ax_q (q_mov rfl) ?_
      refine ax_nil ?_
      exact ⟨_, k + 1, by omega, ⟨by omega, rfl⟩, by repeat (first | exact trivial | refine ⟨rfl, ?_⟩ | refine ⟨?_, ?_⟩)⟩
    · have h1 := dF h1
      have h1x : k = d.Cache.length := by omega
      subst h1x
      refine cx_exit rfl ?_
      refine cx_keep rfl rfl ?_
      refine cx_seq ?_
      refine cx_ops ?_
      refine ax_e (e_bslice rfl (by decide) rfl rfl) ?_
      first | refine ax_q (q_fadr_ptr rfl) ?_ | refine ax_q (q_fadr_rptr rfl) ?_ | refine ax_q (q_fadr_ip rfl) ?_
      refine ax_e (e_st rfl rfl rfl rfl rfl rfl rfl) ?_
      refine ax_nil ?_
      refine cx_keep rfl rfl ?_
      refine cx_seq ?_
      refine cx_ops ?_
      first | refine ax_q (q_ldN rfl rfl rfl) ?_ | refine ax_q (q_loadN_ip rfl (Nat.le_refl _)) ?_ | refine ax_q (q_loadN_ip rfl (by decide)) ?_ | refine ax_q (q_loadN_rptr rfl rfl (by assumption) (by decide)) ?_ | refine ax_q (q_loadN_rptr rfl rfl (mapAt (by first | assumption | omega)) (by decide)) ?_
      refine ax_e (e_st rfl rfl rfl rfl rfl rfl rfl) ?_
      refine ax_q (q_mov rfl) ?_
      refine ax_nil ?_
      refine cx_keep rfl rfl ?_
      refine cx_ret (retN (fun e => bif Nat.beq e 13 then 0 else bif Nat.beq e 36 then 1 else 2) [13, 36, 413] rfl rfl rfl rfl rfl ?_)
      rw [syncD_2 h0]; exact ⟨by unfold GDisk.avO; dsimp only; rw [syncTo_len]; rfl, rfl⟩


/- loop.example/g00332/spec.DiskSync -/
def k_c_sDiskSync : XCode :=
  .seq (.ops [.op (some 1) (.box (.t 0)),
     .op (some 2) (.alloc [.nils 1, .nils 2, .bool false, .nils 1]),
     .op (some 3) (.mov (.k (.bool false))),
     .op (some 4) (.mov (.k (.int .i64 0)))])
  (.keep [1, 2] (.seq (.seq (.ops [.op (some 7) (.loadN 4 (.t 1)),
      .call (some 8) 77 [.t 7],
      .op (some 9) (.not (.t 8))])
   (.keep [1, 2, 9] (.cond (.t 9)
    (.seq (.ops [.op (some 10) (.build [.nils 1, .nils 2, .bool false, .nils 1] []),
        .op none (.store 4 (.t 2) (.t 10)),
        .op (some 3) (.mov (.k (.bool false))),
        .op (some 4) (.mov (.k (.int .i64 1)))])
     (.keep [2, 3, 4] (.ret)))
    (.skip))))
  (.keep [1, 2] (.seq (.ops [.op (some 12) (.loadN 4 (.t 1)),
     .call (some 13) 92 [.t 12],
     .op (some 11) (.mov (.t 13)),
     .op (some 14) (.ext (.t 11) 0),
     .op (some 15) (.ext (.t 11) 1),
     .op (some 5) (.alloc [.nils 1, .nils 2, .bool false, .nils 1]),
     .op none (.store 4 (.t 5) (.t 14)),
     .op (some 6) (.mov (.t 15))])
  (.keep [2, 5, 6] (.seq (.ops [.op (some 16) (.loadN 4 (.t 5)),
     .op (some 17) (.mov (.t 6)),
     .op none (.store 4 (.t 2) (.t 16)),
     .op (some 3) (.mov (.t 17)),
     .op (some 4) (.mov (.k (.int .i64 0)))])
  (.keep [2, 3, 4] (.ret))))))))
theorem k_c_sDiskSync_fits : fitsF Try.prog 42 ⟨18, k_c_sDiskSync, [.cN 2 4, .t 3, .t 4]⟩ = true := by kernel_rfl
theorem c_sDiskSync {d : GDisk} (hw0 : d.Sectors.length ≤ 1048576) (hw1 : d.Cache.length ≤ 1048576) (hw2 : d.Keep.length ≤ 1048576) : Con Try.prog noMv 42 [d.av] [] (fun r h => r = .tup [(syncF d).1.avO 0 1 2, bool (syncF d).2.1, int (syncF d).2.2] ∧ h = (syncF d).1.hO 0 1 2) := by
  refine con_of2 k_c_sDiskSync_fits rfl fun C hP hmv => ?_
  unfold k_c_sDiskSync
  refine cx_seq ?_
  refine cx_ops ?_
  refine ax_e (e_box rfl rfl (by decide) rfl rfl rfl) ?_
  refine ax_e (e_alloc (by decide) rfl rfl) ?_
  refine ax_q (q_mov rfl) ?_
  refine ax_q (q_mov rfl) ?_
  refine ax_nil ?_
  refine cx_keep rfl rfl ?_
  refine cx_seq ?_
  refine cx_seq ?_
  refine cx_ops ?_
  first | refine ax_q (q_ldN rfl rfl rfl) ?_ | refine ax_q (q_loadN_ip rfl (Nat.le_refl _)) ?_ | refine ax_q (q_loadN_ip rfl (by decide)) ?_ | refine ax_q (q_loadN_rptr rfl rfl (by assumption) (by decide)) ?_ | refine ax_q (q_loadN_rptr rfl rfl (mapAt (by first | assumption | omega)) (by decide)) ?_
  first | refine ax_call rfl (vc_pure0 (c_sDiskOK  ?_ ?_ ?_) hP rfl rfl ?_) | refine ax_call rfl (vc_lend0 (c_sDiskOK  ?_ ?_ ?_) hP (by repeat (first | exact lal_id _ rfl | exact LAL.nil | refine LAL.cons ?_ ?_ | exact la_id _ rfl | exact LA.lend (lend_whole rfl (by first | (simp; done) | (rw [List.length_map]; rfl))) | refine LA.agg ?_ | refine LA.fn ?_ | refine LA.lend ?_ | exact Lend.d _ | exact Lend.zs _ | exact lend_whole rfl (by first | (simp; done) | (rw [List.length_map]; rfl)) | refine Lend.ptr rfl ?_ | refine Lend.fn ?_ | exact LendL.nil | refine LendL.cons ?_ ?_)) rfl rfl ?_)
  · first | assumption | omega | (simp; done) | (simp; omega)
  · first | assumption | omega | (simp; done) | (simp; omega)
  · first | assumption | omega | (simp; done) | (simp; omega)
  refine ax_q (q_not rfl) ?_
  refine ax_nil ?_
  refine cx_keep rfl rfl ?_
  refine cx_cond rfl (fun h0 => ?_) (fun h0 => ?_)
  · have h0 := bT h0
    refine cx_seq ?_
    refine cx_ops ?_
    refine ax_q (q_build rfl) ?_
    refine ax_e (e_st rfl rfl rfl rfl rfl rfl rfl) ?_
    refine ax_q (q_mov rfl) ?_
    refine ax_q (q_mov rfl) ?_
    refine ax_nil ?_
    refine cx_keep rfl rfl ?_
    have e : syncF d = (.zero, false, 1) := syncF_1 h0
    refine cx_wk (wk_virt 900 1 rfl rfl rfl) ?_
    refine cx_wk (wk_zsb 2 900 0 rfl rfl rfl) ?_
    refine cx_wk (wk_virt 901 2 rfl rfl rfl) ?_
    refine cx_wk (wk_zsb 2 901 1 rfl rfl rfl) ?_
    refine cx_wk (wk_virt 902 1 rfl rfl rfl) ?_
    refine cx_wk (wk_zsb 2 902 3 rfl rfl rfl) ?_
    refine cx_ret (retN (fun e => bif Nat.beq e 900 then 0 else bif Nat.beq e 901 then 1 else 2) [900, 901, 902] rfl rfl rfl rfl rfl ?_)
    rw [e]; exact ⟨rfl, rfl⟩
  · have h0 := bF h0
    refine cx_skip ?_
    refine cx_keep rfl rfl ?_
    refine cx_seq ?_
    refine cx_ops ?_
    first | refine ax_q (q_ldN rfl rfl rfl) ?_ | refine ax_q (q_loadN_ip rfl (Nat.le_refl _)) ?_ | refine ax_q (q_loadN_ip rfl (by decide)) ?_ | refine ax_q (q_loadN_rptr rfl rfl (by assumption) (by decide)) ?_ | refine ax_q (q_loadN_rptr rfl rfl (mapAt (by first | assumption | omega)) (by decide)) ?_
    first | refine ax_call rfl (vc_pure (c_l02Sync  ?_ ?_ ?_ ?_) hP rfl ?_) | refine ax_call rfl (vc_lend (c_l02Sync  ?_ ?_ ?_ ?_) hP (by repeat (first | exact lal_id _ rfl | exact LAL.nil | refine LAL.cons ?_ ?_ | exact la_id _ rfl | exact LA.lend (lend_whole rfl (by first | (simp; done) | (rw [List.length_map]; rfl))) | refine LA.agg ?_ | refine LA.fn ?_ | refine LA.lend ?_ | exact Lend.d _ | exact Lend.zs _ | exact lend_whole rfl (by first | (simp; done) | (rw [List.length_map]; rfl)) | refine Lend.ptr rfl ?_ | refine Lend.fn ?_ | exact LendL.nil | refine LendL.cons ?_ ?_)) ?_)
    · first | assumption | omega | (simp; done) | (simp; omega)
    · first | assumption | omega | (simp; done) | (simp; omega)
    · first | assumption | omega | (simp; done) | (simp; omega)
    · exact diskOK_at h0
    rintro r h ⟨rfl, rfl⟩
    refine ⟨fun i => 13 + 200 * i, [0, 1, 2], ⟨rfl, rfl, rfl, rfl, rfl, (by first | exact (fun h => absurd h Bool.false_ne_true) | exact (fun _ => ⟨rfl, (noisl_of (by repeat (first | exact trivial | refine ⟨noisl_map (fun _ => rfl), ?_⟩ | refine ⟨?_, ?_⟩)))⟩))⟩, ?_⟩
    skip
    refine ax_q (q_mov rfl) ?_
    refine ax_q (q_ext rfl rfl) ?_
    refine ax_q (q_ext rfl rfl) ?_
    refine ax_e (e_alloc (by decide) rfl rfl) ?_
    refine ax_e (e_st rfl rfl rfl rfl rfl rfl rfl) ?_
    refine ax_q (q_mov rfl) ?_
    refine ax_nil ?_
    refine cx_keep rfl rfl ?_
    refine cx_seq ?_
    refine cx_ops ?_
    first | refine ax_q (q_ldN rfl rfl rfl) ?_ | refine ax_q (q_loadN_ip rfl (Nat.le_refl _)) ?_ | refine ax_q (q_loadN_ip rfl (by decide)) ?_ | refine ax_q (q_loadN_rptr rfl rfl (by assumption) (by decide)) ?_ | refine ax_q (q_loadN_rptr rfl rfl (mapAt (by first | assumption | omega)) (by decide)) ?_
    refine ax_q (q_mov rfl) ?_
    refine ax_e (e_st rfl rfl rfl rfl rfl rfl rfl) ?_
    refine ax_q (q_mov rfl) ?_
    refine ax_q (q_mov rfl) ?_
    refine ax_nil ?_
    refine cx_keep rfl rfl ?_
    refine cx_ret (retN (fun e => bif Nat.beq e 13 then 0 else bif Nat.beq e 213 then 1 else 2) [13, 213, 413] rfl rfl rfl rfl rfl ?_)
    rw [syncF_2 h0]; exact ⟨rfl, rfl⟩

end Go.Proofs.Ytioeeemlghkekaa
