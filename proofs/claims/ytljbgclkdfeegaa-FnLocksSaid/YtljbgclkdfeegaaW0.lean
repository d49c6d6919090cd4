/- The walks: what each function computes, as a contract without a world (part 0). -/
import Derived.Test.YtljbgclkdfeegaaProg
import Derived.Test.YtljbgclkdfeegaaD
namespace Go.Proofs.Ytljbgclkdfeegaa
open Go Go.AM
set_option maxRecDepth 10000
set_option linter.unusedVariables false
/- loop.example/g00332/spec.l00Source -/
def k_c_l00Source : XCode :=
  .seq (.ops [.op (some 2) (.mov (.k (.nilp)))])
  (.keep [0] (.seq (.ops [.op (some 3) (.mov (.t 0)),
     .op (some 4) (.mov (.t 0)),
     .op (some 5) (.lenS (.t 4)),
     .op (some 6) (.bin .rem (.t 5) (.k (.int .i64 1000))),
     .op (some 7) (.build [.nils 1, .int .i64 0, .int .i64 0] [(0, 1, .t 3), (2, 1, .t 6)]),
     .op (some 8) (.box (.t 7)),
     .op (some 2) (.mov (.t 8))])
  (.keep [2] (.ret))))
theorem k_c_l00Source_fits : fitsF Try.prog 27 ⟨9, k_c_l00Source, [.t 2]⟩ = true := by kernel_rfl
theorem c_l00Source {code : Str} (hl : code.length ≤ 1048576) : Con Try.prog noMv 27 [.d (.sl 1 (code.map byteRow))] [] (fun r h => r = .ptr 0 0 ∧ h = (srcOf code).h 0) := by
  refine con_of2 k_c_l00Source_fits rfl fun C hP hmv => ?_
  unfold k_c_l00Source
  refine cx_seq ?_
  refine cx_ops ?_
  refine ax_q (q_mov rfl) ?_
  refine ax_nil ?_
  refine cx_keep rfl rfl ?_
  refine cx_seq ?_
  refine cx_ops ?_
  refine ax_q (q_mov rfl) ?_
  refine ax_q (q_mov rfl) ?_
  first | refine ax_q (q_lenS_map rfl) ?_ | refine ax_q (q_lenS_osl rfl) ?_ | refine ax_q (q_lenS_zs rfl) ?_ | refine ax_q (q_lenS rfl) ?_
  refine ax_q (q_mod rfl rfl (by omega) (by omega)) ?_
  refine ax_q (q_build rfl) ?_
  refine ax_e (e_box rfl rfl (by decide) rfl rfl rfl) ?_
  refine ax_q (q_mov rfl) ?_
  refine ax_nil ?_
  refine cx_keep rfl rfl ?_
  refine cx_ret (retN (fun _ => 0) [8] rfl rfl rfl rfl rfl ?_)
  exact ⟨rfl, rfl⟩


/- loop.example/g00332/spec.l06Free -/
def k_c_l06Free : XCode :=
  .seq (.ops [.op (some 2) (.box (.t 0)),
     .op (some 4) (.alloc [.nils 4, .nils 2])])
  (.keep [1, 2, 4] (.seq (.ops [.op (some 8) (.bslice 4 []),
     .op (some 9) (.bslice 2 []),
     .op (some 10) (.build [.nils 4, .nils 2] [(0, 1, .t 8), (1, 1, .t 9)]),
     .op (some 5) (.alloc [.nils 4, .nils 2]),
     .op none (.store 2 (.t 5) (.t 10))])
  (.keep [1, 2, 4, 5] (.seq (.seq (.ops [.op (some 6) (.mov (.k (.int .i64 0)))])
   (.keep [1, 2, 4, 5, 6] (.block 0 (.loop (.seq (.seq (.ops [.op (some 11) (.mov (.t 6)),
         .op (some 12) (.fadr (.t 2) 0),
         .op (some 13) (.load1 (.t 12)),
         .op (some 14) (.lenS (.t 13)),
         .op (some 15) (.bin .lss (.t 11) (.t 14))])
      (.keep [1, 2, 4, 5, 6, 15] (.cond (.t 15)
       (.skip)
       (.exit 0))))
     (.keep [1, 2, 4, 5, 6] (.seq (.block 1 (.seq (.ops [.op (some 18) (.fadr (.t 2) 0),
          .op (some 19) (.load1 (.t 18)),
          .op (some 20) (.mov (.t 6)),
          .op (some 21) (.iadr 4 (.t 19) (.t 20)),
          .op (some 22) (.fadr (.t 21) 0),
          .op (some 23) (.load1 (.t 22)),
          .op (some 24) (.mov (.t 1)),
          .op (some 25) (.bin .neq (.t 23) (.t 24))])
       (.keep [1, 2, 4, 5, 6, 25] (.cond (.t 25)
        (.drawE [[], [0], [], [2], [], [2, 3, 4], [2, 3, 4, 5], [2, 3, 4, 5, 6], [0, 1, 2, 3, 4, 5, 6, 7], [0, 1, 2, 3, 4, 5, 6, 7, 8], [0, 1, 2, 3, 4, 5, 6, 7, 8, 9]] [.op (some 26) (.fadr (.t 5) 0),
           .op (some 27) (.load1 (.t 26)),
           .op (some 28) (.fadr (.t 2) 0),
           .op (some 29) (.load1 (.t 28)),
           .op (some 30) (.mov (.t 6)),
           .op (some 31) (.iadr 4 (.t 29) (.t 30)),
           .op (some 32) (.loadN 4 (.t 31)),
           .op (some 33) (.bslice 4 [.t 32])]
          [.op (some 34) (.app 4 32 [.int .i64 0, .int .i64 0, .int .i64 0, .int .i64 0] (.t 27) (.t 33)),
           .op (some 35) (.fadr (.t 5) 0),
           .op none (.store 1 (.t 35) (.t 34))])
        (.skip)))))
     (.keep [1, 2, 4, 5, 6] (.ops [.op (some 16) (.mov (.t 6)),
       .op (some 17) (.bin .add (.t 16) (.k (.int .i64 1))),
       .op (some 6) (.mov (.t 17))])))))))))
  (.keep [1, 2, 4, 5] (.seq (.seq (.ops [.op (some 7) (.mov (.k (.int .i64 0)))])
   (.keep [1, 2, 4, 5, 7] (.block 2 (.loop (.seq (.seq (.ops [.op (some 36) (.mov (.t 7)),
         .op (some 37) (.fadr (.t 2) 1),
         .op (some 38) (.load1 (.t 37)),
         .op (some 39) (.lenS (.t 38)),
         .op (some 40) (.bin .lss (.t 36) (.t 39))])
      (.keep [1, 2, 4, 5, 7, 40] (.cond (.t 40)
       (.skip)
       (.exit 2))))
     (.keep [1, 2, 4, 5, 7] (.seq (.block 3 (.seq (.ops [.op (some 43) (.fadr (.t 2) 1),
          .op (some 44) (.load1 (.t 43)),
          .op (some 45) (.mov (.t 7)),
          .op (some 46) (.iadr 2 (.t 44) (.t 45)),
          .op (some 47) (.fadr (.t 46) 0),
          .op (some 48) (.load1 (.t 47)),
          .op (some 49) (.mov (.t 1)),
          .op (some 50) (.bin .neq (.t 48) (.t 49)),
          .op (some 51) (.mov (.t 50)),
          .andor 60 true 8 51 [.op (some 52) (.fadr (.t 2) 1), .op (some 53) (.load1 (.t 52)), .op (some 54) (.mov (.t 7)), .op (some 55) (.iadr 2 (.t 53) (.t 54)), .op (some 56) (.fadr (.t 55) 1), .op (some 57) (.load1 (.t 56)), .op (some 58) (.mov (.t 1)), .op (some 59) (.bin .neq (.t 57) (.t 58))] (.t 59)])
       (.keep [1, 2, 4, 5, 7, 60] (.cond (.t 60)
        (.drawE [[], [0], [], [2], [], [2, 3, 4], [2, 3, 4, 5], [2, 3, 4, 5, 6], [0, 1, 2, 3, 4, 5, 6, 7], [0, 1, 2, 3, 4, 5, 6, 7, 8], [0, 1, 2, 3, 4, 5, 6, 7, 8, 9]] [.op (some 61) (.fadr (.t 5) 1),
           .op (some 62) (.load1 (.t 61)),
           .op (some 63) (.fadr (.t 2) 1),
           .op (some 64) (.load1 (.t 63)),
           .op (some 65) (.mov (.t 7)),
           .op (some 66) (.iadr 2 (.t 64) (.t 65)),
           .op (some 67) (.loadN 2 (.t 66)),
           .op (some 68) (.bslice 2 [.t 67])]
          [.op (some 69) (.app 2 16 [.int .i64 0, .int .i64 0] (.t 62) (.t 68)),
           .op (some 70) (.fadr (.t 5) 1),
           .op none (.store 1 (.t 70) (.t 69))])
        (.skip)))))
     (.keep [1, 2, 4, 5, 7] (.ops [.op (some 41) (.mov (.t 7)),
       .op (some 42) (.bin .add (.t 41) (.k (.int .i64 1))),
       .op (some 7) (.mov (.t 42))])))))))))
  (.keep [4, 5] (.seq (.ops [.op (some 71) (.loadN 2 (.t 5)),
     .op none (.store 2 (.t 4) (.t 71))])
  (.keep [4] (.ret))))))))))
theorem k_c_l06Free_fits : fitsF Try.prog 34 ⟨72, k_c_l06Free, [.cN 4 2]⟩ = true := by kernel_rfl
theorem c_l06Free {l : GLocks} {tx : Int} (hw0 : l.Held.length ≤ 1048576) (hw1 : l.Waits.length ≤ 1048576) : Con Try.prog noMv 34 [l.av, int tx] [] (fun r h => r = (freed l tx).avO 0 1 ∧ h = (freed l tx).hO 0 1) := by
  refine con_of2 k_c_l06Free_fits rfl fun C hP hmv => ?_
  unfold k_c_l06Free
  let q : GLock → Bool := fun x => !decide (x.Tx = tx)
  let q2 : GWait → Bool := fun x => !(decide (x.Tx = tx) || decide (x.For = tx))
  refine cx_seq ?_
  refine cx_ops ?_
  refine ax_e (e_box rfl rfl (by decide) rfl rfl rfl) ?_
  refine ax_e (e_alloc (by decide) rfl rfl) ?_
  refine ax_nil ?_
  refine cx_keep rfl rfl ?_
  refine cx_seq ?_
  refine cx_ops ?_
  refine ax_e (e_bslice rfl (by decide) rfl rfl) ?_
  refine ax_e (e_bslice rfl (by decide) rfl rfl) ?_
  refine ax_q (q_build rfl) ?_
  refine ax_e (e_alloc (by decide) rfl rfl) ?_
  refine ax_e (e_st rfl rfl rfl rfl rfl rfl rfl) ?_
  refine ax_nil ?_
  refine cx_keep rfl rfl ?_
  refine cx_seq ?_
  refine cx_seq ?_
  refine cx_ops ?_
  refine ax_q (q_mov rfl) ?_
  refine ax_nil ?_
  refine cx_keep rfl rfl ?_
  refine cx_block ?_
  refine cx_loopU (fun n k => k ≤ l.Held.length ∧ n = l.Held.length - k) (fun k : Nat => [(6, int k)]) (fun k => [(2, .box [.d (.sl 4 (l.Held.map GLock.row)), .d (.sl 2 (l.Waits.map GWait.row))]), (4, .box [.zs 4, .zs 2]), (5, .box [.osl 8 4 0 ((l.Held.take k).filter q).length, .osl 9 2 0 0]), (8, .rows 4 (((l.Held.take k).filter q).map GLock.row)), (9, .rows 2 [])]) ⟨_, 0, ⟨Nat.zero_le _, rfl⟩, by repeat (first | exact trivial | refine ⟨rfl, ?_⟩ | refine ⟨?_, ?_⟩)⟩ ?_
  rintro n k ⟨hk, rfl⟩
  refine cx_seq ?_
  refine cx_seq ?_
  refine cx_ops ?_
  refine ax_q (q_mov rfl) ?_
  first | refine ax_q (q_fadr_ptr rfl) ?_ | refine ax_q (q_fadr_rptr rfl) ?_ | refine ax_q (q_fadr_ip rfl) ?_
  first | refine ax_q (q_load1_ptr rfl rfl rfl) ?_ | refine ax_q (q_load1_ip rfl) ?_ | refine ax_q (q_load1_rptr rfl rfl rfl rfl) ?_ | refine ax_q (q_load1_rptr rfl rfl (by assumption) rfl) ?_ | refine ax_q (q_load1_rptr rfl rfl (mapAt (by first | assumption | omega)) rfl) ?_
  first | refine ax_q (q_lenS_map rfl) ?_ | refine ax_q (q_lenS_osl rfl) ?_ | refine ax_q (q_lenS_zs rfl) ?_ | refine ax_q (q_lenS rfl) ?_
  refine ax_q (q_ibin rfl rfl rfl) ?_
  refine ax_nil ?_
  refine cx_keep rfl rfl ?_
  refine cx_cond rfl (fun h0 => ?_) (fun h0 => ?_)
  · have h0 := dT h0
    have h0x : k < l.Held.length := by omega
    have hfl := @filt_le _ q l.Held k
    refine cx_skip ?_
    refine cx_keep rfl rfl ?_
    refine cx_seq ?_
    refine cx_block ?_
    refine cx_seq ?_
    refine cx_ops ?_
    first | refine ax_q (q_fadr_ptr rfl) ?_ | refine ax_q (q_fadr_rptr rfl) ?_ | refine ax_q (q_fadr_ip rfl) ?_
    first | refine ax_q (q_load1_ptr rfl rfl rfl) ?_ | refine ax_q (q_load1_ip rfl) ?_ | refine ax_q (q_load1_rptr rfl rfl rfl rfl) ?_ | refine ax_q (q_load1_rptr rfl rfl (by assumption) rfl) ?_ | refine ax_q (q_load1_rptr rfl rfl (mapAt (by first | assumption | omega)) rfl) ?_
    refine ax_q (q_mov rfl) ?_
    refine ax_q (q_ix rfl rfl (mapAt h0x)) ?_
    first | refine ax_q (q_fadr_ptr rfl) ?_ | refine ax_q (q_fadr_rptr rfl) ?_ | refine ax_q (q_fadr_ip rfl) ?_
    first | refine ax_q (q_load1_ptr rfl rfl rfl) ?_ | refine ax_q (q_load1_ip rfl) ?_ | refine ax_q (q_load1_rptr rfl rfl rfl rfl) ?_ | refine ax_q (q_load1_rptr rfl rfl (by assumption) rfl) ?_ | refine ax_q (q_load1_rptr rfl rfl (mapAt (by first | assumption | omega)) rfl) ?_
    refine ax_q (q_mov rfl) ?_
    refine ax_q (q_ibin rfl rfl rfl) ?_
    refine ax_nil ?_
    refine cx_keep rfl rfl ?_
    refine cx_cond rfl (fun h1 => ?_) (fun h1 => ?_)
    · have h1 := nT h1
      have e1 := filt_succ (q := q) h0x (by show (!decide _) = true; rw [decide_eq_false h1]; rfl)
      refine cx_drawL 0 26 (fun _ => false) (fun _ => true) [] ([]) [[5], [26], [2], [28], [6], [29, 30], [31], [32]] [[], [], [], [], [], [], [], []] rfl ?_
      first | refine ⟨⟨26, _, []⟩, .inl ⟨rfl, rfl, rfl, locl_of (loc_q (q_fadr_ptr rfl))⟩, ?_⟩ | refine ⟨⟨26, _, []⟩, .inl ⟨rfl, rfl, rfl, locl_of (loc_q (q_fadr_rptr rfl))⟩, ?_⟩ | refine ⟨⟨26, _, []⟩, .inl ⟨rfl, rfl, rfl, locl_of (loc_q (q_fadr_ip rfl))⟩, ?_⟩
      first | refine ⟨_, .inr ⟨rfl, _, rfl, .inr ⟨rfl, rfl, .inl rfl, rfl, rfl⟩, loc_q (q_load1_ptr rfl rfl rfl)⟩, ?_⟩ | refine ⟨_, .inr ⟨rfl, _, rfl, .inr ⟨rfl, rfl, .inl rfl, rfl, rfl⟩, loc_q (q_load1_ip rfl)⟩, ?_⟩ | refine ⟨_, .inr ⟨rfl, _, rfl, .inr ⟨rfl, rfl, .inl rfl, rfl, rfl⟩, loc_q (q_load1_rptr rfl rfl rfl rfl)⟩, ?_⟩ | refine ⟨_, .inr ⟨rfl, _, rfl, .inr ⟨rfl, rfl, .inl rfl, rfl, rfl⟩, loc_q (q_load1_rptr rfl rfl (by assumption) rfl)⟩, ?_⟩ | refine ⟨_, .inr ⟨rfl, _, rfl, .inr ⟨rfl, rfl, .inl rfl, rfl, rfl⟩, loc_q (q_load1_rptr rfl rfl (mapAt (by first | assumption | omega)) rfl)⟩, ?_⟩
      first | refine ⟨_, .inr ⟨rfl, _, rfl, .inr ⟨rfl, rfl, .inr rfl, rfl, rfl⟩, loc_q (q_fadr_ptr rfl)⟩, ?_⟩ | refine ⟨_, .inr ⟨rfl, _, rfl, .inr ⟨rfl, rfl, .inr rfl, rfl, rfl⟩, loc_q (q_fadr_rptr rfl)⟩, ?_⟩ | refine ⟨_, .inr ⟨rfl, _, rfl, .inr ⟨rfl, rfl, .inr rfl, rfl, rfl⟩, loc_q (q_fadr_ip rfl)⟩, ?_⟩
      first | refine ⟨_, .inr ⟨rfl, _, rfl, .inr ⟨rfl, rfl, .inr rfl, rfl, rfl⟩, loc_q (q_load1_ptr rfl rfl rfl)⟩, ?_⟩ | refine ⟨_, .inr ⟨rfl, _, rfl, .inr ⟨rfl, rfl, .inr rfl, rfl, rfl⟩, loc_q (q_load1_ip rfl)⟩, ?_⟩ | refine ⟨_, .inr ⟨rfl, _, rfl, .inr ⟨rfl, rfl, .inr rfl, rfl, rfl⟩, loc_q (q_load1_rptr rfl rfl rfl rfl)⟩, ?_⟩ | refine ⟨_, .inr ⟨rfl, _, rfl, .inr ⟨rfl, rfl, .inr rfl, rfl, rfl⟩, loc_q (q_load1_rptr rfl rfl (by assumption) rfl)⟩, ?_⟩ | refine ⟨_, .inr ⟨rfl, _, rfl, .inr ⟨rfl, rfl, .inr rfl, rfl, rfl⟩, loc_q (q_load1_rptr rfl rfl (mapAt (by first | assumption | omega)) rfl)⟩, ?_⟩
      first | refine ⟨_, .inr ⟨rfl, _, rfl, .inr ⟨rfl, rfl, .inr rfl, rfl, rfl⟩, loc_q (q_mov rfl)⟩, ?_⟩
      first | refine ⟨_, .inr ⟨rfl, _, rfl, .inr ⟨rfl, rfl, .inr rfl, rfl, rfl⟩, loc_q (q_ix rfl rfl (mapAt h0x))⟩, ?_⟩
      first | refine ⟨_, .inr ⟨rfl, _, rfl, .inr ⟨rfl, rfl, .inr rfl, rfl, rfl⟩, loc_q (q_ldN rfl rfl rfl)⟩, ?_⟩ | refine ⟨_, .inr ⟨rfl, _, rfl, .inr ⟨rfl, rfl, .inr rfl, rfl, rfl⟩, loc_q (q_loadN_ip rfl (Nat.le_refl _))⟩, ?_⟩ | refine ⟨_, .inr ⟨rfl, _, rfl, .inr ⟨rfl, rfl, .inr rfl, rfl, rfl⟩, loc_q (q_loadN_ip rfl (by decide))⟩, ?_⟩ | refine ⟨_, .inr ⟨rfl, _, rfl, .inr ⟨rfl, rfl, .inr rfl, rfl, rfl⟩, loc_q (q_loadN_rptr rfl rfl (by assumption) (by decide))⟩, ?_⟩ | refine ⟨_, .inr ⟨rfl, _, rfl, .inr ⟨rfl, rfl, .inr rfl, rfl, rfl⟩, loc_q (q_loadN_rptr rfl rfl (mapAt (by first | assumption | omega)) (by decide))⟩, ?_⟩
      first | refine ⟨_, .inr ⟨rfl, _, rfl, .inr ⟨rfl, rfl, .inr rfl, rfl, rfl⟩, loc_bslice rfl⟩, ?_⟩
      refine ⟨rfl, ?_⟩
      refine ax_e (e_appn (n' := ((l.Held.take (k + 1)).filter q).length) (rs' := ((l.Held.take (k + 1)).filter q).map GLock.row) rfl rfl (by simp) rfl (src_osl rfl (by simp)) (.inl (by decide)) (hbnd (by omega) (by simp) (by decide)) (by rw [e1]; simp) (by rw [e1]; exact app1 rfl)) ?_
      first | refine ax_q (q_fadr_ptr rfl) ?_ | refine ax_q (q_fadr_rptr rfl) ?_ | refine ax_q (q_fadr_ip rfl) ?_
      refine ax_e (e_st rfl rfl rfl rfl rfl rfl rfl) ?_
      refine ax_nil ?_
      refine cx_keep rfl rfl ?_
      refine cx_ops ?_
      refine ax_q (q_mov rfl) ?_
      refine ax_qe (r' := int ((k + 1 : Nat) : Int)) (q_ibin rfl rfl rfl) (by rw [wi (by omega) (by omega)]; rfl) ?_
      refine ax_q (q_mov rfl) ?_
      refine ax_nil ?_
      exact ⟨_, k + 1, by omega, ⟨by omega, rfl⟩, by repeat (first | exact trivial | refine ⟨rfl, ?_⟩ | refine ⟨?_, ?_⟩)⟩
    · have h1 := nF h1
      have e1 := filt_same (q := q) h0x (by show (!decide _) = false; rw [decide_eq_true h1]; rfl)
      rw [← e1]
      refine cx_skip ?_
      refine cx_keep rfl rfl ?_
      refine cx_ops ?_
      refine ax_q (q_mov rfl) ?_
      refine ax_qe (r' := int ((k + 1 : Nat) : Int)) (q_ibin rfl rfl rfl) (by rw [wi (by omega) (by omega)]; rfl) ?_
      refine ax_q (q_mov rfl) ?_
      refine ax_nil ?_
      exact ⟨_, k + 1, by omega, ⟨by omega, rfl⟩, by repeat (first | exact trivial | refine ⟨rfl, ?_⟩ | refine ⟨?_, ?_⟩)⟩
  · have h0 := dF h0
    have h0x : k = l.Held.length := by omega
    subst h0x
    rw [List.take_length]
    refine cx_exit rfl ?_
    refine cx_keep rfl rfl ?_
    refine cx_seq ?_
    refine cx_seq ?_
    refine cx_ops ?_
    refine ax_q (q_mov rfl) ?_
    refine ax_nil ?_
    refine cx_keep rfl rfl ?_
    refine cx_block ?_
    refine cx_loopU (fun n k => k ≤ l.Waits.length ∧ n = l.Waits.length - k) (fun k : Nat => [(7, int k)]) (fun k => [(2, .box [.d (.sl 4 (l.Held.map GLock.row)), .d (.sl 2 (l.Waits.map GWait.row))]), (4, .box [.zs 4, .zs 2]), (5, .box [.osl 8 4 0 (l.Held.filter q).length, .osl 9 2 0 ((l.Waits.take k).filter q2).length]), (8, .rows 4 ((l.Held.filter q).map GLock.row)), (9, .rows 2 (((l.Waits.take k).filter q2).map GWait.row))]) ⟨_, 0, ⟨Nat.zero_le _, rfl⟩, by repeat (first | exact trivial | refine ⟨rfl, ?_⟩ | refine ⟨?_, ?_⟩)⟩ ?_
    rintro n k ⟨hk, rfl⟩
    refine cx_seq ?_
    refine cx_seq ?_
    refine cx_ops ?_
    refine ax_q (q_mov rfl) ?_
    first | refine ax_q (q_fadr_ptr rfl) ?_ | refine ax_q (q_fadr_rptr rfl) ?_ | refine ax_q (q_fadr_ip rfl) ?_
    first | refine ax_q (q_load1_ptr rfl rfl rfl) ?_ | refine ax_q (q_load1_ip rfl) ?_ | refine ax_q (q_load1_rptr rfl rfl rfl rfl) ?_ | refine ax_q (q_load1_rptr rfl rfl (by assumption) rfl) ?_ | refine ax_q (q_load1_rptr rfl rfl (mapAt (by first | assumption | omega)) rfl) ?_
    first | refine ax_q (q_lenS_map rfl) ?_ | refine ax_q (q_lenS_osl rfl) ?_ | refine ax_q (q_lenS_zs rfl) ?_ | refine ax_q (q_lenS rfl) ?_
    refine ax_q (q_ibin rfl rfl rfl) ?_
    refine ax_nil ?_
    refine cx_keep rfl rfl ?_
    refine cx_cond rfl (fun h2 => ?_) (fun h2 => ?_)
    · have h2 := dT h2
      have h2x : k < l.Waits.length := by omega
      have hfl := @filt_le _ q2 l.Waits k
      refine cx_skip ?_
      refine cx_keep rfl rfl ?_
      refine cx_seq ?_
      refine cx_block ?_
      refine cx_seq ?_
      refine cx_ops ?_
      first | refine ax_q (q_fadr_ptr rfl) ?_ | refine ax_q (q_fadr_rptr rfl) ?_ | refine ax_q (q_fadr_ip rfl) ?_
      first | refine ax_q (q_load1_ptr rfl rfl rfl) ?_ | refine ax_q (q_load1_ip rfl) ?_ | refine ax_q (q_load1_rptr rfl rfl rfl rfl) ?_ | refine ax_q (q_load1_rptr rfl rfl (by assumption) rfl) ?_ | refine ax_q (q_load1_rptr rfl rfl (mapAt (by first | assumption | omega)) rfl) ?_
      refine ax_q (q_mov rfl) ?_
      refine ax_q (q_ix rfl rfl (mapAt h2x)) ?_
      first | refine ax_q (q_fadr_ptr rfl) ?_ | refine ax_q (q_fadr_rptr rfl) ?_ | refine ax_q (q_fadr_ip rfl) ?_
      first | refine ax_q (q_load1_ptr rfl rfl rfl) ?_ | refine ax_q (q_load1_ip rfl) ?_ | refine ax_q (q_load1_rptr rfl rfl rfl rfl) ?_ | refine ax_q (q_load1_rptr rfl rfl (by assumption) rfl) ?_ | refine ax_q (q_load1_rptr rfl rfl (mapAt (by first | assumption | omega)) rfl) ?_
      refine ax_q (q_mov rfl) ?_
      refine ax_q (q_ibin rfl rfl rfl) ?_
      refine ax_q (q_mov rfl) ?_
      apply ax_and rfl rfl
      · intro g
        have g := nT g
        first | refine ax_q (q_fadr_ptr rfl) ?_ | refine ax_q (q_fadr_rptr rfl) ?_ | refine ax_q (q_fadr_ip rfl) ?_
        first | refine ax_q (q_load1_ptr rfl rfl rfl) ?_ | refine ax_q (q_load1_ip rfl) ?_ | refine ax_q (q_load1_rptr rfl rfl rfl rfl) ?_ | refine ax_q (q_load1_rptr rfl rfl (by assumption) rfl) ?_ | refine ax_q (q_load1_rptr rfl rfl (mapAt (by first | assumption | omega)) rfl) ?_
        refine ax_q (q_mov rfl) ?_
        refine ax_q (q_ix rfl rfl (mapAt h2x)) ?_
        first | refine ax_q (q_fadr_ptr rfl) ?_ | refine ax_q (q_fadr_rptr rfl) ?_ | refine ax_q (q_fadr_ip rfl) ?_
        first | refine ax_q (q_load1_ptr rfl rfl rfl) ?_ | refine ax_q (q_load1_ip rfl) ?_ | refine ax_q (q_load1_rptr rfl rfl rfl rfl) ?_ | refine ax_q (q_load1_rptr rfl rfl (by assumption) rfl) ?_ | refine ax_q (q_load1_rptr rfl rfl (mapAt (by first | assumption | omega)) rfl) ?_
        refine ax_q (q_mov rfl) ?_
        refine ax_q (q_ibin rfl rfl rfl) ?_
        exact ax_nil ⟨rfl, by repeat (first | exact trivial | refine ⟨rfl, ?_⟩ | refine ⟨?_, ?_⟩)⟩
      refine ax_nil ?_
      refine cx_keep rfl rfl ?_
      refine cx_cond rfl (fun h3 => ?_) (fun h3 => ?_)
      · have h3 := (fun h => And.intro (nT (and_T h).1) (nT (and_T h).2)) h3
        have e3 := filt_succ (q := q2) h2x (by show (!(decide _ || decide _)) = true; rw [decide_eq_false h3.1, decide_eq_false h3.2]; rfl)
        refine cx_drawL 0 61 (fun _ => false) (fun _ => true) [] ([]) [[5], [61], [2], [63], [7], [64, 65], [66], [67]] [[], [], [], [], [], [], [], []] rfl ?_
        first | refine ⟨⟨61, _, []⟩, .inl ⟨rfl, rfl, rfl, locl_of (loc_q (q_fadr_ptr rfl))⟩, ?_⟩ | refine ⟨⟨61, _, []⟩, .inl ⟨rfl, rfl, rfl, locl_of (loc_q (q_fadr_rptr rfl))⟩, ?_⟩ | refine ⟨⟨61, _, []⟩, .inl ⟨rfl, rfl, rfl, locl_of (loc_q (q_fadr_ip rfl))⟩, ?_⟩
        first | refine ⟨_, .inr ⟨rfl, _, rfl, .inr ⟨rfl, rfl, .inl rfl, rfl, rfl⟩, loc_q (q_load1_ptr rfl rfl rfl)⟩, ?_⟩ | refine ⟨_, .inr ⟨rfl, _, rfl, .inr ⟨rfl, rfl, .inl rfl, rfl, rfl⟩, loc_q (q_load1_ip rfl)⟩, ?_⟩ | refine ⟨_, .inr ⟨rfl, _, rfl, .inr ⟨rfl, rfl, .inl rfl, rfl, rfl⟩, loc_q (q_load1_rptr rfl rfl rfl rfl)⟩, ?_⟩ | refine ⟨_, .inr ⟨rfl, _, rfl, .inr ⟨rfl, rfl, .inl rfl, rfl, rfl⟩, loc_q (q_load1_rptr rfl rfl (by assumption) rfl)⟩, ?_⟩ | refine ⟨_, .inr ⟨rfl, _, rfl, .inr ⟨rfl, rfl, .inl rfl, rfl, rfl⟩, loc_q (q_load1_rptr rfl rfl (mapAt (by first | assumption | omega)) rfl)⟩, ?_⟩
        first | refine ⟨_, .inr ⟨rfl, _, rfl, .inr ⟨rfl, rfl, .inr rfl, rfl, rfl⟩, loc_q (q_fadr_ptr rfl)⟩, ?_⟩ | refine ⟨_, .inr ⟨rfl, _, rfl, .inr ⟨rfl, rfl, .inr rfl, rfl, rfl⟩, loc_q (q_fadr_rptr rfl)⟩, ?_⟩ | refine ⟨_, .inr ⟨rfl, _, rfl, .inr ⟨rfl, rfl, .inr rfl, rfl, rfl⟩, loc_q (q_fadr_ip rfl)⟩, ?_⟩
        first | refine ⟨_, .inr ⟨rfl, _, rfl, .inr ⟨rfl, rfl, .inr rfl, rfl, rfl⟩, loc_q (q_load1_ptr rfl rfl rfl)⟩, ?_⟩ | refine ⟨_, .inr ⟨rfl, _, rfl, .inr ⟨rfl, rfl, .inr rfl, rfl, rfl⟩, loc_q (q_load1_ip rfl)⟩, ?_⟩ | refine ⟨_, .inr ⟨rfl, _, rfl, .inr ⟨rfl, rfl, .inr rfl, rfl, rfl⟩, loc_q (q_load1_rptr rfl rfl rfl rfl)⟩, ?_⟩ | refine ⟨_, .inr ⟨rfl, _, rfl, .inr ⟨rfl, rfl, .inr rfl, rfl, rfl⟩, loc_q (q_load1_rptr rfl rfl (by assumption) rfl)⟩, ?_⟩ | refine ⟨_, .inr ⟨rfl, _, rfl, .inr ⟨rfl, rfl, .inr rfl, rfl, rfl⟩, loc_q (q_load1_rptr rfl rfl (mapAt (by first | assumption | omega)) rfl)⟩, ?_⟩
        first | refine ⟨_, .inr ⟨rfl, _, rfl, .inr ⟨rfl, rfl, .inr rfl, rfl, rfl⟩, loc_q (q_mov rfl)⟩, ?_⟩
        first | refine ⟨_, .inr ⟨rfl, _, rfl, .inr ⟨rfl, rfl, .inr rfl, rfl, rfl⟩, loc_q (q_ix rfl rfl (mapAt h2x))⟩, ?_⟩
        first | refine ⟨_, .inr ⟨rfl, _, rfl, .inr ⟨rfl, rfl, .inr rfl, rfl, rfl⟩, loc_q (q_ldN rfl rfl rfl)⟩, ?_⟩ | refine ⟨_, .inr ⟨rfl, _, rfl, .inr ⟨rfl, rfl, .inr rfl, rfl, rfl⟩, loc_q (q_loadN_ip rfl (Nat.le_refl _))⟩, ?_⟩ | refine ⟨_, .inr ⟨rfl, _, rfl, .inr ⟨rfl, rfl, .inr rfl, rfl, rfl⟩, loc_q (q_loadN_ip rfl (by decide))⟩, ?_⟩ | refine ⟨_, .inr ⟨rfl, _, rfl, .inr ⟨rfl, rfl, .inr rfl, rfl, rfl⟩, loc_q (q_loadN_rptr rfl rfl (by assumption) (by decide))⟩, ?_⟩ | refine ⟨_, .inr ⟨rfl, _, rfl, .inr ⟨rfl, rfl, .inr rfl, rfl, rfl⟩, loc_q (q_loadN_rptr rfl rfl (mapAt (by first | assumption | omega)) (by decide))⟩, ?_⟩
        first | refine ⟨_, .inr ⟨rfl, _, rfl, .inr ⟨rfl, rfl, .inr rfl, rfl, rfl⟩, loc_bslice rfl⟩, ?_⟩
        refine ⟨rfl, ?_⟩
        refine ax_e (e_appn (n' := ((l.Waits.take (k + 1)).filter q2).length) (rs' := ((l.Waits.take (k + 1)).filter q2).map GWait.row) rfl rfl (by simp) rfl (src_osl rfl (by simp)) (.inl (by decide)) (hbnd (by omega) (by simp) (by decide)) (by rw [e3]; simp) (by rw [e3]; exact app1 rfl)) ?_
        first | refine ax_q (q_fadr_ptr rfl) ?_ | refine ax_q (q_fadr_rptr rfl) ?_ | refine ax_q (q_fadr_ip rfl) ?_
        refine ax_e (e_st rfl rfl rfl rfl rfl rfl rfl) ?_
        refine ax_nil ?_
        refine cx_keep rfl rfl ?_
        refine cx_ops ?_
        refine ax_q (q_mov rfl) ?_
        refine ax_qe (r' := int ((k + 1 : Nat) : Int)) (q_ibin rfl rfl rfl) (by rw [wi (by omega) (by omega)]; rfl) ?_
        refine ax_q (q_mov rfl) ?_
        refine ax_nil ?_
        exact ⟨_, k + 1, by omega, ⟨by omega, rfl⟩, by repeat (first | exact trivial | refine ⟨rfl, ?_⟩ | refine ⟨?_, ?_⟩)⟩
      · have h3 := (fun h => (and_F h).imp nF nF) h3
        have e3 := filt_same (q := q2) h2x (by show (!(decide _ || decide _)) = false; rcases h3 with h3 | h3 <;> simp [h3])
        rw [← e3]
        refine cx_skip ?_
        refine cx_keep rfl rfl ?_
        refine cx_ops ?_
        refine ax_q (q_mov rfl) ?_
        refine ax_qe (r' := int ((k + 1 : Nat) : Int)) (q_ibin rfl rfl rfl) (by rw [wi (by omega) (by omega)]; rfl) ?_
        refine ax_q (q_mov rfl) ?_
        refine ax_nil ?_
        exact ⟨_, k + 1, by omega, ⟨by omega, rfl⟩, by repeat (first | exact trivial | refine ⟨rfl, ?_⟩ | refine ⟨?_, ?_⟩)⟩
    · have h2 := dF h2
      have h2x : k = l.Waits.length := by omega
      subst h2x
      rw [List.take_length]
      refine cx_exit rfl ?_
      refine cx_keep rfl rfl ?_
      refine cx_seq ?_
      refine cx_ops ?_
      first | refine ax_q (q_ldN rfl rfl rfl) ?_ | refine ax_q (q_loadN_ip rfl (Nat.le_refl _)) ?_ | refine ax_q (q_loadN_ip rfl (by decide)) ?_ | refine ax_q (q_loadN_rptr rfl rfl (by assumption) (by decide)) ?_ | refine ax_q (q_loadN_rptr rfl rfl (mapAt (by first | assumption | omega)) (by decide)) ?_
      refine ax_e (e_st rfl rfl rfl rfl rfl rfl rfl) ?_
      refine ax_nil ?_
      refine cx_keep rfl rfl ?_
      refine cx_ret (retN (fun e => bif Nat.beq e 9 then 1 else 0) [8, 9] rfl rfl rfl rfl rfl ?_)
      exact ⟨rfl, rfl⟩


/- loop.example/g00332/spec.l06Own -/
def k_c_l06Own : XCode :=
  .seq (.ops [.op (some 1) (.box (.t 0)),
     .op (some 2) (.alloc [.nils 4, .nils 2])])
  (.keep [1, 2] (.seq (.drawE [[], [], [1], [0, 1, 2], [], [], [5], [0, 1, 2, 3, 4, 5, 6], [0, 1, 2, 3, 4, 5, 6, 7], [0, 1, 2, 3, 4, 5, 6, 7, 8]] [.op (some 3) (.bslice 4 []),
     .op (some 4) (.fadr (.t 1) 0),
     .op (some 5) (.load1 (.t 4)),
     .op (some 6) (.app 4 32 [.int .i64 0, .int .i64 0, .int .i64 0, .int .i64 0] (.t 3) (.t 5)),
     .op (some 7) (.bslice 2 []),
     .op (some 8) (.fadr (.t 1) 1),
     .op (some 9) (.load1 (.t 8))]
    [.op (some 10) (.app 2 16 [.int .i64 0, .int .i64 0] (.t 7) (.t 9)),
     .op (some 11) (.build [.nils 4, .nils 2] [(0, 1, .t 6), (1, 1, .t 10)]),
     .op none (.store 2 (.t 2) (.t 11))])
  (.keep [2] (.ret))))
theorem k_c_l06Own_fits : fitsF Try.prog 64 ⟨12, k_c_l06Own, [.cN 2 2]⟩ = true := by kernel_rfl
theorem c_l06Own {l : GLocks} (hw0 : l.Held.length ≤ 1048576) (hw1 : l.Waits.length ≤ 1048576) : Con Try.prog noMv 64 [l.av] [] (fun r h => r = l.avO 0 1 ∧ h = l.hO 0 1) := by
  refine con_of2 k_c_l06Own_fits rfl fun C hP hmv => ?_
  unfold k_c_l06Own
  refine cx_seq ?_
  refine cx_ops ?_
  refine ax_e (e_box rfl rfl (by decide) rfl rfl rfl) ?_
  refine ax_e (e_alloc (by decide) rfl rfl) ?_
  refine ax_nil ?_
  refine cx_keep rfl rfl ?_
  refine cx_seq ?_
  refine cx_drawL 3 6 (Nat.beq 3) (nrA 3) [] ([(3, .rows 4 (l.Held.map GLock.row))]) [[], [1], [4], [3, 5], [], [1], [8]] [[], [], [], [3], [3], [3], [3]] rfl ?_
  first | refine ⟨_, .inr ⟨rfl, _, rfl, .inl rfl, loc_bslice rfl⟩, ?_⟩
  first | refine ⟨_, .inr ⟨rfl, _, rfl, .inl rfl, loc_q (q_fadr_ptr rfl)⟩, ?_⟩ | refine ⟨_, .inr ⟨rfl, _, rfl, .inl rfl, loc_q (q_fadr_rptr rfl)⟩, ?_⟩ | refine ⟨_, .inr ⟨rfl, _, rfl, .inl rfl, loc_q (q_fadr_ip rfl)⟩, ?_⟩
  first | refine ⟨_, .inr ⟨rfl, _, rfl, .inl rfl, loc_q (q_load1_ptr rfl rfl rfl)⟩, ?_⟩ | refine ⟨_, .inr ⟨rfl, _, rfl, .inl rfl, loc_q (q_load1_ip rfl)⟩, ?_⟩ | refine ⟨_, .inr ⟨rfl, _, rfl, .inl rfl, loc_q (q_load1_rptr rfl rfl rfl rfl)⟩, ?_⟩ | refine ⟨_, .inr ⟨rfl, _, rfl, .inl rfl, loc_q (q_load1_rptr rfl rfl (by assumption) rfl)⟩, ?_⟩ | refine ⟨_, .inr ⟨rfl, _, rfl, .inl rfl, loc_q (q_load1_rptr rfl rfl (mapAt (by first | assumption | omega)) rfl)⟩, ?_⟩
  refine ⟨⟨6, _, []⟩, .inl ⟨rfl, rfl, rfl, locl_app rfl rfl (Nat.le_refl _) rfl (fun _ _ _ => src_sl 4 _) (.inl (by decide)) (by simp only [List.length_map, List.length_nil]; omega) (n' := l.Held.length) (by simp) (by simp)⟩, ?_⟩
  first | refine ⟨_, .inr ⟨rfl, _, rfl, .inr ⟨rfl, rfl, .inr rfl, rfl, rfl⟩, loc_bslice rfl⟩, ?_⟩
  first | refine ⟨_, .inr ⟨rfl, _, rfl, .inr ⟨rfl, rfl, .inr rfl, rfl, rfl⟩, loc_q (q_fadr_ptr rfl)⟩, ?_⟩ | refine ⟨_, .inr ⟨rfl, _, rfl, .inr ⟨rfl, rfl, .inr rfl, rfl, rfl⟩, loc_q (q_fadr_rptr rfl)⟩, ?_⟩ | refine ⟨_, .inr ⟨rfl, _, rfl, .inr ⟨rfl, rfl, .inr rfl, rfl, rfl⟩, loc_q (q_fadr_ip rfl)⟩, ?_⟩
  first | refine ⟨_, .inr ⟨rfl, _, rfl, .inr ⟨rfl, rfl, .inr rfl, rfl, rfl⟩, loc_q (q_load1_ptr rfl rfl rfl)⟩, ?_⟩ | refine ⟨_, .inr ⟨rfl, _, rfl, .inr ⟨rfl, rfl, .inr rfl, rfl, rfl⟩, loc_q (q_load1_ip rfl)⟩, ?_⟩ | refine ⟨_, .inr ⟨rfl, _, rfl, .inr ⟨rfl, rfl, .inr rfl, rfl, rfl⟩, loc_q (q_load1_rptr rfl rfl rfl rfl)⟩, ?_⟩ | refine ⟨_, .inr ⟨rfl, _, rfl, .inr ⟨rfl, rfl, .inr rfl, rfl, rfl⟩, loc_q (q_load1_rptr rfl rfl (by assumption) rfl)⟩, ?_⟩ | refine ⟨_, .inr ⟨rfl, _, rfl, .inr ⟨rfl, rfl, .inr rfl, rfl, rfl⟩, loc_q (q_load1_rptr rfl rfl (mapAt (by first | assumption | omega)) rfl)⟩, ?_⟩
  refine ⟨rfl, ?_⟩
  refine ax_e (e_appn (n' := l.Waits.length) (rs' := l.Waits.map GWait.row) rfl rfl (Nat.le_refl _) rfl (src_sl 2 _) (.inl (by decide)) (by simp only [List.length_map, List.length_nil]; omega) (by simp) (by simp)) ?_
  refine ax_q (q_build rfl) ?_
  refine ax_e (e_st rfl rfl rfl rfl rfl rfl rfl) ?_
  refine ax_nil ?_
  refine cx_keep rfl rfl ?_
  refine cx_ret (retN (fun e => bif Nat.beq e 7 then 1 else 0) [3, 7] rfl rfl rfl rfl rfl ?_)
  exact ⟨rfl, rfl⟩


/- loop.example/g00332/spec.l06Fit -/
def k_c_l06Fit : XCode :=
  .seq (.ops [.op (some 4) (.mov (.k (.bool false)))])
  (.keep [0, 1] (.seq (.block 0 (.seq (.ops [.op (some 6) (.mov (.t 0)),
       .op (some 7) (.bin .eql (.t 6) (.k (.int .i64 4))),
       .op (some 8) (.mov (.t 7)),
       .andor 11 false 2 8 [.op (some 9) (.mov (.t 1)), .op (some 10) (.bin .eql (.t 9) (.k (.int .i64 4)))] (.t 10),
       .op (some 5) (.mov (.t 11))])
    (.keep [0, 1, 5] (.cond (.t 5)
     (.seq (.ops [.op (some 4) (.mov (.k (.bool false)))])
      (.keep [4] (.ret)))
     (.seq (.ops [.op (some 13) (.mov (.t 0)),
         .op (some 14) (.bin .eql (.t 13) (.k (.int .i64 1))),
         .op (some 15) (.mov (.t 14)),
         .andor 18 false 2 15 [.op (some 16) (.mov (.t 1)), .op (some 17) (.bin .eql (.t 16) (.k (.int .i64 1)))] (.t 17),
         .op (some 12) (.mov (.t 18))])
      (.keep [0, 1, 12] (.cond (.t 12)
       (.seq (.ops [.op (some 4) (.mov (.k (.bool true)))])
        (.keep [4] (.ret)))
       (.skip))))))))
  (.keep [0, 1] (.seq (.ops [.op (some 19) (.mov (.t 0)),
     .op (some 20) (.mov (.t 1)),
     .op (some 21) (.bin .eql (.t 19) (.t 20)),
     .op (some 4) (.mov (.t 21))])
  (.keep [4] (.ret))))))
theorem k_c_l06Fit_fits : fitsF Try.prog 70 ⟨22, k_c_l06Fit, [.t 4]⟩ = true := by kernel_rfl
theorem c_l06Fit {a b : Int} : Con Try.prog noMv 70 [int a, int b] [] (fun r h => r = bool (modesFit a b) ∧ h = []) := by
  refine con_of2 k_c_l06Fit_fits rfl fun C hP hmv => ?_
  unfold k_c_l06Fit
  refine cx_seq ?_
  refine cx_ops ?_
  refine ax_q (q_mov rfl) ?_
  refine ax_nil ?_
  refine cx_keep rfl rfl ?_
  refine cx_seq ?_
  refine cx_block ?_
  refine cx_seq ?_
  refine cx_ops ?_
  refine ax_q (q_mov rfl) ?_
  refine ax_q (q_ibin rfl rfl rfl) ?_
  refine ax_q (q_mov rfl) ?_
  apply ax_or rfl rfl
  · intro g
    have g := dF g
    refine ax_q (q_mov rfl) ?_
    refine ax_q (q_ibin rfl rfl rfl) ?_
    exact ax_nil ⟨rfl, by repeat (first | exact trivial | refine ⟨rfl, ?_⟩ | refine ⟨?_, ?_⟩)⟩
  refine ax_q (q_mov rfl) ?_
  refine ax_nil ?_
  refine cx_keep rfl rfl ?_
  refine cx_cond rfl (fun h0 => ?_) (fun h0 => ?_)
  · have h0 := (fun h => (or_T h).imp dT dT) h0
    refine cx_seq ?_
    refine cx_ops ?_
    refine ax_q (q_mov rfl) ?_
    refine ax_nil ?_
    refine cx_keep rfl rfl ?_
    refine cx_ret (ret0 rfl rfl ?_)
    exact ⟨congrArg AM.bool (by rw [← fit_eq]; unfold l06Fit; rw [if_pos h0]), rfl⟩
  · have h0 := (fun h => And.intro (dF (or_F h).1) (dF (or_F h).2)) h0
    refine cx_seq ?_
    refine cx_ops ?_
    refine ax_q (q_mov rfl) ?_
    refine ax_q (q_ibin rfl rfl rfl) ?_
    refine ax_q (q_mov rfl) ?_
    apply ax_or rfl rfl
    · intro g
      have g := dF g
      refine ax_q (q_mov rfl) ?_
      refine ax_q (q_ibin rfl rfl rfl) ?_
      exact ax_nil ⟨rfl, by repeat (first | exact trivial | refine ⟨rfl, ?_⟩ | refine ⟨?_, ?_⟩)⟩
    refine ax_q (q_mov rfl) ?_
    refine ax_nil ?_
    refine cx_keep rfl rfl ?_
    refine cx_cond rfl (fun h1 => ?_) (fun h1 => ?_)
    · have h1 := (fun h => (or_T h).imp dT dT) h1
      refine cx_seq ?_
      refine cx_ops ?_
      refine ax_q (q_mov rfl) ?_
      refine ax_nil ?_
      refine cx_keep rfl rfl ?_
      refine cx_ret (ret0 rfl rfl ?_)
      exact ⟨congrArg AM.bool (by rw [← fit_eq]; unfold l06Fit; rw [if_neg (not_or.2 h0), if_pos h1]), rfl⟩
    · have h1 := (fun h => And.intro (dF (or_F h).1) (dF (or_F h).2)) h1
      refine cx_skip ?_
      refine cx_keep rfl rfl ?_
      refine cx_seq ?_
      refine cx_ops ?_
      refine ax_q (q_mov rfl) ?_
      refine ax_q (q_mov rfl) ?_
      refine ax_q (q_ibin rfl rfl rfl) ?_
      refine ax_q (q_mov rfl) ?_
      refine ax_nil ?_
      refine cx_keep rfl rfl ?_
      refine cx_ret (ret0 rfl rfl ?_)
      exact ⟨congrArg AM.bool (by rw [← fit_eq]; unfold l06Fit; rw [if_neg (not_or.2 h0), if_neg (not_or.2 h1)]), rfl⟩


/- loop.example/g00332/spec.l06Calm -/
def k_c_l06Calm : XCode :=
  .seq (.ops [.op (some 2) (.box (.t 0)),
     .op (some 4) (.alloc [.nils 4, .nils 2])])
  (.keep [1, 2, 4] (.seq (.ops [.op (some 7) (.bslice 2 []),
     .op (some 5) (.mov (.t 7))])
  (.keep [1, 2, 4, 5] (.seq (.seq (.ops [.op (some 6) (.mov (.k (.int .i64 0)))])
   (.keep [1, 2, 4, 5, 6] (.block 0 (.loop (.seq (.seq (.ops [.op (some 8) (.mov (.t 6)),
         .op (some 9) (.fadr (.t 2) 1),
         .op (some 10) (.load1 (.t 9)),
         .op (some 11) (.lenS (.t 10)),
         .op (some 12) (.bin .lss (.t 8) (.t 11))])
      (.keep [1, 2, 4, 5, 6, 12] (.cond (.t 12)
       (.skip)
       (.exit 0))))
     (.keep [1, 2, 4, 5, 6] (.seq (.block 1 (.seq (.ops [.op (some 15) (.fadr (.t 2) 1),
          .op (some 16) (.load1 (.t 15)),
          .op (some 17) (.mov (.t 6)),
          .op (some 18) (.iadr 2 (.t 16) (.t 17)),
          .op (some 19) (.fadr (.t 18) 0),
          .op (some 20) (.load1 (.t 19)),
          .op (some 21) (.mov (.t 1)),
          .op (some 22) (.bin .neq (.t 20) (.t 21))])
       (.keep [1, 2, 4, 5, 6, 22] (.cond (.t 22)
        (.ops [.op (some 23) (.mov (.t 5)),
           .op (some 24) (.fadr (.t 2) 1),
           .op (some 25) (.load1 (.t 24)),
           .op (some 26) (.mov (.t 6)),
           .op (some 27) (.iadr 2 (.t 25) (.t 26)),
           .op (some 28) (.loadN 2 (.t 27)),
           .op (some 29) (.bslice 2 [.t 28]),
           .op (some 30) (.app 2 16 [.int .i64 0, .int .i64 0] (.t 23) (.t 29)),
           .op (some 5) (.mov (.t 30))])
        (.skip)))))
     (.keep [1, 2, 4, 5, 6] (.ops [.op (some 13) (.mov (.t 6)),
       .op (some 14) (.bin .add (.t 13) (.k (.int .i64 1))),
       .op (some 6) (.mov (.t 14))])))))))))
  (.keep [2, 4, 5] (.seq (.ops [.op (some 31) (.mov (.t 5)),
     .op (some 32) (.fadr (.t 2) 1),
     .op none (.store 1 (.t 32) (.t 31))])
  (.keep [2, 4] (.seq (.ops [.op (some 33) (.loadN 2 (.t 2)),
     .op none (.store 2 (.t 4) (.t 33))])
  (.keep [4] (.ret))))))))))
theorem k_c_l06Calm_fits : fitsF Try.prog 79 ⟨34, k_c_l06Calm, [.cN 4 2]⟩ = true := by kernel_rfl
theorem c_l06Calm {l : GLocks} {tx : Int} (hw0 : l.Held.length ≤ 1048576) (hw1 : l.Waits.length ≤ 1048576) : Con Try.prog noMv 79 [l.avO 1000 1001, int tx] (l.hO 1000 1001) (fun r h => r = (calm l tx).avO 1000 0 ∧ h = (calm l tx).hO 1000 0 ++ [(1001, .rows 2 (l.Waits.map GWait.row))]) := by
  refine con_of2 k_c_l06Calm_fits rfl fun C hP hmv => ?_
  unfold k_c_l06Calm
  let q : GWait → Bool := fun w => !decide (w.Tx = tx)
  refine cx_seq ?_
  refine cx_ops ?_
  refine ax_e (e_box rfl rfl (by decide) rfl rfl rfl) ?_
  refine ax_e (e_alloc (by decide) rfl rfl) ?_
  refine ax_nil ?_
  refine cx_keep rfl rfl ?_
  refine cx_seq ?_
  refine cx_ops ?_
  refine ax_e (e_bslice rfl (by decide) rfl rfl) ?_
  refine ax_q (q_mov rfl) ?_
  refine ax_nil ?_
  refine cx_keep rfl rfl ?_
  refine cx_seq ?_
  refine cx_seq ?_
  refine cx_ops ?_
  refine ax_q (q_mov rfl) ?_
  refine ax_nil ?_
  refine cx_keep rfl rfl ?_
  refine cx_block ?_
  refine cx_loopU (fun n k => k ≤ l.Waits.length ∧ n = l.Waits.length - k) (fun k : Nat => [(5, .osl 7 2 0 ((l.Waits.take k).filter q).length), (6, int k)]) (fun k => [(1000, .rows 4 (l.Held.map GLock.row)), (1001, .rows 2 (l.Waits.map GWait.row)), (2, .box [.osl 1000 4 0 l.Held.length, .osl 1001 2 0 l.Waits.length]), (4, .box [.zs 4, .zs 2]), (7, .rows 2 (((l.Waits.take k).filter q).map GWait.row))]) ⟨_, 0, ⟨Nat.zero_le _, rfl⟩, by repeat (first | exact trivial | refine ⟨rfl, ?_⟩ | refine ⟨?_, ?_⟩)⟩ ?_
  rintro n k ⟨hk, rfl⟩
  refine cx_seq ?_
  refine cx_seq ?_
  refine cx_ops ?_
  refine ax_q (q_mov rfl) ?_
  first | refine ax_q (q_fadr_ptr rfl) ?_ | refine ax_q (q_fadr_rptr rfl) ?_ | refine ax_q (q_fadr_ip rfl) ?_
  first | refine ax_q (q_load1_ptr rfl rfl rfl) ?_ | refine ax_q (q_load1_ip rfl) ?_ | refine ax_q (q_load1_rptr rfl rfl rfl rfl) ?_ | refine ax_q (q_load1_rptr rfl rfl (by assumption) rfl) ?_ | refine ax_q (q_load1_rptr rfl rfl (mapAt (by first | assumption | omega)) rfl) ?_
  first | refine ax_q (q_lenS_map rfl) ?_ | refine ax_q (q_lenS_osl rfl) ?_ | refine ax_q (q_lenS_zs rfl) ?_ | refine ax_q (q_lenS rfl) ?_
  refine ax_q (q_ibin rfl rfl rfl) ?_
  refine ax_nil ?_
  refine cx_keep rfl rfl ?_
  refine cx_cond rfl (fun h0 => ?_) (fun h0 => ?_)
  · have h0 := dT h0
    have h0x : k < l.Waits.length := by omega
    have hfl := @filt_le _ q l.Waits k
    refine cx_skip ?_
    refine cx_keep rfl rfl ?_
    refine cx_seq ?_
    refine cx_block ?_
    refine cx_seq ?_
    refine cx_ops ?_
    first | refine ax_q (q_fadr_ptr rfl) ?_ | refine ax_q (q_fadr_rptr rfl) ?_ | refine ax_q (q_fadr_ip rfl) ?_
    first | refine ax_q (q_load1_ptr rfl rfl rfl) ?_ | refine ax_q (q_load1_ip rfl) ?_ | refine ax_q (q_load1_rptr rfl rfl rfl rfl) ?_ | refine ax_q (q_load1_rptr rfl rfl (by assumption) rfl) ?_ | refine ax_q (q_load1_rptr rfl rfl (mapAt (by first | assumption | omega)) rfl) ?_
    refine ax_q (q_mov rfl) ?_
    refine ax_q (q_ixo rfl rfl h0x) ?_
    first | refine ax_q (q_fadr_ptr rfl) ?_ | refine ax_q (q_fadr_rptr rfl) ?_ | refine ax_q (q_fadr_ip rfl) ?_
    first | refine ax_q (q_load1_ptr rfl rfl rfl) ?_ | refine ax_q (q_load1_ip rfl) ?_ | refine ax_q (q_load1_rptr rfl rfl rfl rfl) ?_ | refine ax_q (q_load1_rptr rfl rfl (by assumption) rfl) ?_ | refine ax_q (q_load1_rptr rfl rfl (mapAt (by first | assumption | omega)) rfl) ?_
    refine ax_q (q_mov rfl) ?_
    refine ax_q (q_ibin rfl rfl rfl) ?_
    refine ax_nil ?_
    refine cx_keep rfl rfl ?_
    refine cx_cond rfl (fun h1 => ?_) (fun h1 => ?_)
    · have h1 := nT h1
      have e1 := filt_succ (q := q) h0x (by show (!decide _) = true; rw [decide_eq_false h1]; rfl)
      refine cx_ops ?_
      refine ax_q (q_mov rfl) ?_
      first | refine ax_q (q_fadr_ptr rfl) ?_ | refine ax_q (q_fadr_rptr rfl) ?_ | refine ax_q (q_fadr_ip rfl) ?_
      first | refine ax_q (q_load1_ptr rfl rfl rfl) ?_ | refine ax_q (q_load1_ip rfl) ?_ | refine ax_q (q_load1_rptr rfl rfl rfl rfl) ?_ | refine ax_q (q_load1_rptr rfl rfl (by assumption) rfl) ?_ | refine ax_q (q_load1_rptr rfl rfl (mapAt (by first | assumption | omega)) rfl) ?_
      refine ax_q (q_mov rfl) ?_
      refine ax_q (q_ixo rfl rfl h0x) ?_
      first | refine ax_q (q_ldN rfl rfl rfl) ?_ | refine ax_q (q_loadN_ip rfl (Nat.le_refl _)) ?_ | refine ax_q (q_loadN_ip rfl (by decide)) ?_ | refine ax_q (q_loadN_rptr rfl rfl (by assumption) (by decide)) ?_ | refine ax_q (q_loadN_rptr rfl rfl (mapAt (by first | assumption | omega)) (by decide)) ?_
      refine ax_e (e_bslice rfl (by decide) rfl rfl) ?_
      refine ax_e (e_appn (n' := ((l.Waits.take (k + 1)).filter q).length) (rs' := ((l.Waits.take (k + 1)).filter q).map GWait.row) rfl rfl (by simp) rfl (src_osl rfl (by simp)) (.inl (by decide)) (hbnd (by omega) (by simp) (by decide)) (by rw [e1]; simp) (by rw [e1]; exact app1 rfl)) ?_
      refine ax_q (q_mov rfl) ?_
      refine ax_nil ?_
      refine cx_keep rfl rfl ?_
      refine cx_ops ?_
      refine ax_q (q_mov rfl) ?_
      refine ax_qe (r' := int ((k + 1 : Nat) : Int)) (q_ibin rfl rfl rfl) (by rw [wi (by omega) (by omega)]; rfl) ?_
      refine ax_q (q_mov rfl) ?_
      refine ax_nil ?_
      exact ⟨_, k + 1, by omega, ⟨by omega, rfl⟩, by repeat (first | exact trivial | refine ⟨rfl, ?_⟩ | refine ⟨?_, ?_⟩)⟩
    · have h1 := nF h1
      have e1 := filt_same (q := q) h0x (by show (!decide _) = false; rw [decide_eq_true h1]; rfl)
      rw [← e1]
      refine cx_skip ?_
      refine cx_keep rfl rfl ?_
      refine cx_ops ?_
      refine ax_q (q_mov rfl) ?_
      refine ax_qe (r' := int ((k + 1 : Nat) : Int)) (q_ibin rfl rfl rfl) (by rw [wi (by omega) (by omega)]; rfl) ?_
      refine ax_q (q_mov rfl) ?_
      refine ax_nil ?_
      exact ⟨_, k + 1, by omega, ⟨by omega, rfl⟩, by repeat (first | exact trivial | refine ⟨rfl, ?_⟩ | refine ⟨?_, ?_⟩)⟩
  · have h0 := dF h0
    have h0x : k = l.Waits.length := by omega
    subst h0x
    rw [List.take_length]
    refine cx_exit rfl ?_
    refine cx_keep rfl rfl ?_
    refine cx_seq ?_
    refine cx_ops ?_
    refine ax_q (q_mov rfl) ?_
    first | refine ax_q (q_fadr_ptr rfl) ?_ | refine ax_q (q_fadr_rptr rfl) ?_ | refine ax_q (q_fadr_ip rfl) ?_
    refine ax_e (e_st rfl rfl rfl rfl rfl rfl rfl) ?_
    refine ax_nil ?_
    refine cx_keep rfl rfl ?_
    refine cx_seq ?_
    refine cx_ops ?_
    first | refine ax_q (q_ldN rfl rfl rfl) ?_ | refine ax_q (q_loadN_ip rfl (Nat.le_refl _)) ?_ | refine ax_q (q_loadN_ip rfl (by decide)) ?_ | refine ax_q (q_loadN_rptr rfl rfl (by assumption) (by decide)) ?_ | refine ax_q (q_loadN_rptr rfl rfl (mapAt (by first | assumption | omega)) (by decide)) ?_
    refine ax_e (e_st rfl rfl rfl rfl rfl rfl rfl) ?_
    refine ax_nil ?_
    refine cx_keep rfl rfl ?_
    refine cx_ret (retN (fun e => bif Nat.beq e 7 then 0 else e) [1000, 7, 1001] rfl rfl rfl rfl rfl ?_)
    exact ⟨rfl, rfl⟩


/- loop.example/g00332/spec.l06Covers -/
def k_c_covers : XCode :=
  .seq (.ops [.op (some 4) (.mov (.k (.bool false)))])
  (.keep [0, 1] (.seq (.ops [.op (some 5) (.mov (.t 0)),
     .op (some 6) (.mov (.t 1)),
     .op (some 7) (.bin .eql (.t 5) (.t 6)),
     .op (some 8) (.mov (.t 7)),
     .andor 11 false 3 8 [.op (some 9) (.mov (.t 0)), .op (some 10) (.bin .eql (.t 9) (.k (.int .i64 4)))] (.t 10),
     .op (some 12) (.mov (.t 11)),
     .andor 15 false 7 12 [.op (some 13) (.mov (.t 1)), .op (some 14) (.bin .eql (.t 13) (.k (.int .i64 1)))] (.t 14),
     .op (some 4) (.mov (.t 15))])
  (.keep [4] (.ret))))
theorem k_c_covers_fits : fitsF Try.prog 89 ⟨16, k_c_covers, [.t 4]⟩ = true := by kernel_rfl
theorem c_covers {a b : Int} : Con Try.prog noMv 89 [int a, int b] [] (fun r h => r = bool (covers a b) ∧ h = []) := by
  refine con_of2 k_c_covers_fits rfl fun C hP hmv => ?_
  unfold k_c_covers
  refine cx_seq ?_
  refine cx_ops ?_
  refine ax_q (q_mov rfl) ?_
  refine ax_nil ?_
  refine cx_keep rfl rfl ?_
  refine cx_seq ?_
  refine cx_ops ?_
  refine ax_q (q_mov rfl) ?_
  refine ax_q (q_mov rfl) ?_
  refine ax_q (q_ibin rfl rfl rfl) ?_
  refine ax_q (q_mov rfl) ?_
  apply ax_or rfl rfl
  · intro g
    have g := dF g
    refine ax_q (q_mov rfl) ?_
    refine ax_q (q_ibin rfl rfl rfl) ?_
    exact ax_nil ⟨rfl, by repeat (first | exact trivial | refine ⟨rfl, ?_⟩ | refine ⟨?_, ?_⟩)⟩
  refine ax_q (q_mov rfl) ?_
  apply ax_or rfl rfl
  · intro g
    have g := (fun h => And.intro (dF (or_F h).1) (dF (or_F h).2)) g
    refine ax_q (q_mov rfl) ?_
    refine ax_q (q_ibin rfl rfl rfl) ?_
    exact ax_nil ⟨rfl, by repeat (first | exact trivial | refine ⟨rfl, ?_⟩ | refine ⟨?_, ?_⟩)⟩
  refine ax_q (q_mov rfl) ?_
  refine ax_nil ?_
  refine cx_keep rfl rfl ?_
  refine cx_ret (ret0 rfl rfl ?_)
  exact ⟨rfl, rfl⟩


/- loop.example/g00332/spec.l06Holds -/
def k_c_l06Holds : XCode :=
  .seq (.ops [.op (some 5) (.box (.t 0)),
     .op (some 10) (.mov (.k (.bool false)))])
  (.keep [1, 2, 3, 4, 5] (.seq (.seq (.ops [.op (some 11) (.mov (.k (.int .i64 0)))])
   (.keep [1, 2, 3, 4, 5, 11] (.block 0 (.loop (.seq (.seq (.ops [.op (some 13) (.mov (.t 11)),
         .op (some 14) (.fadr (.t 5) 0),
         .op (some 15) (.load1 (.t 14)),
         .op (some 16) (.lenS (.t 15)),
         .op (some 17) (.bin .lss (.t 13) (.t 16))])
      (.keep [1, 2, 3, 4, 5, 11, 17] (.cond (.t 17)
       (.skip)
       (.exit 0))))
     (.keep [1, 2, 3, 4, 5, 11] (.seq (.block 1 (.seq (.ops [.op (some 20) (.fadr (.t 5) 0),
          .op (some 21) (.load1 (.t 20)),
          .op (some 22) (.mov (.t 11)),
          .op (some 23) (.iadr 4 (.t 21) (.t 22)),
          .op (some 24) (.loadN 4 (.t 23)),
          .op (some 12) (.alloc [.int .i64 0, .int .i64 0, .int .i64 0, .int .i64 0]),
          .op none (.store 4 (.t 12) (.t 24))])
       (.keep [1, 2, 3, 4, 5, 11, 12] (.seq (.ops [.op (some 25) (.fadr (.t 12) 0),
          .op (some 26) (.load1 (.t 25)),
          .op (some 27) (.mov (.t 1)),
          .op (some 28) (.bin .eql (.t 26) (.t 27)),
          .op (some 29) (.mov (.t 28)),
          .andor 34 true 4 29 [.op (some 30) (.fadr (.t 12) 1), .op (some 31) (.load1 (.t 30)), .op (some 32) (.mov (.t 2)), .op (some 33) (.bin .eql (.t 31) (.t 32))] (.t 33),
          .op (some 35) (.mov (.t 34)),
          .andor 40 true 10 35 [.op (some 36) (.fadr (.t 12) 2), .op (some 37) (.load1 (.t 36)), .op (some 38) (.mov (.t 3)), .op (some 39) (.bin .eql (.t 37) (.t 38))] (.t 39),
          .op (some 41) (.mov (.t 40)),
          .andor 46 true 16 41 [.op (some 42) (.fadr (.t 12) 3), .op (some 43) (.load1 (.t 42)), .op (some 44) (.mov (.t 4)), .call (some 45) 89 [.t 43, .t 44]] (.t 45)])
       (.keep [1, 2, 3, 4, 5, 11, 46] (.cond (.t 46)
        (.seq (.ops [.op (some 10) (.mov (.k (.bool true)))])
         (.keep [10] (.ret)))
        (.skip)))))))
     (.keep [1, 2, 3, 4, 5, 11] (.ops [.op (some 18) (.mov (.t 11)),
       .op (some 19) (.bin .add (.t 18) (.k (.int .i64 1))),
       .op (some 11) (.mov (.t 19))])))))))))
  (.keep [] (.seq (.ops [.op (some 10) (.mov (.k (.bool false)))])
  (.keep [10] (.ret))))))
theorem k_c_l06Holds_fits : fitsF Try.prog 80 ⟨47, k_c_l06Holds, [.t 10]⟩ = true := by kernel_rfl
theorem c_l06Holds {l : GLocks} {x : GLock} (hw0 : l.Held.length ≤ 1048576) (hw1 : l.Waits.length ≤ 1048576) : Con Try.prog noMv 80 [l.av, int x.Tx, int x.Table, int x.Row, int x.Mode] [] (fun r h => r = bool (holdsL l x) ∧ h = []) := by
  refine con_of2 k_c_l06Holds_fits rfl fun C hP hmv => ?_
  unfold k_c_l06Holds
  refine cx_seq ?_
  refine cx_ops ?_
  refine ax_e (e_box rfl rfl (by decide) rfl rfl rfl) ?_
  refine ax_q (q_mov rfl) ?_
  refine ax_nil ?_
  refine cx_keep rfl rfl ?_
  refine cx_seq ?_
  refine cx_seq ?_
  refine cx_ops ?_
  refine ax_q (q_mov rfl) ?_
  refine ax_nil ?_
  refine cx_keep rfl rfl ?_
  refine cx_block ?_
  refine cx_loopU (fun n k => k ≤ l.Held.length ∧ n = l.Held.length - k ∧ ∀ j, j < k → ∀ h, l.Held[j]? = some h → hasL h x = false) (fun k : Nat => [(11, int k)]) (fun _ => [(5, .box [.d (.sl 4 (l.Held.map GLock.row)), .d (.sl 2 (l.Waits.map GWait.row))])]) ⟨_, 0, ⟨Nat.zero_le _, rfl, fun j hj => by omega⟩, by repeat (first | exact trivial | refine ⟨rfl, ?_⟩ | refine ⟨?_, ?_⟩)⟩ ?_
  rintro n k ⟨hk, rfl, hb⟩
  refine cx_seq ?_
  refine cx_seq ?_
  refine cx_ops ?_
  refine ax_q (q_mov rfl) ?_
  first | refine ax_q (q_fadr_ptr rfl) ?_ | refine ax_q (q_fadr_rptr rfl) ?_ | refine ax_q (q_fadr_ip rfl) ?_
  first | refine ax_q (q_load1_ptr rfl rfl rfl) ?_ | refine ax_q (q_load1_ip rfl) ?_ | refine ax_q (q_load1_rptr rfl rfl rfl rfl) ?_ | refine ax_q (q_load1_rptr rfl rfl (by assumption) rfl) ?_ | refine ax_q (q_load1_rptr rfl rfl (mapAt (by first | assumption | omega)) rfl) ?_
  first | refine ax_q (q_lenS_map rfl) ?_ | refine ax_q (q_lenS_osl rfl) ?_ | refine ax_q (q_lenS_zs rfl) ?_ | refine ax_q (q_lenS rfl) ?_
  refine ax_q (q_ibin rfl rfl rfl) ?_
  refine ax_nil ?_
  refine cx_keep rfl rfl ?_
  refine cx_cond rfl (fun h0 => ?_) (fun h0 => ?_)
  · have h0 := dT h0
    have h0x : k < l.Held.length := by omega
    refine cx_skip ?_
    refine cx_keep rfl rfl ?_
    refine cx_seq ?_
    refine cx_block ?_
    refine cx_seq ?_
    refine cx_ops ?_
    first | refine ax_q (q_fadr_ptr rfl) ?_ | refine ax_q (q_fadr_rptr rfl) ?_ | refine ax_q (q_fadr_ip rfl) ?_
    first | refine ax_q (q_load1_ptr rfl rfl rfl) ?_ | refine ax_q (q_load1_ip rfl) ?_ | refine ax_q (q_load1_rptr rfl rfl rfl rfl) ?_ | refine ax_q (q_load1_rptr rfl rfl (by assumption) rfl) ?_ | refine ax_q (q_load1_rptr rfl rfl (mapAt (by first | assumption | omega)) rfl) ?_
    refine ax_q (q_mov rfl) ?_
    refine ax_q (q_ix rfl rfl (mapAt h0x)) ?_
    first | refine ax_q (q_ldN rfl rfl rfl) ?_ | refine ax_q (q_loadN_ip rfl (Nat.le_refl _)) ?_ | refine ax_q (q_loadN_ip rfl (by decide)) ?_ | refine ax_q (q_loadN_rptr rfl rfl (by assumption) (by decide)) ?_ | refine ax_q (q_loadN_rptr rfl rfl (mapAt (by first | assumption | omega)) (by decide)) ?_
    refine ax_e (e_alloc (by decide) rfl rfl) ?_
    refine ax_e (e_st rfl rfl rfl rfl rfl rfl rfl) ?_
    refine ax_nil ?_
    refine cx_keep rfl rfl ?_
    refine cx_seq ?_
    refine cx_ops ?_
    first | refine ax_q (q_fadr_ptr rfl) ?_ | refine ax_q (q_fadr_rptr rfl) ?_ | refine ax_q (q_fadr_ip rfl) ?_
    first | refine ax_q (q_load1_ptr rfl rfl rfl) ?_ | refine ax_q (q_load1_ip rfl) ?_ | refine ax_q (q_load1_rptr rfl rfl rfl rfl) ?_ | refine ax_q (q_load1_rptr rfl rfl (by assumption) rfl) ?_ | refine ax_q (q_load1_rptr rfl rfl (mapAt (by first | assumption | omega)) rfl) ?_
    refine ax_q (q_mov rfl) ?_
    refine ax_q (q_ibin rfl rfl rfl) ?_
    refine ax_q (q_mov rfl) ?_
    apply ax_and rfl rfl
    · intro g
      have g := dT g
      first | refine ax_q (q_fadr_ptr rfl) ?_ | refine ax_q (q_fadr_rptr rfl) ?_ | refine ax_q (q_fadr_ip rfl) ?_
      first | refine ax_q (q_load1_ptr rfl rfl rfl) ?_ | refine ax_q (q_load1_ip rfl) ?_ | refine ax_q (q_load1_rptr rfl rfl rfl rfl) ?_ | refine ax_q (q_load1_rptr rfl rfl (by assumption) rfl) ?_ | refine ax_q (q_load1_rptr rfl rfl (mapAt (by first | assumption | omega)) rfl) ?_
      refine ax_q (q_mov rfl) ?_
      refine ax_q (q_ibin rfl rfl rfl) ?_
      exact ax_nil ⟨rfl, by repeat (first | exact trivial | refine ⟨rfl, ?_⟩ | refine ⟨?_, ?_⟩)⟩
    refine ax_q (q_mov rfl) ?_
    apply ax_and rfl rfl
    · intro g
      have g := (fun h => And.intro (dT (and_T h).1) (dT (and_T h).2)) g
      first | refine ax_q (q_fadr_ptr rfl) ?_ | refine ax_q (q_fadr_rptr rfl) ?_ | refine ax_q (q_fadr_ip rfl) ?_
      first | refine ax_q (q_load1_ptr rfl rfl rfl) ?_ | refine ax_q (q_load1_ip rfl) ?_ | refine ax_q (q_load1_rptr rfl rfl rfl rfl) ?_ | refine ax_q (q_load1_rptr rfl rfl (by assumption) rfl) ?_ | refine ax_q (q_load1_rptr rfl rfl (mapAt (by first | assumption | omega)) rfl) ?_
      refine ax_q (q_mov rfl) ?_
      refine ax_q (q_ibin rfl rfl rfl) ?_
      exact ax_nil ⟨rfl, by repeat (first | exact trivial | refine ⟨rfl, ?_⟩ | refine ⟨?_, ?_⟩)⟩
    refine ax_q (q_mov rfl) ?_
    apply ax_and rfl rfl
    · intro g
      have g := (fun h => And.intro ((fun h => And.intro (dT (and_T h).1) (dT (and_T h).2)) (and_T h).1) (dT (and_T h).2)) g
      first | refine ax_q (q_fadr_ptr rfl) ?_ | refine ax_q (q_fadr_rptr rfl) ?_ | refine ax_q (q_fadr_ip rfl) ?_
      first | refine ax_q (q_load1_ptr rfl rfl rfl) ?_ | refine ax_q (q_load1_ip rfl) ?_ | refine ax_q (q_load1_rptr rfl rfl rfl rfl) ?_ | refine ax_q (q_load1_rptr rfl rfl (by assumption) rfl) ?_ | refine ax_q (q_load1_rptr rfl rfl (mapAt (by first | assumption | omega)) rfl) ?_
      refine ax_q (q_mov rfl) ?_
      first | refine ax_call rfl (vc_pure0 (c_covers  ) hP rfl rfl ?_) | refine ax_call rfl (vc_lend0 (c_covers  ) hP (by repeat (first | exact lal_id _ rfl | exact LAL.nil | refine LAL.cons ?_ ?_ | exact la_id _ rfl | exact LA.lend (lend_whole rfl (by first | (simp; done) | (rw [List.length_map]; rfl))) | refine LA.agg ?_ | refine LA.fn ?_ | refine LA.lend ?_ | exact Lend.d _ | exact Lend.zs _ | exact lend_whole rfl (by first | (simp; done) | (rw [List.length_map]; rfl)) | refine Lend.ptr rfl ?_ | refine Lend.fn ?_ | exact LendL.nil | refine LendL.cons ?_ ?_)) rfl rfl ?_)
      exact ax_nil ⟨rfl, by repeat (first | exact trivial | refine ⟨rfl, ?_⟩ | refine ⟨?_, ?_⟩)⟩
    refine ax_nil ?_
    refine cx_keep rfl rfl ?_
    refine cx_cond rfl (fun h1 => ?_) (fun h1 => ?_)
    · have h1 : hasL l.Held[k] x = true := by rw [← covers_eq]; exact h1
      refine cx_seq ?_
      refine cx_ops ?_
      refine ax_q (q_mov rfl) ?_
      refine ax_nil ?_
      refine cx_keep rfl rfl ?_
      refine cx_ret (ret0 rfl rfl ?_)
      exact ⟨by unfold holdsL; rw [any_hit h0x h1]; rfl, rfl⟩
    · have h1 : hasL l.Held[k] x = false := by rw [← covers_eq]; exact h1
      refine cx_skip ?_
      refine cx_keep rfl rfl ?_
      refine cx_ops ?_
      refine ax_q (q_mov rfl) ?_
      refine ax_qe (r' := int ((k + 1 : Nat) : Int)) (q_ibin rfl rfl rfl) (by rw [wi (by omega) (by omega)]; rfl) ?_
      refine ax_q (q_mov rfl) ?_
      refine ax_nil ?_
      exact ⟨_, k + 1, by omega, ⟨by omega, rfl, before_step h0x hb h1⟩, by repeat (first | exact trivial | refine ⟨rfl, ?_⟩ | refine ⟨?_, ?_⟩)⟩
  · have h0 := dF h0
    have h0x : k = l.Held.length := by omega
    refine cx_exit rfl ?_
    refine cx_keep rfl rfl ?_
    refine cx_seq ?_
    refine cx_ops ?_
    refine ax_q (q_mov rfl) ?_
    refine ax_nil ?_
    refine cx_keep rfl rfl ?_
    refine cx_ret (ret0 rfl rfl ?_)
    exact ⟨by unfold holdsL; rw [any_all (fun i hi => hb i (by omega))]; rfl, rfl⟩


/- loop.example/g00332/spec.l06Round -/
def k_c_l06Round : XCode :=
  .seq (.ops [.op (some 2) (.box (.t 0)),
     .op (some 4) (.mov (.k (.bool false)))])
  (.keep [1, 2] (.seq (.ops [.op (some 11) (.mov (.t 1)),
     .op (some 12) (.bslice 1 [.t 11]),
     .op (some 5) (.mov (.t 12))])
  (.keep [1, 2, 5] (.seq (.seq (.ops [.op (some 6) (.mov (.k (.int .i64 0)))])
   (.keep [1, 2, 5, 6] (.block 0 (.loop (.seq (.seq (.ops [.op (some 13) (.mov (.t 6)),
         .op (some 14) (.mov (.t 5)),
         .op (some 15) (.lenS (.t 14)),
         .op (some 16) (.bin .lss (.t 13) (.t 15))])
      (.keep [1, 2, 5, 6, 16] (.cond (.t 16)
       (.skip)
       (.exit 0))))
     (.keep [1, 2, 5, 6] (.seq (.block 1 (.seq (.ops [.op (some 7) (.mov (.k (.int .i64 0)))])
       (.keep [1, 2, 5, 6, 7] (.block 2 (.loop (.seq (.seq (.ops [.op (some 19) (.mov (.t 7)),
             .op (some 20) (.fadr (.t 2) 1),
             .op (some 21) (.load1 (.t 20)),
             .op (some 22) (.lenS (.t 21)),
             .op (some 23) (.bin .lss (.t 19) (.t 22))])
          (.keep [1, 2, 5, 6, 7, 23] (.cond (.t 23)
           (.skip)
           (.exit 2))))
         (.keep [1, 2, 5, 6, 7] (.seq (.block 3 (.seq (.ops [.op (some 26) (.fadr (.t 2) 1),
              .op (some 27) (.load1 (.t 26)),
              .op (some 28) (.mov (.t 7)),
              .op (some 29) (.iadr 2 (.t 27) (.t 28)),
              .op (some 30) (.loadN 2 (.t 29)),
              .op (some 8) (.alloc [.int .i64 0, .int .i64 0]),
              .op none (.store 2 (.t 8) (.t 30))])
           (.keep [1, 2, 5, 6, 7, 8] (.seq (.seq (.draw [.op (some 31) (.fadr (.t 8) 0),
               .op (some 32) (.load1 (.t 31)),
               .op (some 33) (.mov (.t 5)),
               .op (some 34) (.mov (.t 6)),
               .op (some 35) (.iadr 1 (.t 33) (.t 34)),
               .op (some 36) (.load1 (.t 35)),
               .op (some 37) (.bin .neq (.t 32) (.t 36))])
            (.keep [1, 2, 5, 6, 7, 8, 37] (.cond (.t 37)
             (.exit 3)
             (.skip))))
           (.keep [1, 2, 5, 6, 7, 8] (.seq (.seq (.ops [.op (some 38) (.fadr (.t 8) 1),
               .op (some 39) (.load1 (.t 38)),
               .op (some 40) (.mov (.t 1)),
               .op (some 41) (.bin .eql (.t 39) (.t 40))])
            (.keep [1, 2, 5, 6, 7, 8, 41] (.cond (.t 41)
             (.seq (.ops [.op (some 4) (.mov (.k (.bool true)))])
              (.keep [4] (.ret)))
             (.skip))))
           (.keep [1, 2, 5, 6, 7, 8] (.seq (.ops [.op (some 9) (.mov (.k (.bool false)))])
           (.keep [1, 2, 5, 6, 7, 8, 9] (.seq (.seq (.ops [.op (some 10) (.mov (.k (.int .i64 0)))])
            (.keep [1, 2, 5, 6, 7, 8, 9, 10] (.block 4 (.loop (.seq (.seq (.ops [.op (some 42) (.mov (.t 10)),
                  .op (some 43) (.mov (.t 5)),
                  .op (some 44) (.lenS (.t 43)),
                  .op (some 45) (.bin .lss (.t 42) (.t 44))])
               (.keep [1, 2, 5, 6, 7, 8, 9, 10, 45] (.cond (.t 45)
                (.skip)
                (.exit 4))))
              (.keep [1, 2, 5, 6, 7, 8, 9, 10] (.seq (.block 5 (.draw [.op (some 48) (.mov (.t 9)),
                  .op (some 49) (.mov (.t 48)),
                  .andor 57 false 1 49 [.op (some 50) (.mov (.t 5)), .op (some 51) (.mov (.t 10)), .op (some 52) (.iadr 1 (.t 50) (.t 51)), .op (some 53) (.load1 (.t 52)), .op (some 54) (.fadr (.t 8) 1), .op (some 55) (.load1 (.t 54)), .op (some 56) (.bin .eql (.t 53) (.t 55))] (.t 56),
                  .op (some 9) (.mov (.t 57))]))
              (.keep [1, 2, 5, 6, 7, 8, 9, 10] (.ops [.op (some 46) (.mov (.t 10)),
                .op (some 47) (.bin .add (.t 46) (.k (.int .i64 1))),
                .op (some 10) (.mov (.t 47))])))))))))
           (.keep [1, 2, 5, 6, 7, 8, 9] (.seq (.ops [.op (some 58) (.mov (.t 9)),
              .op (some 59) (.not (.t 58))])
           (.keep [1, 2, 5, 6, 7, 8, 59] (.cond (.t 59)
            (.ops [.op (some 60) (.mov (.t 5)),
               .op (some 61) (.fadr (.t 8) 1),
               .op (some 62) (.load1 (.t 61)),
               .op (some 63) (.bslice 1 [.t 62]),
               .op (some 64) (.app 1 8 [.int .i64 0] (.t 60) (.t 63)),
               .op (some 5) (.mov (.t 64))])
            (.skip)))))))))))))))
         (.keep [1, 2, 5, 6, 7] (.ops [.op (some 24) (.mov (.t 7)),
           .op (some 25) (.bin .add (.t 24) (.k (.int .i64 1))),
           .op (some 7) (.mov (.t 25))]))))))))))
     (.keep [1, 2, 5, 6] (.ops [.op (some 17) (.mov (.t 6)),
       .op (some 18) (.bin .add (.t 17) (.k (.int .i64 1))),
       .op (some 6) (.mov (.t 18))])))))))))
  (.keep [] (.seq (.ops [.op (some 4) (.mov (.k (.bool false)))])
  (.keep [4] (.ret))))))))
theorem k_c_l06Round_fits : fitsF Try.prog 81 ⟨65, k_c_l06Round, [.t 4]⟩ = true := by kernel_rfl
theorem c_l06Round {l : GLocks} {tx : Int} (hw0 : l.Held.length ≤ 1048576) (hw1 : l.Waits.length ≤ 1048576) : Con Try.prog noMv 81 [l.av, int tx] [] (fun r h => r = bool (roundB l.Waits tx) ∧ h = []) := by
  refine con_of2 k_c_l06Round_fits rfl fun C hP hmv => ?_
  unfold k_c_l06Round
  refine cx_seq ?_
  refine cx_ops ?_
  refine ax_e (e_box rfl rfl (by decide) rfl rfl rfl) ?_
  refine ax_q (q_mov rfl) ?_
  refine ax_nil ?_
  refine cx_keep rfl rfl ?_
  refine cx_seq ?_
  refine cx_ops ?_
  refine ax_q (q_mov rfl) ?_
  refine ax_e (e_bslice rfl (by decide) rfl rfl) ?_
  refine ax_q (q_mov rfl) ?_
  refine ax_nil ?_
  refine cx_keep rfl rfl ?_
  refine cx_seq ?_
  refine cx_seq ?_
  refine cx_ops ?_
  refine ax_q (q_mov rfl) ?_
  refine ax_nil ?_
  refine cx_keep rfl rfl ?_
  refine cx_block ?_
  refine cx_loopU (fun n (s : Nat × List Int) => n = l.Waits.length + 2 - s.1 ∧ RInv tx l.Waits s.2 ∧ s.1 ≤ s.2.length ∧ roundF tx l.Waits (l.Waits.length + 2 - s.1) s.1 s.2 = roundB l.Waits tx) (fun s => [(5, .osl 12 1 0 s.2.length), (6, int s.1)]) (fun s => [(2, .box [.d (.sl 4 (l.Held.map GLock.row)), .d (.sl 2 (l.Waits.map GWait.row))]), (12, .rows 1 (s.2.map intRow))]) ⟨_, (0, [tx]), ⟨rfl, RInv.start _ _, Nat.zero_le _, rfl⟩, by repeat (first | exact trivial | refine ⟨rfl, ?_⟩ | refine ⟨?_, ?_⟩)⟩ ?_
  rintro n ⟨i, r⟩ ⟨rfl, hr, hi, hd⟩
  simp only at hr hi hd ⊢
  have hrl := hr.len
  refine cx_seq ?_
  refine cx_seq ?_
  refine cx_ops ?_
  refine ax_q (q_mov rfl) ?_
  refine ax_q (q_mov rfl) ?_
  first | refine ax_q (q_lenS_map rfl) ?_ | refine ax_q (q_lenS_osl rfl) ?_ | refine ax_q (q_lenS_zs rfl) ?_ | refine ax_q (q_lenS rfl) ?_
  refine ax_q (q_ibin rfl rfl rfl) ?_
  refine ax_nil ?_
  refine cx_keep rfl rfl ?_
  refine cx_cond rfl (fun h0 => ?_) (fun h0 => ?_)
  · have h0 := dT h0
    have h0x : i < r.length := by omega
    refine cx_skip ?_
    refine cx_keep rfl rfl ?_
    refine cx_seq ?_
    refine cx_block ?_
    refine cx_seq ?_
    refine cx_ops ?_
    refine ax_q (q_mov rfl) ?_
    refine ax_nil ?_
    refine cx_keep rfl rfl ?_
    refine cx_block ?_
    refine cx_loopU (fun n (s : Nat × List Int) => s.1 ≤ l.Waits.length ∧ n = l.Waits.length - s.1 ∧ RInv tx l.Waits s.2 ∧ (∃ m, s.2 = r ++ m) ∧ scanW tx r[i] (l.Waits.take s.1) r = some s.2) (fun s => [(5, .osl 12 1 0 s.2.length), (7, int s.1)]) (fun s => [(2, .box [.d (.sl 4 (l.Held.map GLock.row)), .d (.sl 2 (l.Waits.map GWait.row))]), (12, .rows 1 (s.2.map intRow))]) ⟨_, (0, r), ⟨Nat.zero_le _, rfl, hr, ⟨[], by simp⟩, rfl⟩, by repeat (first | exact trivial | refine ⟨rfl, ?_⟩ | refine ⟨?_, ?_⟩)⟩ ?_
    rintro n ⟨k, r'⟩ ⟨hk, rfl, hr', ⟨m, hm⟩, hs⟩
    simp only at hk hr' hm hs ⊢
    have hrl' := hr'.len
    have hil : i < r'.length := by rw [hm]; simp; omega
    have hia : r'[i] = r[i] := by subst hm; exact app_get h0x hil
    refine cx_seq ?_
    refine cx_seq ?_
    refine cx_ops ?_
    refine ax_q (q_mov rfl) ?_
    first | refine ax_q (q_fadr_ptr rfl) ?_ | refine ax_q (q_fadr_rptr rfl) ?_ | refine ax_q (q_fadr_ip rfl) ?_
    first | refine ax_q (q_load1_ptr rfl rfl rfl) ?_ | refine ax_q (q_load1_ip rfl) ?_ | refine ax_q (q_load1_rptr rfl rfl rfl rfl) ?_ | refine ax_q (q_load1_rptr rfl rfl (by assumption) rfl) ?_ | refine ax_q (q_load1_rptr rfl rfl (mapAt (by first | assumption | omega)) rfl) ?_
    first | refine ax_q (q_lenS_map rfl) ?_ | refine ax_q (q_lenS_osl rfl) ?_ | refine ax_q (q_lenS_zs rfl) ?_ | refine ax_q (q_lenS rfl) ?_
    refine ax_q (q_ibin rfl rfl rfl) ?_
    refine ax_nil ?_
    refine cx_keep rfl rfl ?_
    refine cx_cond rfl (fun h1 => ?_) (fun h1 => ?_)
    · have h1 := dT h1
      have h1x : k < l.Waits.length := by omega
      refine cx_skip ?_
      refine cx_keep rfl rfl ?_
      refine cx_seq ?_
      refine cx_block ?_
      refine cx_seq ?_
      refine cx_ops ?_
      first | refine ax_q (q_fadr_ptr rfl) ?_ | refine ax_q (q_fadr_rptr rfl) ?_ | refine ax_q (q_fadr_ip rfl) ?_
      first | refine ax_q (q_load1_ptr rfl rfl rfl) ?_ | refine ax_q (q_load1_ip rfl) ?_ | refine ax_q (q_load1_rptr rfl rfl rfl rfl) ?_ | refine ax_q (q_load1_rptr rfl rfl (by assumption) rfl) ?_ | refine ax_q (q_load1_rptr rfl rfl (mapAt (by first | assumption | omega)) rfl) ?_
      refine ax_q (q_mov rfl) ?_
      refine ax_q (q_ix rfl rfl (mapAt h1x)) ?_
      first | refine ax_q (q_ldN rfl rfl rfl) ?_ | refine ax_q (q_loadN_ip rfl (Nat.le_refl _)) ?_ | refine ax_q (q_loadN_ip rfl (by decide)) ?_ | refine ax_q (q_loadN_rptr rfl rfl (by assumption) (by decide)) ?_ | refine ax_q (q_loadN_rptr rfl rfl (mapAt (by first | assumption | omega)) (by decide)) ?_
      refine ax_e (e_alloc (by decide) rfl rfl) ?_
      refine ax_e (e_st rfl rfl rfl rfl rfl rfl rfl) ?_
      refine ax_nil ?_
      refine cx_keep rfl rfl ?_
      refine cx_seq ?_
      refine cx_seq ?_
      refine cx_draw ?_
      first | refine ax_q (q_fadr_ptr rfl) ?_ | refine ax_q (q_fadr_rptr rfl) ?_ | refine ax_q (q_fadr_ip rfl) ?_
      first | refine ax_q (q_load1_ptr rfl rfl rfl) ?_ | refine ax_q (q_load1_ip rfl) ?_ | refine ax_q (q_load1_rptr rfl rfl rfl rfl) ?_ | refine ax_q (q_load1_rptr rfl rfl (by assumption) rfl) ?_ | refine ax_q (q_load1_rptr rfl rfl (mapAt (by first | assumption | omega)) rfl) ?_
      refine ax_q (q_mov rfl) ?_
      refine ax_q (q_mov rfl) ?_
      refine ax_q (q_ixo rfl rfl hil) ?_
      first | refine ax_q (q_load1_ptr rfl rfl rfl) ?_ | refine ax_q (q_load1_ip rfl) ?_ | refine ax_q (q_load1_rptr rfl rfl rfl rfl) ?_ | refine ax_q (q_load1_rptr rfl rfl (by assumption) rfl) ?_ | refine ax_q (q_load1_rptr rfl rfl (mapAt (by first | assumption | omega)) rfl) ?_
      refine ax_q (q_ibin rfl rfl rfl) ?_
      refine ax_nil ?_
      refine cx_keep rfl rfl ?_
      refine cx_cond rfl (fun h2 => ?_) (fun h2 => ?_)
      · have h2 := nT h2
        have e1 := scan1_skip (tx := tx) (r := r') (show ¬ l.Waits[k].Tx = r[i] from by rw [← hia]; exact h2)
        refine cx_exit rfl ?_
        refine cx_keep rfl rfl ?_
        refine cx_ops ?_
        refine ax_q (q_mov rfl) ?_
        refine ax_qe (r' := int ((k + 1 : Nat) : Int)) (q_ibin rfl rfl rfl) (by rw [wi (by omega) (by omega)]; rfl) ?_
        refine ax_q (q_mov rfl) ?_
        refine ax_nil ?_
        obtain ⟨r2, h8⟩ : ∃ r2, r2 = r2 := ⟨r', rfl⟩
        exact ⟨_, (k + 1, _), by simp only; omega, ⟨by simp only; omega, rfl, (hr'.step h1x e1).1, (by obtain ⟨m2, h7⟩ := (hr'.step h1x e1).2; exact ⟨m ++ m2, h7.trans (by rw [hm, List.append_assoc])⟩), by simp only [scanW_succ h1x, hs]; exact e1⟩, by repeat (first | exact trivial | refine ⟨rfl, ?_⟩ | refine ⟨?_, ?_⟩)⟩
      · have h2 := nF h2
        have h2 : l.Waits[k].Tx = r[i] := by rw [← hia]; exact h2
        refine cx_skip ?_
        refine cx_keep rfl rfl ?_
        refine cx_seq ?_
        refine cx_seq ?_
        refine cx_ops ?_
        first | refine ax_q (q_fadr_ptr rfl) ?_ | refine ax_q (q_fadr_rptr rfl) ?_ | refine ax_q (q_fadr_ip rfl) ?_
        first | refine ax_q (q_load1_ptr rfl rfl rfl) ?_ | refine ax_q (q_load1_ip rfl) ?_ | refine ax_q (q_load1_rptr rfl rfl rfl rfl) ?_ | refine ax_q (q_load1_rptr rfl rfl (by assumption) rfl) ?_ | refine ax_q (q_load1_rptr rfl rfl (mapAt (by first | assumption | omega)) rfl) ?_
        refine ax_q (q_mov rfl) ?_
        refine ax_q (q_ibin rfl rfl rfl) ?_
        refine ax_nil ?_
        refine cx_keep rfl rfl ?_
        refine cx_cond rfl (fun h3 => ?_) (fun h3 => ?_)
        · have h3 := dT h3
          refine cx_seq ?_
          refine cx_ops ?_
          refine ax_q (q_mov rfl) ?_
          refine ax_nil ?_
          refine cx_keep rfl rfl ?_
          refine cx_ret (ret0 rfl rfl ?_)
          exact ⟨by rw [← hd, show l.Waits.length + 2 - i = (l.Waits.length + 1 - i) + 1 from by omega, roundF_hit h0x (scanW_none (k := k) (by rw [scanW_succ h1x, hs]; exact scan1_hit h2 h3))]; rfl, rfl⟩
        · have h3 := dF h3
          refine cx_skip ?_
          refine cx_keep rfl rfl ?_
          refine cx_seq ?_
          refine cx_ops ?_
          refine ax_q (q_mov rfl) ?_
          refine ax_nil ?_
          refine cx_keep rfl rfl ?_
          refine cx_seq ?_
          refine cx_seq ?_
          refine cx_ops ?_
          refine ax_q (q_mov rfl) ?_
          refine ax_nil ?_
          refine cx_keep rfl rfl ?_
          refine cx_block ?_
          refine cx_loopU (fun n j => j ≤ r'.length ∧ n = r'.length - j) (fun j : Nat => [(9, bool ((r'.take j).any (fun s => eqb l.Waits[k].For s))), (10, int j)]) (fun _ => [(2, .box [.d (.sl 4 (l.Held.map GLock.row)), .d (.sl 2 (l.Waits.map GWait.row))]), (12, .rows 1 (r'.map intRow)), (8, .box [.d (.int .i64 l.Waits[k].Tx), .d (.int .i64 l.Waits[k].For)])]) ⟨_, 0, ⟨Nat.zero_le _, rfl⟩, by repeat (first | exact trivial | refine ⟨rfl, ?_⟩ | refine ⟨?_, ?_⟩)⟩ ?_
          rintro n j ⟨hj, rfl⟩
          refine cx_seq ?_
          refine cx_seq ?_
          refine cx_ops ?_
          refine ax_q (q_mov rfl) ?_
          refine ax_q (q_mov rfl) ?_
          first | refine ax_q (q_lenS_map rfl) ?_ | refine ax_q (q_lenS_osl rfl) ?_ | refine ax_q (q_lenS_zs rfl) ?_ | refine ax_q (q_lenS rfl) ?_
          refine ax_q (q_ibin rfl rfl rfl) ?_
          refine ax_nil ?_
          refine cx_keep rfl rfl ?_
          refine cx_cond rfl (fun h4 => ?_) (fun h4 => ?_)
          · have h4 := dT h4
            have h4x : j < r'.length := by omega
            refine cx_skip ?_
            refine cx_keep rfl rfl ?_
            refine cx_seq ?_
            refine cx_block ?_
            refine cx_draw ?_
            refine ax_q (q_mov rfl) ?_
            refine ax_q (q_mov rfl) ?_
            apply ax_or rfl rfl
            · intro g
              refine ax_q (q_mov rfl) ?_
              refine ax_q (q_mov rfl) ?_
              refine ax_q (q_ixo rfl rfl h4x) ?_
              first | refine ax_q (q_load1_ptr rfl rfl rfl) ?_ | refine ax_q (q_load1_ip rfl) ?_ | refine ax_q (q_load1_rptr rfl rfl rfl rfl) ?_ | refine ax_q (q_load1_rptr rfl rfl (by assumption) rfl) ?_ | refine ax_q (q_load1_rptr rfl rfl (mapAt (by first | assumption | omega)) rfl) ?_
              first | refine ax_q (q_fadr_ptr rfl) ?_ | refine ax_q (q_fadr_rptr rfl) ?_ | refine ax_q (q_fadr_ip rfl) ?_
              first | refine ax_q (q_load1_ptr rfl rfl rfl) ?_ | refine ax_q (q_load1_ip rfl) ?_ | refine ax_q (q_load1_rptr rfl rfl rfl rfl) ?_ | refine ax_q (q_load1_rptr rfl rfl (by assumption) rfl) ?_ | refine ax_q (q_load1_rptr rfl rfl (mapAt (by first | assumption | omega)) rfl) ?_
              refine ax_q (q_ibin rfl rfl rfl) ?_
              exact ax_nil ⟨rfl, by repeat (first | exact trivial | refine ⟨rfl, ?_⟩ | refine ⟨?_, ?_⟩)⟩
            rw [show ((r'.take j).any (fun s => eqb l.Waits[k].For s) || decide (r'[j] = l.Waits[k].For)) = (r'.take (j + 1)).any (fun s => eqb l.Waits[k].For s) from by rw [any_take_succ h4x, deceq]]
            refine ax_q (q_mov rfl) ?_
            refine ax_nil ?_
            refine cx_keep rfl rfl ?_
            refine cx_ops ?_
            refine ax_q (q_mov rfl) ?_
            refine ax_qe (r' := int ((j + 1 : Nat) : Int)) (q_ibin rfl rfl rfl) (by rw [wi (by omega) (by omega)]; rfl) ?_
            refine ax_q (q_mov rfl) ?_
            refine ax_nil ?_
            exact ⟨_, j + 1, by omega, ⟨by omega, rfl⟩, by repeat (first | exact trivial | refine ⟨rfl, ?_⟩ | refine ⟨?_, ?_⟩)⟩
          · have h4 := dF h4
            have h4x : j = r'.length := by omega
            subst h4x
            rw [any_full]
            refine cx_exit rfl ?_
            refine cx_keep rfl rfl ?_
            refine cx_seq ?_
            refine cx_ops ?_
            refine ax_q (q_mov rfl) ?_
            refine ax_q (q_not rfl) ?_
            refine ax_nil ?_
            refine cx_keep rfl rfl ?_
            refine cx_cond rfl (fun h5 => ?_) (fun h5 => ?_)
            · have h5 := bT h5
              have e1 := scan1_new h2 h3 h5
              refine cx_ops ?_
              refine ax_q (q_mov rfl) ?_
              first | refine ax_q (q_fadr_ptr rfl) ?_ | refine ax_q (q_fadr_rptr rfl) ?_ | refine ax_q (q_fadr_ip rfl) ?_
              first | refine ax_q (q_load1_ptr rfl rfl rfl) ?_ | refine ax_q (q_load1_ip rfl) ?_ | refine ax_q (q_load1_rptr rfl rfl rfl rfl) ?_ | refine ax_q (q_load1_rptr rfl rfl (by assumption) rfl) ?_ | refine ax_q (q_load1_rptr rfl rfl (mapAt (by first | assumption | omega)) rfl) ?_
              refine ax_e (e_bslice rfl (by decide) rfl rfl) ?_
              refine ax_e (e_appn (n' := (r' ++ [l.Waits[k].For]).length) (rs' := (r' ++ [l.Waits[k].For]).map intRow) rfl rfl (by simp) rfl (src_osl rfl (by simp)) (.inl (by decide)) (hbnd (by omega) (by simp) (by decide)) (by simp) (app1 rfl)) ?_
              refine ax_q (q_mov rfl) ?_
              refine ax_nil ?_
              refine cx_keep rfl rfl ?_
              refine cx_ops ?_
              refine ax_q (q_mov rfl) ?_
              refine ax_qe (r' := int ((k + 1 : Nat) : Int)) (q_ibin rfl rfl rfl) (by rw [wi (by omega) (by omega)]; rfl) ?_
              refine ax_q (q_mov rfl) ?_
              refine ax_nil ?_
              obtain ⟨r2, h8⟩ : ∃ r2, r2 = r2 := ⟨r', rfl⟩
              exact ⟨_, (k + 1, _), by simp only; omega, ⟨by simp only; omega, rfl, (hr'.step h1x e1).1, (by obtain ⟨m2, h7⟩ := (hr'.step h1x e1).2; exact ⟨m ++ m2, h7.trans (by rw [hm, List.append_assoc])⟩), by simp only [scanW_succ h1x, hs]; exact e1⟩, by repeat (first | exact trivial | refine ⟨rfl, ?_⟩ | refine ⟨?_, ?_⟩)⟩
            · have h5 := bF h5
              have e1 := scan1_old h2 h3 h5
              refine cx_skip ?_
              refine cx_keep rfl rfl ?_
              refine cx_ops ?_
              refine ax_q (q_mov rfl) ?_
              refine ax_qe (r' := int ((k + 1 : Nat) : Int)) (q_ibin rfl rfl rfl) (by rw [wi (by omega) (by omega)]; rfl) ?_
              refine ax_q (q_mov rfl) ?_
              refine ax_nil ?_
              obtain ⟨r2, h8⟩ : ∃ r2, r2 = r2 := ⟨r', rfl⟩
              exact ⟨_, (k + 1, _), by simp only; omega, ⟨by simp only; omega, rfl, (hr'.step h1x e1).1, (by obtain ⟨m2, h7⟩ := (hr'.step h1x e1).2; exact ⟨m ++ m2, h7.trans (by rw [hm, List.append_assoc])⟩), by simp only [scanW_succ h1x, hs]; exact e1⟩, by repeat (first | exact trivial | refine ⟨rfl, ?_⟩ | refine ⟨?_, ?_⟩)⟩
    · have h1 := dF h1
      have h1x : k = l.Waits.length := by omega
      subst h1x
      rw [List.take_length] at hs
      have hrl2 : r.length ≤ r'.length := by rw [hm]; simp
      refine cx_exit rfl ?_
      refine cx_keep rfl rfl ?_
      refine cx_ops ?_
      refine ax_q (q_mov rfl) ?_
      refine ax_q (q_add rfl rfl (by omega)) ?_
      refine ax_q (q_mov rfl) ?_
      refine ax_nil ?_
      have h9 := roundF_step (f := l.Waits.length + 2 - (i + 1)) h0x hs
      rw [show l.Waits.length + 2 - (i + 1) + 1 = l.Waits.length + 2 - i from by omega, hd] at h9
      exact ⟨_, (i + 1, r'), by simp only; omega, ⟨rfl, hr', by simp only; omega, h9.symm⟩, by repeat (first | exact trivial | refine ⟨rfl, ?_⟩ | refine ⟨?_, ?_⟩)⟩
  · have h0 := dF h0
    refine cx_exit rfl ?_
    refine cx_keep rfl rfl ?_
    refine cx_seq ?_
    refine cx_ops ?_
    refine ax_q (q_mov rfl) ?_
    refine ax_nil ?_
    refine cx_keep rfl rfl ?_
    refine cx_ret (ret0 rfl rfl ?_)
    exact ⟨by rw [← hd, roundF_end (by omega)]; rfl, rfl⟩


/- loop.example/g00332/spec.l06Take -/
def k_c_l06Take : XCode :=
  .seq (.ops [.op (some 5) (.box (.t 0)),
     .op (some 10) (.alloc [.nils 4, .nils 2]),
     .op (some 11) (.mov (.k (.int .i64 0)))])
  (.keep [1, 2, 3, 4, 5, 10] (.seq (.ops [.op (some 20) (.loadN 2 (.t 5)),
     .call (some 21) 64 [.t 20],
     .op (some 22) (.mov (.t 1)),
     .call (some 23) 79 [.t 21, .t 22],
     .op (some 12) (.alloc [.nils 4, .nils 2]),
     .op none (.store 2 (.t 12) (.t 23))])
  (.keep [1, 2, 3, 4, 10, 12] (.seq (.seq (.ops [.op (some 24) (.loadN 2 (.t 12)),
      .op (some 25) (.mov (.t 1)),
      .op (some 26) (.mov (.t 2)),
      .op (some 27) (.mov (.t 3)),
      .op (some 28) (.mov (.t 4)),
      .call (some 29) 80 [.t 24, .t 25, .t 26, .t 27, .t 28]])
   (.keep [1, 2, 3, 4, 10, 12, 29] (.cond (.t 29)
    (.seq (.ops [.op (some 30) (.loadN 2 (.t 12)),
        .op none (.store 2 (.t 10) (.t 30)),
        .op (some 11) (.mov (.k (.int .i64 0)))])
     (.keep [10, 11] (.ret)))
    (.skip))))
  (.keep [1, 2, 3, 4, 10, 12] (.seq (.ops [.op (some 31) (.bslice 2 []),
     .op (some 13) (.mov (.t 31))])
  (.keep [1, 2, 3, 4, 10, 12, 13] (.seq (.seq (.ops [.op (some 14) (.mov (.k (.int .i64 0)))])
   (.keep [1, 2, 3, 4, 10, 12, 13, 14] (.block 0 (.loop (.seq (.seq (.ops [.op (some 32) (.mov (.t 14)),
         .op (some 33) (.fadr (.t 12) 0),
         .op (some 34) (.load1 (.t 33)),
         .op (some 35) (.lenS (.t 34)),
         .op (some 36) (.bin .lss (.t 32) (.t 35))])
      (.keep [1, 2, 3, 4, 10, 12, 13, 14, 36] (.cond (.t 36)
       (.skip)
       (.exit 0))))
     (.keep [1, 2, 3, 4, 10, 12, 13, 14] (.seq (.block 1 (.seq (.ops [.op (some 39) (.fadr (.t 12) 0),
          .op (some 40) (.load1 (.t 39)),
          .op (some 41) (.mov (.t 14)),
          .op (some 42) (.iadr 4 (.t 40) (.t 41)),
          .op (some 43) (.loadN 4 (.t 42)),
          .op (some 15) (.alloc [.int .i64 0, .int .i64 0, .int .i64 0, .int .i64 0]),
          .op none (.store 4 (.t 15) (.t 43))])
       (.keep [1, 2, 3, 4, 10, 12, 13, 14, 15] (.seq (.ops [.op (some 44) (.fadr (.t 15) 0),
          .op (some 45) (.load1 (.t 44)),
          .op (some 46) (.mov (.t 1)),
          .op (some 47) (.bin .neq (.t 45) (.t 46)),
          .op (some 48) (.mov (.t 47)),
          .andor 53 true 4 48 [.op (some 49) (.fadr (.t 15) 1), .op (some 50) (.load1 (.t 49)), .op (some 51) (.mov (.t 2)), .op (some 52) (.bin .eql (.t 50) (.t 51))] (.t 52),
          .op (some 54) (.mov (.t 53)),
          .andor 59 true 10 54 [.op (some 55) (.fadr (.t 15) 2), .op (some 56) (.load1 (.t 55)), .op (some 57) (.mov (.t 3)), .op (some 58) (.bin .eql (.t 56) (.t 57))] (.t 58),
          .op (some 60) (.mov (.t 59)),
          .andor 66 true 16 60 [.op (some 61) (.fadr (.t 15) 3), .op (some 62) (.load1 (.t 61)), .op (some 63) (.mov (.t 4)), .call (some 64) 70 [.t 62, .t 63], .op (some 65) (.not (.t 64))] (.t 65)])
       (.keep [1, 2, 3, 4, 10, 12, 13, 14, 15, 66] (.cond (.t 66)
        (.seq (.ops [.op (some 67) (.mov (.t 1)),
            .op (some 68) (.fadr (.t 15) 0),
            .op (some 69) (.load1 (.t 68)),
            .op (some 70) (.build [.int .i64 0, .int .i64 0] [(0, 1, .t 67), (1, 1, .t 69)]),
            .op (some 16) (.alloc [.int .i64 0, .int .i64 0]),
            .op none (.store 2 (.t 16) (.t 70))])
         (.keep [1, 2, 3, 4, 10, 12, 13, 14, 16] (.seq (.ops [.op (some 17) (.mov (.k (.bool false)))])
         (.keep [1, 2, 3, 4, 10, 12, 13, 14, 16, 17] (.seq (.seq (.ops [.op (some 18) (.mov (.k (.int .i64 0)))])
          (.keep [1, 2, 3, 4, 10, 12, 13, 14, 16, 17, 18] (.block 2 (.loop (.seq (.seq (.ops [.op (some 71) (.mov (.t 18)),
                .op (some 72) (.mov (.t 13)),
                .op (some 73) (.lenS (.t 72)),
                .op (some 74) (.bin .lss (.t 71) (.t 73))])
             (.keep [1, 2, 3, 4, 10, 12, 13, 14, 16, 17, 18, 74] (.cond (.t 74)
              (.skip)
              (.exit 2))))
            (.keep [1, 2, 3, 4, 10, 12, 13, 14, 16, 17, 18] (.seq (.block 3 (.draw [.op (some 77) (.mov (.t 17)),
                .op (some 78) (.mov (.t 77)),
                .andor 85 false 1 78 [.op (some 79) (.mov (.t 13)), .op (some 80) (.mov (.t 18)), .op (some 81) (.iadr 2 (.t 79) (.t 80)), .op (some 82) (.loadN 2 (.t 81)), .op (some 83) (.loadN 2 (.t 16)), .op (some 84) (.eqs false [0, 0] (.t 82) (.t 83))] (.t 84),
                .op (some 17) (.mov (.t 85))]))
            (.keep [1, 2, 3, 4, 10, 12, 13, 14, 16, 17, 18] (.ops [.op (some 75) (.mov (.t 18)),
              .op (some 76) (.bin .add (.t 75) (.k (.int .i64 1))),
              .op (some 18) (.mov (.t 76))])))))))))
         (.keep [1, 2, 3, 4, 10, 12, 13, 14, 16, 17] (.seq (.ops [.op (some 86) (.mov (.t 17)),
            .op (some 87) (.not (.t 86))])
         (.keep [1, 2, 3, 4, 10, 12, 13, 14, 16, 87] (.cond (.t 87)
          (.ops [.op (some 88) (.mov (.t 13)),
             .op (some 89) (.loadN 2 (.t 16)),
             .op (some 90) (.bslice 2 [.t 89]),
             .op (some 91) (.app 2 16 [.int .i64 0, .int .i64 0] (.t 88) (.t 90)),
             .op (some 13) (.mov (.t 91))])
          (.skip))))))))))
        (.skip)))))))
     (.keep [1, 2, 3, 4, 10, 12, 13, 14] (.ops [.op (some 37) (.mov (.t 14)),
       .op (some 38) (.bin .add (.t 37) (.k (.int .i64 1))),
       .op (some 14) (.mov (.t 38))])))))))))
  (.keep [1, 2, 3, 4, 10, 12, 13] (.seq (.seq (.ops [.op (some 92) (.mov (.t 13)),
      .op (some 93) (.lenS (.t 92)),
      .op (some 94) (.bin .eql (.t 93) (.k (.int .i64 0)))])
   (.keep [1, 2, 3, 4, 10, 12, 13, 94] (.cond (.t 94)
    (.seq (.seq (.ops [.op (some 95) (.fadr (.t 12) 0),
         .op (some 96) (.load1 (.t 95)),
         .op (some 97) (.lenS (.t 96)),
         .op (some 98) (.bin .eql (.t 97) (.k (.int .i64 60)))])
      (.keep [1, 2, 3, 4, 10, 12, 98] (.cond (.t 98)
       (.seq (.ops [.op (some 99) (.loadN 2 (.t 12)),
           .op none (.store 2 (.t 10) (.t 99)),
           .op (some 11) (.mov (.k (.int .i64 7)))])
        (.keep [10, 11] (.ret)))
       (.skip))))
     (.keep [1, 2, 3, 4, 10, 12] (.seq (.ops [.op (some 100) (.fadr (.t 12) 0),
        .op (some 101) (.load1 (.t 100)),
        .op (some 102) (.mov (.t 1)),
        .op (some 103) (.mov (.t 2)),
        .op (some 104) (.mov (.t 3)),
        .op (some 105) (.mov (.t 4)),
        .op (some 106) (.build [.int .i64 0, .int .i64 0, .int .i64 0, .int .i64 0] [(0, 1, .t 102), (1, 1, .t 103), (2, 1, .t 104), (3, 1, .t 105)]),
        .op (some 107) (.bslice 4 [.t 106]),
        .op (some 108) (.app 4 32 [.int .i64 0, .int .i64 0, .int .i64 0, .int .i64 0] (.t 101) (.t 107)),
        .op (some 109) (.fadr (.t 12) 0),
        .op none (.store 1 (.t 109) (.t 108))])
     (.keep [10, 12] (.seq (.ops [.op (some 110) (.loadN 2 (.t 12)),
        .op none (.store 2 (.t 10) (.t 110)),
        .op (some 11) (.mov (.k (.int .i64 0)))])
     (.keep [10, 11] (.ret)))))))
    (.skip))))
  (.keep [1, 10, 12, 13] (.seq (.seq (.ops [.op (some 111) (.fadr (.t 12) 1),
      .op (some 112) (.load1 (.t 111)),
      .op (some 113) (.lenS (.t 112)),
      .op (some 114) (.mov (.t 13)),
      .op (some 115) (.lenS (.t 114)),
      .op (some 116) (.bin .add (.t 113) (.t 115)),
      .op (some 117) (.bin .gtr (.t 116) (.k (.int .i64 100)))])
   (.keep [1, 10, 12, 13, 117] (.cond (.t 117)
    (.seq (.ops [.op (some 118) (.loadN 2 (.t 12)),
        .op none (.store 2 (.t 10) (.t 118)),
        .op (some 11) (.mov (.k (.int .i64 7)))])
     (.keep [10, 11] (.ret)))
    (.skip))))
  (.keep [1, 10, 12, 13] (.seq (.ops [.op (some 119) (.loadN 2 (.t 12)),
     .call (some 120) 64 [.t 119],
     .op (some 19) (.alloc [.nils 4, .nils 2]),
     .op none (.store 2 (.t 19) (.t 120))])
  (.keep [1, 10, 12, 13, 19] (.seq (.ops [.op (some 121) (.fadr (.t 19) 1),
     .op (some 122) (.load1 (.t 121)),
     .op (some 123) (.mov (.t 13)),
     .op (some 124) (.app 2 16 [.int .i64 0, .int .i64 0] (.t 122) (.t 123)),
     .op (some 125) (.fadr (.t 19) 1),
     .op none (.store 1 (.t 125) (.t 124))])
  (.keep [1, 10, 12, 19] (.seq (.seq (.ops [.op (some 126) (.loadN 2 (.t 19)),
      .op (some 127) (.mov (.t 1)),
      .call (some 128) 81 [.t 126, .t 127]])
   (.keep [10, 12, 19, 128] (.cond (.t 128)
    (.seq (.ops [.op (some 129) (.loadN 2 (.t 12)),
        .op none (.store 2 (.t 10) (.t 129)),
        .op (some 11) (.mov (.k (.int .i64 14)))])
     (.keep [10, 11] (.ret)))
    (.skip))))
  (.keep [10, 19] (.seq (.ops [.op (some 130) (.loadN 2 (.t 19)),
     .op none (.store 2 (.t 10) (.t 130)),
     .op (some 11) (.mov (.k (.int .i64 13)))])
  (.keep [10, 11] (.ret))))))))))))))))))))))
theorem k_c_l06Take_fits : fitsF Try.prog 51 ⟨131, k_c_l06Take, [.cN 10 2, .t 11]⟩ = true := by kernel_rfl
theorem c_l06Take {l : GLocks} {x : GLock} (hw0 : l.Held.length ≤ 1048576) (hw1 : l.Waits.length ≤ 1048576) : Con Try.prog noMv 51 [l.av, int x.Tx, int x.Table, int x.Row, int x.Mode] [] (fun r h => r = .tup [(takeL l x).1.avO 0 1, int (takeL l x).2] ∧ h = (takeL l x).1.hO 0 1) := by
  refine con_of2 k_c_l06Take_fits rfl fun C hP hmv => ?_
  unfold k_c_l06Take
  have hcw := calm_len l x.Tx
  refine cx_seq ?_
  refine cx_ops ?_
  refine ax_e (e_box rfl rfl (by decide) rfl rfl rfl) ?_
  refine ax_e (e_alloc (by decide) rfl rfl) ?_
  refine ax_q (q_mov rfl) ?_
  refine ax_nil ?_
  refine cx_keep rfl rfl ?_
  refine cx_seq ?_
  refine cx_ops ?_
  first | refine ax_q (q_ldN rfl rfl rfl) ?_ | refine ax_q (q_loadN_ip rfl (Nat.le_refl _)) ?_ | refine ax_q (q_loadN_ip rfl (by decide)) ?_ | refine ax_q (q_loadN_rptr rfl rfl (by assumption) (by decide)) ?_ | refine ax_q (q_loadN_rptr rfl rfl (mapAt (by first | assumption | omega)) (by decide)) ?_
  first | refine ax_call rfl (vc_pure (c_l06Own  ?_ ?_) hP rfl ?_) | refine ax_call rfl (vc_lend (c_l06Own  ?_ ?_) hP (by repeat (first | exact lal_id _ rfl | exact LAL.nil | refine LAL.cons ?_ ?_ | exact la_id _ rfl | exact LA.lend (lend_whole rfl (by first | (simp; done) | (rw [List.length_map]; rfl))) | refine LA.agg ?_ | refine LA.fn ?_ | refine LA.lend ?_ | exact Lend.d _ | exact Lend.zs _ | exact lend_whole rfl (by first | (simp; done) | (rw [List.length_map]; rfl)) | refine Lend.ptr rfl ?_ | refine Lend.fn ?_ | exact LendL.nil | refine LendL.cons ?_ ?_)) ?_)
  · first | assumption | omega | (simp; done) | (simp; omega)
  · first | assumption | omega | (simp; done) | (simp; omega)
  rintro r h ⟨rfl, rfl⟩
  refine ⟨fun i => 21 + 200 * i, [0, 1], ⟨rfl, rfl, rfl, rfl, rfl, (by first | exact (fun h => absurd h Bool.false_ne_true) | exact (fun _ => ⟨rfl, (noisl_of (by repeat (first | exact trivial | refine ⟨noisl_map (fun _ => rfl), ?_⟩ | refine ⟨?_, ?_⟩)))⟩))⟩, ?_⟩
  skip
  refine ax_q (q_mov rfl) ?_
  refine ax_call rfl (vcall_own (c_l06Calm (l := l) (tx := x.Tx) hw0 hw1) hP hmv false (fun e => bif Nat.beq e 1000 then 21 else 221) [1000, 1001] ⟨rfl, rfl, rfl, rfl, ⟨rfl, rfl, trivial⟩, rfl, rfl, rfl⟩ (.pass rfl rfl (.pass rfl rfl .nil)) ?_)
  rintro r h ⟨rfl, rfl⟩
  refine ⟨fun e => bif Nat.beq e 1000 then 21 else bif Nat.beq e 1001 then 221 else 23, [0], ⟨rfl, rfl, rfl, rfl, (mem2 rfl rfl), rfl, rfl, fun h => absurd h Bool.false_ne_true⟩, ?_⟩
  refine ax_e (e_alloc (by decide) rfl rfl) ?_
  refine ax_e (e_st rfl rfl rfl rfl rfl rfl rfl) ?_
  refine ax_nil ?_
  refine cx_keep rfl rfl ?_
  refine cx_seq ?_
  refine cx_seq ?_
  refine cx_ops ?_
  first | refine ax_q (q_ldN rfl rfl rfl) ?_ | refine ax_q (q_loadN_ip rfl (Nat.le_refl _)) ?_ | refine ax_q (q_loadN_ip rfl (by decide)) ?_ | refine ax_q (q_loadN_rptr rfl rfl (by assumption) (by decide)) ?_ | refine ax_q (q_loadN_rptr rfl rfl (mapAt (by first | assumption | omega)) (by decide)) ?_
  refine ax_q (q_mov rfl) ?_
  refine ax_q (q_mov rfl) ?_
  refine ax_q (q_mov rfl) ?_
  refine ax_q (q_mov rfl) ?_
  first | refine ax_call rfl (vc_pure0 (c_l06Holds (l := (calm l x.Tx)) (x := x) ?_ ?_) hP rfl rfl ?_) | refine ax_call rfl (vc_lend0 (c_l06Holds (l := (calm l x.Tx)) (x := x) ?_ ?_) hP (by repeat (first | exact lal_id _ rfl | exact LAL.nil | refine LAL.cons ?_ ?_ | exact la_id _ rfl | exact LA.lend (lend_whole rfl (by first | (simp; done) | (rw [List.length_map]; rfl))) | refine LA.agg ?_ | refine LA.fn ?_ | refine LA.lend ?_ | exact Lend.d _ | exact Lend.zs _ | exact lend_whole rfl (by first | (simp; done) | (rw [List.length_map]; rfl)) | refine Lend.ptr rfl ?_ | refine Lend.fn ?_ | exact LendL.nil | refine LendL.cons ?_ ?_)) rfl rfl ?_)
  · first | assumption | omega | (simp; done) | (simp; omega)
  · first | assumption | omega | (simp; done) | (simp; omega)
  refine ax_nil ?_
  refine cx_keep rfl rfl ?_
  refine cx_cond rfl (fun h0 => ?_) (fun h0 => ?_)
  · skip
    refine cx_seq ?_
    refine cx_ops ?_
    first | refine ax_q (q_ldN rfl rfl rfl) ?_ | refine ax_q (q_loadN_ip rfl (Nat.le_refl _)) ?_ | refine ax_q (q_loadN_ip rfl (by decide)) ?_ | refine ax_q (q_loadN_rptr rfl rfl (by assumption) (by decide)) ?_ | refine ax_q (q_loadN_rptr rfl rfl (mapAt (by first | assumption | omega)) (by decide)) ?_
    refine ax_e (e_st rfl rfl rfl rfl rfl rfl rfl) ?_
    refine ax_q (q_mov rfl) ?_
    refine ax_nil ?_
    refine cx_keep rfl rfl ?_
    refine cx_ret (retN (fun e => bif Nat.beq e 23 then 1 else 0) [21, 23] rfl rfl rfl rfl rfl ?_)
    rw [takeL_1 h0]; exact ⟨rfl, rfl⟩
  · skip
    have h0 : ¬ holdsL (calm l x.Tx) x = true := by rw [h0]; simp
    refine cx_skip ?_
    refine cx_keep rfl rfl ?_
    refine cx_seq ?_
    refine cx_ops ?_
    refine ax_e (e_bslice rfl (by decide) rfl rfl) ?_
    refine ax_q (q_mov rfl) ?_
    refine ax_nil ?_
    refine cx_keep rfl rfl ?_
    refine cx_seq ?_
    refine cx_seq ?_
    refine cx_ops ?_
    refine ax_q (q_mov rfl) ?_
    refine ax_nil ?_
    refine cx_keep rfl rfl ?_
    refine cx_block ?_
    refine cx_loopU (fun n k => k ≤ l.Held.length ∧ n = l.Held.length - k) (fun k : Nat => [(13, .osl 31 2 0 (clashW (calm l x.Tx) x k).length), (14, int k)]) (fun k => [(10, .box [.zs 4, .zs 2]), (12, .box [.osl 21 4 0 l.Held.length, .osl 23 2 0 (calm l x.Tx).Waits.length]), (21, .rows 4 (l.Held.map GLock.row)), (23, .rows 2 ((calm l x.Tx).Waits.map GWait.row)), (31, .rows 2 ((clashW (calm l x.Tx) x k).map GWait.row))]) ⟨_, 0, ⟨Nat.zero_le _, rfl⟩, by repeat (first | exact trivial | refine ⟨rfl, ?_⟩ | refine ⟨?_, ?_⟩)⟩ ?_
    rintro n k ⟨hk, rfl⟩
    have hcl := clashW_len (l := (calm l x.Tx)) (x := x) (k := k) hk
    refine cx_seq ?_
    refine cx_seq ?_
    refine cx_ops ?_
    refine ax_q (q_mov rfl) ?_
    first | refine ax_q (q_fadr_ptr rfl) ?_ | refine ax_q (q_fadr_rptr rfl) ?_ | refine ax_q (q_fadr_ip rfl) ?_
    first | refine ax_q (q_load1_ptr rfl rfl rfl) ?_ | refine ax_q (q_load1_ip rfl) ?_ | refine ax_q (q_load1_rptr rfl rfl rfl rfl) ?_ | refine ax_q (q_load1_rptr rfl rfl (by assumption) rfl) ?_ | refine ax_q (q_load1_rptr rfl rfl (mapAt (by first | assumption | omega)) rfl) ?_
    first | refine ax_q (q_lenS_map rfl) ?_ | refine ax_q (q_lenS_osl rfl) ?_ | refine ax_q (q_lenS_zs rfl) ?_ | refine ax_q (q_lenS rfl) ?_
    refine ax_q (q_ibin rfl rfl rfl) ?_
    refine ax_nil ?_
    refine cx_keep rfl rfl ?_
    refine cx_cond rfl (fun h1 => ?_) (fun h1 => ?_)
    · have h1 := dT h1
      have h1x : k < l.Held.length := by omega
      have hsc : (clashW (calm l x.Tx) x (k + 1)) = addW x (clashW (calm l x.Tx) x k) l.Held[k] := clashW_succ (l := (calm l x.Tx)) (x := x) (k := k) h1x
      refine cx_skip ?_
      refine cx_keep rfl rfl ?_
      refine cx_seq ?_
      refine cx_block ?_
      refine cx_seq ?_
      refine cx_ops ?_
      first | refine ax_q (q_fadr_ptr rfl) ?_ | refine ax_q (q_fadr_rptr rfl) ?_ | refine ax_q (q_fadr_ip rfl) ?_
      first | refine ax_q (q_load1_ptr rfl rfl rfl) ?_ | refine ax_q (q_load1_ip rfl) ?_ | refine ax_q (q_load1_rptr rfl rfl rfl rfl) ?_ | refine ax_q (q_load1_rptr rfl rfl (by assumption) rfl) ?_ | refine ax_q (q_load1_rptr rfl rfl (mapAt (by first | assumption | omega)) rfl) ?_
      refine ax_q (q_mov rfl) ?_
      refine ax_q (q_ixo rfl rfl h1x) ?_
      first | refine ax_q (q_ldN rfl rfl rfl) ?_ | refine ax_q (q_loadN_ip rfl (Nat.le_refl _)) ?_ | refine ax_q (q_loadN_ip rfl (by decide)) ?_ | refine ax_q (q_loadN_rptr rfl rfl (by assumption) (by decide)) ?_ | refine ax_q (q_loadN_rptr rfl rfl (mapAt (by first | assumption | omega)) (by decide)) ?_
      refine ax_e (e_alloc (by decide) rfl rfl) ?_
      refine ax_e (e_st rfl rfl rfl rfl rfl rfl rfl) ?_
      refine ax_nil ?_
      refine cx_keep rfl rfl ?_
      refine cx_seq ?_
      refine cx_ops ?_
      first | refine ax_q (q_fadr_ptr rfl) ?_ | refine ax_q (q_fadr_rptr rfl) ?_ | refine ax_q (q_fadr_ip rfl) ?_
      first | refine ax_q (q_load1_ptr rfl rfl rfl) ?_ | refine ax_q (q_load1_ip rfl) ?_ | refine ax_q (q_load1_rptr rfl rfl rfl rfl) ?_ | refine ax_q (q_load1_rptr rfl rfl (by assumption) rfl) ?_ | refine ax_q (q_load1_rptr rfl rfl (mapAt (by first | assumption | omega)) rfl) ?_
      refine ax_q (q_mov rfl) ?_
      refine ax_q (q_ibin rfl rfl rfl) ?_
      refine ax_q (q_mov rfl) ?_
      apply ax_and rfl rfl
      · intro g
        have g := nT g
        first | refine ax_q (q_fadr_ptr rfl) ?_ | refine ax_q (q_fadr_rptr rfl) ?_ | refine ax_q (q_fadr_ip rfl) ?_
        first | refine ax_q (q_load1_ptr rfl rfl rfl) ?_ | refine ax_q (q_load1_ip rfl) ?_ | refine ax_q (q_load1_rptr rfl rfl rfl rfl) ?_ | refine ax_q (q_load1_rptr rfl rfl (by assumption) rfl) ?_ | refine ax_q (q_load1_rptr rfl rfl (mapAt (by first | assumption | omega)) rfl) ?_
        refine ax_q (q_mov rfl) ?_
        refine ax_q (q_ibin rfl rfl rfl) ?_
        exact ax_nil ⟨rfl, by repeat (first | exact trivial | refine ⟨rfl, ?_⟩ | refine ⟨?_, ?_⟩)⟩
      refine ax_q (q_mov rfl) ?_
      apply ax_and rfl rfl
      · intro g
        have g := (fun h => And.intro (nT (and_T h).1) (dT (and_T h).2)) g
        first | refine ax_q (q_fadr_ptr rfl) ?_ | refine ax_q (q_fadr_rptr rfl) ?_ | refine ax_q (q_fadr_ip rfl) ?_
        first | refine ax_q (q_load1_ptr rfl rfl rfl) ?_ | refine ax_q (q_load1_ip rfl) ?_ | refine ax_q (q_load1_rptr rfl rfl rfl rfl) ?_ | refine ax_q (q_load1_rptr rfl rfl (by assumption) rfl) ?_ | refine ax_q (q_load1_rptr rfl rfl (mapAt (by first | assumption | omega)) rfl) ?_
        refine ax_q (q_mov rfl) ?_
        refine ax_q (q_ibin rfl rfl rfl) ?_
        exact ax_nil ⟨rfl, by repeat (first | exact trivial | refine ⟨rfl, ?_⟩ | refine ⟨?_, ?_⟩)⟩
      refine ax_q (q_mov rfl) ?_
      apply ax_and rfl rfl
      · intro g
        have g := (fun h => And.intro ((fun h => And.intro (nT (and_T h).1) (dT (and_T h).2)) (and_T h).1) (dT (and_T h).2)) g
        first | refine ax_q (q_fadr_ptr rfl) ?_ | refine ax_q (q_fadr_rptr rfl) ?_ | refine ax_q (q_fadr_ip rfl) ?_
        first | refine ax_q (q_load1_ptr rfl rfl rfl) ?_ | refine ax_q (q_load1_ip rfl) ?_ | refine ax_q (q_load1_rptr rfl rfl rfl rfl) ?_ | refine ax_q (q_load1_rptr rfl rfl (by assumption) rfl) ?_ | refine ax_q (q_load1_rptr rfl rfl (mapAt (by first | assumption | omega)) rfl) ?_
        refine ax_q (q_mov rfl) ?_
        first | refine ax_call rfl (vc_pure0 (c_l06Fit  ) hP rfl rfl ?_) | refine ax_call rfl (vc_lend0 (c_l06Fit  ) hP (by repeat (first | exact lal_id _ rfl | exact LAL.nil | refine LAL.cons ?_ ?_ | exact la_id _ rfl | exact LA.lend (lend_whole rfl (by first | (simp; done) | (rw [List.length_map]; rfl))) | refine LA.agg ?_ | refine LA.fn ?_ | refine LA.lend ?_ | exact Lend.d _ | exact Lend.zs _ | exact lend_whole rfl (by first | (simp; done) | (rw [List.length_map]; rfl)) | refine Lend.ptr rfl ?_ | refine Lend.fn ?_ | exact LendL.nil | refine LendL.cons ?_ ?_)) rfl rfl ?_)
        refine ax_q (q_not rfl) ?_
        exact ax_nil ⟨rfl, by repeat (first | exact trivial | refine ⟨rfl, ?_⟩ | refine ⟨?_, ?_⟩)⟩
      refine ax_nil ?_
      refine cx_keep rfl rfl ?_
      refine cx_cond rfl (fun h2 => ?_) (fun h2 => ?_)
      · have h2 : clashes l.Held[k] x = true := by rw [← clash_eq]; exact h2
        refine cx_seq ?_
        refine cx_ops ?_
        refine ax_q (q_mov rfl) ?_
        first | refine ax_q (q_fadr_ptr rfl) ?_ | refine ax_q (q_fadr_rptr rfl) ?_ | refine ax_q (q_fadr_ip rfl) ?_
        first | refine ax_q (q_load1_ptr rfl rfl rfl) ?_ | refine ax_q (q_load1_ip rfl) ?_ | refine ax_q (q_load1_rptr rfl rfl rfl rfl) ?_ | refine ax_q (q_load1_rptr rfl rfl (by assumption) rfl) ?_ | refine ax_q (q_load1_rptr rfl rfl (mapAt (by first | assumption | omega)) rfl) ?_
        refine ax_q (q_build rfl) ?_
        refine ax_e (e_alloc (by decide) rfl rfl) ?_
        refine ax_e (e_st rfl rfl rfl rfl rfl rfl rfl) ?_
        refine ax_nil ?_
        refine cx_keep rfl rfl ?_
        refine cx_seq ?_
        refine cx_ops ?_
        refine ax_q (q_mov rfl) ?_
        refine ax_nil ?_
        refine cx_keep rfl rfl ?_
        refine cx_seq ?_
        refine cx_seq ?_
        refine cx_ops ?_
        refine ax_q (q_mov rfl) ?_
        refine ax_nil ?_
        refine cx_keep rfl rfl ?_
        refine cx_block ?_
        refine cx_loopU (fun n j => j ≤ (clashW (calm l x.Tx) x k).length ∧ n = (clashW (calm l x.Tx) x k).length - j) (fun j : Nat => [(17, bool (((clashW (calm l x.Tx) x k).take j).any (fun s => eqb (⟨x.Tx, l.Held[k].Tx⟩ : GWait) s))), (18, int j)]) (fun _ => [(10, .box [.zs 4, .zs 2]), (12, .box [.osl 21 4 0 l.Held.length, .osl 23 2 0 (calm l x.Tx).Waits.length]), (21, .rows 4 (l.Held.map GLock.row)), (23, .rows 2 ((calm l x.Tx).Waits.map GWait.row)), (31, .rows 2 ((clashW (calm l x.Tx) x k).map GWait.row)), (16, .box [.d (.int .i64 x.Tx), .d (.int .i64 l.Held[k].Tx)])]) ⟨_, 0, ⟨Nat.zero_le _, rfl⟩, by repeat (first | exact trivial | refine ⟨rfl, ?_⟩ | refine ⟨?_, ?_⟩)⟩ ?_
        rintro n j ⟨hj, rfl⟩
        refine cx_seq ?_
        refine cx_seq ?_
        refine cx_ops ?_
        refine ax_q (q_mov rfl) ?_
        refine ax_q (q_mov rfl) ?_
        first | refine ax_q (q_lenS_map rfl) ?_ | refine ax_q (q_lenS_osl rfl) ?_ | refine ax_q (q_lenS_zs rfl) ?_ | refine ax_q (q_lenS rfl) ?_
        refine ax_q (q_ibin rfl rfl rfl) ?_
        refine ax_nil ?_
        refine cx_keep rfl rfl ?_
        refine cx_cond rfl (fun h3 => ?_) (fun h3 => ?_)
        · have h3 := dT h3
          have h3x : j < (clashW (calm l x.Tx) x k).length := by omega
          refine cx_skip ?_
          refine cx_keep rfl rfl ?_
          refine cx_seq ?_
          refine cx_block ?_
          refine cx_draw ?_
          refine ax_q (q_mov rfl) ?_
          refine ax_q (q_mov rfl) ?_
          apply ax_or rfl rfl
          · intro g
            refine ax_q (q_mov rfl) ?_
            refine ax_q (q_mov rfl) ?_
            refine ax_q (q_ixo rfl rfl h3x) ?_
            first | refine ax_q (q_ldN rfl rfl rfl) ?_ | refine ax_q (q_loadN_ip rfl (Nat.le_refl _)) ?_ | refine ax_q (q_loadN_ip rfl (by decide)) ?_ | refine ax_q (q_loadN_rptr rfl rfl (by assumption) (by decide)) ?_ | refine ax_q (q_loadN_rptr rfl rfl (mapAt (by first | assumption | omega)) (by decide)) ?_
            first | refine ax_q (q_ldN rfl rfl rfl) ?_ | refine ax_q (q_loadN_ip rfl (Nat.le_refl _)) ?_ | refine ax_q (q_loadN_ip rfl (by decide)) ?_ | refine ax_q (q_loadN_rptr rfl rfl (by assumption) (by decide)) ?_ | refine ax_q (q_loadN_rptr rfl rfl (mapAt (by first | assumption | omega)) (by decide)) ?_
            refine ax_q (GWait.q_eqs (a := (clashW (calm l x.Tx) x k)[j]) (b := (⟨x.Tx, l.Held[k].Tx⟩ : GWait)) rfl rfl) ?_
            exact ax_nil ⟨rfl, by repeat (first | exact trivial | refine ⟨rfl, ?_⟩ | refine ⟨?_, ?_⟩)⟩
          rw [show (((clashW (calm l x.Tx) x k).take j).any (fun s => eqb (⟨x.Tx, l.Held[k].Tx⟩ : GWait) s) || (bif false then !eqb (clashW (calm l x.Tx) x k)[j] (⟨x.Tx, l.Held[k].Tx⟩ : GWait) else eqb (clashW (calm l x.Tx) x k)[j] (⟨x.Tx, l.Held[k].Tx⟩ : GWait))) = ((clashW (calm l x.Tx) x k).take (j + 1)).any (fun s => eqb (⟨x.Tx, l.Held[k].Tx⟩ : GWait) s) from by rw [any_take_succ h3x, eqb_comm]; rfl]
          refine ax_q (q_mov rfl) ?_
          refine ax_nil ?_
          refine cx_keep rfl rfl ?_
          refine cx_ops ?_
          refine ax_q (q_mov rfl) ?_
          refine ax_qe (r' := int ((j + 1 : Nat) : Int)) (q_ibin rfl rfl rfl) (by rw [wi (by omega) (by omega)]; rfl) ?_
          refine ax_q (q_mov rfl) ?_
          refine ax_nil ?_
          exact ⟨_, j + 1, by omega, ⟨by omega, rfl⟩, by repeat (first | exact trivial | refine ⟨rfl, ?_⟩ | refine ⟨?_, ?_⟩)⟩
        · have h3 := dF h3
          have h3x : j = (clashW (calm l x.Tx) x k).length := by omega
          subst h3x
          rw [any_full]
          refine cx_exit rfl ?_
          refine cx_keep rfl rfl ?_
          refine cx_seq ?_
          refine cx_ops ?_
          refine ax_q (q_mov rfl) ?_
          refine ax_q (q_not rfl) ?_
          refine ax_nil ?_
          refine cx_keep rfl rfl ?_
          refine cx_cond rfl (fun h4 => ?_) (fun h4 => ?_)
          · have h4 := bT h4
            rw [addW_new h2 h4] at hsc
            refine cx_ops ?_
            refine ax_q (q_mov rfl) ?_
            first | refine ax_q (q_ldN rfl rfl rfl) ?_ | refine ax_q (q_loadN_ip rfl (Nat.le_refl _)) ?_ | refine ax_q (q_loadN_ip rfl (by decide)) ?_ | refine ax_q (q_loadN_rptr rfl rfl (by assumption) (by decide)) ?_ | refine ax_q (q_loadN_rptr rfl rfl (mapAt (by first | assumption | omega)) (by decide)) ?_
            refine ax_e (e_bslice rfl (by decide) rfl rfl) ?_
            refine ax_e (e_appn (n' := (clashW (calm l x.Tx) x (k + 1)).length) (rs' := (clashW (calm l x.Tx) x (k + 1)).map GWait.row) rfl rfl (by simp) rfl (src_osl rfl (by simp)) (.inl (by decide)) (hbnd (by omega) (by simp) (by decide)) (by rw [hsc]; simp) (by rw [hsc]; exact app1 rfl)) ?_
            refine ax_q (q_mov rfl) ?_
            refine ax_nil ?_
            refine cx_keep rfl rfl ?_
            refine cx_ops ?_
            refine ax_q (q_mov rfl) ?_
            refine ax_qe (r' := int ((k + 1 : Nat) : Int)) (q_ibin rfl rfl rfl) (by rw [wi (by omega) (by omega)]; rfl) ?_
            refine ax_q (q_mov rfl) ?_
            refine ax_nil ?_
            exact ⟨_, k + 1, by omega, ⟨by omega, rfl⟩, by repeat (first | exact trivial | refine ⟨rfl, ?_⟩ | refine ⟨?_, ?_⟩)⟩
          · have h4 := bF h4
            rw [addW_old h4] at hsc
            rw [← hsc]
            refine cx_skip ?_
            refine cx_keep rfl rfl ?_
            refine cx_ops ?_
            refine ax_q (q_mov rfl) ?_
            refine ax_qe (r' := int ((k + 1 : Nat) : Int)) (q_ibin rfl rfl rfl) (by rw [wi (by omega) (by omega)]; rfl) ?_
            refine ax_q (q_mov rfl) ?_
            refine ax_nil ?_
            exact ⟨_, k + 1, by omega, ⟨by omega, rfl⟩, by repeat (first | exact trivial | refine ⟨rfl, ?_⟩ | refine ⟨?_, ?_⟩)⟩
      · have h2 : clashes l.Held[k] x = false := by rw [← clash_eq]; exact h2
        rw [addW_no h2] at hsc
        rw [← hsc]
        refine cx_skip ?_
        refine cx_keep rfl rfl ?_
        refine cx_ops ?_
        refine ax_q (q_mov rfl) ?_
        refine ax_qe (r' := int ((k + 1 : Nat) : Int)) (q_ibin rfl rfl rfl) (by rw [wi (by omega) (by omega)]; rfl) ?_
        refine ax_q (q_mov rfl) ?_
        refine ax_nil ?_
        exact ⟨_, k + 1, by omega, ⟨by omega, rfl⟩, by repeat (first | exact trivial | refine ⟨rfl, ?_⟩ | refine ⟨?_, ?_⟩)⟩
    · have h1 := dF h1
      have h1x : k = l.Held.length := by omega
      subst h1x
      refine cx_exit rfl ?_
      refine cx_keep rfl rfl ?_
      refine cx_seq ?_
      refine cx_seq ?_
      refine cx_ops ?_
      refine ax_q (q_mov rfl) ?_
      first | refine ax_q (q_lenS_map rfl) ?_ | refine ax_q (q_lenS_osl rfl) ?_ | refine ax_q (q_lenS_zs rfl) ?_ | refine ax_q (q_lenS rfl) ?_
      refine ax_q (q_ibin rfl rfl rfl) ?_
      refine ax_nil ?_
      refine cx_keep rfl rfl ?_
      refine cx_cond rfl (fun h5 => ?_) (fun h5 => ?_)
      · have h5 := dT h5
        have h5 : (clashW (calm l x.Tx) x l.Held.length).length = 0 := by omega
        refine cx_seq ?_
        refine cx_seq ?_
        refine cx_ops ?_
        first | refine ax_q (q_fadr_ptr rfl) ?_ | refine ax_q (q_fadr_rptr rfl) ?_ | refine ax_q (q_fadr_ip rfl) ?_
        first | refine ax_q (q_load1_ptr rfl rfl rfl) ?_ | refine ax_q (q_load1_ip rfl) ?_ | refine ax_q (q_load1_rptr rfl rfl rfl rfl) ?_ | refine ax_q (q_load1_rptr rfl rfl (by assumption) rfl) ?_ | refine ax_q (q_load1_rptr rfl rfl (mapAt (by first | assumption | omega)) rfl) ?_
        first | refine ax_q (q_lenS_map rfl) ?_ | refine ax_q (q_lenS_osl rfl) ?_ | refine ax_q (q_lenS_zs rfl) ?_ | refine ax_q (q_lenS rfl) ?_
        refine ax_q (q_ibin rfl rfl rfl) ?_
        refine ax_nil ?_
        refine cx_keep rfl rfl ?_
        refine cx_cond rfl (fun h6 => ?_) (fun h6 => ?_)
        · have h6 := dT h6
          have h6 : l.Held.length = 60 := by omega
          refine cx_seq ?_
          refine cx_ops ?_
          first | refine ax_q (q_ldN rfl rfl rfl) ?_ | refine ax_q (q_loadN_ip rfl (Nat.le_refl _)) ?_ | refine ax_q (q_loadN_ip rfl (by decide)) ?_ | refine ax_q (q_loadN_rptr rfl rfl (by assumption) (by decide)) ?_ | refine ax_q (q_loadN_rptr rfl rfl (mapAt (by first | assumption | omega)) (by decide)) ?_
          refine ax_e (e_st rfl rfl rfl rfl rfl rfl rfl) ?_
          refine ax_q (q_mov rfl) ?_
          refine ax_nil ?_
          refine cx_keep rfl rfl ?_
          refine cx_ret (retN (fun e => bif Nat.beq e 23 then 1 else 0) [21, 23] rfl rfl rfl rfl rfl ?_)
          rw [takeL_2 h0 h5 h6]; exact ⟨rfl, rfl⟩
        · have h6 := dF h6
          have h6 : ¬ l.Held.length = 60 := by omega
          refine cx_skip ?_
          refine cx_keep rfl rfl ?_
          refine cx_seq ?_
          refine cx_ops ?_
          first | refine ax_q (q_fadr_ptr rfl) ?_ | refine ax_q (q_fadr_rptr rfl) ?_ | refine ax_q (q_fadr_ip rfl) ?_
          first | refine ax_q (q_load1_ptr rfl rfl rfl) ?_ | refine ax_q (q_load1_ip rfl) ?_ | refine ax_q (q_load1_rptr rfl rfl rfl rfl) ?_ | refine ax_q (q_load1_rptr rfl rfl (by assumption) rfl) ?_ | refine ax_q (q_load1_rptr rfl rfl (mapAt (by first | assumption | omega)) rfl) ?_
          refine ax_q (q_mov rfl) ?_
          refine ax_q (q_mov rfl) ?_
          refine ax_q (q_mov rfl) ?_
          refine ax_q (q_mov rfl) ?_
          refine ax_q (q_build rfl) ?_
          refine ax_e (e_bslice rfl (by decide) rfl rfl) ?_
          refine ax_e (e_appn (n' := (l.Held ++ [x]).length) (rs' := (l.Held ++ [x]).map GLock.row) rfl rfl (by simp) rfl (src_osl rfl (by simp)) (.inl (by decide)) (hbnd (by omega) (by simp) (by decide)) (by simp) (app1 rfl)) ?_
          first | refine ax_q (q_fadr_ptr rfl) ?_ | refine ax_q (q_fadr_rptr rfl) ?_ | refine ax_q (q_fadr_ip rfl) ?_
          refine ax_e (e_st rfl rfl rfl rfl rfl rfl rfl) ?_
          refine ax_nil ?_
          refine cx_keep rfl rfl ?_
          refine cx_seq ?_
          refine cx_ops ?_
          first | refine ax_q (q_ldN rfl rfl rfl) ?_ | refine ax_q (q_loadN_ip rfl (Nat.le_refl _)) ?_ | refine ax_q (q_loadN_ip rfl (by decide)) ?_ | refine ax_q (q_loadN_rptr rfl rfl (by assumption) (by decide)) ?_ | refine ax_q (q_loadN_rptr rfl rfl (mapAt (by first | assumption | omega)) (by decide)) ?_
          refine ax_e (e_st rfl rfl rfl rfl rfl rfl rfl) ?_
          refine ax_q (q_mov rfl) ?_
          refine ax_nil ?_
          refine cx_keep rfl rfl ?_
          refine cx_ret (retN (fun e => bif Nat.beq e 23 then 1 else 0) [21, 23] rfl rfl rfl rfl rfl ?_)
          rw [takeL_3 h0 h5 h6]; exact ⟨rfl, rfl⟩
      · have h5 := dF h5
        have h5 : ¬ (clashW (calm l x.Tx) x l.Held.length).length = 0 := by omega
        refine cx_skip ?_
        refine cx_keep rfl rfl ?_
        refine cx_seq ?_
        refine cx_seq ?_
        refine cx_ops ?_
        first | refine ax_q (q_fadr_ptr rfl) ?_ | refine ax_q (q_fadr_rptr rfl) ?_ | refine ax_q (q_fadr_ip rfl) ?_
        first | refine ax_q (q_load1_ptr rfl rfl rfl) ?_ | refine ax_q (q_load1_ip rfl) ?_ | refine ax_q (q_load1_rptr rfl rfl rfl rfl) ?_ | refine ax_q (q_load1_rptr rfl rfl (by assumption) rfl) ?_ | refine ax_q (q_load1_rptr rfl rfl (mapAt (by first | assumption | omega)) rfl) ?_
        first | refine ax_q (q_lenS_map rfl) ?_ | refine ax_q (q_lenS_osl rfl) ?_ | refine ax_q (q_lenS_zs rfl) ?_ | refine ax_q (q_lenS rfl) ?_
        refine ax_q (q_mov rfl) ?_
        first | refine ax_q (q_lenS_map rfl) ?_ | refine ax_q (q_lenS_osl rfl) ?_ | refine ax_q (q_lenS_zs rfl) ?_ | refine ax_q (q_lenS rfl) ?_
        refine ax_q (q_add rfl rfl (by omega)) ?_
        refine ax_q (q_ibin rfl rfl rfl) ?_
        refine ax_nil ?_
        refine cx_keep rfl rfl ?_
        refine cx_cond rfl (fun h7 => ?_) (fun h7 => ?_)
        · have h7 := dT h7
          have h7 : 100 < (calm l x.Tx).Waits.length + (clashW (calm l x.Tx) x l.Held.length).length := by omega
          refine cx_seq ?_
          refine cx_ops ?_
          first | refine ax_q (q_ldN rfl rfl rfl) ?_ | refine ax_q (q_loadN_ip rfl (Nat.le_refl _)) ?_ | refine ax_q (q_loadN_ip rfl (by decide)) ?_ | refine ax_q (q_loadN_rptr rfl rfl (by assumption) (by decide)) ?_ | refine ax_q (q_loadN_rptr rfl rfl (mapAt (by first | assumption | omega)) (by decide)) ?_
          refine ax_e (e_st rfl rfl rfl rfl rfl rfl rfl) ?_
          refine ax_q (q_mov rfl) ?_
          refine ax_nil ?_
          refine cx_keep rfl rfl ?_
          refine cx_ret (retN (fun e => bif Nat.beq e 23 then 1 else 0) [21, 23] rfl rfl rfl rfl rfl ?_)
          rw [takeL_4 h0 h5 h7]; exact ⟨rfl, rfl⟩
        · have h7 := dF h7
          have h7 : ¬ 100 < (calm l x.Tx).Waits.length + (clashW (calm l x.Tx) x l.Held.length).length := by omega
          refine cx_skip ?_
          refine cx_keep rfl rfl ?_
          refine cx_seq ?_
          refine cx_ops ?_
          first | refine ax_q (q_ldN rfl rfl rfl) ?_ | refine ax_q (q_loadN_ip rfl (Nat.le_refl _)) ?_ | refine ax_q (q_loadN_ip rfl (by decide)) ?_ | refine ax_q (q_loadN_rptr rfl rfl (by assumption) (by decide)) ?_ | refine ax_q (q_loadN_rptr rfl rfl (mapAt (by first | assumption | omega)) (by decide)) ?_
          first | refine ax_call rfl (vc_pure (c_l06Own (l := (calm l x.Tx)) ?_ ?_) hP rfl ?_) | refine ax_call rfl (vc_lend (c_l06Own (l := (calm l x.Tx)) ?_ ?_) hP (by repeat (first | exact lal_id _ rfl | exact LAL.nil | refine LAL.cons ?_ ?_ | exact la_id _ rfl | exact LA.lend (lend_whole rfl (by first | (simp; done) | (rw [List.length_map]; rfl))) | refine LA.agg ?_ | refine LA.fn ?_ | refine LA.lend ?_ | exact Lend.d _ | exact Lend.zs _ | exact lend_whole rfl (by first | (simp; done) | (rw [List.length_map]; rfl)) | refine Lend.ptr rfl ?_ | refine Lend.fn ?_ | exact LendL.nil | refine LendL.cons ?_ ?_)) ?_)
          · first | assumption | omega | (simp; done) | (simp; omega)
          · first | assumption | omega | (simp; done) | (simp; omega)
          rintro r h ⟨rfl, rfl⟩
          refine ⟨fun i => 120 + 200 * i, [0, 1], ⟨rfl, rfl, rfl, rfl, rfl, (by first | exact (fun h => absurd h Bool.false_ne_true) | exact (fun _ => ⟨rfl, (noisl_of (by repeat (first | exact trivial | refine ⟨noisl_map (fun _ => rfl), ?_⟩ | refine ⟨?_, ?_⟩)))⟩))⟩, ?_⟩
          skip
          refine ax_e (e_alloc (by decide) rfl rfl) ?_
          refine ax_e (e_st rfl rfl rfl rfl rfl rfl rfl) ?_
          refine ax_nil ?_
          refine cx_keep rfl rfl ?_
          refine cx_seq ?_
          refine cx_ops ?_
          first | refine ax_q (q_fadr_ptr rfl) ?_ | refine ax_q (q_fadr_rptr rfl) ?_ | refine ax_q (q_fadr_ip rfl) ?_
          first | refine ax_q (q_load1_ptr rfl rfl rfl) ?_ | refine ax_q (q_load1_ip rfl) ?_ | refine ax_q (q_load1_rptr rfl rfl rfl rfl) ?_ | refine ax_q (q_load1_rptr rfl rfl (by assumption) rfl) ?_ | refine ax_q (q_load1_rptr rfl rfl (mapAt (by first | assumption | omega)) rfl) ?_
          refine ax_q (q_mov rfl) ?_
          refine ax_e (e_appn (n' := ((calm l x.Tx).Waits ++ (clashW (calm l x.Tx) x l.Held.length)).length) (rs' := ((calm l x.Tx).Waits ++ (clashW (calm l x.Tx) x l.Held.length)).map GWait.row) rfl rfl (by simp) rfl (src_osl rfl (by simp)) (.inl (by decide)) (hbnd (by omega) (by simp; omega) (by decide)) (by simp) (by simp [List.take_of_length_le])) ?_
          first | refine ax_q (q_fadr_ptr rfl) ?_ | refine ax_q (q_fadr_rptr rfl) ?_ | refine ax_q (q_fadr_ip rfl) ?_
          refine ax_e (e_st rfl rfl rfl rfl rfl rfl rfl) ?_
          refine ax_nil ?_
          refine cx_keep rfl rfl ?_
          refine cx_seq ?_
          refine cx_seq ?_
          refine cx_ops ?_
          first | refine ax_q (q_ldN rfl rfl rfl) ?_ | refine ax_q (q_loadN_ip rfl (Nat.le_refl _)) ?_ | refine ax_q (q_loadN_ip rfl (by decide)) ?_ | refine ax_q (q_loadN_rptr rfl rfl (by assumption) (by decide)) ?_ | refine ax_q (q_loadN_rptr rfl rfl (mapAt (by first | assumption | omega)) (by decide)) ?_
          refine ax_q (q_mov rfl) ?_
          have hsum : ((calm l x.Tx).Waits ++ (clashW (calm l x.Tx) x l.Held.length)).length ≤ 1048576 := by simp; omega
          first | refine ax_call rfl (vc_pure0 (c_l06Round (l := ⟨l.Held, (calm l x.Tx).Waits ++ (clashW (calm l x.Tx) x l.Held.length)⟩) (tx := x.Tx) ?_ ?_) hP rfl rfl ?_) | refine ax_call rfl (vc_lend0 (c_l06Round (l := ⟨l.Held, (calm l x.Tx).Waits ++ (clashW (calm l x.Tx) x l.Held.length)⟩) (tx := x.Tx) ?_ ?_) hP (by repeat (first | exact lal_id _ rfl | exact LAL.nil | refine LAL.cons ?_ ?_ | exact la_id _ rfl | exact LA.lend (lend_whole rfl (by first | (simp; done) | (rw [List.length_map]; rfl))) | refine LA.agg ?_ | refine LA.fn ?_ | refine LA.lend ?_ | exact Lend.d _ | exact Lend.zs _ | exact lend_whole rfl (by first | (simp; done) | (rw [List.length_map]; rfl)) | refine Lend.ptr rfl ?_ | refine Lend.fn ?_ | exact LendL.nil | refine LendL.cons ?_ ?_)) rfl rfl ?_)
          · first | assumption | omega | (simp; done) | (simp; omega)
          · first | assumption | omega | (simp; done) | (simp; omega)
          refine ax_nil ?_
          refine cx_keep rfl rfl ?_
          refine cx_cond rfl (fun h8 => ?_) (fun h8 => ?_)
          · skip
            refine cx_seq ?_
            refine cx_ops ?_
            first | refine ax_q (q_ldN rfl rfl rfl) ?_ | refine ax_q (q_loadN_ip rfl (Nat.le_refl _)) ?_ | refine ax_q (q_loadN_ip rfl (by decide)) ?_ | refine ax_q (q_loadN_rptr rfl rfl (by assumption) (by decide)) ?_ | refine ax_q (q_loadN_rptr rfl rfl (mapAt (by first | assumption | omega)) (by decide)) ?_
            refine ax_e (e_st rfl rfl rfl rfl rfl rfl rfl) ?_
            refine ax_q (q_mov rfl) ?_
            refine ax_nil ?_
            refine cx_keep rfl rfl ?_
            refine cx_ret (retN (fun e => bif Nat.beq e 23 then 1 else 0) [21, 23] rfl rfl rfl rfl rfl ?_)
            rw [takeL_5 h0 h5 h7 h8]; exact ⟨rfl, rfl⟩
          · skip
            have h8 : ¬ roundB ((calm l x.Tx).Waits ++ (clashW (calm l x.Tx) x l.Held.length)) x.Tx = true := by rw [h8]; simp
            refine cx_skip ?_
            refine cx_keep rfl rfl ?_
            refine cx_seq ?_
            refine cx_ops ?_
            first | refine ax_q (q_ldN rfl rfl rfl) ?_ | refine ax_q (q_loadN_ip rfl (Nat.le_refl _)) ?_ | refine ax_q (q_loadN_ip rfl (by decide)) ?_ | refine ax_q (q_loadN_rptr rfl rfl (by assumption) (by decide)) ?_ | refine ax_q (q_loadN_rptr rfl rfl (mapAt (by first | assumption | omega)) (by decide)) ?_
            refine ax_e (e_st rfl rfl rfl rfl rfl rfl rfl) ?_
            refine ax_q (q_mov rfl) ?_
            refine ax_nil ?_
            refine cx_keep rfl rfl ?_
            refine cx_ret (retN (fun e => bif Nat.beq e 320 then 1 else 0) [120, 320] rfl rfl rfl rfl rfl ?_)
            rw [takeL_6 h0 h5 h7 h8]; exact ⟨rfl, rfl⟩


/- (ptr loop.example/g00332/spec.l00Src).byte -/
def k_c_byte : XCode :=
  .seq (.ops [.op (some 2) (.mov (.k (.int .i64 0)))])
  (.keep [0] (.seq (.ops [.op (some 3) (.mov (.t 0)),
     .op (some 4) (.nilck (.t 3)),
     .op (some 5) (.fadr (.t 4) 1),
     .op (some 6) (.load1 (.t 5)),
     .op (some 7) (.bin .add (.t 6) (.k (.int .i64 1))),
     .op (some 8) (.nilck (.t 3)),
     .op (some 9) (.fadr (.t 8) 1),
     .op none (.store 1 (.t 9) (.t 7))])
  (.keep [0] (.seq (.seq (.draw [.op (some 10) (.mov (.t 0)),
      .op (some 11) (.nilck (.t 10)),
      .op (some 12) (.fadr (.t 11) 1),
      .op (some 13) (.load1 (.t 12)),
      .op (some 14) (.mov (.t 0)),
      .op (some 15) (.nilck (.t 14)),
      .op (some 16) (.fadr (.t 15) 0),
      .op (some 17) (.load1 (.t 16)),
      .op (some 18) (.lenS (.t 17)),
      .op (some 19) (.bin .leq (.t 13) (.t 18))])
   (.keep [0, 19] (.cond (.t 19)
    (.seq (.drawE [[], [], [1], [1, 2], [1, 2, 3], [1, 2, 3, 4], [], [6], [6, 7], [6, 7, 8], [], [10], [10, 11], [10, 11, 12], [10, 11, 12, 13], [6, 7, 8, 9, 10, 11, 12, 13, 14], [6, 7, 8, 9, 10, 11, 12, 13, 14, 15], [6, 7, 8, 9, 10, 11, 12, 13, 14, 15, 16], [1, 2, 3, 4, 5, 6, 7, 8, 9, 10, 11, 12, 13, 14, 15, 16, 17], [1, 2, 3, 4, 5, 6, 7, 8, 9, 10, 11, 12, 13, 14, 15, 16, 17, 18], [1, 2, 3, 4, 5, 6, 7, 8, 9, 10, 11, 12, 13, 14, 15, 16, 17, 18, 19], [0, 1, 2, 3, 4, 5, 6, 7, 8, 9, 10, 11, 12, 13, 14, 15, 16, 17, 18, 19, 20], [0, 1, 2, 3, 4, 5, 6, 7, 8, 9, 10, 11, 12, 13, 14, 15, 16, 17, 18, 19, 20, 21], [0, 1, 2, 3, 4, 5, 6, 7, 8, 9, 10, 11, 12, 13, 14, 15, 16, 17, 18, 19, 20, 21, 22]] [.op (some 20) (.mov (.t 0)),
        .op (some 21) (.mov (.t 0)),
        .op (some 22) (.nilck (.t 21)),
        .op (some 23) (.fadr (.t 22) 2),
        .op (some 24) (.load1 (.t 23)),
        .op (some 25) (.bin .mul (.t 24) (.k (.int .i64 31))),
        .op (some 26) (.mov (.t 0)),
        .op (some 27) (.nilck (.t 26)),
        .op (some 28) (.fadr (.t 27) 0),
        .op (some 29) (.load1 (.t 28)),
        .op (some 30) (.mov (.t 0)),
        .op (some 31) (.nilck (.t 30)),
        .op (some 32) (.fadr (.t 31) 1),
        .op (some 33) (.load1 (.t 32)),
        .op (some 34) (.bin .sub (.t 33) (.k (.int .i64 1))),
        .op (some 35) (.iadr 1 (.t 29) (.t 34)),
        .op (some 36) (.load1 (.t 35)),
        .op (some 37) (.conv .i64 (.t 36)),
        .op (some 38) (.bin .add (.t 25) (.t 37)),
        .op (some 39) (.bin .add (.t 38) (.k (.int .i64 7))),
        .op (some 40) (.bin .rem (.t 39) (.k (.int .i64 2147483648)))]
       [.op (some 41) (.nilck (.t 20)),
        .op (some 42) (.fadr (.t 41) 2),
        .op none (.store 1 (.t 42) (.t 40))])
     (.keep [0] (.seq (.draw [.op (some 43) (.mov (.t 0)),
        .op (some 44) (.nilck (.t 43)),
        .op (some 45) (.fadr (.t 44) 0),
        .op (some 46) (.load1 (.t 45)),
        .op (some 47) (.mov (.t 0)),
        .op (some 48) (.nilck (.t 47)),
        .op (some 49) (.fadr (.t 48) 1),
        .op (some 50) (.load1 (.t 49)),
        .op (some 51) (.bin .sub (.t 50) (.k (.int .i64 1))),
        .op (some 52) (.iadr 1 (.t 46) (.t 51)),
        .op (some 53) (.load1 (.t 52)),
        .op (some 54) (.conv .i64 (.t 53)),
        .op (some 2) (.mov (.t 54))])
     (.keep [2] (.ret)))))
    (.skip))))
  (.keep [0] (.seq (.seq (.ops [.op (some 55) (.mov (.t 0)),
      .op (some 56) (.nilck (.t 55)),
      .op (some 57) (.fadr (.t 56) 1),
      .op (some 58) (.load1 (.t 57)),
      .op (some 59) (.bin .gtr (.t 58) (.k (.int .i64 3000)))])
   (.keep [0, 59] (.cond (.t 59)
    (.seq (.ops [.op (some 2) (.mov (.k (.int .i64 0)))])
     (.keep [2] (.ret)))
    (.skip))))
  (.keep [0] (.seq (.ops [.op (some 60) (.mov (.t 0)),
     .op (some 61) (.mov (.t 0)),
     .op (some 62) (.nilck (.t 61)),
     .op (some 63) (.fadr (.t 62) 2),
     .op (some 64) (.load1 (.t 63)),
     .op (some 65) (.bin .mul (.t 64) (.k (.int .i64 1103515245))),
     .op (some 66) (.bin .add (.t 65) (.k (.int .i64 12345))),
     .op (some 67) (.bin .rem (.t 66) (.k (.int .i64 2147483648))),
     .op (some 68) (.nilck (.t 60)),
     .op (some 69) (.fadr (.t 68) 2),
     .op none (.store 1 (.t 69) (.t 67))])
  (.keep [0] (.seq (.ops [.op (some 70) (.mov (.t 0)),
     .op (some 71) (.nilck (.t 70)),
     .op (some 72) (.fadr (.t 71) 2),
     .op (some 73) (.load1 (.t 72)),
     .op (some 74) (.bin .quo (.t 73) (.k (.int .i64 65536))),
     .op (some 75) (.bin .rem (.t 74) (.k (.int .i64 256))),
     .op (some 2) (.mov (.t 75))])
  (.keep [2] (.ret))))))))))))
theorem k_c_byte_fits : fitsF Try.prog 86 ⟨76, k_c_byte, [.t 2]⟩ = true := by kernel_rfl
set_option maxHeartbeats 2000000 in
theorem c_byte {s : Src} {n : Nat} (hs : s.ok (n + 1)) : Con Try.prog noMv 86 [.ptr 1000 0] (s.h 1000) (fun r h => r = int (byteF s).1 ∧ h = ((byteF s).2).h 1000) := by
  refine con_of2 k_c_byte_fits rfl fun C hP hmv => ?_
  unfold k_c_byte
  have hp := hs.pos; have hd := hs.seed; have hl := hs.len
  refine cx_seq ?_
  refine cx_ops ?_
  refine ax_q (q_mov rfl) ?_
  refine ax_nil ?_
  refine cx_keep rfl rfl ?_
  refine cx_seq ?_
  refine cx_ops ?_
  refine ax_q (q_mov rfl) ?_
  first | refine ax_q (q_nilck_ptr rfl) ?_ | refine ax_q (q_nilck_rptr rfl) ?_ | refine ax_q (q_nilck_ip rfl) ?_
  first | refine ax_q (q_fadr_ptr rfl) ?_ | refine ax_q (q_fadr_rptr rfl) ?_ | refine ax_q (q_fadr_ip rfl) ?_
  first | refine ax_q (q_load1_ptr rfl rfl rfl) ?_ | refine ax_q (q_load1_ip rfl) ?_ | refine ax_q (q_load1_rptr rfl rfl rfl rfl) ?_ | refine ax_q (q_load1_rptr rfl rfl (by assumption) rfl) ?_ | refine ax_q (q_load1_rptr rfl rfl (mapAt (by first | assumption | omega)) rfl) ?_
  refine ax_q (q_add rfl rfl (by omega)) ?_
  first | refine ax_q (q_nilck_ptr rfl) ?_ | refine ax_q (q_nilck_rptr rfl) ?_ | refine ax_q (q_nilck_ip rfl) ?_
  first | refine ax_q (q_fadr_ptr rfl) ?_ | refine ax_q (q_fadr_rptr rfl) ?_ | refine ax_q (q_fadr_ip rfl) ?_
  refine ax_e (e_st rfl rfl rfl rfl rfl rfl rfl) ?_
  refine ax_nil ?_
  refine cx_keep rfl rfl ?_
  refine cx_seq ?_
  refine cx_seq ?_
  refine cx_draw ?_
  refine ax_q (q_mov rfl) ?_
  first | refine ax_q (q_nilck_ptr rfl) ?_ | refine ax_q (q_nilck_rptr rfl) ?_ | refine ax_q (q_nilck_ip rfl) ?_
  first | refine ax_q (q_fadr_ptr rfl) ?_ | refine ax_q (q_fadr_rptr rfl) ?_ | refine ax_q (q_fadr_ip rfl) ?_
  first | refine ax_q (q_load1_ptr rfl rfl rfl) ?_ | refine ax_q (q_load1_ip rfl) ?_ | refine ax_q (q_load1_rptr rfl rfl rfl rfl) ?_ | refine ax_q (q_load1_rptr rfl rfl (by assumption) rfl) ?_ | refine ax_q (q_load1_rptr rfl rfl (mapAt (by first | assumption | omega)) rfl) ?_
  refine ax_q (q_mov rfl) ?_
  first | refine ax_q (q_nilck_ptr rfl) ?_ | refine ax_q (q_nilck_rptr rfl) ?_ | refine ax_q (q_nilck_ip rfl) ?_
  first | refine ax_q (q_fadr_ptr rfl) ?_ | refine ax_q (q_fadr_rptr rfl) ?_ | refine ax_q (q_fadr_ip rfl) ?_
  first | refine ax_q (q_load1_ptr rfl rfl rfl) ?_ | refine ax_q (q_load1_ip rfl) ?_ | refine ax_q (q_load1_rptr rfl rfl rfl rfl) ?_ | refine ax_q (q_load1_rptr rfl rfl (by assumption) rfl) ?_ | refine ax_q (q_load1_rptr rfl rfl (mapAt (by first | assumption | omega)) rfl) ?_
  first | refine ax_q (q_lenS_map rfl) ?_ | refine ax_q (q_lenS_osl rfl) ?_ | refine ax_q (q_lenS_zs rfl) ?_ | refine ax_q (q_lenS rfl) ?_
  refine ax_q (q_ibin rfl rfl rfl) ?_
  refine ax_nil ?_
  refine cx_keep rfl rfl ?_
  refine cx_cond rfl (fun h0 => ?_) (fun h0 => ?_)
  · have h0 := dT h0
    have hi : (s.pos + 1 - 1).toNat < s.code.length := by omega
    have hb := (s.code[(s.pos + 1 - 1).toNat]).toNat_lt
    have hg : s.code.getD s.pos.toNat 0 = s.code[(s.pos + 1 - 1).toNat] := by
      rw [← getD_at hi]; congr 2; omega
    refine cx_seq ?_
    refine cx_drawL 0 20 (fun _ => false) (fun _ => true) [] ([]) [[0], [0], [21], [22], [23], [24], [0], [26], [27], [28], [0], [30], [31], [32], [33], [29, 34], [35], [36], [25, 37], [38], [39]] [[], [], [], [], [], [], [], [], [], [], [], [], [], [], [], [], [], [], [], [], []] rfl ?_
    first | refine ⟨⟨20, _, []⟩, .inl ⟨rfl, rfl, rfl, locl_of (loc_q (q_mov rfl))⟩, ?_⟩
    first | refine ⟨_, .inr ⟨rfl, _, rfl, .inr ⟨rfl, rfl, .inr rfl, rfl, rfl⟩, loc_q (q_mov rfl)⟩, ?_⟩
    first | refine ⟨_, .inr ⟨rfl, _, rfl, .inr ⟨rfl, rfl, .inr rfl, rfl, rfl⟩, loc_q (q_nilck_ptr rfl)⟩, ?_⟩ | refine ⟨_, .inr ⟨rfl, _, rfl, .inr ⟨rfl, rfl, .inr rfl, rfl, rfl⟩, loc_q (q_nilck_rptr rfl)⟩, ?_⟩ | refine ⟨_, .inr ⟨rfl, _, rfl, .inr ⟨rfl, rfl, .inr rfl, rfl, rfl⟩, loc_q (q_nilck_ip rfl)⟩, ?_⟩
    first | refine ⟨_, .inr ⟨rfl, _, rfl, .inr ⟨rfl, rfl, .inr rfl, rfl, rfl⟩, loc_q (q_fadr_ptr rfl)⟩, ?_⟩ | refine ⟨_, .inr ⟨rfl, _, rfl, .inr ⟨rfl, rfl, .inr rfl, rfl, rfl⟩, loc_q (q_fadr_rptr rfl)⟩, ?_⟩ | refine ⟨_, .inr ⟨rfl, _, rfl, .inr ⟨rfl, rfl, .inr rfl, rfl, rfl⟩, loc_q (q_fadr_ip rfl)⟩, ?_⟩
    first | refine ⟨_, .inr ⟨rfl, _, rfl, .inr ⟨rfl, rfl, .inr rfl, rfl, rfl⟩, loc_q (q_load1_ptr rfl rfl rfl)⟩, ?_⟩ | refine ⟨_, .inr ⟨rfl, _, rfl, .inr ⟨rfl, rfl, .inr rfl, rfl, rfl⟩, loc_q (q_load1_ip rfl)⟩, ?_⟩ | refine ⟨_, .inr ⟨rfl, _, rfl, .inr ⟨rfl, rfl, .inr rfl, rfl, rfl⟩, loc_q (q_load1_rptr rfl rfl rfl rfl)⟩, ?_⟩ | refine ⟨_, .inr ⟨rfl, _, rfl, .inr ⟨rfl, rfl, .inr rfl, rfl, rfl⟩, loc_q (q_load1_rptr rfl rfl (by assumption) rfl)⟩, ?_⟩ | refine ⟨_, .inr ⟨rfl, _, rfl, .inr ⟨rfl, rfl, .inr rfl, rfl, rfl⟩, loc_q (q_load1_rptr rfl rfl (mapAt (by first | assumption | omega)) rfl)⟩, ?_⟩
    first | refine ⟨_, .inr ⟨rfl, _, rfl, .inr ⟨rfl, rfl, .inr rfl, rfl, rfl⟩, loc_q (q_mul rfl rfl (by omega))⟩, ?_⟩
    first | refine ⟨_, .inr ⟨rfl, _, rfl, .inr ⟨rfl, rfl, .inr rfl, rfl, rfl⟩, loc_q (q_mov rfl)⟩, ?_⟩
    first | refine ⟨_, .inr ⟨rfl, _, rfl, .inr ⟨rfl, rfl, .inr rfl, rfl, rfl⟩, loc_q (q_nilck_ptr rfl)⟩, ?_⟩ | refine ⟨_, .inr ⟨rfl, _, rfl, .inr ⟨rfl, rfl, .inr rfl, rfl, rfl⟩, loc_q (q_nilck_rptr rfl)⟩, ?_⟩ | refine ⟨_, .inr ⟨rfl, _, rfl, .inr ⟨rfl, rfl, .inr rfl, rfl, rfl⟩, loc_q (q_nilck_ip rfl)⟩, ?_⟩
    first | refine ⟨_, .inr ⟨rfl, _, rfl, .inr ⟨rfl, rfl, .inr rfl, rfl, rfl⟩, loc_q (q_fadr_ptr rfl)⟩, ?_⟩ | refine ⟨_, .inr ⟨rfl, _, rfl, .inr ⟨rfl, rfl, .inr rfl, rfl, rfl⟩, loc_q (q_fadr_rptr rfl)⟩, ?_⟩ | refine ⟨_, .inr ⟨rfl, _, rfl, .inr ⟨rfl, rfl, .inr rfl, rfl, rfl⟩, loc_q (q_fadr_ip rfl)⟩, ?_⟩
    first | refine ⟨_, .inr ⟨rfl, _, rfl, .inr ⟨rfl, rfl, .inr rfl, rfl, rfl⟩, loc_q (q_load1_ptr rfl rfl rfl)⟩, ?_⟩ | refine ⟨_, .inr ⟨rfl, _, rfl, .inr ⟨rfl, rfl, .inr rfl, rfl, rfl⟩, loc_q (q_load1_ip rfl)⟩, ?_⟩ | refine ⟨_, .inr ⟨rfl, _, rfl, .inr ⟨rfl, rfl, .inr rfl, rfl, rfl⟩, loc_q (q_load1_rptr rfl rfl rfl rfl)⟩, ?_⟩ | refine ⟨_, .inr ⟨rfl, _, rfl, .inr ⟨rfl, rfl, .inr rfl, rfl, rfl⟩, loc_q (q_load1_rptr rfl rfl (by assumption) rfl)⟩, ?_⟩ | refine ⟨_, .inr ⟨rfl, _, rfl, .inr ⟨rfl, rfl, .inr rfl, rfl, rfl⟩, loc_q (q_load1_rptr rfl rfl (mapAt (by first | assumption | omega)) rfl)⟩, ?_⟩
    first | refine ⟨_, .inr ⟨rfl, _, rfl, .inr ⟨rfl, rfl, .inr rfl, rfl, rfl⟩, loc_q (q_mov rfl)⟩, ?_⟩
    first | refine ⟨_, .inr ⟨rfl, _, rfl, .inr ⟨rfl, rfl, .inr rfl, rfl, rfl⟩, loc_q (q_nilck_ptr rfl)⟩, ?_⟩ | refine ⟨_, .inr ⟨rfl, _, rfl, .inr ⟨rfl, rfl, .inr rfl, rfl, rfl⟩, loc_q (q_nilck_rptr rfl)⟩, ?_⟩ | refine ⟨_, .inr ⟨rfl, _, rfl, .inr ⟨rfl, rfl, .inr rfl, rfl, rfl⟩, loc_q (q_nilck_ip rfl)⟩, ?_⟩
    first | refine ⟨_, .inr ⟨rfl, _, rfl, .inr ⟨rfl, rfl, .inr rfl, rfl, rfl⟩, loc_q (q_fadr_ptr rfl)⟩, ?_⟩ | refine ⟨_, .inr ⟨rfl, _, rfl, .inr ⟨rfl, rfl, .inr rfl, rfl, rfl⟩, loc_q (q_fadr_rptr rfl)⟩, ?_⟩ | refine ⟨_, .inr ⟨rfl, _, rfl, .inr ⟨rfl, rfl, .inr rfl, rfl, rfl⟩, loc_q (q_fadr_ip rfl)⟩, ?_⟩
    first | refine ⟨_, .inr ⟨rfl, _, rfl, .inr ⟨rfl, rfl, .inr rfl, rfl, rfl⟩, loc_q (q_load1_ptr rfl rfl rfl)⟩, ?_⟩ | refine ⟨_, .inr ⟨rfl, _, rfl, .inr ⟨rfl, rfl, .inr rfl, rfl, rfl⟩, loc_q (q_load1_ip rfl)⟩, ?_⟩ | refine ⟨_, .inr ⟨rfl, _, rfl, .inr ⟨rfl, rfl, .inr rfl, rfl, rfl⟩, loc_q (q_load1_rptr rfl rfl rfl rfl)⟩, ?_⟩ | refine ⟨_, .inr ⟨rfl, _, rfl, .inr ⟨rfl, rfl, .inr rfl, rfl, rfl⟩, loc_q (q_load1_rptr rfl rfl (by assumption) rfl)⟩, ?_⟩ | refine ⟨_, .inr ⟨rfl, _, rfl, .inr ⟨rfl, rfl, .inr rfl, rfl, rfl⟩, loc_q (q_load1_rptr rfl rfl (mapAt (by first | assumption | omega)) rfl)⟩, ?_⟩
    first | refine ⟨_, .inr ⟨rfl, _, rfl, .inr ⟨rfl, rfl, .inr rfl, rfl, rfl⟩, loc_q (q_sub rfl rfl (by omega))⟩, ?_⟩
    first | refine ⟨_, .inr ⟨rfl, _, rfl, .inr ⟨rfl, rfl, .inr rfl, rfl, rfl⟩, loc_q (q_ixI rfl rfl (by omega) (mapAt hi))⟩, ?_⟩
    first | refine ⟨_, .inr ⟨rfl, _, rfl, .inr ⟨rfl, rfl, .inr rfl, rfl, rfl⟩, loc_q (q_load1_ptr rfl rfl rfl)⟩, ?_⟩ | refine ⟨_, .inr ⟨rfl, _, rfl, .inr ⟨rfl, rfl, .inr rfl, rfl, rfl⟩, loc_q (q_load1_ip rfl)⟩, ?_⟩ | refine ⟨_, .inr ⟨rfl, _, rfl, .inr ⟨rfl, rfl, .inr rfl, rfl, rfl⟩, loc_q (q_load1_rptr rfl rfl rfl rfl)⟩, ?_⟩ | refine ⟨_, .inr ⟨rfl, _, rfl, .inr ⟨rfl, rfl, .inr rfl, rfl, rfl⟩, loc_q (q_load1_rptr rfl rfl (by assumption) rfl)⟩, ?_⟩ | refine ⟨_, .inr ⟨rfl, _, rfl, .inr ⟨rfl, rfl, .inr rfl, rfl, rfl⟩, loc_q (q_load1_rptr rfl rfl (mapAt (by first | assumption | omega)) rfl)⟩, ?_⟩
    first | refine ⟨_, .inr ⟨rfl, _, rfl, .inr ⟨rfl, rfl, .inr rfl, rfl, rfl⟩, loc_q (q_convB rfl)⟩, ?_⟩ | refine ⟨_, .inr ⟨rfl, _, rfl, .inr ⟨rfl, rfl, .inr rfl, rfl, rfl⟩, loc_q (q_convI rfl (by omega))⟩, ?_⟩ | refine ⟨_, .inr ⟨rfl, _, rfl, .inr ⟨rfl, rfl, .inr rfl, rfl, rfl⟩, loc_q (q_convU8 rfl)⟩, ?_⟩ | refine ⟨_, .inr ⟨rfl, _, rfl, .inr ⟨rfl, rfl, .inr rfl, rfl, rfl⟩, loc_q (q_conv rfl)⟩, ?_⟩
    first | refine ⟨_, .inr ⟨rfl, _, rfl, .inr ⟨rfl, rfl, .inr rfl, rfl, rfl⟩, loc_q (q_add rfl rfl (by omega))⟩, ?_⟩
    first | refine ⟨_, .inr ⟨rfl, _, rfl, .inr ⟨rfl, rfl, .inr rfl, rfl, rfl⟩, loc_q (q_add rfl rfl (by omega))⟩, ?_⟩
    first | refine ⟨_, .inr ⟨rfl, _, rfl, .inr ⟨rfl, rfl, .inr rfl, rfl, rfl⟩, loc_q (q_mod rfl rfl (by omega) (by omega))⟩, ?_⟩
    refine ⟨rfl, ?_⟩
    first | refine ax_q (q_nilck_ptr rfl) ?_ | refine ax_q (q_nilck_rptr rfl) ?_ | refine ax_q (q_nilck_ip rfl) ?_
    first | refine ax_q (q_fadr_ptr rfl) ?_ | refine ax_q (q_fadr_rptr rfl) ?_ | refine ax_q (q_fadr_ip rfl) ?_
    refine ax_e (e_st rfl rfl rfl rfl rfl rfl rfl) ?_
    refine ax_nil ?_
    refine cx_keep rfl rfl ?_
    refine cx_seq ?_
    refine cx_draw ?_
    refine ax_q (q_mov rfl) ?_
    first | refine ax_q (q_nilck_ptr rfl) ?_ | refine ax_q (q_nilck_rptr rfl) ?_ | refine ax_q (q_nilck_ip rfl) ?_
    first | refine ax_q (q_fadr_ptr rfl) ?_ | refine ax_q (q_fadr_rptr rfl) ?_ | refine ax_q (q_fadr_ip rfl) ?_
    first | refine ax_q (q_load1_ptr rfl rfl rfl) ?_ | refine ax_q (q_load1_ip rfl) ?_ | refine ax_q (q_load1_rptr rfl rfl rfl rfl) ?_ | refine ax_q (q_load1_rptr rfl rfl (by assumption) rfl) ?_ | refine ax_q (q_load1_rptr rfl rfl (mapAt (by first | assumption | omega)) rfl) ?_
    refine ax_q (q_mov rfl) ?_
    first | refine ax_q (q_nilck_ptr rfl) ?_ | refine ax_q (q_nilck_rptr rfl) ?_ | refine ax_q (q_nilck_ip rfl) ?_
    first | refine ax_q (q_fadr_ptr rfl) ?_ | refine ax_q (q_fadr_rptr rfl) ?_ | refine ax_q (q_fadr_ip rfl) ?_
    first | refine ax_q (q_load1_ptr rfl rfl rfl) ?_ | refine ax_q (q_load1_ip rfl) ?_ | refine ax_q (q_load1_rptr rfl rfl rfl rfl) ?_ | refine ax_q (q_load1_rptr rfl rfl (by assumption) rfl) ?_ | refine ax_q (q_load1_rptr rfl rfl (mapAt (by first | assumption | omega)) rfl) ?_
    refine ax_q (q_sub rfl rfl (by omega)) ?_
    refine ax_q (q_ixI rfl rfl (by omega) (mapAt hi)) ?_
    first | refine ax_q (q_load1_ptr rfl rfl rfl) ?_ | refine ax_q (q_load1_ip rfl) ?_ | refine ax_q (q_load1_rptr rfl rfl rfl rfl) ?_ | refine ax_q (q_load1_rptr rfl rfl (by assumption) rfl) ?_ | refine ax_q (q_load1_rptr rfl rfl (mapAt (by first | assumption | omega)) rfl) ?_
    first | refine ax_q (q_convB rfl) ?_ | refine ax_q (q_convI rfl (by omega)) ?_ | refine ax_q (q_convU8 rfl) ?_ | refine ax_q (q_conv rfl) ?_
    refine ax_q (q_mov rfl) ?_
    refine ax_nil ?_
    refine cx_keep rfl rfl ?_
    refine cx_ret (retN id [1000] rfl rfl rfl rfl rfl ?_)
    rw [byteF_1 h0, hg]; exact ⟨rfl, rfl⟩
  · have h0 := dF h0
    refine cx_skip ?_
    refine cx_keep rfl rfl ?_
    refine cx_seq ?_
    refine cx_seq ?_
    refine cx_ops ?_
    refine ax_q (q_mov rfl) ?_
    first | refine ax_q (q_nilck_ptr rfl) ?_ | refine ax_q (q_nilck_rptr rfl) ?_ | refine ax_q (q_nilck_ip rfl) ?_
    first | refine ax_q (q_fadr_ptr rfl) ?_ | refine ax_q (q_fadr_rptr rfl) ?_ | refine ax_q (q_fadr_ip rfl) ?_
    first | refine ax_q (q_load1_ptr rfl rfl rfl) ?_ | refine ax_q (q_load1_ip rfl) ?_ | refine ax_q (q_load1_rptr rfl rfl rfl rfl) ?_ | refine ax_q (q_load1_rptr rfl rfl (by assumption) rfl) ?_ | refine ax_q (q_load1_rptr rfl rfl (mapAt (by first | assumption | omega)) rfl) ?_
    refine ax_q (q_ibin rfl rfl rfl) ?_
    refine ax_nil ?_
    refine cx_keep rfl rfl ?_
    refine cx_cond rfl (fun h1 => ?_) (fun h1 => ?_)
    · have h1 := dT h1
      refine cx_seq ?_
      refine cx_ops ?_
      refine ax_q (q_mov rfl) ?_
      refine ax_nil ?_
      refine cx_keep rfl rfl ?_
      refine cx_ret (retN id [1000] rfl rfl rfl rfl rfl ?_)
      rw [byteF_2 h0 h1]; exact ⟨rfl, rfl⟩
    · have h1 := dF h1
      refine cx_skip ?_
      refine cx_keep rfl rfl ?_
      refine cx_seq ?_
      refine cx_ops ?_
      refine ax_q (q_mov rfl) ?_
      refine ax_q (q_mov rfl) ?_
      first | refine ax_q (q_nilck_ptr rfl) ?_ | refine ax_q (q_nilck_rptr rfl) ?_ | refine ax_q (q_nilck_ip rfl) ?_
      first | refine ax_q (q_fadr_ptr rfl) ?_ | refine ax_q (q_fadr_rptr rfl) ?_ | refine ax_q (q_fadr_ip rfl) ?_
      first | refine ax_q (q_load1_ptr rfl rfl rfl) ?_ | refine ax_q (q_load1_ip rfl) ?_ | refine ax_q (q_load1_rptr rfl rfl rfl rfl) ?_ | refine ax_q (q_load1_rptr rfl rfl (by assumption) rfl) ?_ | refine ax_q (q_load1_rptr rfl rfl (mapAt (by first | assumption | omega)) rfl) ?_
      refine ax_q (q_mul rfl rfl (by omega)) ?_
      refine ax_q (q_add rfl rfl (by omega)) ?_
      refine ax_q (q_mod rfl rfl (by omega) (by omega)) ?_
      first | refine ax_q (q_nilck_ptr rfl) ?_ | refine ax_q (q_nilck_rptr rfl) ?_ | refine ax_q (q_nilck_ip rfl) ?_
      first | refine ax_q (q_fadr_ptr rfl) ?_ | refine ax_q (q_fadr_rptr rfl) ?_ | refine ax_q (q_fadr_ip rfl) ?_
      refine ax_e (e_st rfl rfl rfl rfl rfl rfl rfl) ?_
      refine ax_nil ?_
      refine cx_keep rfl rfl ?_
      refine cx_seq ?_
      refine cx_ops ?_
      refine ax_q (q_mov rfl) ?_
      first | refine ax_q (q_nilck_ptr rfl) ?_ | refine ax_q (q_nilck_rptr rfl) ?_ | refine ax_q (q_nilck_ip rfl) ?_
      first | refine ax_q (q_fadr_ptr rfl) ?_ | refine ax_q (q_fadr_rptr rfl) ?_ | refine ax_q (q_fadr_ip rfl) ?_
      first | refine ax_q (q_load1_ptr rfl rfl rfl) ?_ | refine ax_q (q_load1_ip rfl) ?_ | refine ax_q (q_load1_rptr rfl rfl rfl rfl) ?_ | refine ax_q (q_load1_rptr rfl rfl (by assumption) rfl) ?_ | refine ax_q (q_load1_rptr rfl rfl (mapAt (by first | assumption | omega)) rfl) ?_
      refine ax_q (q_div rfl rfl (by omega) (by omega) (by omega)) ?_
      refine ax_q (q_mod rfl rfl (by omega) (by omega)) ?_
      refine ax_q (q_mov rfl) ?_
      refine ax_nil ?_
      refine cx_keep rfl rfl ?_
      refine cx_ret (retN id [1000] rfl rfl rfl rfl rfl ?_)
      rw [byteF_3 h0 h1]; exact ⟨rfl, rfl⟩


/- (ptr loop.example/g00332/spec.l00Src).next -/
def k_c_next : XCode :=
  .seq (.ops [.op (some 4) (.mov (.k (.int .i64 0)))])
  (.keep [0, 1] (.seq (.seq (.ops [.op (some 8) (.mov (.t 1)),
      .op (some 9) (.bin .leq (.t 8) (.k (.int .i64 1)))])
   (.keep [0, 1, 9] (.cond (.t 9)
    (.seq (.ops [.op (some 4) (.mov (.k (.int .i64 0)))])
     (.keep [4] (.ret)))
    (.skip))))
  (.keep [0, 1] (.seq (.seq (.ops [.op (some 10) (.mov (.t 1)),
      .op (some 11) (.bin .leq (.t 10) (.k (.int .i64 256)))])
   (.keep [0, 1, 11] (.cond (.t 11)
    (.seq (.ops [.op (some 12) (.mov (.t 0)),
        .call (some 13) 86 [.t 12],
        .op (some 14) (.mov (.t 1)),
        .op (some 15) (.bin .rem (.t 13) (.t 14)),
        .op (some 4) (.mov (.t 15))])
     (.keep [4] (.ret)))
    (.skip))))
  (.keep [0, 1] (.seq (.ops [.op (some 16) (.mov (.t 0)),
     .call (some 17) 86 [.t 16],
     .op (some 5) (.mov (.t 17))])
  (.keep [0, 1, 5] (.seq (.ops [.op (some 18) (.mov (.t 0)),
     .call (some 19) 86 [.t 18],
     .op (some 6) (.mov (.t 19))])
  (.keep [0, 1, 5, 6] (.seq (.ops [.op (some 20) (.mov (.t 0)),
     .call (some 21) 86 [.t 20],
     .op (some 7) (.mov (.t 21))])
  (.keep [1, 5, 6, 7] (.seq (.ops [.op (some 22) (.mov (.t 5)),
     .op (some 23) (.bin .mul (.t 22) (.k (.int .i64 65536))),
     .op (some 24) (.mov (.t 6)),
     .op (some 25) (.bin .mul (.t 24) (.k (.int .i64 256))),
     .op (some 26) (.bin .add (.t 23) (.t 25)),
     .op (some 27) (.mov (.t 7)),
     .op (some 28) (.bin .add (.t 26) (.t 27)),
     .op (some 29) (.mov (.t 1)),
     .op (some 30) (.bin .rem (.t 28) (.t 29)),
     .op (some 4) (.mov (.t 30))])
  (.keep [4] (.ret))))))))))))))
theorem k_c_next_fits : fitsF Try.prog 62 ⟨31, k_c_next, [.t 4]⟩ = true := by kernel_rfl
theorem c_next {s : Src} {m : Int} {n : Nat} (hs : s.ok (n + 3)) : Con Try.prog noMv 62 [.ptr 1000 0, int m] (s.h 1000) (fun r h => r = int (nextF s m).1 ∧ h = ((nextF s m).2).h 1000) := by
  refine con_of2 k_c_next_fits rfl fun C hP hmv => ?_
  unfold k_c_next
  refine cx_seq ?_
  refine cx_ops ?_
  refine ax_q (q_mov rfl) ?_
  refine ax_nil ?_
  refine cx_keep rfl rfl ?_
  refine cx_seq ?_
  refine cx_seq ?_
  refine cx_ops ?_
  refine ax_q (q_mov rfl) ?_
  refine ax_q (q_ibin rfl rfl rfl) ?_
  refine ax_nil ?_
  refine cx_keep rfl rfl ?_
  refine cx_cond rfl (fun h0 => ?_) (fun h0 => ?_)
  · have h0 := dT h0
    refine cx_seq ?_
    refine cx_ops ?_
    refine ax_q (q_mov rfl) ?_
    refine ax_nil ?_
    refine cx_keep rfl rfl ?_
    refine cx_ret (retN id [1000] rfl rfl rfl rfl rfl ?_)
    rw [nextF_1 h0]; exact ⟨rfl, rfl⟩
  · have h0 := dF h0
    refine cx_skip ?_
    refine cx_keep rfl rfl ?_
    refine cx_seq ?_
    refine cx_seq ?_
    refine cx_ops ?_
    refine ax_q (q_mov rfl) ?_
    refine ax_q (q_ibin rfl rfl rfl) ?_
    refine ax_nil ?_
    refine cx_keep rfl rfl ?_
    refine cx_cond rfl (fun h1 => ?_) (fun h1 => ?_)
    · have h1 := dT h1
      refine cx_seq ?_
      refine cx_ops ?_
      refine ax_q (q_mov rfl) ?_
      obtain ⟨k1, k2, k3⟩ := byteF_ok (n := n + 2) hs
      refine ax_call rfl (vcall_own (c_byte (n := n + 2) ?_) hP hmv false (fun _ => 1000) [1000] ⟨rfl, rfl, rfl, rfl, ⟨rfl, trivial⟩, rfl, rfl, rfl⟩ (.pass rfl rfl .nil) ?_)
      · first | assumption | omega | (simp; done) | (simp; omega)
      rintro r h ⟨rfl, rfl⟩
      refine ⟨fun _ => 1000, [], ⟨rfl, rfl, rfl, rfl, mem1 rfl, rfl, rfl, fun h => absurd h Bool.false_ne_true⟩, ?_⟩
      refine ax_q (q_mov rfl) ?_
      refine ax_q (q_mod rfl rfl (by omega) (by omega)) ?_
      refine ax_q (q_mov rfl) ?_
      refine ax_nil ?_
      refine cx_keep rfl rfl ?_
      refine cx_ret (retN id [1000] rfl rfl rfl rfl rfl ?_)
      rw [nextF_2 h0 h1]; exact ⟨rfl, rfl⟩
    · have h1 := dF h1
      refine cx_skip ?_
      refine cx_keep rfl rfl ?_
      refine cx_seq ?_
      refine cx_ops ?_
      refine ax_q (q_mov rfl) ?_
      obtain ⟨k1, k2, k3⟩ := byteF_ok (n := n + 2) hs
      obtain ⟨k4, k5, k6⟩ := byteF_ok (n := n + 1) k1
      obtain ⟨k7, k8, k9⟩ := byteF_ok (n := n) k4
      refine ax_call rfl (vcall_own (c_byte (n := n + 2) ?_) hP hmv false (fun _ => 1000) [1000] ⟨rfl, rfl, rfl, rfl, ⟨rfl, trivial⟩, rfl, rfl, rfl⟩ (.pass rfl rfl .nil) ?_)
      · first | assumption | omega | (simp; done) | (simp; omega)
      rintro r h ⟨rfl, rfl⟩
      refine ⟨fun _ => 1000, [], ⟨rfl, rfl, rfl, rfl, mem1 rfl, rfl, rfl, fun h => absurd h Bool.false_ne_true⟩, ?_⟩
      refine ax_q (q_mov rfl) ?_
      refine ax_nil ?_
      refine cx_keep rfl rfl ?_
      refine cx_seq ?_
      refine cx_ops ?_
      refine ax_q (q_mov rfl) ?_
      refine ax_call rfl (vcall_own (c_byte (n := n + 1) ?_) hP hmv false (fun _ => 1000) [1000] ⟨rfl, rfl, rfl, rfl, ⟨rfl, trivial⟩, rfl, rfl, rfl⟩ (.pass rfl rfl .nil) ?_)
      · first | assumption | omega | (simp; done) | (simp; omega)
      rintro r h ⟨rfl, rfl⟩
      refine ⟨fun _ => 1000, [], ⟨rfl, rfl, rfl, rfl, mem1 rfl, rfl, rfl, fun h => absurd h Bool.false_ne_true⟩, ?_⟩
      refine ax_q (q_mov rfl) ?_
      refine ax_nil ?_
      refine cx_keep rfl rfl ?_
      refine cx_seq ?_
      refine cx_ops ?_
      refine ax_q (q_mov rfl) ?_
      refine ax_call rfl (vcall_own (c_byte (n := n) ?_) hP hmv false (fun _ => 1000) [1000] ⟨rfl, rfl, rfl, rfl, ⟨rfl, trivial⟩, rfl, rfl, rfl⟩ (.pass rfl rfl .nil) ?_)
      · first | assumption | omega | (simp; done) | (simp; omega)
      rintro r h ⟨rfl, rfl⟩
      refine ⟨fun _ => 1000, [], ⟨rfl, rfl, rfl, rfl, mem1 rfl, rfl, rfl, fun h => absurd h Bool.false_ne_true⟩, ?_⟩
      refine ax_q (q_mov rfl) ?_
      refine ax_nil ?_
      refine cx_keep rfl rfl ?_
      refine cx_seq ?_
      refine cx_ops ?_
      refine ax_q (q_mov rfl) ?_
      refine ax_q (q_mul rfl rfl (by omega)) ?_
      refine ax_q (q_mov rfl) ?_
      refine ax_q (q_mul rfl rfl (by omega)) ?_
      refine ax_q (q_add rfl rfl (by omega)) ?_
      refine ax_q (q_mov rfl) ?_
      refine ax_q (q_add rfl rfl (by omega)) ?_
      refine ax_q (q_mov rfl) ?_
      refine ax_q (q_mod rfl rfl (by omega) (by omega)) ?_
      refine ax_q (q_mov rfl) ?_
      refine ax_nil ?_
      refine cx_keep rfl rfl ?_
      refine cx_ret (retN id [1000] rfl rfl rfl rfl rfl ?_)
      rw [nextF_3 h0 h1]; exact ⟨rfl, rfl⟩


/- (ptr loop.example/g00332/spec.l00Src).chance -/
def k_c_chance : XCode :=
  .seq (.ops [.op (some 4) (.mov (.k (.bool false)))])
  (.keep [0, 1] (.seq (.ops [.op (some 5) (.mov (.t 0)),
     .op (some 6) (.mov (.t 1)),
     .call (some 7) 62 [.t 5, .t 6],
     .op (some 8) (.mov (.t 1)),
     .op (some 9) (.bin .sub (.t 8) (.k (.int .i64 1))),
     .op (some 10) (.bin .eql (.t 7) (.t 9)),
     .op (some 4) (.mov (.t 10))])
  (.keep [4] (.ret))))
theorem k_c_chance_fits : fitsF Try.prog 63 ⟨11, k_c_chance, [.t 4]⟩ = true := by kernel_rfl
theorem c_chance {s : Src} {m : Int} {n : Nat} (hs : s.ok (n + 3)) (hm : 0 ≤ m ∧ m ≤ 1000000000) : Con Try.prog noMv 63 [.ptr 1000 0, int m] (s.h 1000) (fun r h => r = bool (chanceF s m).1 ∧ h = ((chanceF s m).2).h 1000) := by
  refine con_of2 k_c_chance_fits rfl fun C hP hmv => ?_
  unfold k_c_chance
  refine cx_seq ?_
  refine cx_ops ?_
  refine ax_q (q_mov rfl) ?_
  refine ax_nil ?_
  refine cx_keep rfl rfl ?_
  refine cx_seq ?_
  refine cx_ops ?_
  refine ax_q (q_mov rfl) ?_
  refine ax_q (q_mov rfl) ?_
  refine ax_call rfl (vcall_own (c_next (n := n) ?_) hP hmv false (fun _ => 1000) [1000] ⟨rfl, rfl, rfl, rfl, ⟨rfl, trivial⟩, rfl, rfl, rfl⟩ (.pass rfl rfl (.pass rfl rfl .nil)) ?_)
  · first | assumption | omega | (simp; done) | (simp; omega)
  rintro r h ⟨rfl, rfl⟩
  refine ⟨fun _ => 1000, [], ⟨rfl, rfl, rfl, rfl, mem1 rfl, rfl, rfl, fun h => absurd h Bool.false_ne_true⟩, ?_⟩
  refine ax_q (q_mov rfl) ?_
  refine ax_q (q_sub rfl rfl (by omega)) ?_
  refine ax_q (q_ibin rfl rfl rfl) ?_
  refine ax_q (q_mov rfl) ?_
  refine ax_nil ?_
  refine cx_keep rfl rfl ?_
  refine cx_ret (retN id [1000] rfl rfl rfl rfl rfl ?_)
  exact ⟨rfl, rfl⟩


/- (ptr loop.example/g00332/spec.l00Src).ask -/
def k_c_ask : XCode :=
  .seq (.ops [.op (some 2) (.mov (.k (.int .i64 0))),
     .op (some 3) (.mov (.k (.int .i64 0))),
     .op (some 4) (.mov (.k (.int .i64 0))),
     .op (some 5) (.mov (.k (.int .i64 0)))])
  (.keep [0] (.seq (.seq (.ops [.op (some 6) (.mov (.t 0)),
      .call (some 7) 63 [.t 6, .k (.int .i64 2)]])
   (.keep [0, 7] (.cond (.t 7)
    (.seq (.ops [.op (some 8) (.mov (.t 0)),
        .call (some 9) 62 [.t 8, .k (.int .i64 4)],
        .op (some 10) (.bin .add (.k (.int .i64 1)) (.t 9)),
        .op (some 11) (.mov (.t 0)),
        .call (some 12) 62 [.t 11, .k (.int .i64 2)],
        .op (some 13) (.bin .add (.k (.int .i64 1)) (.t 12)),
        .op (some 14) (.mov (.t 0)),
        .call (some 15) 62 [.t 14, .k (.int .i64 4)],
        .op (some 16) (.bin .add (.k (.int .i64 1)) (.t 15)),
        .op (some 2) (.mov (.t 10)),
        .op (some 3) (.mov (.t 13)),
        .op (some 4) (.mov (.k (.int .i64 (-1)))),
        .op (some 5) (.mov (.t 16))])
     (.keep [2, 3, 4, 5] (.ret)))
    (.skip))))
  (.keep [0] (.seq (.ops [.op (some 17) (.mov (.t 0)),
     .call (some 18) 62 [.t 17, .k (.int .i64 4)],
     .op (some 19) (.bin .add (.k (.int .i64 1)) (.t 18)),
     .op (some 20) (.mov (.t 0)),
     .call (some 21) 62 [.t 20, .k (.int .i64 2)],
     .op (some 22) (.bin .add (.k (.int .i64 1)) (.t 21)),
     .op (some 23) (.mov (.t 0)),
     .call (some 24) 62 [.t 23, .k (.int .i64 3)],
     .op (some 25) (.mov (.t 0)),
     .call (some 26) 62 [.t 25, .k (.int .i64 2)],
     .op (some 27) (.bin .add (.k (.int .i64 3)) (.t 26)),
     .op (some 2) (.mov (.t 19)),
     .op (some 3) (.mov (.t 22)),
     .op (some 4) (.mov (.t 24)),
     .op (some 5) (.mov (.t 27))])
  (.keep [2, 3, 4, 5] (.ret))))))
theorem k_c_ask_fits : fitsF Try.prog 54 ⟨28, k_c_ask, [.t 2, .t 3, .t 4, .t 5]⟩ = true := by kernel_rfl
theorem c_ask {s : Src} {n : Nat} (hs : s.ok (n + 15)) : Con Try.prog noMv 54 [.ptr 1000 0] (s.h 1000) (fun r h => ∃ (x : GLock) (s2 : Src), lockOK x = true ∧ s2.ok n ∧ r = .tup [int x.Tx, int x.Table, int x.Row, int x.Mode] ∧ h = s2.h 1000) := by
  refine con_of2 k_c_ask_fits rfl fun C hP hmv => ?_
  unfold k_c_ask
  refine cx_seq ?_
  refine cx_ops ?_
  refine ax_q (q_mov rfl) ?_
  refine ax_q (q_mov rfl) ?_
  refine ax_q (q_mov rfl) ?_
  refine ax_q (q_mov rfl) ?_
  refine ax_nil ?_
  refine cx_keep rfl rfl ?_
  refine cx_seq ?_
  refine cx_seq ?_
  refine cx_ops ?_
  refine ax_q (q_mov rfl) ?_
  refine ax_call rfl (vcall_own (c_chance (n := n + 12) ?_ ?_) hP hmv false (fun _ => 1000) [1000] ⟨rfl, rfl, rfl, rfl, ⟨rfl, trivial⟩, rfl, rfl, rfl⟩ (.pass rfl rfl (.pass rfl rfl .nil)) ?_)
  · first | assumption | omega | (simp; done) | (simp; omega)
  · first | assumption | omega | (simp; done) | (simp; omega)
  rintro r h ⟨rfl, rfl⟩
  refine ⟨fun _ => 1000, [], ⟨rfl, rfl, rfl, rfl, mem1 rfl, rfl, rfl, fun h => absurd h Bool.false_ne_true⟩, ?_⟩
  refine ax_nil ?_
  refine cx_keep rfl rfl ?_
  refine cx_cond rfl (fun h0 => ?_) (fun h0 => ?_)
  · skip
    refine cx_seq ?_
    refine cx_ops ?_
    refine ax_q (q_mov rfl) ?_
    obtain ⟨j1, j2, j3⟩ := nextF_ok (s := s) (n := 2) (k := n + 12) hs
    have j1 : (chanceF s 2).2.ok (n + 12) := j1
    obtain ⟨k1, k2, k3⟩ := nextF_ok (n := 4) (k := n + 9) j1
    have k3 := k3 (by omega)
    obtain ⟨k4, k5, k6⟩ := nextF_ok (n := 2) (k := n + 6) k1
    have k6 := k6 (by omega)
    obtain ⟨k7, k8, k9⟩ := nextF_ok (n := 4) (k := n + 3) k4
    have k9 := k9 (by omega)
    refine ax_call rfl (vcall_own (c_next (n := n + 9) ?_) hP hmv false (fun _ => 1000) [1000] ⟨rfl, rfl, rfl, rfl, ⟨rfl, trivial⟩, rfl, rfl, rfl⟩ (.pass rfl rfl (.pass rfl rfl .nil)) ?_)
    · first | assumption | omega | (simp; done) | (simp; omega)
    rintro r h ⟨rfl, rfl⟩
    refine ⟨fun _ => 1000, [], ⟨rfl, rfl, rfl, rfl, mem1 rfl, rfl, rfl, fun h => absurd h Bool.false_ne_true⟩, ?_⟩
    refine ax_q (q_add rfl rfl (by omega)) ?_
    refine ax_q (q_mov rfl) ?_
    refine ax_call rfl (vcall_own (c_next (n := n + 6) ?_) hP hmv false (fun _ => 1000) [1000] ⟨rfl, rfl, rfl, rfl, ⟨rfl, trivial⟩, rfl, rfl, rfl⟩ (.pass rfl rfl (.pass rfl rfl .nil)) ?_)
    · first | assumption | omega | (simp; done) | (simp; omega)
    rintro r h ⟨rfl, rfl⟩
    refine ⟨fun _ => 1000, [], ⟨rfl, rfl, rfl, rfl, mem1 rfl, rfl, rfl, fun h => absurd h Bool.false_ne_true⟩, ?_⟩
    refine ax_q (q_add rfl rfl (by omega)) ?_
    refine ax_q (q_mov rfl) ?_
    refine ax_call rfl (vcall_own (c_next (n := n + 3) ?_) hP hmv false (fun _ => 1000) [1000] ⟨rfl, rfl, rfl, rfl, ⟨rfl, trivial⟩, rfl, rfl, rfl⟩ (.pass rfl rfl (.pass rfl rfl .nil)) ?_)
    · first | assumption | omega | (simp; done) | (simp; omega)
    rintro r h ⟨rfl, rfl⟩
    refine ⟨fun _ => 1000, [], ⟨rfl, rfl, rfl, rfl, mem1 rfl, rfl, rfl, fun h => absurd h Bool.false_ne_true⟩, ?_⟩
    refine ax_q (q_add rfl rfl (by omega)) ?_
    refine ax_q (q_mov rfl) ?_
    refine ax_q (q_mov rfl) ?_
    refine ax_q (q_mov rfl) ?_
    refine ax_q (q_mov rfl) ?_
    refine ax_nil ?_
    refine cx_keep rfl rfl ?_
    refine cx_ret (retN id [1000] rfl rfl rfl rfl rfl ?_)
    exact ⟨⟨_, _, -1, _⟩, _, lockOK_mk4 (by omega) (by omega) (by omega) (by omega) (by omega), k7.mono (by omega), rfl, rfl⟩
  · skip
    refine cx_skip ?_
    refine cx_keep rfl rfl ?_
    refine cx_seq ?_
    refine cx_ops ?_
    refine ax_q (q_mov rfl) ?_
    obtain ⟨j1, j2, j3⟩ := nextF_ok (s := s) (n := 2) (k := n + 12) hs
    have j1 : (chanceF s 2).2.ok (n + 12) := j1
    obtain ⟨k1, k2, k3⟩ := nextF_ok (n := 4) (k := n + 9) j1
    have k3 := k3 (by omega)
    obtain ⟨k4, k5, k6⟩ := nextF_ok (n := 2) (k := n + 6) k1
    have k6 := k6 (by omega)
    obtain ⟨k7, k8, k9⟩ := nextF_ok (n := 3) (k := n + 3) k4
    have k9 := k9 (by omega)
    obtain ⟨k10, k11, k12⟩ := nextF_ok (n := 2) (k := n) k7
    have k12 := k12 (by omega)
    refine ax_call rfl (vcall_own (c_next (n := n + 9) ?_) hP hmv false (fun _ => 1000) [1000] ⟨rfl, rfl, rfl, rfl, ⟨rfl, trivial⟩, rfl, rfl, rfl⟩ (.pass rfl rfl (.pass rfl rfl .nil)) ?_)
    · first | assumption | omega | (simp; done) | (simp; omega)
    rintro r h ⟨rfl, rfl⟩
    refine ⟨fun _ => 1000, [], ⟨rfl, rfl, rfl, rfl, mem1 rfl, rfl, rfl, fun h => absurd h Bool.false_ne_true⟩, ?_⟩
    refine ax_q (q_add rfl rfl (by omega)) ?_
    refine ax_q (q_mov rfl) ?_
    refine ax_call rfl (vcall_own (c_next (n := n + 6) ?_) hP hmv false (fun _ => 1000) [1000] ⟨rfl, rfl, rfl, rfl, ⟨rfl, trivial⟩, rfl, rfl, rfl⟩ (.pass rfl rfl (.pass rfl rfl .nil)) ?_)
    · first | assumption | omega | (simp; done) | (simp; omega)
    rintro r h ⟨rfl, rfl⟩
    refine ⟨fun _ => 1000, [], ⟨rfl, rfl, rfl, rfl, mem1 rfl, rfl, rfl, fun h => absurd h Bool.false_ne_true⟩, ?_⟩
    refine ax_q (q_add rfl rfl (by omega)) ?_
    refine ax_q (q_mov rfl) ?_
    refine ax_call rfl (vcall_own (c_next (n := n + 3) ?_) hP hmv false (fun _ => 1000) [1000] ⟨rfl, rfl, rfl, rfl, ⟨rfl, trivial⟩, rfl, rfl, rfl⟩ (.pass rfl rfl (.pass rfl rfl .nil)) ?_)
    · first | assumption | omega | (simp; done) | (simp; omega)
    rintro r h ⟨rfl, rfl⟩
    refine ⟨fun _ => 1000, [], ⟨rfl, rfl, rfl, rfl, mem1 rfl, rfl, rfl, fun h => absurd h Bool.false_ne_true⟩, ?_⟩
    refine ax_q (q_mov rfl) ?_
    refine ax_call rfl (vcall_own (c_next (n := n) ?_) hP hmv false (fun _ => 1000) [1000] ⟨rfl, rfl, rfl, rfl, ⟨rfl, trivial⟩, rfl, rfl, rfl⟩ (.pass rfl rfl (.pass rfl rfl .nil)) ?_)
    · first | assumption | omega | (simp; done) | (simp; omega)
    rintro r h ⟨rfl, rfl⟩
    refine ⟨fun _ => 1000, [], ⟨rfl, rfl, rfl, rfl, mem1 rfl, rfl, rfl, fun h => absurd h Bool.false_ne_true⟩, ?_⟩
    refine ax_q (q_add rfl rfl (by omega)) ?_
    refine ax_q (q_mov rfl) ?_
    refine ax_q (q_mov rfl) ?_
    refine ax_q (q_mov rfl) ?_
    refine ax_q (q_mov rfl) ?_
    refine ax_nil ?_
    refine cx_keep rfl rfl ?_
    refine cx_ret (retN id [1000] rfl rfl rfl rfl rfl ?_)
    exact ⟨⟨_, _, _, _⟩, _, lockOK_mk4 (by omega) (by omega) ⟨Int.le_trans (by decide) k8, Int.le_trans (Int.le_of_lt k9) (by decide)⟩ (by omega) (by omega), k10, rfl, rfl⟩


/- (ptr loop.example/g00332/spec.l00Src).locks -/
def k_c_locks : XCode :=
  .seq (.ops [.op (some 2) (.alloc [.nils 4, .nils 2])])
  (.keep [0, 2] (.seq (.ops [.op (some 9) (.bslice 4 []),
     .op (some 10) (.bslice 2 []),
     .op (some 11) (.build [.nils 4, .nils 2] [(0, 1, .t 9), (1, 1, .t 10)]),
     .op (some 3) (.alloc [.nils 4, .nils 2]),
     .op none (.store 2 (.t 3) (.t 11))])
  (.keep [0, 2, 3] (.seq (.seq (.ops [.op (some 12) (.mov (.t 0)),
      .call (some 13) 62 [.t 12, .k (.int .i64 14)],
      .op (some 4) (.mov (.t 13))])
   (.keep [0, 2, 3, 4] (.block 0 (.loop (.seq (.seq (.ops [.op (some 14) (.mov (.t 4)),
         .op (some 15) (.bin .gtr (.t 14) (.k (.int .i64 0)))])
      (.keep [0, 2, 3, 4, 15] (.cond (.t 15)
       (.skip)
       (.exit 0))))
     (.keep [0, 2, 3, 4] (.seq (.block 1 (.seq (.seq (.ops [.op (some 18) (.mov (.t 0)),
           .call (some 19) 63 [.t 18, .k (.int .i64 7)]])
        (.keep [0, 2, 3, 4, 19] (.cond (.t 19)
         (.seq (.drawE [[], [], [1], [1, 2], [0, 1, 2, 3], [0, 1, 2, 3, 4]] [.op (some 20) (.loadN 2 (.t 3)),
             .op (some 21) (.mov (.t 0)),
             .call (some 22) 62 [.t 21, .k (.int .i64 4)],
             .op (some 23) (.bin .add (.k (.int .i64 1)) (.t 22))]
            [.call (some 24) 34 [.t 20, .t 23],
             .op none (.store 2 (.t 3) (.t 24))])
          (.keep [0, 2, 3, 4] (.exit 1)))
         (.skip))))
       (.keep [0, 2, 3, 4] (.seq (.ops [.op (some 26) (.mov (.t 0)),
          .call (some 27) 54 [.t 26],
          .op (some 25) (.mov (.t 27)),
          .op (some 28) (.ext (.t 25) 0),
          .op (some 29) (.ext (.t 25) 1),
          .op (some 30) (.ext (.t 25) 2),
          .op (some 31) (.ext (.t 25) 3),
          .op (some 5) (.mov (.t 28)),
          .op (some 6) (.mov (.t 29)),
          .op (some 7) (.mov (.t 30)),
          .op (some 8) (.mov (.t 31))])
       (.keep [0, 2, 3, 4, 5, 6, 7, 8] (.ops [.op (some 33) (.loadN 2 (.t 3)),
         .op (some 34) (.mov (.t 5)),
         .op (some 35) (.mov (.t 6)),
         .op (some 36) (.mov (.t 7)),
         .op (some 37) (.mov (.t 8)),
         .call (some 38) 51 [.t 33, .t 34, .t 35, .t 36, .t 37],
         .op (some 32) (.mov (.t 38)),
         .op (some 39) (.ext (.t 32) 0),
         .op (some 40) (.ext (.t 32) 1),
         .op none (.store 2 (.t 3) (.t 39))]))))))
     (.keep [0, 2, 3, 4] (.ops [.op (some 16) (.mov (.t 4)),
       .op (some 17) (.bin .sub (.t 16) (.k (.int .i64 1))),
       .op (some 4) (.mov (.t 17))])))))))))
  (.keep [2, 3] (.seq (.ops [.op (some 41) (.loadN 2 (.t 3)),
     .call (some 42) 64 [.t 41],
     .op none (.store 2 (.t 2) (.t 42))])
  (.keep [2] (.ret))))))))
theorem k_c_locks_fits : fitsF Try.prog 28 ⟨43, k_c_locks, [.cN 2 2]⟩ = true := by kernel_rfl
theorem c_locks {s : Src} (hs : s.ok 100000) : Con Try.prog noMv 28 [.ptr 1000 0] (s.h 1000) (fun r h => ∃ (l : GLocks) (s2 : Src), locksOK l = true ∧ r = l.avO 0 1 ∧ h = l.hO 0 1 ++ s2.h 1000) := by
  refine con_of2 k_c_locks_fits rfl fun C hP hmv => ?_
  unfold k_c_locks
  refine cx_seq ?_
  refine cx_ops ?_
  refine ax_e (e_alloc (by decide) rfl rfl) ?_
  refine ax_nil ?_
  refine cx_keep rfl rfl ?_
  refine cx_seq ?_
  refine cx_ops ?_
  refine ax_e (e_bslice rfl (by decide) rfl rfl) ?_
  refine ax_e (e_bslice rfl (by decide) rfl rfl) ?_
  refine ax_q (q_build rfl) ?_
  refine ax_e (e_alloc (by decide) rfl rfl) ?_
  refine ax_e (e_st rfl rfl rfl rfl rfl rfl rfl) ?_
  refine ax_nil ?_
  refine cx_keep rfl rfl ?_
  refine cx_seq ?_
  refine cx_seq ?_
  refine cx_ops ?_
  refine ax_q (q_mov rfl) ?_
  obtain ⟨q1, q2, q3⟩ := nextF_ok (s := s) (n := 14) (k := 99997) hs
  have q3 := q3 (by omega)
  refine ax_call rfl (vcall_own (c_next (n := 99997) ?_) hP hmv false (fun _ => 1000) [1000] ⟨rfl, rfl, rfl, rfl, ⟨rfl, trivial⟩, rfl, rfl, rfl⟩ (.pass rfl rfl (.pass rfl rfl .nil)) ?_)
  · first | assumption | omega | (simp; done) | (simp; omega)
  rintro r h ⟨rfl, rfl⟩
  refine ⟨fun _ => 1000, [], ⟨rfl, rfl, rfl, rfl, mem1 rfl, rfl, rfl, fun h => absurd h Bool.false_ne_true⟩, ?_⟩
  refine ax_q (q_mov rfl) ?_
  refine ax_nil ?_
  refine cx_keep rfl rfl ?_
  refine cx_block ?_
  refine cx_loopU (fun n (p : Nat × Src × GLocks) => n = p.1 ∧ p.1 ≤ 13 ∧ p.2.1.ok (1000 + 100 * p.1) ∧ locksOK p.2.2 = true) (fun p => [(4, int p.1)]) (fun p => [(1000, p.2.1.box), (2, .box [.zs 4, .zs 2]), (3, .box [.osl 9 4 0 p.2.2.Held.length, .osl 10 2 0 p.2.2.Waits.length]), (9, .rows 4 (p.2.2.Held.map GLock.row)), (10, .rows 2 (p.2.2.Waits.map GWait.row))])
    ⟨_, ((nextF s 14).1.toNat, (nextF s 14).2, ⟨[], []⟩), ⟨rfl, by simp only; omega, q1.mono (by simp only; omega), locksOK_nil⟩, by rw [show (((nextF s 14).1.toNat : Nat) : Int) = (nextF s 14).1 from by omega]; exact by repeat (first | exact trivial | refine ⟨rfl, ?_⟩ | refine ⟨?_, ?_⟩)⟩ ?_
  rintro n ⟨m, t, l⟩ ⟨rfl, hm, ht, hl⟩
  simp only at hm ht hl ⊢
  obtain ⟨hw, _, hb0, hb1, _⟩ := locksOK_iff.1 hl
  refine cx_seq ?_
  refine cx_seq ?_
  refine cx_ops ?_
  refine ax_q (q_mov rfl) ?_
  refine ax_q (q_ibin rfl rfl rfl) ?_
  refine ax_nil ?_
  refine cx_keep rfl rfl ?_
  refine cx_cond rfl (fun h0 => ?_) (fun h0 => ?_)
  · have h0 := dT h0
    obtain ⟨m, rfl⟩ : ∃ m2, n = m2 + 1 := ⟨n - 1, by omega⟩
    obtain ⟨k1, k2, k3⟩ := nextF_ok (s := t) (n := 7) (k := 1000 + 100 * m + 97) (ht.mono (by omega))
    have k1 : (chanceF t 7).2.ok (1000 + 100 * m + 97) := k1
    refine cx_skip ?_
    refine cx_keep rfl rfl ?_
    refine cx_seq ?_
    refine cx_block ?_
    refine cx_seq ?_
    refine cx_seq ?_
    refine cx_ops ?_
    refine ax_q (q_mov rfl) ?_
    refine ax_call rfl (vcall_own (c_chance (n := 1000 + 100 * m + 97) ?_ ?_) hP hmv false (fun _ => 1000) [1000] ⟨rfl, rfl, rfl, rfl, ⟨rfl, trivial⟩, rfl, rfl, rfl⟩ (.pass rfl rfl (.pass rfl rfl .nil)) ?_)
    · exact ht.mono (by omega)
    · first | assumption | omega | (simp; done) | (simp; omega)
    rintro r h ⟨rfl, rfl⟩
    refine ⟨fun _ => 1000, [], ⟨rfl, rfl, rfl, rfl, mem1 rfl, rfl, rfl, fun h => absurd h Bool.false_ne_true⟩, ?_⟩
    refine ax_nil ?_
    refine cx_keep rfl rfl ?_
    refine cx_cond rfl (fun h1 => ?_) (fun h1 => ?_)
    · skip
      obtain ⟨k4, k5, k6⟩ := nextF_ok (n := 4) (k := 1000 + 100 * m + 94) k1
      have k6 := k6 (by omega)
      refine cx_seq ?_
      refine cx_drawL 2 22 (fun _ => false) (fun _ => true) [] (((nextF (chanceF t 7).2 4).2.h 1000)) [[3], [0], [21], [22]] [[1000], [], [1000], []] rfl ?_
      first | refine ⟨_, .inr ⟨rfl, _, rfl, .inr ⟨rfl, rfl, .inr rfl, rfl, rfl⟩, loc_q (q_ldN rfl rfl rfl)⟩, ?_⟩ | refine ⟨_, .inr ⟨rfl, _, rfl, .inr ⟨rfl, rfl, .inr rfl, rfl, rfl⟩, loc_q (q_loadN_ip rfl (Nat.le_refl _))⟩, ?_⟩ | refine ⟨_, .inr ⟨rfl, _, rfl, .inr ⟨rfl, rfl, .inr rfl, rfl, rfl⟩, loc_q (q_loadN_ip rfl (by decide))⟩, ?_⟩ | refine ⟨_, .inr ⟨rfl, _, rfl, .inr ⟨rfl, rfl, .inr rfl, rfl, rfl⟩, loc_q (q_loadN_rptr rfl rfl (by assumption) (by decide))⟩, ?_⟩ | refine ⟨_, .inr ⟨rfl, _, rfl, .inr ⟨rfl, rfl, .inr rfl, rfl, rfl⟩, loc_q (q_loadN_rptr rfl rfl (mapAt (by first | assumption | omega)) (by decide))⟩, ?_⟩
      first | refine ⟨_, .inr ⟨rfl, _, rfl, .inl rfl, loc_q (q_mov rfl)⟩, ?_⟩
      refine ⟨⟨22, _, []⟩, .inl ⟨rfl, rfl, rfl, locl_call (fun _ => 1000) [1000] id [] rfl (c_next (m := 4) (n := 1000 + 100 * m + 94) k1) hP hmv rfl rfl rfl rfl ⟨rfl, trivial⟩ rfl rfl rfl (.pass rfl rfl (.pass rfl rfl .nil)) rfl rfl rfl rfl (mem1 rfl) rfl⟩, ?_⟩
      first | refine ⟨_, .inr ⟨rfl, _, rfl, .inr ⟨rfl, rfl, .inl rfl, rfl, rfl⟩, loc_q (q_add rfl rfl (by omega))⟩, ?_⟩
      refine ⟨rfl, ?_⟩
      first | refine ax_call rfl (vc_pure (c_l06Free  ?_ ?_) hP rfl ?_) | refine ax_call rfl (vc_lend (c_l06Free  ?_ ?_) hP (by repeat (first | exact lal_id _ rfl | exact LAL.nil | refine LAL.cons ?_ ?_ | exact la_id _ rfl | exact LA.lend (lend_whole rfl (by first | (simp; done) | (rw [List.length_map]; rfl))) | refine LA.agg ?_ | refine LA.fn ?_ | refine LA.lend ?_ | exact Lend.d _ | exact Lend.zs _ | exact lend_whole rfl (by first | (simp; done) | (rw [List.length_map]; rfl)) | refine Lend.ptr rfl ?_ | refine Lend.fn ?_ | exact LendL.nil | refine LendL.cons ?_ ?_)) ?_)
      · first | assumption | omega | (simp; done) | (simp; omega)
      · first | assumption | omega | (simp; done) | (simp; omega)
      rintro r h ⟨rfl, rfl⟩
      refine ⟨fun i => 24 + 200 * i, [0, 1], ⟨rfl, rfl, rfl, rfl, rfl, (by first | exact (fun h => absurd h Bool.false_ne_true) | exact (fun _ => ⟨rfl, (noisl_of (by repeat (first | exact trivial | refine ⟨noisl_map (fun _ => rfl), ?_⟩ | refine ⟨?_, ?_⟩)))⟩))⟩, ?_⟩
      skip
      refine ax_e (e_st rfl rfl rfl rfl rfl rfl rfl) ?_
      have hf0 : (freed l (1 + (nextF (chanceF t 7).2 4).1)).Held.length ≤ l.Held.length := filter_len _ _
      refine ax_wk ((wk_swap 24 9 rfl rfl).trans (wk_swap 224 10 rfl rfl)) ?_
      have hok := freed_ok (tx := 1 + (nextF (chanceF t 7).2 4).1) hl
      refine ax_nil ?_
      refine cx_keep rfl rfl ?_
      refine cx_exit rfl ?_
      refine cx_keep rfl rfl ?_
      refine cx_ops ?_
      refine ax_q (q_mov rfl) ?_
      refine ax_qe (r' := int (m : Int)) (q_ibin rfl rfl rfl) (by rw [wi (by omega) (by omega)]; exact congrArg AM.int (by omega)) ?_
      refine ax_q (q_mov rfl) ?_
      refine ax_nil ?_
      first | exact ⟨_, (m, _, takeL l x |>.1), by omega, ⟨rfl, by simp only; omega, hs2.mono (by simp only; omega), hok⟩, by repeat (first | exact trivial | refine ⟨rfl, ?_⟩ | refine ⟨?_, ?_⟩)⟩ | exact ⟨_, (m, (nextF (chanceF t 7).2 4).2, freed l (1 + (nextF (chanceF t 7).2 4).1)), by omega, ⟨rfl, by simp only; omega, k4.mono (by simp only; omega), hok⟩, by repeat (first | exact trivial | refine ⟨rfl, ?_⟩ | refine ⟨?_, ?_⟩)⟩
    · skip
      refine cx_skip ?_
      refine cx_keep rfl rfl ?_
      refine cx_seq ?_
      refine cx_ops ?_
      refine ax_q (q_mov rfl) ?_
      refine ax_call rfl (vcall_own (c_ask (n := 1000 + 100 * m + 82) ?_) hP hmv false (fun _ => 1000) [1000] ⟨rfl, rfl, rfl, rfl, ⟨rfl, trivial⟩, rfl, rfl, rfl⟩ (.pass rfl rfl .nil) ?_)
      · exact k1.mono (by omega)
      rintro r h ⟨x, s2, hx, hs2, rfl, rfl⟩
      refine ⟨fun _ => 1000, [], ⟨rfl, rfl, rfl, rfl, mem1 rfl, rfl, rfl, fun h => absurd h Bool.false_ne_true⟩, ?_⟩
      refine ax_q (q_mov rfl) ?_
      refine ax_q (q_ext rfl rfl) ?_
      refine ax_q (q_ext rfl rfl) ?_
      refine ax_q (q_ext rfl rfl) ?_
      refine ax_q (q_ext rfl rfl) ?_
      refine ax_q (q_mov rfl) ?_
      refine ax_q (q_mov rfl) ?_
      refine ax_q (q_mov rfl) ?_
      refine ax_q (q_mov rfl) ?_
      refine ax_nil ?_
      refine cx_keep rfl rfl ?_
      refine cx_ops ?_
      first | refine ax_q (q_ldN rfl rfl rfl) ?_ | refine ax_q (q_loadN_ip rfl (Nat.le_refl _)) ?_ | refine ax_q (q_loadN_ip rfl (by decide)) ?_ | refine ax_q (q_loadN_rptr rfl rfl (by assumption) (by decide)) ?_ | refine ax_q (q_loadN_rptr rfl rfl (mapAt (by first | assumption | omega)) (by decide)) ?_
      refine ax_q (q_mov rfl) ?_
      refine ax_q (q_mov rfl) ?_
      refine ax_q (q_mov rfl) ?_
      refine ax_q (q_mov rfl) ?_
      first | refine ax_call rfl (vc_pure (c_l06Take (l := l) (x := x) ?_ ?_) hP rfl ?_) | refine ax_call rfl (vc_lend (c_l06Take (l := l) (x := x) ?_ ?_) hP (by repeat (first | exact lal_id _ rfl | exact LAL.nil | refine LAL.cons ?_ ?_ | exact la_id _ rfl | exact LA.lend (lend_whole rfl (by first | (simp; done) | (rw [List.length_map]; rfl))) | refine LA.agg ?_ | refine LA.fn ?_ | refine LA.lend ?_ | exact Lend.d _ | exact Lend.zs _ | exact lend_whole rfl (by first | (simp; done) | (rw [List.length_map]; rfl)) | refine Lend.ptr rfl ?_ | refine Lend.fn ?_ | exact LendL.nil | refine LendL.cons ?_ ?_)) ?_)
      · first | assumption | omega | (simp; done) | (simp; omega)
      · first | assumption | omega | (simp; done) | (simp; omega)
      rintro r h ⟨rfl, rfl⟩
      refine ⟨fun i => 38 + 200 * i, [0, 1], ⟨rfl, rfl, rfl, rfl, rfl, (by first | exact (fun h => absurd h Bool.false_ne_true) | exact (fun _ => ⟨rfl, (noisl_of (by repeat (first | exact trivial | refine ⟨noisl_map (fun _ => rfl), ?_⟩ | refine ⟨?_, ?_⟩)))⟩))⟩, ?_⟩
      skip
      refine ax_q (q_mov rfl) ?_
      refine ax_q (q_ext rfl rfl) ?_
      refine ax_q (q_ext rfl rfl) ?_
      refine ax_e (e_st rfl rfl rfl rfl rfl rfl rfl) ?_
      refine ax_wk ((wk_swap 38 9 rfl rfl).trans (wk_swap 238 10 rfl rfl)) ?_
      have hok := takeL_ok hl hx
      refine ax_nil ?_
      refine cx_keep rfl rfl ?_
      refine cx_ops ?_
      refine ax_q (q_mov rfl) ?_
      refine ax_qe (r' := int (m : Int)) (q_ibin rfl rfl rfl) (by rw [wi (by omega) (by omega)]; exact congrArg AM.int (by omega)) ?_
      refine ax_q (q_mov rfl) ?_
      refine ax_nil ?_
      first | exact ⟨_, (m, _, takeL l x |>.1), by omega, ⟨rfl, by simp only; omega, hs2.mono (by simp only; omega), hok⟩, by repeat (first | exact trivial | refine ⟨rfl, ?_⟩ | refine ⟨?_, ?_⟩)⟩ | exact ⟨_, (m, (nextF (chanceF t 7).2 4).2, freed l (1 + (nextF (chanceF t 7).2 4).1)), by omega, ⟨rfl, by simp only; omega, k4.mono (by simp only; omega), hok⟩, by repeat (first | exact trivial | refine ⟨rfl, ?_⟩ | refine ⟨?_, ?_⟩)⟩
  · have h0 := dF h0
    refine cx_exit rfl ?_
    refine cx_keep rfl rfl ?_
    refine cx_seq ?_
    refine cx_ops ?_
    first | refine ax_q (q_ldN rfl rfl rfl) ?_ | refine ax_q (q_loadN_ip rfl (Nat.le_refl _)) ?_ | refine ax_q (q_loadN_ip rfl (by decide)) ?_ | refine ax_q (q_loadN_rptr rfl rfl (by assumption) (by decide)) ?_ | refine ax_q (q_loadN_rptr rfl rfl (mapAt (by first | assumption | omega)) (by decide)) ?_
    first | refine ax_call rfl (vc_pure (c_l06Own  ?_ ?_) hP rfl ?_) | refine ax_call rfl (vc_lend (c_l06Own  ?_ ?_) hP (by repeat (first | exact lal_id _ rfl | exact LAL.nil | refine LAL.cons ?_ ?_ | exact la_id _ rfl | exact LA.lend (lend_whole rfl (by first | (simp; done) | (rw [List.length_map]; rfl))) | refine LA.agg ?_ | refine LA.fn ?_ | refine LA.lend ?_ | exact Lend.d _ | exact Lend.zs _ | exact lend_whole rfl (by first | (simp; done) | (rw [List.length_map]; rfl)) | refine Lend.ptr rfl ?_ | refine Lend.fn ?_ | exact LendL.nil | refine LendL.cons ?_ ?_)) ?_)
    · first | assumption | omega | (simp; done) | (simp; omega)
    · first | assumption | omega | (simp; done) | (simp; omega)
    rintro r h ⟨rfl, rfl⟩
    refine ⟨fun i => 42 + 200 * i, [0, 1], ⟨rfl, rfl, rfl, rfl, rfl, (by first | exact (fun h => absurd h Bool.false_ne_true) | exact (fun _ => ⟨rfl, (noisl_of (by repeat (first | exact trivial | refine ⟨noisl_map (fun _ => rfl), ?_⟩ | refine ⟨?_, ?_⟩)))⟩))⟩, ?_⟩
    skip
    refine ax_e (e_st rfl rfl rfl rfl rfl rfl rfl) ?_
    refine ax_nil ?_
    refine cx_keep rfl rfl ?_
    refine cx_ret (retN (fun e => bif Nat.beq e 42 then 0 else bif Nat.beq e 242 then 1 else e) [42, 242, 1000] rfl rfl rfl rfl rfl ?_)
    exact ⟨l, t, hl, rfl, rfl⟩


/- loop.example/g00332/spec.LocksOf -/
def k_c_LocksOf : XCode :=
  .seq (.ops [.op (some 2) (.alloc [.nils 4, .nils 2])])
  (.keep [0, 2] (.seq (.ops [.op (some 3) (.mov (.t 0)),
     .call (some 4) 27 [.t 3],
     .call (some 5) 28 [.t 4],
     .op none (.store 2 (.t 2) (.t 5))])
  (.keep [2] (.ret))))
theorem k_c_LocksOf_fits : fitsF Try.prog 8 ⟨6, k_c_LocksOf, [.cN 2 2]⟩ = true := by kernel_rfl
theorem c_LocksOf {code : Str} (hl : code.length ≤ 1048576) : Con Try.prog noMv 8 [.d (.sl 1 (code.map byteRow))] [] (fun r h => ∃ l : GLocks, locksOK l = true ∧ r = l.avO 0 1 ∧ h = l.hO 0 1) := by
  refine con_of2 k_c_LocksOf_fits rfl fun C hP hmv => ?_
  unfold k_c_LocksOf
  refine cx_seq ?_
  refine cx_ops ?_
  refine ax_e (e_alloc (by decide) rfl rfl) ?_
  refine ax_nil ?_
  refine cx_keep rfl rfl ?_
  refine cx_seq ?_
  refine cx_ops ?_
  refine ax_q (q_mov rfl) ?_
  refine ax_call rfl (vc_pure (c_l00Source hl) hP rfl ?_)
  rintro r h ⟨rfl, rfl⟩
  refine ⟨fun _ => 4, [0], ⟨rfl, rfl, rfl, rfl, rfl, fun h => absurd h Bool.false_ne_true⟩, ?_⟩
  refine ax_call rfl (vcall_own (c_locks ((srcOf_ok hl).mono (by omega))) hP hmv false (fun _ => 4) [1000] ⟨rfl, rfl, rfl, rfl, ⟨rfl, trivial⟩, rfl, rfl, rfl⟩ (.pass rfl rfl .nil) ?_)
  rintro r h ⟨l, s2, hl2, rfl, rfl⟩
  refine ⟨fun e => bif Nat.beq e 1000 then 4 else bif Nat.beq e 0 then 5 else 205, [0, 1], ⟨rfl, rfl, rfl, rfl, mem1 rfl, rfl, rfl, fun h => absurd h Bool.false_ne_true⟩, ?_⟩
  refine ax_e (e_st rfl rfl rfl rfl rfl rfl rfl) ?_
  refine ax_nil ?_
  refine cx_keep rfl rfl ?_
  refine cx_ret (retN (fun e => bif Nat.beq e 205 then 1 else 0) [5, 205] rfl rfl rfl rfl rfl ?_)
  exact ⟨l, hl2, rfl, rfl⟩


/- loop.example/g00332/impl.inRange -/
def k_c_inRange : XCode :=
  .seq (.ops [.op (some 6) (.mov (.k (.bool false)))])
  (.keep [0, 1, 2] (.seq (.ops [.op (some 7) (.mov (.t 1)),
     .op (some 8) (.mov (.t 0)),
     .op (some 9) (.bin .leq (.t 7) (.t 8)),
     .op (some 10) (.mov (.t 9)),
     .andor 14 true 3 10 [.op (some 11) (.mov (.t 0)), .op (some 12) (.mov (.t 2)), .op (some 13) (.bin .leq (.t 11) (.t 12))] (.t 13),
     .op (some 6) (.mov (.t 14))])
  (.keep [6] (.ret))))
theorem k_c_inRange_fits : fitsF Try.prog 65 ⟨15, k_c_inRange, [.t 6]⟩ = true := by kernel_rfl
theorem c_inRange {n lo hi : Int} : Con Try.prog noMv 65 [int n, int lo, int hi] [] (fun r h => r = bool (inR n lo hi) ∧ h = []) := by
  refine con_of2 k_c_inRange_fits rfl fun C hP hmv => ?_
  unfold k_c_inRange
  refine cx_seq ?_
  refine cx_ops ?_
  refine ax_q (q_mov rfl) ?_
  refine ax_nil ?_
  refine cx_keep rfl rfl ?_
  refine cx_seq ?_
  refine cx_ops ?_
  refine ax_q (q_mov rfl) ?_
  refine ax_q (q_mov rfl) ?_
  refine ax_q (q_ibin rfl rfl rfl) ?_
  refine ax_q (q_mov rfl) ?_
  apply ax_and rfl rfl
  · intro g
    have g := dT g
    refine ax_q (q_mov rfl) ?_
    refine ax_q (q_mov rfl) ?_
    refine ax_q (q_ibin rfl rfl rfl) ?_
    exact ax_nil ⟨rfl, by repeat (first | exact trivial | refine ⟨rfl, ?_⟩ | refine ⟨?_, ?_⟩)⟩
  refine ax_q (q_mov rfl) ?_
  refine ax_nil ?_
  refine cx_keep rfl rfl ?_
  refine cx_ret (ret0 rfl rfl ?_)
  exact ⟨rfl, rfl⟩


/- loop.example/g00332/impl.isTx -/
def k_c_isTx : XCode :=
  .seq (.ops [.op (some 2) (.mov (.k (.bool false)))])
  (.keep [0] (.seq (.ops [.op (some 3) (.mov (.t 0)),
     .call (some 4) 65 [.t 3, .k (.int .i64 1), .k (.int .i64 60)],
     .op (some 2) (.mov (.t 4))])
  (.keep [2] (.ret))))
theorem k_c_isTx_fits : fitsF Try.prog 29 ⟨5, k_c_isTx, [.t 2]⟩ = true := by kernel_rfl
theorem c_isTx {n : Int} : Con Try.prog noMv 29 [int n] [] (fun r h => r = bool (isTx n) ∧ h = []) := by
  refine con_of2 k_c_isTx_fits rfl fun C hP hmv => ?_
  unfold k_c_isTx
  refine cx_seq ?_
  refine cx_ops ?_
  refine ax_q (q_mov rfl) ?_
  refine ax_nil ?_
  refine cx_keep rfl rfl ?_
  refine cx_seq ?_
  refine cx_ops ?_
  refine ax_q (q_mov rfl) ?_
  first | refine ax_call rfl (vc_pure0 (c_inRange  ) hP rfl rfl ?_) | refine ax_call rfl (vc_lend0 (c_inRange  ) hP (by repeat (first | exact lal_id _ rfl | exact LAL.nil | refine LAL.cons ?_ ?_ | exact la_id _ rfl | exact LA.lend (lend_whole rfl (by first | (simp; done) | (rw [List.length_map]; rfl))) | refine LA.agg ?_ | refine LA.fn ?_ | refine LA.lend ?_ | exact Lend.d _ | exact Lend.zs _ | exact lend_whole rfl (by first | (simp; done) | (rw [List.length_map]; rfl)) | refine Lend.ptr rfl ?_ | refine Lend.fn ?_ | exact LendL.nil | refine LendL.cons ?_ ?_)) rfl rfl ?_)
  refine ax_q (q_mov rfl) ?_
  refine ax_nil ?_
  refine cx_keep rfl rfl ?_
  refine cx_ret (ret0 rfl rfl ?_)
  exact ⟨rfl, rfl⟩


/- loop.example/g00332/impl.isMode -/
def k_c_isMode : XCode :=
  .seq (.ops [.op (some 2) (.mov (.k (.bool false)))])
  (.keep [0] (.seq (.ops [.op (some 3) (.mov (.t 0)),
     .call (some 4) 65 [.t 3, .k (.int .i64 1), .k (.int .i64 4)],
     .op (some 2) (.mov (.t 4))])
  (.keep [2] (.ret))))
theorem k_c_isMode_fits : fitsF Try.prog 60 ⟨5, k_c_isMode, [.t 2]⟩ = true := by kernel_rfl
theorem c_isMode {n : Int} : Con Try.prog noMv 60 [int n] [] (fun r h => r = bool (isMode n) ∧ h = []) := by
  refine con_of2 k_c_isMode_fits rfl fun C hP hmv => ?_
  unfold k_c_isMode
  refine cx_seq ?_
  refine cx_ops ?_
  refine ax_q (q_mov rfl) ?_
  refine ax_nil ?_
  refine cx_keep rfl rfl ?_
  refine cx_seq ?_
  refine cx_ops ?_
  refine ax_q (q_mov rfl) ?_
  first | refine ax_call rfl (vc_pure0 (c_inRange  ) hP rfl rfl ?_) | refine ax_call rfl (vc_lend0 (c_inRange  ) hP (by repeat (first | exact lal_id _ rfl | exact LAL.nil | refine LAL.cons ?_ ?_ | exact la_id _ rfl | exact LA.lend (lend_whole rfl (by first | (simp; done) | (rw [List.length_map]; rfl))) | refine LA.agg ?_ | refine LA.fn ?_ | refine LA.lend ?_ | exact Lend.d _ | exact Lend.zs _ | exact lend_whole rfl (by first | (simp; done) | (rw [List.length_map]; rfl)) | refine Lend.ptr rfl ?_ | refine Lend.fn ?_ | exact LendL.nil | refine LendL.cons ?_ ?_)) rfl rfl ?_)
  refine ax_q (q_mov rfl) ?_
  refine ax_nil ?_
  refine cx_keep rfl rfl ?_
  refine cx_ret (ret0 rfl rfl ?_)
  exact ⟨rfl, rfl⟩


/- loop.example/g00332/impl.lockOK -/
def k_c_lockOK : XCode :=
  .seq (.ops [.op (some 1) (.box (.t 0)),
     .op (some 2) (.mov (.k (.bool false)))])
  (.keep [1] (.seq (.ops [.op (some 3) (.fadr (.t 1) 0),
     .op (some 4) (.load1 (.t 3)),
     .call (some 5) 29 [.t 4],
     .op (some 6) (.mov (.t 5)),
     .andor 10 true 3 6 [.op (some 7) (.fadr (.t 1) 1), .op (some 8) (.load1 (.t 7)), .call (some 9) 65 [.t 8, .k (.int .i64 1), .k (.int .i64 3)]] (.t 9),
     .op (some 11) (.mov (.t 10)),
     .andor 15 true 8 11 [.op (some 12) (.fadr (.t 1) 2), .op (some 13) (.load1 (.t 12)), .call (some 14) 65 [.t 13, .k (.int .i64 (-1)), .k (.int .i64 1000)]] (.t 14),
     .op (some 16) (.mov (.t 15)),
     .andor 20 true 13 16 [.op (some 17) (.fadr (.t 1) 3), .op (some 18) (.load1 (.t 17)), .call (some 19) 60 [.t 18]] (.t 19),
     .op (some 21) (.mov (.t 20)),
     .andor 30 true 18 21 [.op (some 22) (.fadr (.t 1) 2), .op (some 23) (.load1 (.t 22)), .op (some 24) (.bin .lss (.t 23) (.k (.int .i64 0))), .op (some 25) (.mov (.t 24)), .andor 29 false 22 25 [.op (some 26) (.fadr (.t 1) 3), .op (some 27) (.load1 (.t 26)), .op (some 28) (.bin .geq (.t 27) (.k (.int .i64 3)))] (.t 28)] (.t 29),
     .op (some 2) (.mov (.t 30))])
  (.keep [2] (.ret))))
theorem k_c_lockOK_fits : fitsF Try.prog 48 ⟨31, k_c_lockOK, [.t 2]⟩ = true := by kernel_rfl
theorem c_lockOK {a : GLock} : Con Try.prog noMv 48 [a.av] [] (fun r h => r = bool (lockOK a) ∧ h = []) := by
  refine con_of2 k_c_lockOK_fits rfl fun C hP hmv => ?_
  unfold k_c_lockOK
  refine cx_seq ?_
  refine cx_ops ?_
  refine ax_e (e_box rfl rfl (by decide) rfl rfl rfl) ?_
  refine ax_q (q_mov rfl) ?_
  refine ax_nil ?_
  refine cx_keep rfl rfl ?_
  refine cx_seq ?_
  refine cx_ops ?_
  first | refine ax_q (q_fadr_ptr rfl) ?_ | refine ax_q (q_fadr_rptr rfl) ?_ | refine ax_q (q_fadr_ip rfl) ?_
  first | refine ax_q (q_load1_ptr rfl rfl rfl) ?_ | refine ax_q (q_load1_ip rfl) ?_ | refine ax_q (q_load1_rptr rfl rfl rfl rfl) ?_ | refine ax_q (q_load1_rptr rfl rfl (by assumption) rfl) ?_ | refine ax_q (q_load1_rptr rfl rfl (mapAt (by first | assumption | omega)) rfl) ?_
  first | refine ax_call rfl (vc_pure0 (c_isTx  ) hP rfl rfl ?_) | refine ax_call rfl (vc_lend0 (c_isTx  ) hP (by repeat (first | exact lal_id _ rfl | exact LAL.nil | refine LAL.cons ?_ ?_ | exact la_id _ rfl | exact LA.lend (lend_whole rfl (by first | (simp; done) | (rw [List.length_map]; rfl))) | refine LA.agg ?_ | refine LA.fn ?_ | refine LA.lend ?_ | exact Lend.d _ | exact Lend.zs _ | exact lend_whole rfl (by first | (simp; done) | (rw [List.length_map]; rfl)) | refine Lend.ptr rfl ?_ | refine Lend.fn ?_ | exact LendL.nil | refine LendL.cons ?_ ?_)) rfl rfl ?_)
  refine ax_q (q_mov rfl) ?_
  apply ax_and rfl rfl
  · intro g
    first | refine ax_q (q_fadr_ptr rfl) ?_ | refine ax_q (q_fadr_rptr rfl) ?_ | refine ax_q (q_fadr_ip rfl) ?_
    first | refine ax_q (q_load1_ptr rfl rfl rfl) ?_ | refine ax_q (q_load1_ip rfl) ?_ | refine ax_q (q_load1_rptr rfl rfl rfl rfl) ?_ | refine ax_q (q_load1_rptr rfl rfl (by assumption) rfl) ?_ | refine ax_q (q_load1_rptr rfl rfl (mapAt (by first | assumption | omega)) rfl) ?_
    first | refine ax_call rfl (vc_pure0 (c_inRange  ) hP rfl rfl ?_) | refine ax_call rfl (vc_lend0 (c_inRange  ) hP (by repeat (first | exact lal_id _ rfl | exact LAL.nil | refine LAL.cons ?_ ?_ | exact la_id _ rfl | exact LA.lend (lend_whole rfl (by first | (simp; done) | (rw [List.length_map]; rfl))) | refine LA.agg ?_ | refine LA.fn ?_ | refine LA.lend ?_ | exact Lend.d _ | exact Lend.zs _ | exact lend_whole rfl (by first | (simp; done) | (rw [List.length_map]; rfl)) | refine Lend.ptr rfl ?_ | refine Lend.fn ?_ | exact LendL.nil | refine LendL.cons ?_ ?_)) rfl rfl ?_)
    exact ax_nil ⟨rfl, by repeat (first | exact trivial | refine ⟨rfl, ?_⟩ | refine ⟨?_, ?_⟩)⟩
  refine ax_q (q_mov rfl) ?_
  apply ax_and rfl rfl
  · intro g
    have g := (fun h => And.intro (id (and_T h).1) (id (and_T h).2)) g
    first | refine ax_q (q_fadr_ptr rfl) ?_ | refine ax_q (q_fadr_rptr rfl) ?_ | refine ax_q (q_fadr_ip rfl) ?_
    first | refine ax_q (q_load1_ptr rfl rfl rfl) ?_ | refine ax_q (q_load1_ip rfl) ?_ | refine ax_q (q_load1_rptr rfl rfl rfl rfl) ?_ | refine ax_q (q_load1_rptr rfl rfl (by assumption) rfl) ?_ | refine ax_q (q_load1_rptr rfl rfl (mapAt (by first | assumption | omega)) rfl) ?_
    first | refine ax_call rfl (vc_pure0 (c_inRange  ) hP rfl rfl ?_) | refine ax_call rfl (vc_lend0 (c_inRange  ) hP (by repeat (first | exact lal_id _ rfl | exact LAL.nil | refine LAL.cons ?_ ?_ | exact la_id _ rfl | exact LA.lend (lend_whole rfl (by first | (simp; done) | (rw [List.length_map]; rfl))) | refine LA.agg ?_ | refine LA.fn ?_ | refine LA.lend ?_ | exact Lend.d _ | exact Lend.zs _ | exact lend_whole rfl (by first | (simp; done) | (rw [List.length_map]; rfl)) | refine Lend.ptr rfl ?_ | refine Lend.fn ?_ | exact LendL.nil | refine LendL.cons ?_ ?_)) rfl rfl ?_)
    exact ax_nil ⟨rfl, by repeat (first | exact trivial | refine ⟨rfl, ?_⟩ | refine ⟨?_, ?_⟩)⟩
  refine ax_q (q_mov rfl) ?_
  apply ax_and rfl rfl
  · intro g
    have g := (fun h => And.intro ((fun h => And.intro (id (and_T h).1) (id (and_T h).2)) (and_T h).1) (id (and_T h).2)) g
    first | refine ax_q (q_fadr_ptr rfl) ?_ | refine ax_q (q_fadr_rptr rfl) ?_ | refine ax_q (q_fadr_ip rfl) ?_
    first | refine ax_q (q_load1_ptr rfl rfl rfl) ?_ | refine ax_q (q_load1_ip rfl) ?_ | refine ax_q (q_load1_rptr rfl rfl rfl rfl) ?_ | refine ax_q (q_load1_rptr rfl rfl (by assumption) rfl) ?_ | refine ax_q (q_load1_rptr rfl rfl (mapAt (by first | assumption | omega)) rfl) ?_
    first | refine ax_call rfl (vc_pure0 (c_isMode  ) hP rfl rfl ?_) | refine ax_call rfl (vc_lend0 (c_isMode  ) hP (by repeat (first | exact lal_id _ rfl | exact LAL.nil | refine LAL.cons ?_ ?_ | exact la_id _ rfl | exact LA.lend (lend_whole rfl (by first | (simp; done) | (rw [List.length_map]; rfl))) | refine LA.agg ?_ | refine LA.fn ?_ | refine LA.lend ?_ | exact Lend.d _ | exact Lend.zs _ | exact lend_whole rfl (by first | (simp; done) | (rw [List.length_map]; rfl)) | refine Lend.ptr rfl ?_ | refine Lend.fn ?_ | exact LendL.nil | refine LendL.cons ?_ ?_)) rfl rfl ?_)
    exact ax_nil ⟨rfl, by repeat (first | exact trivial | refine ⟨rfl, ?_⟩ | refine ⟨?_, ?_⟩)⟩
  refine ax_q (q_mov rfl) ?_
  apply ax_and rfl rfl
  · intro g
    have g := (fun h => And.intro ((fun h => And.intro ((fun h => And.intro (id (and_T h).1) (id (and_T h).2)) (and_T h).1) (id (and_T h).2)) (and_T h).1) (id (and_T h).2)) g
    first | refine ax_q (q_fadr_ptr rfl) ?_ | refine ax_q (q_fadr_rptr rfl) ?_ | refine ax_q (q_fadr_ip rfl) ?_
    first | refine ax_q (q_load1_ptr rfl rfl rfl) ?_ | refine ax_q (q_load1_ip rfl) ?_ | refine ax_q (q_load1_rptr rfl rfl rfl rfl) ?_ | refine ax_q (q_load1_rptr rfl rfl (by assumption) rfl) ?_ | refine ax_q (q_load1_rptr rfl rfl (mapAt (by first | assumption | omega)) rfl) ?_
    refine ax_q (q_ibin rfl rfl rfl) ?_
    refine ax_q (q_mov rfl) ?_
    apply ax_or rfl rfl
    · intro g
      have g := dF g
      first | refine ax_q (q_fadr_ptr rfl) ?_ | refine ax_q (q_fadr_rptr rfl) ?_ | refine ax_q (q_fadr_ip rfl) ?_
      first | refine ax_q (q_load1_ptr rfl rfl rfl) ?_ | refine ax_q (q_load1_ip rfl) ?_ | refine ax_q (q_load1_rptr rfl rfl rfl rfl) ?_ | refine ax_q (q_load1_rptr rfl rfl (by assumption) rfl) ?_ | refine ax_q (q_load1_rptr rfl rfl (mapAt (by first | assumption | omega)) rfl) ?_
      refine ax_q (q_ibin rfl rfl rfl) ?_
      exact ax_nil ⟨rfl, by repeat (first | exact trivial | refine ⟨rfl, ?_⟩ | refine ⟨?_, ?_⟩)⟩
    exact ax_nil ⟨rfl, by repeat (first | exact trivial | refine ⟨rfl, ?_⟩ | refine ⟨?_, ?_⟩)⟩
  refine ax_q (q_mov rfl) ?_
  refine ax_nil ?_
  refine cx_keep rfl rfl ?_
  refine cx_ret (ret0 rfl rfl ?_)
  exact ⟨rfl, rfl⟩


/- slices.IndexFunc[[]loop.example/g00332/impl.Lock,loop.example/g00332/impl.Lock] -/
def k_c_IndexFunc_Lock : XCode :=
  .seq (.ops [.op (some 4) (.mov (.k (.int .i64 0)))])
  (.keep [0, 1] (.seq (.seq (.ops [.op (some 6) (.mov (.t 0)),
      .op (some 7) (.lenS (.t 6)),
      .op (some 8) (.mov (.k (.int .i64 0)))])
   (.keep [0, 1, 7, 8] (.block 0 (.loop (.seq (.ops [.op (some 9) (.bin .lss (.t 8) (.t 7))])
     (.keep [0, 1, 7, 8, 9] (.seq (.cond (.t 9)
       (.skip)
       (.exit 0))
     (.keep [0, 1, 7, 8] (.seq (.block 1 (.seq (.ops [.op (some 10) (.mov (.t 8)),
          .op (some 5) (.mov (.t 10))])
       (.keep [0, 1, 5, 7, 8] (.seq (.ops [.op (some 11) (.mov (.t 1)),
          .op (some 12) (.mov (.t 0)),
          .op (some 13) (.mov (.t 5)),
          .op (some 14) (.iadr 4 (.t 12) (.t 13)),
          .op (some 15) (.loadN 4 (.t 14)),
          .callv (some 16) (.t 11) [.t 15]])
       (.keep [0, 1, 5, 7, 8, 16] (.cond (.t 16)
        (.seq (.ops [.op (some 17) (.mov (.t 5)),
            .op (some 4) (.mov (.t 17))])
         (.keep [4] (.ret)))
        (.skip)))))))
     (.keep [0, 1, 7, 8] (.ops [.op (some 18) (.bin .add (.t 8) (.k (.int .i64 1))),
       .op (some 8) (.mov (.t 18))])))))))))))
  (.keep [] (.seq (.ops [.op (some 4) (.mov (.k (.int .i64 (-1))))])
  (.keep [4] (.ret))))))
theorem k_c_IndexFunc_Lock_fits : fitsF Try.prog 71 ⟨19, k_c_IndexFunc_Lock, [.t 4]⟩ = true := by kernel_rfl
theorem c_IndexFunc_Lock {xs : List GLock} {f : Nat} {ds : List D} (p : GLock → Bool) (hw : xs.length ≤ 9223372036854775807) (hb : hasBody Try.prog f = true) (hf : ∀ s ∈ xs, Con Try.prog noMv f (s.av :: ds.map AV.d) [] (fun r h => r = bool (p s) ∧ h = [])) : Con Try.prog noMv 71 [.d (.sl 4 (xs.map GLock.row)), .d (.fn (.func f) ds)] [] (fun r h => r = int (idxOf p xs 0) ∧ h = []) := by
  refine con_of2 k_c_IndexFunc_Lock_fits rfl fun C hP hmv => ?_
  unfold k_c_IndexFunc_Lock
  refine cx_seq ?_
  refine cx_ops ?_
  refine ax_q (q_mov rfl) ?_
  refine ax_nil ?_
  refine cx_keep rfl rfl ?_
  refine cx_seq ?_
  refine cx_seq ?_
  refine cx_ops ?_
  refine ax_q (q_mov rfl) ?_
  first | refine ax_q (q_lenS_map rfl) ?_ | refine ax_q (q_lenS_osl rfl) ?_ | refine ax_q (q_lenS_zs rfl) ?_ | refine ax_q (q_lenS rfl) ?_
  refine ax_q (q_mov rfl) ?_
  refine ax_nil ?_
  refine cx_keep rfl rfl ?_
  refine cx_block ?_
  refine cx_loopU (fun n k => k ≤ xs.length ∧ n = xs.length - k ∧ ∀ i, i < k → ∀ x, xs[i]? = some x → p x = false) (fun k : Nat => [(8, int k)]) (fun _ => []) ⟨_, 0, ⟨by omega, rfl, fun i hi => by omega⟩, by repeat (first | exact trivial | refine ⟨rfl, ?_⟩ | refine ⟨?_, ?_⟩)⟩ ?_
  rintro n k ⟨hk, rfl, ht⟩
  refine cx_seq ?_
  refine cx_ops ?_
  refine ax_q (q_ibin rfl rfl rfl) ?_
  refine ax_nil ?_
  refine cx_keep rfl rfl ?_
  refine cx_seq ?_
  refine cx_cond rfl (fun h0 => ?_) (fun h0 => ?_)
  · have h0 := dT h0
    have h0x : k < xs.length := by omega
    refine cx_skip ?_
    refine cx_keep rfl rfl ?_
    refine cx_seq ?_
    refine cx_block ?_
    refine cx_seq ?_
    refine cx_ops ?_
    refine ax_q (q_mov rfl) ?_
    refine ax_q (q_mov rfl) ?_
    refine ax_nil ?_
    refine cx_keep rfl rfl ?_
    refine cx_seq ?_
    refine cx_ops ?_
    refine ax_q (q_mov rfl) ?_
    refine ax_q (q_mov rfl) ?_
    refine ax_q (q_mov rfl) ?_
    refine ax_q (q_ix rfl rfl (mapAt h0x)) ?_
    first | refine ax_q (q_ldN rfl rfl rfl) ?_ | refine ax_q (q_loadN_ip rfl (Nat.le_refl _)) ?_ | refine ax_q (q_loadN_ip rfl (by decide)) ?_ | refine ax_q (q_loadN_rptr rfl rfl (by assumption) (by decide)) ?_ | refine ax_q (q_loadN_rptr rfl rfl (mapAt (by first | assumption | omega)) (by decide)) ?_
    refine ax_callvD rfl (by rw [hP]; exact hb) rfl (vc_pure0 (hf _ (List.getElem_mem h0x)) hP (refs_cons rfl ds) rfl ?_)
    refine ax_nil ?_
    refine cx_keep rfl rfl ?_
    refine cx_cond rfl (fun h1 => ?_) (fun h1 => ?_)
    · skip
      refine cx_seq ?_
      refine cx_ops ?_
      refine ax_q (q_mov rfl) ?_
      refine ax_q (q_mov rfl) ?_
      refine ax_nil ?_
      refine cx_keep rfl rfl ?_
      refine cx_ret (ret0 rfl rfl ?_)
      exact ⟨by rw [idxOf_hit h0x ht h1]; rfl, rfl⟩
    · skip
      refine cx_skip ?_
      refine cx_keep rfl rfl ?_
      refine cx_ops ?_
      refine ax_qe (r' := int ((k + 1 : Nat) : Int)) (q_ibin rfl rfl rfl) (by rw [wi (by omega) (by omega)]; rfl) ?_
      refine ax_q (q_mov rfl) ?_
      refine ax_nil ?_
      exact ⟨_, k + 1, by omega, ⟨by omega, rfl, before_step h0x ht h1⟩, by repeat (first | exact trivial | refine ⟨rfl, ?_⟩ | refine ⟨?_, ?_⟩)⟩
  · have h0 := dF h0
    have h0x : k = xs.length := by omega
    refine cx_exit rfl ?_
    refine cx_keep rfl rfl ?_
    refine cx_seq ?_
    refine cx_ops ?_
    refine ax_q (q_mov rfl) ?_
    refine ax_nil ?_
    refine cx_keep rfl rfl ?_
    refine cx_ret (ret0 rfl rfl ?_)
    exact ⟨by rw [idxOf_none (fun i hi => ht i (by omega))]; rfl, rfl⟩


/- slices.ContainsFunc[[]loop.example/g00332/impl.Lock,loop.example/g00332/impl.Lock] -/
def k_c_ContainsFunc_Lock : XCode :=
  .seq (.ops [.op (some 4) (.mov (.k (.bool false)))])
  (.keep [0, 1] (.seq (.ops [.op (some 5) (.mov (.t 0)),
     .op (some 6) (.mov (.t 1)),
     .call (some 7) 71 [.t 5, .t 6],
     .op (some 8) (.bin .geq (.t 7) (.k (.int .i64 0))),
     .op (some 4) (.mov (.t 8))])
  (.keep [4] (.ret))))
theorem k_c_ContainsFunc_Lock_fits : fitsF Try.prog 55 ⟨9, k_c_ContainsFunc_Lock, [.t 4]⟩ = true := by kernel_rfl
theorem c_ContainsFunc_Lock {xs : List GLock} {f : Nat} {ds : List D} (p : GLock → Bool) (hw : xs.length ≤ 9223372036854775807) (hb : hasBody Try.prog f = true) (hf : ∀ s ∈ xs, Con Try.prog noMv f (s.av :: ds.map AV.d) [] (fun r h => r = bool (p s) ∧ h = [])) : Con Try.prog noMv 55 [.d (.sl 4 (xs.map GLock.row)), .d (.fn (.func f) ds)] [] (fun r h => r = bool (xs.any p) ∧ h = []) := by
  refine con_of2 k_c_ContainsFunc_Lock_fits rfl fun C hP hmv => ?_
  unfold k_c_ContainsFunc_Lock
  refine cx_seq ?_
  refine cx_ops ?_
  refine ax_q (q_mov rfl) ?_
  refine ax_nil ?_
  refine cx_keep rfl rfl ?_
  refine cx_seq ?_
  refine cx_ops ?_
  refine ax_q (q_mov rfl) ?_
  refine ax_q (q_mov rfl) ?_
  refine ax_call rfl (vc_pure0 (c_IndexFunc_Lock p hw hb hf) hP rfl rfl ?_)
  refine ax_qe (r' := bool (xs.any p)) (q_ibin rfl rfl rfl) (congrArg AM.bool any_idxOf) ?_
  refine ax_q (q_mov rfl) ?_
  refine ax_nil ?_
  refine cx_keep rfl rfl ?_
  refine cx_ret (ret0 rfl rfl ?_)
  exact ⟨rfl, rfl⟩


/- loop.example/g00332/impl.modesFit -/
def k_c_modesFit : XCode :=
  .seq (.ops [.op (some 4) (.mov (.k (.bool false)))])
  (.keep [0, 1] (.seq (.ops [.op (some 5) (.mov (.t 0)),
     .op (some 6) (.bin .neq (.t 5) (.k (.int .i64 4))),
     .op (some 7) (.mov (.t 6)),
     .andor 10 true 2 7 [.op (some 8) (.mov (.t 1)), .op (some 9) (.bin .neq (.t 8) (.k (.int .i64 4)))] (.t 9),
     .op (some 11) (.mov (.t 10)),
     .andor 23 true 6 11 [.op (some 12) (.mov (.t 0)), .op (some 13) (.bin .eql (.t 12) (.k (.int .i64 1))), .op (some 14) (.mov (.t 13)), .andor 17 false 9 14 [.op (some 15) (.mov (.t 1)), .op (some 16) (.bin .eql (.t 15) (.k (.int .i64 1)))] (.t 16), .op (some 18) (.mov (.t 17)), .andor 22 false 13 18 [.op (some 19) (.mov (.t 0)), .op (some 20) (.mov (.t 1)), .op (some 21) (.bin .eql (.t 19) (.t 20))] (.t 21)] (.t 22),
     .op (some 4) (.mov (.t 23))])
  (.keep [4] (.ret))))
theorem k_c_modesFit_fits : fitsF Try.prog 61 ⟨24, k_c_modesFit, [.t 4]⟩ = true := by kernel_rfl
theorem c_modesFit {a b : Int} : Con Try.prog noMv 61 [int a, int b] [] (fun r h => r = bool (modesFit a b) ∧ h = []) := by
  refine con_of2 k_c_modesFit_fits rfl fun C hP hmv => ?_
  unfold k_c_modesFit
  refine cx_seq ?_
  refine cx_ops ?_
  refine ax_q (q_mov rfl) ?_
  refine ax_nil ?_
  refine cx_keep rfl rfl ?_
  refine cx_seq ?_
  refine cx_ops ?_
  refine ax_q (q_mov rfl) ?_
  refine ax_q (q_ibin rfl rfl rfl) ?_
  refine ax_q (q_mov rfl) ?_
  apply ax_and rfl rfl
  · intro g
    have g := nT g
    refine ax_q (q_mov rfl) ?_
    refine ax_q (q_ibin rfl rfl rfl) ?_
    exact ax_nil ⟨rfl, by repeat (first | exact trivial | refine ⟨rfl, ?_⟩ | refine ⟨?_, ?_⟩)⟩
  refine ax_q (q_mov rfl) ?_
  apply ax_and rfl rfl
  · intro g
    have g := (fun h => And.intro (nT (and_T h).1) (nT (and_T h).2)) g
    refine ax_q (q_mov rfl) ?_
    refine ax_q (q_ibin rfl rfl rfl) ?_
    refine ax_q (q_mov rfl) ?_
    apply ax_or rfl rfl
    · intro g
      have g := dF g
      refine ax_q (q_mov rfl) ?_
      refine ax_q (q_ibin rfl rfl rfl) ?_
      exact ax_nil ⟨rfl, by repeat (first | exact trivial | refine ⟨rfl, ?_⟩ | refine ⟨?_, ?_⟩)⟩
    refine ax_q (q_mov rfl) ?_
    apply ax_or rfl rfl
    · intro g
      have g := (fun h => And.intro (dF (or_F h).1) (dF (or_F h).2)) g
      refine ax_q (q_mov rfl) ?_
      refine ax_q (q_mov rfl) ?_
      refine ax_q (q_ibin rfl rfl rfl) ?_
      exact ax_nil ⟨rfl, by repeat (first | exact trivial | refine ⟨rfl, ?_⟩ | refine ⟨?_, ?_⟩)⟩
    exact ax_nil ⟨rfl, by repeat (first | exact trivial | refine ⟨rfl, ?_⟩ | refine ⟨?_, ?_⟩)⟩
  refine ax_q (q_mov rfl) ?_
  refine ax_nil ?_
  refine cx_keep rfl rfl ?_
  refine cx_ret (ret0 rfl rfl ?_)
  exact ⟨rfl, rfl⟩


/- loop.example/g00332/impl.isOneThing -/
def k_c_isOne : XCode :=
  .seq (.ops [.op (some 2) (.box (.t 0)),
     .op (some 3) (.box (.t 1)),
     .op (some 4) (.mov (.k (.bool false)))])
  (.keep [2, 3] (.seq (.ops [.op (some 5) (.fadr (.t 2) 1),
     .op (some 6) (.load1 (.t 5)),
     .op (some 7) (.fadr (.t 3) 1),
     .op (some 8) (.load1 (.t 7)),
     .op (some 9) (.bin .eql (.t 6) (.t 8)),
     .op (some 10) (.mov (.t 9)),
     .andor 16 true 5 10 [.op (some 11) (.fadr (.t 2) 2), .op (some 12) (.load1 (.t 11)), .op (some 13) (.fadr (.t 3) 2), .op (some 14) (.load1 (.t 13)), .op (some 15) (.bin .eql (.t 12) (.t 14))] (.t 15),
     .op (some 4) (.mov (.t 16))])
  (.keep [4] (.ret))))
theorem k_c_isOne_fits : fitsF Try.prog 84 ⟨17, k_c_isOne, [.t 4]⟩ = true := by kernel_rfl
theorem c_isOne {a b : GLock} : Con Try.prog noMv 84 [a.av, b.av] [] (fun r h => r = bool (isThing a b) ∧ h = []) := by
  refine con_of2 k_c_isOne_fits rfl fun C hP hmv => ?_
  unfold k_c_isOne
  refine cx_seq ?_
  refine cx_ops ?_
  refine ax_e (e_box rfl rfl (by decide) rfl rfl rfl) ?_
  refine ax_e (e_box rfl rfl (by decide) rfl rfl rfl) ?_
  refine ax_q (q_mov rfl) ?_
  refine ax_nil ?_
  refine cx_keep rfl rfl ?_
  refine cx_seq ?_
  refine cx_ops ?_
  first | refine ax_q (q_fadr_ptr rfl) ?_ | refine ax_q (q_fadr_rptr rfl) ?_ | refine ax_q (q_fadr_ip rfl) ?_
  first | refine ax_q (q_load1_ptr rfl rfl rfl) ?_ | refine ax_q (q_load1_ip rfl) ?_ | refine ax_q (q_load1_rptr rfl rfl rfl rfl) ?_ | refine ax_q (q_load1_rptr rfl rfl (by assumption) rfl) ?_ | refine ax_q (q_load1_rptr rfl rfl (mapAt (by first | assumption | omega)) rfl) ?_
  first | refine ax_q (q_fadr_ptr rfl) ?_ | refine ax_q (q_fadr_rptr rfl) ?_ | refine ax_q (q_fadr_ip rfl) ?_
  first | refine ax_q (q_load1_ptr rfl rfl rfl) ?_ | refine ax_q (q_load1_ip rfl) ?_ | refine ax_q (q_load1_rptr rfl rfl rfl rfl) ?_ | refine ax_q (q_load1_rptr rfl rfl (by assumption) rfl) ?_ | refine ax_q (q_load1_rptr rfl rfl (mapAt (by first | assumption | omega)) rfl) ?_
  refine ax_q (q_ibin rfl rfl rfl) ?_
  refine ax_q (q_mov rfl) ?_
  apply ax_and rfl rfl
  · intro g
    have g := dT g
    first | refine ax_q (q_fadr_ptr rfl) ?_ | refine ax_q (q_fadr_rptr rfl) ?_ | refine ax_q (q_fadr_ip rfl) ?_
    first | refine ax_q (q_load1_ptr rfl rfl rfl) ?_ | refine ax_q (q_load1_ip rfl) ?_ | refine ax_q (q_load1_rptr rfl rfl rfl rfl) ?_ | refine ax_q (q_load1_rptr rfl rfl (by assumption) rfl) ?_ | refine ax_q (q_load1_rptr rfl rfl (mapAt (by first | assumption | omega)) rfl) ?_
    first | refine ax_q (q_fadr_ptr rfl) ?_ | refine ax_q (q_fadr_rptr rfl) ?_ | refine ax_q (q_fadr_ip rfl) ?_
    first | refine ax_q (q_load1_ptr rfl rfl rfl) ?_ | refine ax_q (q_load1_ip rfl) ?_ | refine ax_q (q_load1_rptr rfl rfl rfl rfl) ?_ | refine ax_q (q_load1_rptr rfl rfl (by assumption) rfl) ?_ | refine ax_q (q_load1_rptr rfl rfl (mapAt (by first | assumption | omega)) rfl) ?_
    refine ax_q (q_ibin rfl rfl rfl) ?_
    exact ax_nil ⟨rfl, by repeat (first | exact trivial | refine ⟨rfl, ?_⟩ | refine ⟨?_, ?_⟩)⟩
  refine ax_q (q_mov rfl) ?_
  refine ax_nil ?_
  refine cx_keep rfl rfl ?_
  refine cx_ret (ret0 rfl rfl ?_)
  exact ⟨rfl, rfl⟩


/- loop.example/g00332/impl.clashes -/
def k_c_clashes : XCode :=
  .seq (.ops [.op (some 2) (.box (.t 0)),
     .op (some 3) (.box (.t 1)),
     .op (some 4) (.mov (.k (.bool false)))])
  (.keep [2, 3] (.seq (.ops [.op (some 5) (.fadr (.t 2) 0),
     .op (some 6) (.load1 (.t 5)),
     .op (some 7) (.fadr (.t 3) 0),
     .op (some 8) (.load1 (.t 7)),
     .op (some 9) (.bin .neq (.t 6) (.t 8)),
     .op (some 10) (.mov (.t 9)),
     .andor 14 true 5 10 [.op (some 11) (.loadN 4 (.t 2)), .op (some 12) (.loadN 4 (.t 3)), .call (some 13) 84 [.t 11, .t 12]] (.t 13),
     .op (some 15) (.mov (.t 14)),
     .andor 22 true 10 15 [.op (some 16) (.fadr (.t 2) 3), .op (some 17) (.load1 (.t 16)), .op (some 18) (.fadr (.t 3) 3), .op (some 19) (.load1 (.t 18)), .call (some 20) 61 [.t 17, .t 19], .op (some 21) (.not (.t 20))] (.t 21),
     .op (some 4) (.mov (.t 22))])
  (.keep [4] (.ret))))
theorem k_c_clashes_fits : fitsF Try.prog 57 ⟨23, k_c_clashes, [.t 4]⟩ = true := by kernel_rfl
theorem c_clashes {a b : GLock} : Con Try.prog noMv 57 [a.av, b.av] [] (fun r h => r = bool (clashes a b) ∧ h = []) := by
  refine con_of2 k_c_clashes_fits rfl fun C hP hmv => ?_
  unfold k_c_clashes
  refine cx_seq ?_
  refine cx_ops ?_
  refine ax_e (e_box rfl rfl (by decide) rfl rfl rfl) ?_
  refine ax_e (e_box rfl rfl (by decide) rfl rfl rfl) ?_
  refine ax_q (q_mov rfl) ?_
  refine ax_nil ?_
  refine cx_keep rfl rfl ?_
  refine cx_seq ?_
  refine cx_ops ?_
  first | refine ax_q (q_fadr_ptr rfl) ?_ | refine ax_q (q_fadr_rptr rfl) ?_ | refine ax_q (q_fadr_ip rfl) ?_
  first | refine ax_q (q_load1_ptr rfl rfl rfl) ?_ | refine ax_q (q_load1_ip rfl) ?_ | refine ax_q (q_load1_rptr rfl rfl rfl rfl) ?_ | refine ax_q (q_load1_rptr rfl rfl (by assumption) rfl) ?_ | refine ax_q (q_load1_rptr rfl rfl (mapAt (by first | assumption | omega)) rfl) ?_
  first | refine ax_q (q_fadr_ptr rfl) ?_ | refine ax_q (q_fadr_rptr rfl) ?_ | refine ax_q (q_fadr_ip rfl) ?_
  first | refine ax_q (q_load1_ptr rfl rfl rfl) ?_ | refine ax_q (q_load1_ip rfl) ?_ | refine ax_q (q_load1_rptr rfl rfl rfl rfl) ?_ | refine ax_q (q_load1_rptr rfl rfl (by assumption) rfl) ?_ | refine ax_q (q_load1_rptr rfl rfl (mapAt (by first | assumption | omega)) rfl) ?_
  refine ax_q (q_ibin rfl rfl rfl) ?_
  refine ax_q (q_mov rfl) ?_
  apply ax_and rfl rfl
  · intro g
    have g := nT g
    first | refine ax_q (q_ldN rfl rfl rfl) ?_ | refine ax_q (q_loadN_ip rfl (Nat.le_refl _)) ?_ | refine ax_q (q_loadN_ip rfl (by decide)) ?_ | refine ax_q (q_loadN_rptr rfl rfl (by assumption) (by decide)) ?_ | refine ax_q (q_loadN_rptr rfl rfl (mapAt (by first | assumption | omega)) (by decide)) ?_
    first | refine ax_q (q_ldN rfl rfl rfl) ?_ | refine ax_q (q_loadN_ip rfl (Nat.le_refl _)) ?_ | refine ax_q (q_loadN_ip rfl (by decide)) ?_ | refine ax_q (q_loadN_rptr rfl rfl (by assumption) (by decide)) ?_ | refine ax_q (q_loadN_rptr rfl rfl (mapAt (by first | assumption | omega)) (by decide)) ?_
    first | refine ax_call rfl (vc_pure0 (c_isOne  ) hP rfl rfl ?_) | refine ax_call rfl (vc_lend0 (c_isOne  ) hP (by repeat (first | exact lal_id _ rfl | exact LAL.nil | refine LAL.cons ?_ ?_ | exact la_id _ rfl | exact LA.lend (lend_whole rfl (by first | (simp; done) | (rw [List.length_map]; rfl))) | refine LA.agg ?_ | refine LA.fn ?_ | refine LA.lend ?_ | exact Lend.d _ | exact Lend.zs _ | exact lend_whole rfl (by first | (simp; done) | (rw [List.length_map]; rfl)) | refine Lend.ptr rfl ?_ | refine Lend.fn ?_ | exact LendL.nil | refine LendL.cons ?_ ?_)) rfl rfl ?_)
    exact ax_nil ⟨rfl, by repeat (first | exact trivial | refine ⟨rfl, ?_⟩ | refine ⟨?_, ?_⟩)⟩
  refine ax_q (q_mov rfl) ?_
  apply ax_and rfl rfl
  · intro g
    have g := (fun h => And.intro (nT (and_T h).1) (id (and_T h).2)) g
    first | refine ax_q (q_fadr_ptr rfl) ?_ | refine ax_q (q_fadr_rptr rfl) ?_ | refine ax_q (q_fadr_ip rfl) ?_
    first | refine ax_q (q_load1_ptr rfl rfl rfl) ?_ | refine ax_q (q_load1_ip rfl) ?_ | refine ax_q (q_load1_rptr rfl rfl rfl rfl) ?_ | refine ax_q (q_load1_rptr rfl rfl (by assumption) rfl) ?_ | refine ax_q (q_load1_rptr rfl rfl (mapAt (by first | assumption | omega)) rfl) ?_
    first | refine ax_q (q_fadr_ptr rfl) ?_ | refine ax_q (q_fadr_rptr rfl) ?_ | refine ax_q (q_fadr_ip rfl) ?_
    first | refine ax_q (q_load1_ptr rfl rfl rfl) ?_ | refine ax_q (q_load1_ip rfl) ?_ | refine ax_q (q_load1_rptr rfl rfl rfl rfl) ?_ | refine ax_q (q_load1_rptr rfl rfl (by assumption) rfl) ?_ | refine ax_q (q_load1_rptr rfl rfl (mapAt (by first | assumption | omega)) rfl) ?_
    first | refine ax_call rfl (vc_pure0 (c_modesFit  ) hP rfl rfl ?_) | refine ax_call rfl (vc_lend0 (c_modesFit  ) hP (by repeat (first | exact lal_id _ rfl | exact LAL.nil | refine LAL.cons ?_ ?_ | exact la_id _ rfl | exact LA.lend (lend_whole rfl (by first | (simp; done) | (rw [List.length_map]; rfl))) | refine LA.agg ?_ | refine LA.fn ?_ | refine LA.lend ?_ | exact Lend.d _ | exact Lend.zs _ | exact lend_whole rfl (by first | (simp; done) | (rw [List.length_map]; rfl)) | refine Lend.ptr rfl ?_ | refine Lend.fn ?_ | exact LendL.nil | refine LendL.cons ?_ ?_)) rfl rfl ?_)
    refine ax_q (q_not rfl) ?_
    exact ax_nil ⟨rfl, by repeat (first | exact trivial | refine ⟨rfl, ?_⟩ | refine ⟨?_, ?_⟩)⟩
  refine ax_q (q_mov rfl) ?_
  refine ax_nil ?_
  refine cx_keep rfl rfl ?_
  refine cx_ret (ret0 rfl rfl ?_)
  exact ⟨rfl, rfl⟩


/- loop.example/g00332/impl.LocksOK$1 -/
def k_c_LocksOK1 : XCode :=
  .seq (.ops [.op (some 2) (.box (.t 0)),
     .op (some 3) (.mov (.k (.bool false)))])
  (.keep [1, 2] (.seq (.ops [.op (some 4) (.loadN 4 (.t 1)),
     .op (some 5) (.loadN 4 (.t 2)),
     .op (some 6) (.eqs false [0, 0, 0, 0] (.t 4) (.t 5)),
     .op (some 7) (.mov (.t 6)),
     .andor 11 false 3 7 [.op (some 8) (.loadN 4 (.t 1)), .op (some 9) (.loadN 4 (.t 2)), .call (some 10) 57 [.t 8, .t 9]] (.t 10),
     .op (some 3) (.mov (.t 11))])
  (.keep [3] (.ret))))
theorem k_c_LocksOK1_fits : fitsF Try.prog 56 ⟨12, k_c_LocksOK1, [.t 3]⟩ = true := by kernel_rfl
theorem c_LocksOK1 {a b : GLock} : Con Try.prog noMv 56 [b.av, .d (.ip a.row)] [] (fun r h => r = bool (twice a b) ∧ h = []) := by
  refine con_of2 k_c_LocksOK1_fits rfl fun C hP hmv => ?_
  unfold k_c_LocksOK1
  refine cx_seq ?_
  refine cx_ops ?_
  refine ax_e (e_box rfl rfl (by decide) rfl rfl rfl) ?_
  refine ax_q (q_mov rfl) ?_
  refine ax_nil ?_
  refine cx_keep rfl rfl ?_
  refine cx_seq ?_
  refine cx_ops ?_
  first | refine ax_q (q_ldN rfl rfl rfl) ?_ | refine ax_q (q_loadN_ip rfl (Nat.le_refl _)) ?_ | refine ax_q (q_loadN_ip rfl (by decide)) ?_ | refine ax_q (q_loadN_rptr rfl rfl (by assumption) (by decide)) ?_ | refine ax_q (q_loadN_rptr rfl rfl (mapAt (by first | assumption | omega)) (by decide)) ?_
  first | refine ax_q (q_ldN rfl rfl rfl) ?_ | refine ax_q (q_loadN_ip rfl (Nat.le_refl _)) ?_ | refine ax_q (q_loadN_ip rfl (by decide)) ?_ | refine ax_q (q_loadN_rptr rfl rfl (by assumption) (by decide)) ?_ | refine ax_q (q_loadN_rptr rfl rfl (mapAt (by first | assumption | omega)) (by decide)) ?_
  first | refine ax_q (GLock.q_eqs rfl rfl) ?_ | refine ax_q (q_eqs rfl rfl rfl) ?_
  refine ax_q (q_mov rfl) ?_
  apply ax_or rfl rfl
  · intro g
    first | refine ax_q (q_ldN rfl rfl rfl) ?_ | refine ax_q (q_loadN_ip rfl (Nat.le_refl _)) ?_ | refine ax_q (q_loadN_ip rfl (by decide)) ?_ | refine ax_q (q_loadN_rptr rfl rfl (by assumption) (by decide)) ?_ | refine ax_q (q_loadN_rptr rfl rfl (mapAt (by first | assumption | omega)) (by decide)) ?_
    first | refine ax_q (q_ldN rfl rfl rfl) ?_ | refine ax_q (q_loadN_ip rfl (Nat.le_refl _)) ?_ | refine ax_q (q_loadN_ip rfl (by decide)) ?_ | refine ax_q (q_loadN_rptr rfl rfl (by assumption) (by decide)) ?_ | refine ax_q (q_loadN_rptr rfl rfl (mapAt (by first | assumption | omega)) (by decide)) ?_
    first | refine ax_call rfl (vc_pure0 (c_clashes  ) hP rfl rfl ?_) | refine ax_call rfl (vc_lend0 (c_clashes  ) hP (by repeat (first | exact lal_id _ rfl | exact LAL.nil | refine LAL.cons ?_ ?_ | exact la_id _ rfl | exact LA.lend (lend_whole rfl (by first | (simp; done) | (rw [List.length_map]; rfl))) | refine LA.agg ?_ | refine LA.fn ?_ | refine LA.lend ?_ | exact Lend.d _ | exact Lend.zs _ | exact lend_whole rfl (by first | (simp; done) | (rw [List.length_map]; rfl)) | refine Lend.ptr rfl ?_ | refine Lend.fn ?_ | exact LendL.nil | refine LendL.cons ?_ ?_)) rfl rfl ?_)
    exact ax_nil ⟨rfl, by repeat (first | exact trivial | refine ⟨rfl, ?_⟩ | refine ⟨?_, ?_⟩)⟩
  refine ax_q (q_mov rfl) ?_
  refine ax_nil ?_
  refine cx_keep rfl rfl ?_
  refine cx_ret (ret0 rfl rfl ?_)
  exact ⟨rfl, rfl⟩


/- slices.IndexFunc[[]loop.example/g00332/impl.Wait,loop.example/g00332/impl.Wait] -/
def k_c_IndexFunc_Wait : XCode :=
  .seq (.ops [.op (some 4) (.mov (.k (.int .i64 0)))])
  (.keep [0, 1] (.seq (.seq (.ops [.op (some 6) (.mov (.t 0)),
      .op (some 7) (.lenS (.t 6)),
      .op (some 8) (.mov (.k (.int .i64 0)))])
   (.keep [0, 1, 7, 8] (.block 0 (.loop (.seq (.ops [.op (some 9) (.bin .lss (.t 8) (.t 7))])
     (.keep [0, 1, 7, 8, 9] (.seq (.cond (.t 9)
       (.skip)
       (.exit 0))
     (.keep [0, 1, 7, 8] (.seq (.block 1 (.seq (.ops [.op (some 10) (.mov (.t 8)),
          .op (some 5) (.mov (.t 10))])
       (.keep [0, 1, 5, 7, 8] (.seq (.ops [.op (some 11) (.mov (.t 1)),
          .op (some 12) (.mov (.t 0)),
          .op (some 13) (.mov (.t 5)),
          .op (some 14) (.iadr 2 (.t 12) (.t 13)),
          .op (some 15) (.loadN 2 (.t 14)),
          .callv (some 16) (.t 11) [.t 15]])
       (.keep [0, 1, 5, 7, 8, 16] (.cond (.t 16)
        (.seq (.ops [.op (some 17) (.mov (.t 5)),
            .op (some 4) (.mov (.t 17))])
         (.keep [4] (.ret)))
        (.skip)))))))
     (.keep [0, 1, 7, 8] (.ops [.op (some 18) (.bin .add (.t 8) (.k (.int .i64 1))),
       .op (some 8) (.mov (.t 18))])))))))))))
  (.keep [] (.seq (.ops [.op (some 4) (.mov (.k (.int .i64 (-1))))])
  (.keep [4] (.ret))))))
theorem k_c_IndexFunc_Wait_fits : fitsF Try.prog 85 ⟨19, k_c_IndexFunc_Wait, [.t 4]⟩ = true := by kernel_rfl
theorem c_IndexFunc_Wait {xs : List GWait} {f : Nat} {ds : List D} (p : GWait → Bool) (hw : xs.length ≤ 9223372036854775807) (hb : hasBody Try.prog f = true) (hf : ∀ s ∈ xs, Con Try.prog noMv f (s.av :: ds.map AV.d) [] (fun r h => r = bool (p s) ∧ h = [])) : Con Try.prog noMv 85 [.d (.sl 2 (xs.map GWait.row)), .d (.fn (.func f) ds)] [] (fun r h => r = int (idxOf p xs 0) ∧ h = []) := by
  refine con_of2 k_c_IndexFunc_Wait_fits rfl fun C hP hmv => ?_
  unfold k_c_IndexFunc_Wait
  refine cx_seq ?_
  refine cx_ops ?_
  refine ax_q (q_mov rfl) ?_
  refine ax_nil ?_
  refine cx_keep rfl rfl ?_
  refine cx_seq ?_
  refine cx_seq ?_
  refine cx_ops ?_
  refine ax_q (q_mov rfl) ?_
  first | refine ax_q (q_lenS_map rfl) ?_ | refine ax_q (q_lenS_osl rfl) ?_ | refine ax_q (q_lenS_zs rfl) ?_ | refine ax_q (q_lenS rfl) ?_
  refine ax_q (q_mov rfl) ?_
  refine ax_nil ?_
  refine cx_keep rfl rfl ?_
  refine cx_block ?_
  refine cx_loopU (fun n k => k ≤ xs.length ∧ n = xs.length - k ∧ ∀ i, i < k → ∀ x, xs[i]? = some x → p x = false) (fun k : Nat => [(8, int k)]) (fun _ => []) ⟨_, 0, ⟨by omega, rfl, fun i hi => by omega⟩, by repeat (first | exact trivial | refine ⟨rfl, ?_⟩ | refine ⟨?_, ?_⟩)⟩ ?_
  rintro n k ⟨hk, rfl, ht⟩
  refine cx_seq ?_
  refine cx_ops ?_
  refine ax_q (q_ibin rfl rfl rfl) ?_
  refine ax_nil ?_
  refine cx_keep rfl rfl ?_
  refine cx_seq ?_
  refine cx_cond rfl (fun h0 => ?_) (fun h0 => ?_)
  · have h0 := dT h0
    have h0x : k < xs.length := by omega
    refine cx_skip ?_
    refine cx_keep rfl rfl ?_
    refine cx_seq ?_
    refine cx_block ?_
    refine cx_seq ?_
    refine cx_ops ?_
    refine ax_q (q_mov rfl) ?_
    refine ax_q (q_mov rfl) ?_
    refine ax_nil ?_
    refine cx_keep rfl rfl ?_
    refine cx_seq ?_
    refine cx_ops ?_
    refine ax_q (q_mov rfl) ?_
    refine ax_q (q_mov rfl) ?_
    refine ax_q (q_mov rfl) ?_
    refine ax_q (q_ix rfl rfl (mapAt h0x)) ?_
    first | refine ax_q (q_ldN rfl rfl rfl) ?_ | refine ax_q (q_loadN_ip rfl (Nat.le_refl _)) ?_ | refine ax_q (q_loadN_ip rfl (by decide)) ?_ | refine ax_q (q_loadN_rptr rfl rfl (by assumption) (by decide)) ?_ | refine ax_q (q_loadN_rptr rfl rfl (mapAt (by first | assumption | omega)) (by decide)) ?_
    refine ax_callvD rfl (by rw [hP]; exact hb) rfl (vc_pure0 (hf _ (List.getElem_mem h0x)) hP (refs_cons rfl ds) rfl ?_)
    refine ax_nil ?_
    refine cx_keep rfl rfl ?_
    refine cx_cond rfl (fun h1 => ?_) (fun h1 => ?_)
    · skip
      refine cx_seq ?_
      refine cx_ops ?_
      refine ax_q (q_mov rfl) ?_
      refine ax_q (q_mov rfl) ?_
      refine ax_nil ?_
      refine cx_keep rfl rfl ?_
      refine cx_ret (ret0 rfl rfl ?_)
      exact ⟨by rw [idxOf_hit h0x ht h1]; rfl, rfl⟩
    · skip
      refine cx_skip ?_
      refine cx_keep rfl rfl ?_
      refine cx_ops ?_
      refine ax_qe (r' := int ((k + 1 : Nat) : Int)) (q_ibin rfl rfl rfl) (by rw [wi (by omega) (by omega)]; rfl) ?_
      refine ax_q (q_mov rfl) ?_
      refine ax_nil ?_
      exact ⟨_, k + 1, by omega, ⟨by omega, rfl, before_step h0x ht h1⟩, by repeat (first | exact trivial | refine ⟨rfl, ?_⟩ | refine ⟨?_, ?_⟩)⟩
  · have h0 := dF h0
    have h0x : k = xs.length := by omega
    refine cx_exit rfl ?_
    refine cx_keep rfl rfl ?_
    refine cx_seq ?_
    refine cx_ops ?_
    refine ax_q (q_mov rfl) ?_
    refine ax_nil ?_
    refine cx_keep rfl rfl ?_
    refine cx_ret (ret0 rfl rfl ?_)
    exact ⟨by rw [idxOf_none (fun i hi => ht i (by omega))]; rfl, rfl⟩


/- slices.ContainsFunc[[]loop.example/g00332/impl.Wait,loop.example/g00332/impl.Wait] -/
def k_c_ContainsFunc_Wait : XCode :=
  .seq (.ops [.op (some 4) (.mov (.k (.bool false)))])
  (.keep [0, 1] (.seq (.ops [.op (some 5) (.mov (.t 0)),
     .op (some 6) (.mov (.t 1)),
     .call (some 7) 85 [.t 5, .t 6],
     .op (some 8) (.bin .geq (.t 7) (.k (.int .i64 0))),
     .op (some 4) (.mov (.t 8))])
  (.keep [4] (.ret))))
theorem k_c_ContainsFunc_Wait_fits : fitsF Try.prog 58 ⟨9, k_c_ContainsFunc_Wait, [.t 4]⟩ = true := by kernel_rfl
theorem c_ContainsFunc_Wait {xs : List GWait} {f : Nat} {ds : List D} (p : GWait → Bool) (hw : xs.length ≤ 9223372036854775807) (hb : hasBody Try.prog f = true) (hf : ∀ s ∈ xs, Con Try.prog noMv f (s.av :: ds.map AV.d) [] (fun r h => r = bool (p s) ∧ h = [])) : Con Try.prog noMv 58 [.d (.sl 2 (xs.map GWait.row)), .d (.fn (.func f) ds)] [] (fun r h => r = bool (xs.any p) ∧ h = []) := by
  refine con_of2 k_c_ContainsFunc_Wait_fits rfl fun C hP hmv => ?_
  unfold k_c_ContainsFunc_Wait
  refine cx_seq ?_
  refine cx_ops ?_
  refine ax_q (q_mov rfl) ?_
  refine ax_nil ?_
  refine cx_keep rfl rfl ?_
  refine cx_seq ?_
  refine cx_ops ?_
  refine ax_q (q_mov rfl) ?_
  refine ax_q (q_mov rfl) ?_
  refine ax_call rfl (vc_pure0 (c_IndexFunc_Wait p hw hb hf) hP rfl rfl ?_)
  refine ax_qe (r' := bool (xs.any p)) (q_ibin rfl rfl rfl) (congrArg AM.bool any_idxOf) ?_
  refine ax_q (q_mov rfl) ?_
  refine ax_nil ?_
  refine cx_keep rfl rfl ?_
  refine cx_ret (ret0 rfl rfl ?_)
  exact ⟨rfl, rfl⟩


/- loop.example/g00332/impl.LocksOK$2 -/
def k_c_LocksOK2 : XCode :=
  .seq (.ops [.op (some 1) (.box (.t 0)),
     .op (some 2) (.mov (.k (.bool false)))])
  (.keep [1] (.seq (.ops [.op (some 3) (.fadr (.t 1) 0),
     .op (some 4) (.load1 (.t 3)),
     .call (some 5) 29 [.t 4],
     .op (some 6) (.not (.t 5)),
     .op (some 7) (.mov (.t 6)),
     .andor 12 false 4 7 [.op (some 8) (.fadr (.t 1) 1), .op (some 9) (.load1 (.t 8)), .call (some 10) 29 [.t 9], .op (some 11) (.not (.t 10))] (.t 11),
     .op (some 13) (.mov (.t 12)),
     .andor 19 false 10 13 [.op (some 14) (.fadr (.t 1) 0), .op (some 15) (.load1 (.t 14)), .op (some 16) (.fadr (.t 1) 1), .op (some 17) (.load1 (.t 16)), .op (some 18) (.bin .eql (.t 15) (.t 17))] (.t 18),
     .op (some 2) (.mov (.t 19))])
  (.keep [2] (.ret))))
theorem k_c_LocksOK2_fits : fitsF Try.prog 59 ⟨20, k_c_LocksOK2, [.t 2]⟩ = true := by kernel_rfl
theorem c_LocksOK2 {a : GWait} : Con Try.prog noMv 59 [a.av] [] (fun r h => r = bool (badWait a) ∧ h = []) := by
  refine con_of2 k_c_LocksOK2_fits rfl fun C hP hmv => ?_
  unfold k_c_LocksOK2
  refine cx_seq ?_
  refine cx_ops ?_
  refine ax_e (e_box rfl rfl (by decide) rfl rfl rfl) ?_
  refine ax_q (q_mov rfl) ?_
  refine ax_nil ?_
  refine cx_keep rfl rfl ?_
  refine cx_seq ?_
  refine cx_ops ?_
  first | refine ax_q (q_fadr_ptr rfl) ?_ | refine ax_q (q_fadr_rptr rfl) ?_ | refine ax_q (q_fadr_ip rfl) ?_
  first | refine ax_q (q_load1_ptr rfl rfl rfl) ?_ | refine ax_q (q_load1_ip rfl) ?_ | refine ax_q (q_load1_rptr rfl rfl rfl rfl) ?_ | refine ax_q (q_load1_rptr rfl rfl (by assumption) rfl) ?_ | refine ax_q (q_load1_rptr rfl rfl (mapAt (by first | assumption | omega)) rfl) ?_
  first | refine ax_call rfl (vc_pure0 (c_isTx  ) hP rfl rfl ?_) | refine ax_call rfl (vc_lend0 (c_isTx  ) hP (by repeat (first | exact lal_id _ rfl | exact LAL.nil | refine LAL.cons ?_ ?_ | exact la_id _ rfl | exact LA.lend (lend_whole rfl (by first | (simp; done) | (rw [List.length_map]; rfl))) | refine LA.agg ?_ | refine LA.fn ?_ | refine LA.lend ?_ | exact Lend.d _ | exact Lend.zs _ | exact lend_whole rfl (by first | (simp; done) | (rw [List.length_map]; rfl)) | refine Lend.ptr rfl ?_ | refine Lend.fn ?_ | exact LendL.nil | refine LendL.cons ?_ ?_)) rfl rfl ?_)
  refine ax_q (q_not rfl) ?_
  refine ax_q (q_mov rfl) ?_
  apply ax_or rfl rfl
  · intro g
    have g := bF g
    first | refine ax_q (q_fadr_ptr rfl) ?_ | refine ax_q (q_fadr_rptr rfl) ?_ | refine ax_q (q_fadr_ip rfl) ?_
    first | refine ax_q (q_load1_ptr rfl rfl rfl) ?_ | refine ax_q (q_load1_ip rfl) ?_ | refine ax_q (q_load1_rptr rfl rfl rfl rfl) ?_ | refine ax_q (q_load1_rptr rfl rfl (by assumption) rfl) ?_ | refine ax_q (q_load1_rptr rfl rfl (mapAt (by first | assumption | omega)) rfl) ?_
    first | refine ax_call rfl (vc_pure0 (c_isTx  ) hP rfl rfl ?_) | refine ax_call rfl (vc_lend0 (c_isTx  ) hP (by repeat (first | exact lal_id _ rfl | exact LAL.nil | refine LAL.cons ?_ ?_ | exact la_id _ rfl | exact LA.lend (lend_whole rfl (by first | (simp; done) | (rw [List.length_map]; rfl))) | refine LA.agg ?_ | refine LA.fn ?_ | refine LA.lend ?_ | exact Lend.d _ | exact Lend.zs _ | exact lend_whole rfl (by first | (simp; done) | (rw [List.length_map]; rfl)) | refine Lend.ptr rfl ?_ | refine Lend.fn ?_ | exact LendL.nil | refine LendL.cons ?_ ?_)) rfl rfl ?_)
    refine ax_q (q_not rfl) ?_
    exact ax_nil ⟨rfl, by repeat (first | exact trivial | refine ⟨rfl, ?_⟩ | refine ⟨?_, ?_⟩)⟩
  refine ax_q (q_mov rfl) ?_
  apply ax_or rfl rfl
  · intro g
    have g := (fun h => And.intro (bF (or_F h).1) (bF (or_F h).2)) g
    first | refine ax_q (q_fadr_ptr rfl) ?_ | refine ax_q (q_fadr_rptr rfl) ?_ | refine ax_q (q_fadr_ip rfl) ?_
    first | refine ax_q (q_load1_ptr rfl rfl rfl) ?_ | refine ax_q (q_load1_ip rfl) ?_ | refine ax_q (q_load1_rptr rfl rfl rfl rfl) ?_ | refine ax_q (q_load1_rptr rfl rfl (by assumption) rfl) ?_ | refine ax_q (q_load1_rptr rfl rfl (mapAt (by first | assumption | omega)) rfl) ?_
    first | refine ax_q (q_fadr_ptr rfl) ?_ | refine ax_q (q_fadr_rptr rfl) ?_ | refine ax_q (q_fadr_ip rfl) ?_
    first | refine ax_q (q_load1_ptr rfl rfl rfl) ?_ | refine ax_q (q_load1_ip rfl) ?_ | refine ax_q (q_load1_rptr rfl rfl rfl rfl) ?_ | refine ax_q (q_load1_rptr rfl rfl (by assumption) rfl) ?_ | refine ax_q (q_load1_rptr rfl rfl (mapAt (by first | assumption | omega)) rfl) ?_
    refine ax_q (q_ibin rfl rfl rfl) ?_
    exact ax_nil ⟨rfl, by repeat (first | exact trivial | refine ⟨rfl, ?_⟩ | refine ⟨?_, ?_⟩)⟩
  refine ax_q (q_mov rfl) ?_
  refine ax_nil ?_
  refine cx_keep rfl rfl ?_
  refine cx_ret (ret0 rfl rfl ?_)
  exact ⟨rfl, rfl⟩


/- loop.example/g00332/impl.LocksOK -/
def k_c_LocksOK : XCode :=
  .seq (.ops [.op (some 1) (.box (.t 0)),
     .op (some 2) (.mov (.k (.bool false)))])
  (.keep [1] (.seq (.seq (.ops [.op (some 5) (.fadr (.t 1) 0),
      .op (some 6) (.load1 (.t 5)),
      .op (some 7) (.lenS (.t 6)),
      .op (some 8) (.mov (.k (.int .i64 0)))])
   (.keep [1, 6, 7, 8] (.block 0 (.loop (.seq (.ops [.op (some 9) (.bin .lss (.t 8) (.t 7))])
     (.keep [1, 6, 7, 8, 9] (.seq (.cond (.t 9)
       (.skip)
       (.exit 0))
     (.keep [1, 6, 7, 8] (.seq (.block 1 (.seq (.ops [.op (some 10) (.mov (.t 8)),
          .op (some 11) (.iadr 4 (.t 6) (.t 8)),
          .op (some 12) (.loadN 4 (.t 11)),
          .op (some 4) (.alloc [.int .i64 0, .int .i64 0, .int .i64 0, .int .i64 0]),
          .op (some 3) (.mov (.t 10)),
          .op none (.store 4 (.t 4) (.t 12))])
       (.keep [1, 3, 4, 6, 7, 8] (.seq (.ops [.op (some 13) (.loadN 4 (.t 4)),
          .call (some 14) 48 [.t 13],
          .op (some 15) (.not (.t 14)),
          .op (some 16) (.mov (.t 15)),
          .andor 23 false 3 16 [.op (some 17) (.fadr (.t 1) 0), .op (some 18) (.load1 (.t 17)), .op (some 19) (.mov (.t 3)), .op (some 20) (.slc 4 (.t 18) none (some (.t 19)) none), .op (some 21) (.mkfn 56 [.t 4]), .call (some 22) 55 [.t 20, .t 21]] (.t 22)])
       (.keep [1, 6, 7, 8, 23] (.cond (.t 23)
        (.seq (.ops [.op (some 2) (.mov (.k (.bool false)))])
         (.keep [2] (.ret)))
        (.skip)))))))
     (.keep [1, 6, 7, 8] (.ops [.op (some 24) (.bin .add (.t 8) (.k (.int .i64 1))),
       .op (some 8) (.mov (.t 24))])))))))))))
  (.keep [1] (.seq (.ops [.op (some 25) (.fadr (.t 1) 0),
     .op (some 26) (.load1 (.t 25)),
     .op (some 27) (.lenS (.t 26)),
     .op (some 28) (.bin .leq (.t 27) (.k (.int .i64 60))),
     .op (some 29) (.mov (.t 28)),
     .andor 34 true 4 29 [.op (some 30) (.fadr (.t 1) 1), .op (some 31) (.load1 (.t 30)), .op (some 32) (.lenS (.t 31)), .op (some 33) (.bin .leq (.t 32) (.k (.int .i64 100)))] (.t 33),
     .op (some 35) (.mov (.t 34)),
     .andor 40 true 10 35 [.op (some 36) (.fadr (.t 1) 1), .op (some 37) (.load1 (.t 36)), .call (some 38) 58 [.t 37, .f 59], .op (some 39) (.not (.t 38))] (.t 39),
     .op (some 2) (.mov (.t 40))])
  (.keep [2] (.ret))))))
theorem k_c_LocksOK_fits : fitsF Try.prog 24 ⟨41, k_c_LocksOK, [.t 2]⟩ = true := by kernel_rfl
theorem c_LocksOK {l : GLocks} (hw0 : l.Held.length ≤ 1048576) (hw1 : l.Waits.length ≤ 1048576) : Con Try.prog noMv 24 [l.av] [] (fun r h => r = bool (locksOK l) ∧ h = []) := by
  refine con_of2 k_c_LocksOK_fits rfl fun C hP hmv => ?_
  unfold k_c_LocksOK
  refine cx_seq ?_
  refine cx_ops ?_
  refine ax_e (e_box rfl rfl (by decide) rfl rfl rfl) ?_
  refine ax_q (q_mov rfl) ?_
  refine ax_nil ?_
  refine cx_keep rfl rfl ?_
  refine cx_seq ?_
  refine cx_seq ?_
  refine cx_ops ?_
  first | refine ax_q (q_fadr_ptr rfl) ?_ | refine ax_q (q_fadr_rptr rfl) ?_ | refine ax_q (q_fadr_ip rfl) ?_
  first | refine ax_q (q_load1_ptr rfl rfl rfl) ?_ | refine ax_q (q_load1_ip rfl) ?_ | refine ax_q (q_load1_rptr rfl rfl rfl rfl) ?_ | refine ax_q (q_load1_rptr rfl rfl (by assumption) rfl) ?_ | refine ax_q (q_load1_rptr rfl rfl (mapAt (by first | assumption | omega)) rfl) ?_
  first | refine ax_q (q_lenS_map rfl) ?_ | refine ax_q (q_lenS_osl rfl) ?_ | refine ax_q (q_lenS_zs rfl) ?_ | refine ax_q (q_lenS rfl) ?_
  refine ax_q (q_mov rfl) ?_
  refine ax_nil ?_
  refine cx_keep rfl rfl ?_
  refine cx_block ?_
  refine cx_loopU (fun n k => k ≤ l.Held.length ∧ n = l.Held.length - k ∧ allIx (okAt l.Held) k = true) (fun k : Nat => [(8, int k)]) (fun _ => [(1, .box [.d (.sl 4 (l.Held.map GLock.row)), .d (.sl 2 (l.Waits.map GWait.row))])]) ⟨_, 0, ⟨Nat.zero_le _, rfl, rfl⟩, by repeat (first | exact trivial | refine ⟨rfl, ?_⟩ | refine ⟨?_, ?_⟩)⟩ ?_
  rintro n k ⟨hk, rfl, ht⟩
  refine cx_seq ?_
  refine cx_ops ?_
  refine ax_q (q_ibin rfl rfl rfl) ?_
  refine ax_nil ?_
  refine cx_keep rfl rfl ?_
  refine cx_seq ?_
  refine cx_cond rfl (fun h0 => ?_) (fun h0 => ?_)
  · have h0 := dT h0
    have h0x : k < l.Held.length := by omega
    refine cx_skip ?_
    refine cx_keep rfl rfl ?_
    refine cx_seq ?_
    refine cx_block ?_
    refine cx_seq ?_
    refine cx_ops ?_
    refine ax_q (q_mov rfl) ?_
    refine ax_q (q_ix rfl rfl (mapAt h0x)) ?_
    first | refine ax_q (q_ldN rfl rfl rfl) ?_ | refine ax_q (q_loadN_ip rfl (Nat.le_refl _)) ?_ | refine ax_q (q_loadN_ip rfl (by decide)) ?_ | refine ax_q (q_loadN_rptr rfl rfl (by assumption) (by decide)) ?_ | refine ax_q (q_loadN_rptr rfl rfl (mapAt (by first | assumption | omega)) (by decide)) ?_
    refine ax_e (e_alloc (by decide) rfl rfl) ?_
    refine ax_q (q_mov rfl) ?_
    refine ax_e (e_st rfl rfl rfl rfl rfl rfl rfl) ?_
    refine ax_nil ?_
    refine cx_keep rfl rfl ?_
    refine cx_seq ?_
    refine cx_ops ?_
    first | refine ax_q (q_ldN rfl rfl rfl) ?_ | refine ax_q (q_loadN_ip rfl (Nat.le_refl _)) ?_ | refine ax_q (q_loadN_ip rfl (by decide)) ?_ | refine ax_q (q_loadN_rptr rfl rfl (by assumption) (by decide)) ?_ | refine ax_q (q_loadN_rptr rfl rfl (mapAt (by first | assumption | omega)) (by decide)) ?_
    first | refine ax_call rfl (vc_pure0 (c_lockOK  ) hP rfl rfl ?_) | refine ax_call rfl (vc_lend0 (c_lockOK  ) hP (by repeat (first | exact lal_id _ rfl | exact LAL.nil | refine LAL.cons ?_ ?_ | exact la_id _ rfl | exact LA.lend (lend_whole rfl (by first | (simp; done) | (rw [List.length_map]; rfl))) | refine LA.agg ?_ | refine LA.fn ?_ | refine LA.lend ?_ | exact Lend.d _ | exact Lend.zs _ | exact lend_whole rfl (by first | (simp; done) | (rw [List.length_map]; rfl)) | refine Lend.ptr rfl ?_ | refine Lend.fn ?_ | exact LendL.nil | refine LendL.cons ?_ ?_)) rfl rfl ?_)
    refine ax_q (q_not rfl) ?_
    refine ax_q (q_mov rfl) ?_
    apply ax_or rfl rfl
    · intro g
      have g := bF g
      first | refine ax_q (q_fadr_ptr rfl) ?_ | refine ax_q (q_fadr_rptr rfl) ?_ | refine ax_q (q_fadr_ip rfl) ?_
      first | refine ax_q (q_load1_ptr rfl rfl rfl) ?_ | refine ax_q (q_load1_ip rfl) ?_ | refine ax_q (q_load1_rptr rfl rfl rfl rfl) ?_ | refine ax_q (q_load1_rptr rfl rfl (by assumption) rfl) ?_ | refine ax_q (q_load1_rptr rfl rfl (mapAt (by first | assumption | omega)) rfl) ?_
      refine ax_q (q_mov rfl) ?_
      refine ax_qe (r' := .d (.sl 4 ((l.Held.take k).map GLock.row))) (q_slc rfl rfl rfl (by omega) (by omega) (by simp; omega)) (by simp [List.map_take]) ?_
      refine ax_q (q_mkfn rfl) ?_
      refine ax_call rfl (vc_lend0 (c_ContainsFunc_Lock (xs := l.Held.take k) (ds := [.ip (l.Held[k]).row]) (twice l.Held[k]) (by simp; omega) (by kernel_rfl) (fun s _ => c_LocksOK1)) hP (by repeat (first | exact lal_id _ rfl | exact LAL.nil | refine LAL.cons ?_ ?_ | exact la_id _ rfl | exact LA.lend (lend_whole rfl (by first | (simp; done) | (rw [List.length_map]; rfl))) | refine LA.agg ?_ | refine LA.fn ?_ | refine LA.lend ?_ | exact Lend.d _ | exact Lend.zs _ | exact lend_whole rfl (by first | (simp; done) | (rw [List.length_map]; rfl)) | refine Lend.ptr rfl ?_ | refine Lend.fn ?_ | exact LendL.nil | refine LendL.cons ?_ ?_)) rfl rfl ?_)
      exact ax_nil ⟨rfl, by repeat (first | exact trivial | refine ⟨rfl, ?_⟩ | refine ⟨?_, ?_⟩)⟩
    refine ax_nil ?_
    refine cx_keep rfl rfl ?_
    refine cx_cond rfl (fun h1 => ?_) (fun h1 => ?_)
    · have h1 := (fun h => (or_T h).imp bT id) h1
      refine cx_seq ?_
      refine cx_ops ?_
      refine ax_q (q_mov rfl) ?_
      refine ax_nil ?_
      refine cx_keep rfl rfl ?_
      refine cx_ret (ret0 rfl rfl ?_)
      exact ⟨by rw [show locksOK l = false from by unfold locksOK; rw [allIx_no h0x (by rw [okAt_get h0x]; rcases h1 with h1 | h1 <;> rw [h1] <;> simp)]; rfl]; rfl, rfl⟩
    · have h1 := (fun h => And.intro (bF (or_F h).1) (id (or_F h).2)) h1
      refine cx_skip ?_
      refine cx_keep rfl rfl ?_
      refine cx_ops ?_
      refine ax_qe (r' := int ((k + 1 : Nat) : Int)) (q_ibin rfl rfl rfl) (by rw [wi (by omega) (by omega)]; rfl) ?_
      refine ax_q (q_mov rfl) ?_
      refine ax_nil ?_
      have h2 : okAt l.Held k = true := by rw [okAt_get h0x, h1.1, h1.2]; rfl
      exact ⟨_, k + 1, by omega, ⟨by omega, rfl, allIx_step ht h2⟩, by repeat (first | exact trivial | refine ⟨rfl, ?_⟩ | refine ⟨?_, ?_⟩)⟩
  · have h0 := dF h0
    have h0x : k = l.Held.length := by omega
    subst h0x
    refine cx_exit rfl ?_
    refine cx_keep rfl rfl ?_
    refine cx_seq ?_
    refine cx_ops ?_
    first | refine ax_q (q_fadr_ptr rfl) ?_ | refine ax_q (q_fadr_rptr rfl) ?_ | refine ax_q (q_fadr_ip rfl) ?_
    first | refine ax_q (q_load1_ptr rfl rfl rfl) ?_ | refine ax_q (q_load1_ip rfl) ?_ | refine ax_q (q_load1_rptr rfl rfl rfl rfl) ?_ | refine ax_q (q_load1_rptr rfl rfl (by assumption) rfl) ?_ | refine ax_q (q_load1_rptr rfl rfl (mapAt (by first | assumption | omega)) rfl) ?_
    first | refine ax_q (q_lenS_map rfl) ?_ | refine ax_q (q_lenS_osl rfl) ?_ | refine ax_q (q_lenS_zs rfl) ?_ | refine ax_q (q_lenS rfl) ?_
    refine ax_q (q_ibin rfl rfl rfl) ?_
    refine ax_q (q_mov rfl) ?_
    apply ax_and rfl rfl
    · intro g
      have g := dT g
      first | refine ax_q (q_fadr_ptr rfl) ?_ | refine ax_q (q_fadr_rptr rfl) ?_ | refine ax_q (q_fadr_ip rfl) ?_
      first | refine ax_q (q_load1_ptr rfl rfl rfl) ?_ | refine ax_q (q_load1_ip rfl) ?_ | refine ax_q (q_load1_rptr rfl rfl rfl rfl) ?_ | refine ax_q (q_load1_rptr rfl rfl (by assumption) rfl) ?_ | refine ax_q (q_load1_rptr rfl rfl (mapAt (by first | assumption | omega)) rfl) ?_
      first | refine ax_q (q_lenS_map rfl) ?_ | refine ax_q (q_lenS_osl rfl) ?_ | refine ax_q (q_lenS_zs rfl) ?_ | refine ax_q (q_lenS rfl) ?_
      refine ax_q (q_ibin rfl rfl rfl) ?_
      exact ax_nil ⟨rfl, by repeat (first | exact trivial | refine ⟨rfl, ?_⟩ | refine ⟨?_, ?_⟩)⟩
    refine ax_q (q_mov rfl) ?_
    apply ax_and rfl rfl
    · intro g
      have g := (fun h => And.intro (dT (and_T h).1) (dT (and_T h).2)) g
      first | refine ax_q (q_fadr_ptr rfl) ?_ | refine ax_q (q_fadr_rptr rfl) ?_ | refine ax_q (q_fadr_ip rfl) ?_
      first | refine ax_q (q_load1_ptr rfl rfl rfl) ?_ | refine ax_q (q_load1_ip rfl) ?_ | refine ax_q (q_load1_rptr rfl rfl rfl rfl) ?_ | refine ax_q (q_load1_rptr rfl rfl (by assumption) rfl) ?_ | refine ax_q (q_load1_rptr rfl rfl (mapAt (by first | assumption | omega)) rfl) ?_
      refine ax_call rfl (vc_lend0 (c_ContainsFunc_Wait (xs := l.Waits) (ds := []) badWait (by omega) (by kernel_rfl) (fun s _ => c_LocksOK2)) hP (by repeat (first | exact lal_id _ rfl | exact LAL.nil | refine LAL.cons ?_ ?_ | exact la_id _ rfl | exact LA.lend (lend_whole rfl (by first | (simp; done) | (rw [List.length_map]; rfl))) | refine LA.agg ?_ | refine LA.fn ?_ | refine LA.lend ?_ | exact Lend.d _ | exact Lend.zs _ | exact lend_whole rfl (by first | (simp; done) | (rw [List.length_map]; rfl)) | refine Lend.ptr rfl ?_ | refine Lend.fn ?_ | exact LendL.nil | refine LendL.cons ?_ ?_)) rfl rfl ?_)
      refine ax_q (q_not rfl) ?_
      exact ax_nil ⟨rfl, by repeat (first | exact trivial | refine ⟨rfl, ?_⟩ | refine ⟨?_, ?_⟩)⟩
    refine ax_q (q_mov rfl) ?_
    refine ax_nil ?_
    refine cx_keep rfl rfl ?_
    refine cx_ret (ret0 rfl rfl ?_)
    exact ⟨by unfold locksOK; rw [ht]; rfl, rfl⟩


/- slices.DeleteFunc[[]loop.example/g00332/impl.Lock,loop.example/g00332/impl.Lock] -/
def k_c_DeleteFunc_Lock : XCode :=
  .seq (.ops [.op (some 4) (.mov (.k (.nils 4)))])
  (.keep [0, 1] (.seq (.ops [.op (some 8) (.mov (.t 0)),
     .op (some 9) (.mov (.t 1)),
     .call (some 10) 71 [.t 8, .t 9],
     .op (some 5) (.mov (.t 10))])
  (.keep [0, 1, 5] (.seq (.seq (.ops [.op (some 11) (.mov (.t 5)),
      .op (some 12) (.bin .eql (.t 11) (.k (.int .i64 (-1))))])
   (.keep [0, 1, 5, 12] (.cond (.t 12)
    (.seq (.ops [.op (some 13) (.mov (.t 0)),
        .op (some 4) (.mov (.t 13))])
     (.keep [4] (.ret)))
    (.skip))))
  (.keep [0, 1, 5] (.seq (.seq (.ops [.op (some 14) (.mov (.t 5)),
      .op (some 15) (.bin .add (.t 14) (.k (.int .i64 1))),
      .op (some 6) (.mov (.t 15))])
   (.keep [0, 1, 5, 6] (.block 0 (.loop (.seq (.seq (.ops [.op (some 16) (.mov (.t 6)),
         .op (some 17) (.mov (.t 0)),
         .op (some 18) (.lenS (.t 17)),
         .op (some 19) (.bin .lss (.t 16) (.t 18))])
      (.keep [0, 1, 5, 6, 19] (.cond (.t 19)
       (.skip)
       (.exit 0))))
     (.keep [0, 1, 5, 6] (.seq (.block 1 (.seq (.ops [.op (some 22) (.mov (.t 0)),
          .op (some 23) (.mov (.t 6)),
          .op (some 24) (.iadr 4 (.t 22) (.t 23)),
          .op (some 25) (.loadN 4 (.t 24)),
          .op (some 7) (.alloc [.int .i64 0, .int .i64 0, .int .i64 0, .int .i64 0]),
          .op none (.store 4 (.t 7) (.t 25))])
       (.keep [0, 1, 5, 6, 7] (.seq (.ops [.op (some 26) (.mov (.t 1)),
          .op (some 27) (.loadN 4 (.t 7)),
          .callv (some 28) (.t 26) [.t 27],
          .op (some 29) (.not (.t 28))])
       (.keep [0, 1, 5, 6, 7, 29] (.cond (.t 29)
        (.seq (.ops [.op (some 30) (.mov (.t 0)),
            .op (some 31) (.mov (.t 5)),
            .op (some 32) (.loadN 4 (.t 7)),
            .op (some 33) (.iadr 4 (.t 30) (.t 31)),
            .op none (.store 4 (.t 33) (.t 32))])
         (.keep [0, 1, 5, 6] (.ops [.op (some 34) (.mov (.t 5)),
           .op (some 35) (.bin .add (.t 34) (.k (.int .i64 1))),
           .op (some 5) (.mov (.t 35))])))
        (.skip)))))))
     (.keep [0, 1, 5, 6] (.ops [.op (some 20) (.mov (.t 6)),
       .op (some 21) (.bin .add (.t 20) (.k (.int .i64 1))),
       .op (some 6) (.mov (.t 21))])))))))))
  (.keep [0, 5] (.seq (.ops [.op (some 36) (.mov (.t 0)),
     .op (some 37) (.mov (.t 5)),
     .op (some 38) (.slc 4 (.t 36) (some (.t 37)) none none),
     .op none (.clr 4 [.int .i64 0, .int .i64 0, .int .i64 0, .int .i64 0] (.t 38))])
  (.keep [0, 5] (.seq (.ops [.op (some 39) (.mov (.t 0)),
     .op (some 40) (.mov (.t 5)),
     .op (some 41) (.slc 4 (.t 39) none (some (.t 40)) none),
     .op (some 4) (.mov (.t 41))])
  (.keep [4] (.ret))))))))))))
theorem k_c_DeleteFunc_Lock_fits : fitsF Try.prog 35 ⟨42, k_c_DeleteFunc_Lock, [.t 4]⟩ = true := by kernel_rfl
theorem c_DeleteFunc_Lock {xs : List GLock} {f : Nat} {ds : List D} (p : GLock → Bool) (hw : xs.length ≤ 1048576) (hb : hasBody Try.prog f = true) (hf : ∀ s ∈ xs, Con Try.prog noMv f (s.av :: ds.map AV.d) [] (fun r h => r = bool (p s) ∧ h = [])) : Con Try.prog noMv 35 [.osl 1000 4 0 xs.length, .d (.fn (.func f) ds)] [(1000, .rows 4 (xs.map GLock.row))] (fun r h => r = .osl 1000 4 0 (xs.filter (fun x => !p x)).length ∧ h = [(1000, .rows 4 ((xs.filter (fun x => !p x)).map GLock.row))]) := by
  refine con_of2 k_c_DeleteFunc_Lock_fits rfl fun C hP hmv => ?_
  unfold k_c_DeleteFunc_Lock
  refine cx_seq ?_
  refine cx_ops ?_
  refine ax_q (q_mov rfl) ?_
  refine ax_nil ?_
  refine cx_keep rfl rfl ?_
  refine cx_seq ?_
  refine cx_ops ?_
  refine ax_q (q_mov rfl) ?_
  refine ax_q (q_mov rfl) ?_
  refine ax_call rfl (vc_lend0 (c_IndexFunc_Lock (xs := xs) p (by omega) hb hf) hP (.cons (.lend (lend_whole rfl (by simp))) (.cons (.d _) .nil)) rfl rfl ?_)
  refine ax_q (q_mov rfl) ?_
  refine ax_nil ?_
  refine cx_keep rfl rfl ?_
  refine cx_seq ?_
  refine cx_seq ?_
  refine cx_ops ?_
  refine ax_q (q_mov rfl) ?_
  refine ax_q (q_ibin rfl rfl rfl) ?_
  refine ax_nil ?_
  refine cx_keep rfl rfl ?_
  refine cx_cond rfl (fun h0 => ?_) (fun h0 => ?_)
  · have h0 := dT h0
    refine cx_seq ?_
    refine cx_ops ?_
    refine ax_q (q_mov rfl) ?_
    refine ax_q (q_mov rfl) ?_
    refine ax_nil ?_
    refine cx_keep rfl rfl ?_
    have e := filter_all (idxOf_neg h0)
    refine cx_ret (retN id [1000] rfl rfl rfl rfl rfl ?_)
    rw [e]
    exact ⟨rfl, rfl⟩
  · have h0 := dF h0
    obtain ⟨i, hi0, hi, hpi, hbi⟩ := idxOf_some h0
    obtain ⟨e1, e2⟩ := strk_first hi hpi hbi
    have e3 : ((xs.take (i + 1)).filter (fun x => !p x)).length = i := by rw [e2, List.length_take]; omega
    rw [hi0]
    refine cx_skip ?_
    refine cx_keep rfl rfl ?_
    refine cx_seq ?_
    refine cx_seq ?_
    refine cx_ops ?_
    refine ax_q (q_mov rfl) ?_
    refine ax_qe (r' := int ((i + 1 : Nat) : Int)) (q_ibin rfl rfl rfl) (by rw [wi (by omega) (by omega)]; rfl) ?_
    refine ax_q (q_mov rfl) ?_
    refine ax_nil ?_
    refine cx_keep rfl rfl ?_
    refine cx_block ?_
    refine cx_loopU (fun n (s : Nat × List GLock) => s.1 ≤ xs.length ∧ n = xs.length - s.1 ∧ ((xs.take s.1).filter (fun x => !p x)).length + s.2.length = s.1 ∧ 0 < s.2.length) (fun s => [(5, int ((xs.take s.1).filter (fun x => !p x)).length), (6, int s.1)]) (fun s => [(1000, .rows 4 ((strk p xs s.1 s.2).map GLock.row))])
      ⟨_, (i + 1, [xs[i]]), ⟨by simp only; omega, rfl, by simp only [e3, List.length_singleton], by simp⟩, by rw [e3, e1]; exact by repeat (first | exact trivial | refine ⟨rfl, ?_⟩ | refine ⟨?_, ?_⟩)⟩ ?_
    rintro n ⟨j, mid⟩ ⟨hj, rfl, hm, hm0⟩
    simp only at hj hm hm0 ⊢
    have hsl := strk_len hm hj
    refine cx_seq ?_
    refine cx_seq ?_
    refine cx_ops ?_
    refine ax_q (q_mov rfl) ?_
    refine ax_q (q_mov rfl) ?_
    first | refine ax_q (q_lenS_map rfl) ?_ | refine ax_q (q_lenS_osl rfl) ?_ | refine ax_q (q_lenS_zs rfl) ?_ | refine ax_q (q_lenS rfl) ?_
    refine ax_q (q_ibin rfl rfl rfl) ?_
    refine ax_nil ?_
    refine cx_keep rfl rfl ?_
    refine cx_cond rfl (fun h1 => ?_) (fun h1 => ?_)
    · have h1 := dT h1
      have h1x : j < xs.length := by omega
      refine cx_skip ?_
      refine cx_keep rfl rfl ?_
      refine cx_seq ?_
      refine cx_block ?_
      refine cx_seq ?_
      refine cx_ops ?_
      refine ax_q (q_mov rfl) ?_
      refine ax_q (q_mov rfl) ?_
      refine ax_q (q_ixo rfl rfl (by omega)) ?_
      refine ax_q (q_loadN_rptr rfl rfl (show ((strk p xs j mid).map GLock.row)[j]? = some (GLock.row xs[j]) from by rw [List.getElem?_map, strk_at hm h1x]; rfl) (by decide)) ?_
      refine ax_e (e_alloc (by decide) rfl rfl) ?_
      refine ax_e (e_st rfl rfl rfl rfl rfl rfl rfl) ?_
      refine ax_nil ?_
      refine cx_keep rfl rfl ?_
      refine cx_seq ?_
      refine cx_ops ?_
      refine ax_q (q_mov rfl) ?_
      first | refine ax_q (q_ldN rfl rfl rfl) ?_ | refine ax_q (q_loadN_ip rfl (Nat.le_refl _)) ?_ | refine ax_q (q_loadN_ip rfl (by decide)) ?_ | refine ax_q (q_loadN_rptr rfl rfl (by assumption) (by decide)) ?_ | refine ax_q (q_loadN_rptr rfl rfl (mapAt (by first | assumption | omega)) (by decide)) ?_
      refine ax_callvD rfl (by rw [hP]; exact hb) rfl (vc_pure0 (hf _ (List.getElem_mem h1x)) hP (refs_cons rfl ds) rfl ?_)
      refine ax_q (q_not rfl) ?_
      refine ax_nil ?_
      refine cx_keep rfl rfl ?_
      refine cx_cond rfl (fun h2 => ?_) (fun h2 => ?_)
      · have h2 := bT h2
        obtain ⟨m, mid, rfl⟩ : ∃ m r, mid = m :: r := ⟨mid.head (by intro h; rw [h] at hm0; simp at hm0), mid.tail, by simp⟩
        have e6 : ((xs.take (j + 1)).filter (fun x => !p x)).length = ((xs.take j).filter (fun x => !p x)).length + 1 := by rw [take_filter_keep h1x h2, List.length_append]; rfl
        have hml : (m :: mid).length = mid.length + 1 := rfl
        have hq : ((xs.take j).filter (fun x => !p x)).length < xs.length := by omega
        have e5 := strk_set (row := GLock.row) (m := m) (mid := mid) h1x h2 rfl
        refine cx_seq ?_
        refine cx_ops ?_
        refine ax_q (q_mov rfl) ?_
        refine ax_q (q_mov rfl) ?_
        first | refine ax_q (q_ldN rfl rfl rfl) ?_ | refine ax_q (q_loadN_ip rfl (Nat.le_refl _)) ?_ | refine ax_q (q_loadN_ip rfl (by decide)) ?_ | refine ax_q (q_loadN_rptr rfl rfl (by assumption) (by decide)) ?_ | refine ax_q (q_loadN_rptr rfl rfl (mapAt (by first | assumption | omega)) (by decide)) ?_
        refine ax_q (q_ixo rfl rfl hq) ?_
        refine ax_e (e_str (q := GLock.row xs[j]) (row := GLock.row (strk p xs j (m :: mid))[((xs.take j).filter (fun x => !p x)).length]) rfl rfl rfl rfl rfl rfl (mapAt (by rw [hsl]; exact hq)) rfl rfl e5) ?_
        refine ax_nil ?_
        refine cx_keep rfl rfl ?_
        refine cx_ops ?_
        refine ax_q (q_mov rfl) ?_
        refine ax_qe (r' := int ((((xs.take j).filter (fun x => !p x)).length + 1 : Nat) : Int)) (q_ibin rfl rfl rfl) (by rw [wi (by omega) (by omega)]; rfl) ?_
        refine ax_q (q_mov rfl) ?_
        refine ax_nil ?_
        refine cx_keep rfl rfl ?_
        refine cx_ops ?_
        refine ax_q (q_mov rfl) ?_
        refine ax_qe (r' := int ((j + 1 : Nat) : Int)) (q_ibin rfl rfl rfl) (by rw [wi (by omega) (by omega)]; rfl) ?_
        refine ax_q (q_mov rfl) ?_
        refine ax_nil ?_
        exact ⟨_, (j + 1, mid ++ [xs[j]]), by simp only; omega, ⟨by simp only; omega, rfl, by simp only [e6, List.length_append, List.length_singleton]; omega, by simp⟩, by simp only [e6]; exact by repeat (first | exact trivial | refine ⟨rfl, ?_⟩ | refine ⟨?_, ?_⟩)⟩
      · have h2 := bF h2
        have e6 : ((xs.take (j + 1)).filter (fun x => !p x)).length = ((xs.take j).filter (fun x => !p x)).length := by rw [take_filter_drop h1x h2]
        have e5 := strk_drop (mid := mid) h1x h2
        rw [e5]
        refine cx_skip ?_
        refine cx_keep rfl rfl ?_
        refine cx_ops ?_
        refine ax_q (q_mov rfl) ?_
        refine ax_qe (r' := int ((j + 1 : Nat) : Int)) (q_ibin rfl rfl rfl) (by rw [wi (by omega) (by omega)]; rfl) ?_
        refine ax_q (q_mov rfl) ?_
        refine ax_nil ?_
        exact ⟨_, (j + 1, mid ++ [xs[j]]), by simp only; omega, ⟨by simp only; omega, rfl, by simp only [e6, List.length_append, List.length_singleton]; omega, by simp⟩, by simp only [e6]; exact by repeat (first | exact trivial | refine ⟨rfl, ?_⟩ | refine ⟨?_, ?_⟩)⟩
    · have h1 := dF h1
      have h1x : j = xs.length := by omega
      subst h1x
      rw [List.take_length] at hm ⊢
      refine cx_exit rfl ?_
      refine cx_keep rfl rfl ?_
      refine cx_seq ?_
      refine cx_ops ?_
      refine ax_q (q_mov rfl) ?_
      refine ax_q (q_mov rfl) ?_
      refine ax_qe (r' := .osl 1000 4 (xs.filter (fun x => !p x)).length (xs.length - (xs.filter (fun x => !p x)).length)) (q_slc_osl rfl rfl rfl (by omega) (by omega) (by omega)) (oslE (by omega) (by omega)) ?_
      refine ax_ee (e_clr (row := [.int .i64 0, .int .i64 0, .int .i64 0, .int .i64 0]) rfl rfl (by rw [List.length_map, hsl]; omega) rfl) rfl ?_
      refine ax_nil ?_
      refine cx_keep rfl rfl ?_
      refine cx_seq ?_
      refine cx_ops ?_
      refine ax_q (q_mov rfl) ?_
      refine ax_q (q_mov rfl) ?_
      refine ax_qe (r' := .osl 1000 4 0 (xs.filter (fun x => !p x)).length) (q_slc_osl rfl rfl rfl (by omega) (by omega) (by omega)) (oslE (by omega) (by omega)) ?_
      refine ax_q (q_mov rfl) ?_
      refine ax_nil ?_
      refine cx_keep rfl rfl ?_
      refine cx_wk (wk_rows 1000 (rs' := (xs.filter (fun x => !p x)).map GLock.row) rfl strk_end) ?_
      refine cx_ret (retN id [1000] rfl rfl rfl rfl rfl ?_)
      exact ⟨rfl, rfl⟩


/- slices.Clone[[]loop.example/g00332/impl.Lock,loop.example/g00332/impl.Lock] -/
def k_c_Clone_Lock : XCode :=
  .seq (.ops [.op (some 2) (.mov (.k (.nils 4)))])
  (.keep [0] (.seq (.seq (.ops [.op (some 3) (.mov (.t 0)),
      .op (some 4) (.eqn false (.t 3))])
   (.keep [0, 4] (.cond (.t 4)
    (.seq (.ops [.op (some 2) (.mov (.k (.nils 4)))])
     (.keep [2] (.ret)))
    (.skip))))
  (.keep [0] (.seq (.ops [.op (some 5) (.bslice 4 []),
     .op (some 6) (.mov (.t 0)),
     .op (some 7) (.app 4 32 [.int .i64 0, .int .i64 0, .int .i64 0, .int .i64 0] (.t 5) (.t 6)),
     .op (some 2) (.mov (.t 7))])
  (.keep [2] (.ret))))))
theorem k_c_Clone_Lock_fits : fitsF Try.prog 36 ⟨8, k_c_Clone_Lock, [.t 2]⟩ = true := by kernel_rfl
theorem c_Clone_Lock {xs : List GLock} (hw : xs.length ≤ 1048576) : Con Try.prog noMv 36 [.d (.sl 4 (xs.map GLock.row))] [] (fun r h => r = .osl 0 4 0 xs.length ∧ h = [(0, .rows 4 (xs.map GLock.row))]) := by
  refine con_of2 k_c_Clone_Lock_fits rfl fun C hP hmv => ?_
  unfold k_c_Clone_Lock
  refine cx_seq ?_
  refine cx_ops ?_
  refine ax_q (q_mov rfl) ?_
  refine ax_nil ?_
  refine cx_keep rfl rfl ?_
  refine cx_seq ?_
  refine cx_seq ?_
  refine cx_ops ?_
  refine ax_q (q_mov rfl) ?_
  refine ax_eqn_sl rfl (fun b hb => ?_)
  refine ax_nil ?_
  refine cx_keep rfl rfl ?_
  refine cx_cond rfl (fun h0 => ?_) (fun h0 => ?_)
  · skip
    refine cx_seq ?_
    refine cx_ops ?_
    refine ax_q (q_mov rfl) ?_
    refine ax_nil ?_
    refine cx_keep rfl rfl ?_
    have hx : xs = [] := List.map_eq_nil_iff.1 (hb h0)
    subst hx
    refine cx_wk (wk_virt 900 4 rfl rfl rfl) ?_
    refine cx_wk (wk_zs 2 900 [] rfl rfl) ?_
    refine cx_ret (retN (fun _ => 0) [900] rfl rfl rfl rfl rfl ?_)
    exact ⟨rfl, rfl⟩
  · skip
    refine cx_skip ?_
    refine cx_keep rfl rfl ?_
    refine cx_seq ?_
    refine cx_ops ?_
    refine ax_e (e_bslice rfl (by decide) rfl rfl) ?_
    refine ax_q (q_mov rfl) ?_
    refine ax_e (e_app_osl rfl rfl (Nat.le_refl _) rfl (src_sl 4 _) (.inl (by decide)) (by simp only [List.length_map, List.length_nil]; omega)) ?_
    refine ax_q (q_mov rfl) ?_
    refine ax_nil ?_
    refine cx_keep rfl rfl ?_
    refine cx_ret (retN (fun _ => 0) [5] rfl rfl rfl rfl rfl ?_)
    exact ⟨by simp [renA, mkRes], by simp [renOs, renO]⟩


/- loop.example/g00332/impl.LocksOfTx$1 -/
def k_c_LocksOfTx1 : XCode :=
  .seq (.ops [.op (some 2) (.box (.t 0)),
     .op (some 3) (.mov (.k (.bool false)))])
  (.keep [1, 2] (.seq (.ops [.op (some 4) (.fadr (.t 2) 0),
     .op (some 5) (.load1 (.t 4)),
     .op (some 6) (.load1 (.t 1)),
     .op (some 7) (.bin .neq (.t 5) (.t 6)),
     .op (some 3) (.mov (.t 7))])
  (.keep [3] (.ret))))
theorem k_c_LocksOfTx1_fits : fitsF Try.prog 37 ⟨8, k_c_LocksOfTx1, [.t 3]⟩ = true := by kernel_rfl
theorem c_LocksOfTx1 {a : GLock} {tx : Int} : Con Try.prog noMv 37 [a.av, .d (.ip [.int .i64 tx])] [] (fun r h => r = bool (!decide (a.Tx = tx)) ∧ h = []) := by
  refine con_of2 k_c_LocksOfTx1_fits rfl fun C hP hmv => ?_
  unfold k_c_LocksOfTx1
  refine cx_seq ?_
  refine cx_ops ?_
  refine ax_e (e_box rfl rfl (by decide) rfl rfl rfl) ?_
  refine ax_q (q_mov rfl) ?_
  refine ax_nil ?_
  refine cx_keep rfl rfl ?_
  refine cx_seq ?_
  refine cx_ops ?_
  first | refine ax_q (q_fadr_ptr rfl) ?_ | refine ax_q (q_fadr_rptr rfl) ?_ | refine ax_q (q_fadr_ip rfl) ?_
  first | refine ax_q (q_load1_ptr rfl rfl rfl) ?_ | refine ax_q (q_load1_ip rfl) ?_ | refine ax_q (q_load1_rptr rfl rfl rfl rfl) ?_ | refine ax_q (q_load1_rptr rfl rfl (by assumption) rfl) ?_ | refine ax_q (q_load1_rptr rfl rfl (mapAt (by first | assumption | omega)) rfl) ?_
  first | refine ax_q (q_load1_ptr rfl rfl rfl) ?_ | refine ax_q (q_load1_ip rfl) ?_ | refine ax_q (q_load1_rptr rfl rfl rfl rfl) ?_ | refine ax_q (q_load1_rptr rfl rfl (by assumption) rfl) ?_ | refine ax_q (q_load1_rptr rfl rfl (mapAt (by first | assumption | omega)) rfl) ?_
  refine ax_q (q_ibin rfl rfl rfl) ?_
  refine ax_q (q_mov rfl) ?_
  refine ax_nil ?_
  refine cx_keep rfl rfl ?_
  refine cx_ret (ret0 rfl rfl ?_)
  exact ⟨rfl, rfl⟩


/- loop.example/g00332/impl.LocksOfTx -/
def k_c_LocksOfTx : XCode :=
  .seq (.ops [.op (some 2) (.box (.t 0)),
     .op (some 3) (.box (.t 1)),
     .op (some 4) (.mov (.k (.nils 4))),
     .op (some 5) (.mov (.k (.int .i64 0)))])
  (.keep [2, 3] (.seq (.block 0 (.seq (.ops [.op (some 7) (.loadN 2 (.t 2)),
       .call (some 8) 24 [.t 7],
       .op (some 9) (.not (.t 8)),
       .op (some 6) (.mov (.t 9))])
    (.keep [2, 3, 6] (.cond (.t 6)
     (.seq (.ops [.op (some 4) (.mov (.k (.nils 4))),
         .op (some 5) (.mov (.k (.int .i64 1)))])
      (.keep [4, 5] (.ret)))
     (.seq (.ops [.op (some 11) (.load1 (.t 3)),
         .call (some 12) 29 [.t 11],
         .op (some 13) (.not (.t 12)),
         .op (some 10) (.mov (.t 13))])
      (.keep [2, 3, 10] (.cond (.t 10)
       (.seq (.ops [.op (some 4) (.mov (.k (.nils 4))),
           .op (some 5) (.mov (.k (.int .i64 4)))])
        (.keep [4, 5] (.ret)))
       (.skip))))))))
  (.keep [2, 3] (.seq (.ops [.op (some 14) (.fadr (.t 2) 0),
     .op (some 15) (.load1 (.t 14)),
     .call (some 16) 36 [.t 15],
     .op (some 17) (.mkfn 37 [.t 3]),
     .call (some 18) 35 [.t 16, .t 17],
     .op (some 4) (.mov (.t 18)),
     .op (some 5) (.mov (.k (.int .i64 0)))])
  (.keep [4, 5] (.ret))))))
theorem k_c_LocksOfTx_fits : fitsF Try.prog 12 ⟨19, k_c_LocksOfTx, [.t 4, .t 5]⟩ = true := by kernel_rfl
theorem c_LocksOfTx {l : GLocks} {tx : Int} (hw0 : l.Held.length ≤ 1048576) (hw1 : l.Waits.length ≤ 1048576) : Con Try.prog noMv 12 [l.av, int tx] [] (fun r h => r = .tup [.osl 0 4 0 (locksOfTx l tx).1.length, int (locksOfTx l tx).2] ∧ h = [(0, .rows 4 ((locksOfTx l tx).1.map GLock.row))]) := by
  refine con_of2 k_c_LocksOfTx_fits rfl fun C hP hmv => ?_
  unfold k_c_LocksOfTx
  refine cx_seq ?_
  refine cx_ops ?_
  refine ax_e (e_box rfl rfl (by decide) rfl rfl rfl) ?_
  refine ax_e (e_box rfl rfl (by decide) rfl rfl rfl) ?_
  refine ax_q (q_mov rfl) ?_
  refine ax_q (q_mov rfl) ?_
  refine ax_nil ?_
  refine cx_keep rfl rfl ?_
  refine cx_seq ?_
  refine cx_block ?_
  refine cx_seq ?_
  refine cx_ops ?_
  first | refine ax_q (q_ldN rfl rfl rfl) ?_ | refine ax_q (q_loadN_ip rfl (Nat.le_refl _)) ?_ | refine ax_q (q_loadN_ip rfl (by decide)) ?_ | refine ax_q (q_loadN_rptr rfl rfl (by assumption) (by decide)) ?_ | refine ax_q (q_loadN_rptr rfl rfl (mapAt (by first | assumption | omega)) (by decide)) ?_
  first | refine ax_call rfl (vc_pure0 (c_LocksOK  ?_ ?_) hP rfl rfl ?_) | refine ax_call rfl (vc_lend0 (c_LocksOK  ?_ ?_) hP (by repeat (first | exact lal_id _ rfl | exact LAL.nil | refine LAL.cons ?_ ?_ | exact la_id _ rfl | exact LA.lend (lend_whole rfl (by first | (simp; done) | (rw [List.length_map]; rfl))) | refine LA.agg ?_ | refine LA.fn ?_ | refine LA.lend ?_ | exact Lend.d _ | exact Lend.zs _ | exact lend_whole rfl (by first | (simp; done) | (rw [List.length_map]; rfl)) | refine Lend.ptr rfl ?_ | refine Lend.fn ?_ | exact LendL.nil | refine LendL.cons ?_ ?_)) rfl rfl ?_)
  · first | assumption | omega | (simp; done) | (simp; omega)
  · first | assumption | omega | (simp; done) | (simp; omega)
  refine ax_q (q_not rfl) ?_
  refine ax_q (q_mov rfl) ?_
  refine ax_nil ?_
  refine cx_keep rfl rfl ?_
  refine cx_cond rfl (fun h0 => ?_) (fun h0 => ?_)
  · have h0 := bT h0
    refine cx_seq ?_
    refine cx_ops ?_
    refine ax_q (q_mov rfl) ?_
    refine ax_q (q_mov rfl) ?_
    refine ax_nil ?_
    refine cx_keep rfl rfl ?_
    refine cx_wk (wk_virt 900 4 rfl rfl rfl) ?_
    refine cx_wk (wk_zs 4 900 [] rfl rfl) ?_
    refine cx_ret (retN (fun _ => 0) [900] rfl rfl rfl rfl rfl ?_)
    rw [locksOfTx_1 h0]; exact ⟨rfl, rfl⟩
  · have h0 := bF h0
    refine cx_seq ?_
    refine cx_ops ?_
    first | refine ax_q (q_load1_ptr rfl rfl rfl) ?_ | refine ax_q (q_load1_ip rfl) ?_ | refine ax_q (q_load1_rptr rfl rfl rfl rfl) ?_ | refine ax_q (q_load1_rptr rfl rfl (by assumption) rfl) ?_ | refine ax_q (q_load1_rptr rfl rfl (mapAt (by first | assumption | omega)) rfl) ?_
    first | refine ax_call rfl (vc_pure0 (c_isTx  ) hP rfl rfl ?_) | refine ax_call rfl (vc_lend0 (c_isTx  ) hP (by repeat (first | exact lal_id _ rfl | exact LAL.nil | refine LAL.cons ?_ ?_ | exact la_id _ rfl | exact LA.lend (lend_whole rfl (by first | (simp; done) | (rw [List.length_map]; rfl))) | refine LA.agg ?_ | refine LA.fn ?_ | refine LA.lend ?_ | exact Lend.d _ | exact Lend.zs _ | exact lend_whole rfl (by first | (simp; done) | (rw [List.length_map]; rfl)) | refine Lend.ptr rfl ?_ | refine Lend.fn ?_ | exact LendL.nil | refine LendL.cons ?_ ?_)) rfl rfl ?_)
    refine ax_q (q_not rfl) ?_
    refine ax_q (q_mov rfl) ?_
    refine ax_nil ?_
    refine cx_keep rfl rfl ?_
    refine cx_cond rfl (fun h1 => ?_) (fun h1 => ?_)
    · have h1 := bT h1
      refine cx_seq ?_
      refine cx_ops ?_
      refine ax_q (q_mov rfl) ?_
      refine ax_q (q_mov rfl) ?_
      refine ax_nil ?_
      refine cx_keep rfl rfl ?_
      refine cx_wk (wk_virt 900 4 rfl rfl rfl) ?_
      refine cx_wk (wk_zs 4 900 [] rfl rfl) ?_
      refine cx_ret (retN (fun _ => 0) [900] rfl rfl rfl rfl rfl ?_)
      rw [locksOfTx_2 h0 h1]; exact ⟨rfl, rfl⟩
    · have h1 := bF h1
      refine cx_skip ?_
      refine cx_keep rfl rfl ?_
      refine cx_seq ?_
      refine cx_ops ?_
      first | refine ax_q (q_fadr_ptr rfl) ?_ | refine ax_q (q_fadr_rptr rfl) ?_ | refine ax_q (q_fadr_ip rfl) ?_
      first | refine ax_q (q_load1_ptr rfl rfl rfl) ?_ | refine ax_q (q_load1_ip rfl) ?_ | refine ax_q (q_load1_rptr rfl rfl rfl rfl) ?_ | refine ax_q (q_load1_rptr rfl rfl (by assumption) rfl) ?_ | refine ax_q (q_load1_rptr rfl rfl (mapAt (by first | assumption | omega)) rfl) ?_
      first | refine ax_call rfl (vc_pure (c_Clone_Lock  ?_) hP rfl ?_) | refine ax_call rfl (vc_lend (c_Clone_Lock  ?_) hP (by repeat (first | exact lal_id _ rfl | exact LAL.nil | refine LAL.cons ?_ ?_ | exact la_id _ rfl | exact LA.lend (lend_whole rfl (by first | (simp; done) | (rw [List.length_map]; rfl))) | refine LA.agg ?_ | refine LA.fn ?_ | refine LA.lend ?_ | exact Lend.d _ | exact Lend.zs _ | exact lend_whole rfl (by first | (simp; done) | (rw [List.length_map]; rfl)) | refine Lend.ptr rfl ?_ | refine Lend.fn ?_ | exact LendL.nil | refine LendL.cons ?_ ?_)) ?_)
      · first | assumption | omega | (simp; done) | (simp; omega)
      rintro r h ⟨rfl, rfl⟩
      refine ⟨fun i => 16 + 200 * i, [0], ⟨rfl, rfl, rfl, rfl, rfl, (by first | exact (fun h => absurd h Bool.false_ne_true) | exact (fun _ => ⟨rfl, (noisl_of (by repeat (first | exact trivial | refine ⟨noisl_map (fun _ => rfl), ?_⟩ | refine ⟨?_, ?_⟩)))⟩))⟩, ?_⟩
      skip
      refine ax_q (q_mkfn rfl) ?_
      refine ax_call rfl (vcall_own (c_DeleteFunc_Lock (xs := l.Held) (ds := [.ip [.int .i64 tx]]) (fun x => !decide (x.Tx = tx)) (by omega) (by kernel_rfl) (fun s _ => c_LocksOfTx1)) hP hmv true (fun _ => 16) [1000] ⟨rfl, rfl, rfl, rfl, ⟨rfl, trivial⟩, rfl, rfl, rfl⟩ (.pass rfl rfl (.lend (.lend (.fn (.cons (.ptr rfl (by repeat (first | exact .nil | refine .cons (.d _) ?_))) .nil))) .nil)) ?_)
      rintro r h ⟨rfl, rfl⟩
      refine ⟨fun _ => 16, [], ⟨rfl, rfl, rfl, rfl, (mem1 rfl), rfl, rfl, fun _ => ⟨rfl, noisl_of ⟨noisl_map (fun _ => rfl), trivial⟩⟩⟩, ?_⟩
      refine ax_q (q_mov rfl) ?_
      refine ax_q (q_mov rfl) ?_
      refine ax_nil ?_
      refine cx_keep rfl rfl ?_
      refine cx_ret (retN (fun _ => 0) [16] rfl rfl rfl rfl rfl ?_)
      rw [locksOfTx_3 h0 h1]; exact ⟨rfl, rfl⟩


/- loop.example/g00332/laws.sameLocks -/
def k_c_sameLocks : XCode :=
  .seq (.ops [.op (some 2) (.box (.t 0)),
     .op (some 3) (.box (.t 1)),
     .op (some 4) (.mov (.k (.bool false)))])
  (.keep [2, 3] (.seq (.seq (.ops [.op (some 7) (.fadr (.t 2) 0),
      .op (some 8) (.load1 (.t 7)),
      .op (some 9) (.lenS (.t 8)),
      .op (some 10) (.fadr (.t 3) 0),
      .op (some 11) (.load1 (.t 10)),
      .op (some 12) (.lenS (.t 11)),
      .op (some 13) (.bin .neq (.t 9) (.t 12)),
      .op (some 14) (.mov (.t 13)),
      .andor 22 false 7 14 [.op (some 15) (.fadr (.t 2) 1), .op (some 16) (.load1 (.t 15)), .op (some 17) (.lenS (.t 16)), .op (some 18) (.fadr (.t 3) 1), .op (some 19) (.load1 (.t 18)), .op (some 20) (.lenS (.t 19)), .op (some 21) (.bin .neq (.t 17) (.t 20))] (.t 21)])
   (.keep [2, 3, 22] (.cond (.t 22)
    (.seq (.ops [.op (some 4) (.mov (.k (.bool false)))])
     (.keep [4] (.ret)))
    (.skip))))
  (.keep [2, 3] (.seq (.seq (.ops [.op (some 5) (.mov (.k (.int .i64 0)))])
   (.keep [2, 3, 5] (.block 0 (.loop (.seq (.seq (.ops [.op (some 23) (.mov (.t 5)),
         .op (some 24) (.fadr (.t 2) 0),
         .op (some 25) (.load1 (.t 24)),
         .op (some 26) (.lenS (.t 25)),
         .op (some 27) (.bin .lss (.t 23) (.t 26))])
      (.keep [2, 3, 5, 27] (.cond (.t 27)
       (.skip)
       (.exit 0))))
     (.keep [2, 3, 5] (.seq (.block 1 (.seq (.draw [.op (some 30) (.fadr (.t 2) 0),
          .op (some 31) (.load1 (.t 30)),
          .op (some 32) (.mov (.t 5)),
          .op (some 33) (.iadr 4 (.t 31) (.t 32)),
          .op (some 34) (.loadN 4 (.t 33)),
          .op (some 35) (.fadr (.t 3) 0),
          .op (some 36) (.load1 (.t 35)),
          .op (some 37) (.mov (.t 5)),
          .op (some 38) (.iadr 4 (.t 36) (.t 37)),
          .op (some 39) (.loadN 4 (.t 38)),
          .op (some 40) (.eqs true [0, 0, 0, 0] (.t 34) (.t 39))])
       (.keep [2, 3, 5, 40] (.cond (.t 40)
        (.seq (.ops [.op (some 4) (.mov (.k (.bool false)))])
         (.keep [4] (.ret)))
        (.skip)))))
     (.keep [2, 3, 5] (.ops [.op (some 28) (.mov (.t 5)),
       .op (some 29) (.bin .add (.t 28) (.k (.int .i64 1))),
       .op (some 5) (.mov (.t 29))])))))))))
  (.keep [2, 3] (.seq (.seq (.ops [.op (some 6) (.mov (.k (.int .i64 0)))])
   (.keep [2, 3, 6] (.block 2 (.loop (.seq (.seq (.ops [.op (some 41) (.mov (.t 6)),
         .op (some 42) (.fadr (.t 2) 1),
         .op (some 43) (.load1 (.t 42)),
         .op (some 44) (.lenS (.t 43)),
         .op (some 45) (.bin .lss (.t 41) (.t 44))])
      (.keep [2, 3, 6, 45] (.cond (.t 45)
       (.skip)
       (.exit 2))))
     (.keep [2, 3, 6] (.seq (.block 3 (.seq (.draw [.op (some 48) (.fadr (.t 2) 1),
          .op (some 49) (.load1 (.t 48)),
          .op (some 50) (.mov (.t 6)),
          .op (some 51) (.iadr 2 (.t 49) (.t 50)),
          .op (some 52) (.loadN 2 (.t 51)),
          .op (some 53) (.fadr (.t 3) 1),
          .op (some 54) (.load1 (.t 53)),
          .op (some 55) (.mov (.t 6)),
          .op (some 56) (.iadr 2 (.t 54) (.t 55)),
          .op (some 57) (.loadN 2 (.t 56)),
          .op (some 58) (.eqs true [0, 0] (.t 52) (.t 57))])
       (.keep [2, 3, 6, 58] (.cond (.t 58)
        (.seq (.ops [.op (some 4) (.mov (.k (.bool false)))])
         (.keep [4] (.ret)))
        (.skip)))))
     (.keep [2, 3, 6] (.ops [.op (some 46) (.mov (.t 6)),
       .op (some 47) (.bin .add (.t 46) (.k (.int .i64 1))),
       .op (some 6) (.mov (.t 47))])))))))))
  (.keep [] (.seq (.ops [.op (some 4) (.mov (.k (.bool true)))])
  (.keep [4] (.ret))))))))))
theorem k_c_sameLocks_fits : fitsF Try.prog 13 ⟨59, k_c_sameLocks, [.t 4]⟩ = true := by kernel_rfl
theorem c_sameLocks {a b : GLocks} (hw0 : a.Held.length ≤ 1048577) (hw1 : a.Waits.length ≤ 2097152) : Con Try.prog noMv 13 [a.av, b.av] [] (fun r h => r = bool (eqb a b) ∧ h = []) := by
  refine con_of2 k_c_sameLocks_fits rfl fun C hP hmv => ?_
  unfold k_c_sameLocks
  refine cx_seq ?_
  refine cx_ops ?_
  refine ax_e (e_box rfl rfl (by decide) rfl rfl rfl) ?_
  refine ax_e (e_box rfl rfl (by decide) rfl rfl rfl) ?_
  refine ax_q (q_mov rfl) ?_
  refine ax_nil ?_
  refine cx_keep rfl rfl ?_
  refine cx_seq ?_
  refine cx_seq ?_
  refine cx_ops ?_
  first | refine ax_q (q_fadr_ptr rfl) ?_ | refine ax_q (q_fadr_rptr rfl) ?_ | refine ax_q (q_fadr_ip rfl) ?_
  first | refine ax_q (q_load1_ptr rfl rfl rfl) ?_ | refine ax_q (q_load1_ip rfl) ?_ | refine ax_q (q_load1_rptr rfl rfl rfl rfl) ?_ | refine ax_q (q_load1_rptr rfl rfl (by assumption) rfl) ?_ | refine ax_q (q_load1_rptr rfl rfl (mapAt (by first | assumption | omega)) rfl) ?_
  first | refine ax_q (q_lenS_map rfl) ?_ | refine ax_q (q_lenS_osl rfl) ?_ | refine ax_q (q_lenS_zs rfl) ?_ | refine ax_q (q_lenS rfl) ?_
  first | refine ax_q (q_fadr_ptr rfl) ?_ | refine ax_q (q_fadr_rptr rfl) ?_ | refine ax_q (q_fadr_ip rfl) ?_
  first | refine ax_q (q_load1_ptr rfl rfl rfl) ?_ | refine ax_q (q_load1_ip rfl) ?_ | refine ax_q (q_load1_rptr rfl rfl rfl rfl) ?_ | refine ax_q (q_load1_rptr rfl rfl (by assumption) rfl) ?_ | refine ax_q (q_load1_rptr rfl rfl (mapAt (by first | assumption | omega)) rfl) ?_
  first | refine ax_q (q_lenS_map rfl) ?_ | refine ax_q (q_lenS_osl rfl) ?_ | refine ax_q (q_lenS_zs rfl) ?_ | refine ax_q (q_lenS rfl) ?_
  refine ax_q (q_ibin rfl rfl rfl) ?_
  refine ax_q (q_mov rfl) ?_
  apply ax_or rfl rfl
  · intro g
    have g := nF g
    first | refine ax_q (q_fadr_ptr rfl) ?_ | refine ax_q (q_fadr_rptr rfl) ?_ | refine ax_q (q_fadr_ip rfl) ?_
    first | refine ax_q (q_load1_ptr rfl rfl rfl) ?_ | refine ax_q (q_load1_ip rfl) ?_ | refine ax_q (q_load1_rptr rfl rfl rfl rfl) ?_ | refine ax_q (q_load1_rptr rfl rfl (by assumption) rfl) ?_ | refine ax_q (q_load1_rptr rfl rfl (mapAt (by first | assumption | omega)) rfl) ?_
    first | refine ax_q (q_lenS_map rfl) ?_ | refine ax_q (q_lenS_osl rfl) ?_ | refine ax_q (q_lenS_zs rfl) ?_ | refine ax_q (q_lenS rfl) ?_
    first | refine ax_q (q_fadr_ptr rfl) ?_ | refine ax_q (q_fadr_rptr rfl) ?_ | refine ax_q (q_fadr_ip rfl) ?_
    first | refine ax_q (q_load1_ptr rfl rfl rfl) ?_ | refine ax_q (q_load1_ip rfl) ?_ | refine ax_q (q_load1_rptr rfl rfl rfl rfl) ?_ | refine ax_q (q_load1_rptr rfl rfl (by assumption) rfl) ?_ | refine ax_q (q_load1_rptr rfl rfl (mapAt (by first | assumption | omega)) rfl) ?_
    first | refine ax_q (q_lenS_map rfl) ?_ | refine ax_q (q_lenS_osl rfl) ?_ | refine ax_q (q_lenS_zs rfl) ?_ | refine ax_q (q_lenS rfl) ?_
    refine ax_q (q_ibin rfl rfl rfl) ?_
    exact ax_nil ⟨rfl, by repeat (first | exact trivial | refine ⟨rfl, ?_⟩ | refine ⟨?_, ?_⟩)⟩
  refine ax_nil ?_
  refine cx_keep rfl rfl ?_
  refine cx_cond rfl (fun h0 => ?_) (fun h0 => ?_)
  · have h0 := (fun h => (or_T h).imp nT nT) h0
    refine cx_seq ?_
    refine cx_ops ?_
    refine ax_q (q_mov rfl) ?_
    refine ax_nil ?_
    refine cx_keep rfl rfl ?_
    refine cx_ret (ret0 rfl rfl ?_)
    exact ⟨congrArg AM.bool (eqb_f (fun h => by subst h; rcases h0 with h0 | h0 <;> exact h0 rfl)).symm, rfl⟩
  · have h0 := (fun h => And.intro (nF (or_F h).1) (nF (or_F h).2)) h0
    have hl0 : a.Held.length = b.Held.length := by omega
    have hl1 : a.Waits.length = b.Waits.length := by omega
    refine cx_skip ?_
    refine cx_keep rfl rfl ?_
    refine cx_seq ?_
    refine cx_seq ?_
    refine cx_ops ?_
    refine ax_q (q_mov rfl) ?_
    refine ax_nil ?_
    refine cx_keep rfl rfl ?_
    refine cx_block ?_
    refine cx_loopU (fun n k => k ≤ a.Held.length ∧ n = a.Held.length - k ∧ a.Held.take k = b.Held.take k) (fun k : Nat => [(5, int k)]) (fun _ => [(2, .box [.d (.sl 4 (a.Held.map GLock.row)), .d (.sl 2 (a.Waits.map GWait.row))]), (3, .box [.d (.sl 4 (b.Held.map GLock.row)), .d (.sl 2 (b.Waits.map GWait.row))])]) ⟨_, 0, ⟨Nat.zero_le _, rfl, rfl⟩, by repeat (first | exact trivial | refine ⟨rfl, ?_⟩ | refine ⟨?_, ?_⟩)⟩ ?_
    rintro n k ⟨hk, rfl, ht⟩
    refine cx_seq ?_
    refine cx_seq ?_
    refine cx_ops ?_
    refine ax_q (q_mov rfl) ?_
    first | refine ax_q (q_fadr_ptr rfl) ?_ | refine ax_q (q_fadr_rptr rfl) ?_ | refine ax_q (q_fadr_ip rfl) ?_
    first | refine ax_q (q_load1_ptr rfl rfl rfl) ?_ | refine ax_q (q_load1_ip rfl) ?_ | refine ax_q (q_load1_rptr rfl rfl rfl rfl) ?_ | refine ax_q (q_load1_rptr rfl rfl (by assumption) rfl) ?_ | refine ax_q (q_load1_rptr rfl rfl (mapAt (by first | assumption | omega)) rfl) ?_
    first | refine ax_q (q_lenS_map rfl) ?_ | refine ax_q (q_lenS_osl rfl) ?_ | refine ax_q (q_lenS_zs rfl) ?_ | refine ax_q (q_lenS rfl) ?_
    refine ax_q (q_ibin rfl rfl rfl) ?_
    refine ax_nil ?_
    refine cx_keep rfl rfl ?_
    refine cx_cond rfl (fun h1 => ?_) (fun h1 => ?_)
    · have h1 := dT h1
      have hxx : k < a.Held.length := by omega
      have hxy : k < b.Held.length := by omega
      refine cx_skip ?_
      refine cx_keep rfl rfl ?_
      refine cx_seq ?_
      refine cx_block ?_
      refine cx_seq ?_
      refine cx_draw ?_
      first | refine ax_q (q_fadr_ptr rfl) ?_ | refine ax_q (q_fadr_rptr rfl) ?_ | refine ax_q (q_fadr_ip rfl) ?_
      first | refine ax_q (q_load1_ptr rfl rfl rfl) ?_ | refine ax_q (q_load1_ip rfl) ?_ | refine ax_q (q_load1_rptr rfl rfl rfl rfl) ?_ | refine ax_q (q_load1_rptr rfl rfl (by assumption) rfl) ?_ | refine ax_q (q_load1_rptr rfl rfl (mapAt (by first | assumption | omega)) rfl) ?_
      refine ax_q (q_mov rfl) ?_
      refine ax_q (q_ix rfl rfl (mapAt hxx)) ?_
      first | refine ax_q (q_ldN rfl rfl rfl) ?_ | refine ax_q (q_loadN_ip rfl (Nat.le_refl _)) ?_ | refine ax_q (q_loadN_ip rfl (by decide)) ?_ | refine ax_q (q_loadN_rptr rfl rfl (by assumption) (by decide)) ?_ | refine ax_q (q_loadN_rptr rfl rfl (mapAt (by first | assumption | omega)) (by decide)) ?_
      first | refine ax_q (q_fadr_ptr rfl) ?_ | refine ax_q (q_fadr_rptr rfl) ?_ | refine ax_q (q_fadr_ip rfl) ?_
      first | refine ax_q (q_load1_ptr rfl rfl rfl) ?_ | refine ax_q (q_load1_ip rfl) ?_ | refine ax_q (q_load1_rptr rfl rfl rfl rfl) ?_ | refine ax_q (q_load1_rptr rfl rfl (by assumption) rfl) ?_ | refine ax_q (q_load1_rptr rfl rfl (mapAt (by first | assumption | omega)) rfl) ?_
      refine ax_q (q_mov rfl) ?_
      refine ax_q (q_ix rfl rfl (mapAt hxy)) ?_
      first | refine ax_q (q_ldN rfl rfl rfl) ?_ | refine ax_q (q_loadN_ip rfl (Nat.le_refl _)) ?_ | refine ax_q (q_loadN_ip rfl (by decide)) ?_ | refine ax_q (q_loadN_rptr rfl rfl (by assumption) (by decide)) ?_ | refine ax_q (q_loadN_rptr rfl rfl (mapAt (by first | assumption | omega)) (by decide)) ?_
      first | refine ax_q (GLock.q_eqs rfl rfl) ?_ | refine ax_q (q_eqs rfl rfl rfl) ?_
      refine ax_nil ?_
      refine cx_keep rfl rfl ?_
      refine cx_cond rfl (fun h2 => ?_) (fun h2 => ?_)
      · have h2 := bT h2
        refine cx_seq ?_
        refine cx_ops ?_
        refine ax_q (q_mov rfl) ?_
        refine ax_nil ?_
        refine cx_keep rfl rfl ?_
        refine cx_ret (ret0 rfl rfl ?_)
        exact ⟨congrArg AM.bool (eqb_f (fun h => by subst h; rw [eqb_rfl] at h2; cases h2)).symm, rfl⟩
      · have h2 := bF h2
        refine cx_skip ?_
        refine cx_keep rfl rfl ?_
        refine cx_ops ?_
        refine ax_q (q_mov rfl) ?_
        refine ax_qe (r' := int ((k + 1 : Nat) : Int)) (q_ibin rfl rfl rfl) (by rw [wi (by omega) (by omega)]; rfl) ?_
        refine ax_q (q_mov rfl) ?_
        refine ax_nil ?_
        exact ⟨_, k + 1, by omega, ⟨by omega, rfl, eqbL_step hxx hxy ht h2⟩, by repeat (first | exact trivial | refine ⟨rfl, ?_⟩ | refine ⟨?_, ?_⟩)⟩
    · have h1 := dF h1
      have hH : a.Held = b.Held := eq_of_take hl0 (by rwa [show k = a.Held.length from by omega] at ht)
      refine cx_exit rfl ?_
      refine cx_keep rfl rfl ?_
      refine cx_seq ?_
      refine cx_seq ?_
      refine cx_ops ?_
      refine ax_q (q_mov rfl) ?_
      refine ax_nil ?_
      refine cx_keep rfl rfl ?_
      refine cx_block ?_
      refine cx_loopU (fun n k => k ≤ a.Waits.length ∧ n = a.Waits.length - k ∧ a.Waits.take k = b.Waits.take k) (fun k : Nat => [(6, int k)]) (fun _ => [(2, .box [.d (.sl 4 (a.Held.map GLock.row)), .d (.sl 2 (a.Waits.map GWait.row))]), (3, .box [.d (.sl 4 (b.Held.map GLock.row)), .d (.sl 2 (b.Waits.map GWait.row))])]) ⟨_, 0, ⟨Nat.zero_le _, rfl, rfl⟩, by repeat (first | exact trivial | refine ⟨rfl, ?_⟩ | refine ⟨?_, ?_⟩)⟩ ?_
      rintro n k ⟨hk, rfl, ht⟩
      refine cx_seq ?_
      refine cx_seq ?_
      refine cx_ops ?_
      refine ax_q (q_mov rfl) ?_
      first | refine ax_q (q_fadr_ptr rfl) ?_ | refine ax_q (q_fadr_rptr rfl) ?_ | refine ax_q (q_fadr_ip rfl) ?_
      first | refine ax_q (q_load1_ptr rfl rfl rfl) ?_ | refine ax_q (q_load1_ip rfl) ?_ | refine ax_q (q_load1_rptr rfl rfl rfl rfl) ?_ | refine ax_q (q_load1_rptr rfl rfl (by assumption) rfl) ?_ | refine ax_q (q_load1_rptr rfl rfl (mapAt (by first | assumption | omega)) rfl) ?_
      first | refine ax_q (q_lenS_map rfl) ?_ | refine ax_q (q_lenS_osl rfl) ?_ | refine ax_q (q_lenS_zs rfl) ?_ | refine ax_q (q_lenS rfl) ?_
      refine ax_q (q_ibin rfl rfl rfl) ?_
      refine ax_nil ?_
      refine cx_keep rfl rfl ?_
      refine cx_cond rfl (fun h3 => ?_) (fun h3 => ?_)
      · have h3 := dT h3
        have hxx : k < a.Waits.length := by omega
        have hxy : k < b.Waits.length := by omega
        refine cx_skip ?_
        refine cx_keep rfl rfl ?_
        refine cx_seq ?_
        refine cx_block ?_
        refine cx_seq ?_
        refine cx_draw ?_
        first | refine ax_q (q_fadr_ptr rfl) ?_ | refine ax_q (q_fadr_rptr rfl) ?_ | refine ax_q (q_fadr_ip rfl) ?_
        first | refine ax_q (q_load1_ptr rfl rfl rfl) ?_ | refine ax_q (q_load1_ip rfl) ?_ | refine ax_q (q_load1_rptr rfl rfl rfl rfl) ?_ | refine ax_q (q_load1_rptr rfl rfl (by assumption) rfl) ?_ | refine ax_q (q_load1_rptr rfl rfl (mapAt (by first | assumption | omega)) rfl) ?_
        refine ax_q (q_mov rfl) ?_
        refine ax_q (q_ix rfl rfl (mapAt hxx)) ?_
        first | refine ax_q (q_ldN rfl rfl rfl) ?_ | refine ax_q (q_loadN_ip rfl (Nat.le_refl _)) ?_ | refine ax_q (q_loadN_ip rfl (by decide)) ?_ | refine ax_q (q_loadN_rptr rfl rfl (by assumption) (by decide)) ?_ | refine ax_q (q_loadN_rptr rfl rfl (mapAt (by first | assumption | omega)) (by decide)) ?_
        first | refine ax_q (q_fadr_ptr rfl) ?_ | refine ax_q (q_fadr_rptr rfl) ?_ | refine ax_q (q_fadr_ip rfl) ?_
        first | refine ax_q (q_load1_ptr rfl rfl rfl) ?_ | refine ax_q (q_load1_ip rfl) ?_ | refine ax_q (q_load1_rptr rfl rfl rfl rfl) ?_ | refine ax_q (q_load1_rptr rfl rfl (by assumption) rfl) ?_ | refine ax_q (q_load1_rptr rfl rfl (mapAt (by first | assumption | omega)) rfl) ?_
        refine ax_q (q_mov rfl) ?_
        refine ax_q (q_ix rfl rfl (mapAt hxy)) ?_
        first | refine ax_q (q_ldN rfl rfl rfl) ?_ | refine ax_q (q_loadN_ip rfl (Nat.le_refl _)) ?_ | refine ax_q (q_loadN_ip rfl (by decide)) ?_ | refine ax_q (q_loadN_rptr rfl rfl (by assumption) (by decide)) ?_ | refine ax_q (q_loadN_rptr rfl rfl (mapAt (by first | assumption | omega)) (by decide)) ?_
        first | refine ax_q (GWait.q_eqs rfl rfl) ?_ | refine ax_q (q_eqs rfl rfl rfl) ?_
        refine ax_nil ?_
        refine cx_keep rfl rfl ?_
        refine cx_cond rfl (fun h4 => ?_) (fun h4 => ?_)
        · have h4 := bT h4
          refine cx_seq ?_
          refine cx_ops ?_
          refine ax_q (q_mov rfl) ?_
          refine ax_nil ?_
          refine cx_keep rfl rfl ?_
          refine cx_ret (ret0 rfl rfl ?_)
          exact ⟨congrArg AM.bool (eqb_f (fun h => by subst h; rw [eqb_rfl] at h4; cases h4)).symm, rfl⟩
        · have h4 := bF h4
          refine cx_skip ?_
          refine cx_keep rfl rfl ?_
          refine cx_ops ?_
          refine ax_q (q_mov rfl) ?_
          refine ax_qe (r' := int ((k + 1 : Nat) : Int)) (q_ibin rfl rfl rfl) (by rw [wi (by omega) (by omega)]; rfl) ?_
          refine ax_q (q_mov rfl) ?_
          refine ax_nil ?_
          exact ⟨_, k + 1, by omega, ⟨by omega, rfl, eqbL_step hxx hxy ht h4⟩, by repeat (first | exact trivial | refine ⟨rfl, ?_⟩ | refine ⟨?_, ?_⟩)⟩
      · have h3 := dF h3
        have hW : a.Waits = b.Waits := eq_of_take hl1 (by rwa [show k = a.Waits.length from by omega] at ht)
        refine cx_exit rfl ?_
        refine cx_keep rfl rfl ?_
        refine cx_seq ?_
        refine cx_ops ?_
        refine ax_q (q_mov rfl) ?_
        refine ax_nil ?_
        refine cx_keep rfl rfl ?_
        refine cx_ret (ret0 rfl rfl ?_)
        exact ⟨congrArg AM.bool (eqb_t (GLocks.ext1 hH hW)).symm, rfl⟩


/- slices.Clone[[]loop.example/g00332/impl.Wait,loop.example/g00332/impl.Wait] -/
def k_c_Clone_Wait : XCode :=
  .seq (.ops [.op (some 2) (.mov (.k (.nils 2)))])
  (.keep [0] (.seq (.seq (.ops [.op (some 3) (.mov (.t 0)),
      .op (some 4) (.eqn false (.t 3))])
   (.keep [0, 4] (.cond (.t 4)
    (.seq (.ops [.op (some 2) (.mov (.k (.nils 2)))])
     (.keep [2] (.ret)))
    (.skip))))
  (.keep [0] (.seq (.ops [.op (some 5) (.bslice 2 []),
     .op (some 6) (.mov (.t 0)),
     .op (some 7) (.app 2 16 [.int .i64 0, .int .i64 0] (.t 5) (.t 6)),
     .op (some 2) (.mov (.t 7))])
  (.keep [2] (.ret))))))
theorem k_c_Clone_Wait_fits : fitsF Try.prog 66 ⟨8, k_c_Clone_Wait, [.t 2]⟩ = true := by kernel_rfl
theorem c_Clone_Wait {xs : List GWait} (hw : xs.length ≤ 1048576) : Con Try.prog noMv 66 [.d (.sl 2 (xs.map GWait.row))] [] (fun r h => r = .osl 0 2 0 xs.length ∧ h = [(0, .rows 2 (xs.map GWait.row))]) := by
  refine con_of2 k_c_Clone_Wait_fits rfl fun C hP hmv => ?_
  unfold k_c_Clone_Wait
  refine cx_seq ?_
  refine cx_ops ?_
  refine ax_q (q_mov rfl) ?_
  refine ax_nil ?_
  refine cx_keep rfl rfl ?_
  refine cx_seq ?_
  refine cx_seq ?_
  refine cx_ops ?_
  refine ax_q (q_mov rfl) ?_
  refine ax_eqn_sl rfl (fun b hb => ?_)
  refine ax_nil ?_
  refine cx_keep rfl rfl ?_
  refine cx_cond rfl (fun h0 => ?_) (fun h0 => ?_)
  · skip
    refine cx_seq ?_
    refine cx_ops ?_
    refine ax_q (q_mov rfl) ?_
    refine ax_nil ?_
    refine cx_keep rfl rfl ?_
    have hx : xs = [] := List.map_eq_nil_iff.1 (hb h0)
    subst hx
    refine cx_wk (wk_virt 900 2 rfl rfl rfl) ?_
    refine cx_wk (wk_zs 2 900 [] rfl rfl) ?_
    refine cx_ret (retN (fun _ => 0) [900] rfl rfl rfl rfl rfl ?_)
    exact ⟨rfl, rfl⟩
  · skip
    refine cx_skip ?_
    refine cx_keep rfl rfl ?_
    refine cx_seq ?_
    refine cx_ops ?_
    refine ax_e (e_bslice rfl (by decide) rfl rfl) ?_
    refine ax_q (q_mov rfl) ?_
    refine ax_e (e_app_osl rfl rfl (Nat.le_refl _) rfl (src_sl 2 _) (.inl (by decide)) (by simp only [List.length_map, List.length_nil]; omega)) ?_
    refine ax_q (q_mov rfl) ?_
    refine ax_nil ?_
    refine cx_keep rfl rfl ?_
    refine cx_ret (retN (fun _ => 0) [5] rfl rfl rfl rfl rfl ?_)
    exact ⟨by simp [renA, mkRes], by simp [renOs, renO]⟩

end Go.Proofs.Ytljbgclkdfeegaa
