/- The walks: what each function computes, as a contract without a world (part 1). -/
import Derived.Test.YtiapgkpjnadebaaProg
import Derived.Test.YtiapgkpjnadebaaW0
namespace Go.Proofs.Ytiapgkpjnadebaa
open Go Go.AM
set_option maxRecDepth 10000
set_option linter.unusedVariables false
set_option linter.unusedSimpArgs false
/- (ptr loop.example/g00332/spec.l09Look).walk -/
def k_c_walk_look : XCode :=
 .seq (.ops [.op (some 4) (.mov (.k (.int .i64 0)))])
 (.keep [0, 1] (.seq (.seq (.ops [.op (some 10) (.mov (.t 1)),
   .op (some 11) (.mov (.t 0)),
   .op (some 12) (.nilck (.t 11)),
   .op (some 13) (.fadr (.t 12) 0),
   .op (some 14) (.fadr (.t 13) 1),
   .op (some 15) (.load1 (.t 14)),
   .op (some 16) (.lenS (.t 15)),
   .op (some 17) (.bin .sub (.t 16) (.k (.int .i64 1))),
   .call (some 18) 56 [.t 10, .k (.int .i64 0), .t 17],
   .op (some 19) (.not (.t 18)),
   .op (some 20) (.mov (.t 19)),
   .andor 28 false 10 20 [.op (some 21) (.mov (.t 0)), .op (some 22) (.nilck (.t 21)), .op (some 23) (.fadr (.t 22) 2), .op (some 24) (.load1 (.t 23)), .op (some 25) (.mov (.t 1)), .op (some 26) (.iadr 1 (.t 24) (.t 25)), .op (some 27) (.load1 (.t 26))] (.t 27)])
  (.keep [0, 1, 28] (.cond (.t 28)
  (.seq (.ops [.op (some 29) (.mov (.t 0)),
    .op (some 30) (.nilck (.t 29)),
    .op (some 31) (.fadr (.t 30) 3),
    .op none (.store 1 (.t 31) (.k (.bool false)))])
   (.keep [] (.seq (.ops [.op (some 4) (.mov (.k (.int .i64 0)))])
   (.keep [4] (.ret)))))
  (.skip))))
 (.keep [0, 1] (.seq (.ops [.op (some 32) (.mov (.t 0)),
   .op (some 33) (.nilck (.t 32)),
   .op (some 34) (.fadr (.t 33) 2),
   .op (some 35) (.load1 (.t 34)),
   .op (some 36) (.mov (.t 1)),
   .op (some 37) (.iadr 1 (.t 35) (.t 36)),
   .op none (.store 1 (.t 37) (.k (.bool true)))])
 (.keep [0, 1] (.seq (.ops [.op (some 38) (.mov (.t 0)),
   .op (some 39) (.nilck (.t 38)),
   .op (some 40) (.fadr (.t 39) 0),
   .op (some 41) (.fadr (.t 40) 1),
   .op (some 42) (.load1 (.t 41)),
   .op (some 43) (.mov (.t 1)),
   .op (some 44) (.iadr 3 (.t 42) (.t 43)),
   .op (some 45) (.loadN 3 (.t 44)),
   .op (some 5) (.alloc [.bool false, .nils 1, .nils 1]),
   .op none (.store 3 (.t 5) (.t 45))])
 (.keep [0, 1, 5] (.seq (.seq (.ops [.op (some 46) (.fadr (.t 5) 1),
   .op (some 47) (.load1 (.t 46)),
   .op (some 48) (.lenS (.t 47)),
   .op (some 49) (.bin .gtr (.t 48) (.k (.int .i64 4)))])
  (.keep [0, 1, 5, 49] (.cond (.t 49)
  (.seq (.ops [.op (some 50) (.mov (.t 0)),
    .op (some 51) (.nilck (.t 50)),
    .op (some 52) (.fadr (.t 51) 3),
    .op none (.store 1 (.t 52) (.k (.bool false)))])
   (.keep [] (.seq (.ops [.op (some 4) (.mov (.k (.int .i64 0)))])
   (.keep [4] (.ret)))))
  (.skip))))
 (.keep [0, 1, 5] (.seq (.seq (.ops [.op (some 53) (.fadr (.t 5) 0),
   .op (some 54) (.load1 (.t 53))])
  (.keep [0, 1, 5, 54] (.cond (.t 54)
  (.seq (.seq (.ops [.op (some 55) (.fadr (.t 5) 2),
     .op (some 56) (.load1 (.t 55)),
     .op (some 57) (.lenS (.t 56)),
     .op (some 58) (.bin .gtr (.t 57) (.k (.int .i64 0))),
     .op (some 59) (.mov (.t 58)),
     .andor 73 false 4 59 [.op (some 60) (.fadr (.t 5) 1), .op (some 61) (.load1 (.t 60)), .op (some 62) (.lenS (.t 61)), .op (some 63) (.bin .eql (.t 62) (.k (.int .i64 0))), .op (some 64) (.mov (.t 63)), .andor 72 true 9 64 [.op (some 65) (.mov (.t 1)), .op (some 66) (.mov (.t 0)), .op (some 67) (.nilck (.t 66)), .op (some 68) (.fadr (.t 67) 0), .op (some 69) (.fadr (.t 68) 0), .op (some 70) (.load1 (.t 69)), .op (some 71) (.bin .neq (.t 65) (.t 70))] (.t 71)] (.t 72)])
   (.keep [0, 5, 73] (.cond (.t 73)
    (.ops [.op (some 74) (.mov (.t 0)),
     .op (some 75) (.nilck (.t 74)),
     .op (some 76) (.fadr (.t 75) 3),
     .op none (.store 1 (.t 76) (.k (.bool false)))])
    (.skip))))
   (.keep [0, 5] (.seq (.drawE [[], [], [1], [1, 2], [1, 2, 3], [], [5], [1, 2, 3, 4, 5, 6], [0, 1, 2, 3, 4, 5, 6, 7], [0, 1, 2, 3, 4, 5, 6, 7, 8], [0, 1, 2, 3, 4, 5, 6, 7, 8, 9]] [.op (some 77) (.mov (.t 0)),
    .op (some 78) (.mov (.t 0)),
    .op (some 79) (.nilck (.t 78)),
    .op (some 80) (.fadr (.t 79) 4),
    .op (some 81) (.load1 (.t 80)),
    .op (some 82) (.fadr (.t 5) 1),
    .op (some 83) (.load1 (.t 82)),
    .op (some 84) (.app 1 16 [.str []] (.t 81) (.t 83))]
    [.op (some 85) (.nilck (.t 77)),
    .op (some 86) (.fadr (.t 85) 4),
    .op none (.store 1 (.t 86) (.t 84))])
   (.keep [] (.seq (.ops [.op (some 4) (.mov (.k (.int .i64 1)))])
   (.keep [4] (.ret)))))))
  (.skip))))
 (.keep [0, 5] (.seq (.seq (.ops [.op (some 87) (.fadr (.t 5) 2),
   .op (some 88) (.load1 (.t 87)),
   .op (some 89) (.lenS (.t 88)),
   .op (some 90) (.fadr (.t 5) 1),
   .op (some 91) (.load1 (.t 90)),
   .op (some 92) (.lenS (.t 91)),
   .op (some 93) (.bin .add (.t 92) (.k (.int .i64 1))),
   .op (some 94) (.bin .neq (.t 89) (.t 93)),
   .op (some 95) (.mov (.t 94)),
   .andor 100 false 8 95 [.op (some 96) (.fadr (.t 5) 2), .op (some 97) (.load1 (.t 96)), .op (some 98) (.lenS (.t 97)), .op (some 99) (.bin .lss (.t 98) (.k (.int .i64 2)))] (.t 99)])
  (.keep [0, 5, 100] (.cond (.t 100)
  (.seq (.ops [.op (some 101) (.mov (.t 0)),
    .op (some 102) (.nilck (.t 101)),
    .op (some 103) (.fadr (.t 102) 3),
    .op none (.store 1 (.t 103) (.k (.bool false)))])
   (.keep [] (.seq (.ops [.op (some 4) (.mov (.k (.int .i64 0)))])
   (.keep [4] (.ret)))))
  (.skip))))
 (.keep [0, 5] (.seq (.ops [.op (some 6) (.mov (.k (.int .i64 0)))])
 (.keep [0, 5, 6] (.seq (.seq (.ops [.op (some 7) (.mov (.k (.int .i64 0)))])
  (.keep [0, 5, 6, 7] (.block 0 (.loop (.seq (.seq (.ops [.op (some 104) (.mov (.t 7)),
     .op (some 105) (.fadr (.t 5) 2),
     .op (some 106) (.load1 (.t 105)),
     .op (some 107) (.lenS (.t 106)),
     .op (some 108) (.bin .lss (.t 104) (.t 107)),
     .op (some 109) (.mov (.t 108)),
     .andor 114 true 5 109 [.op (some 110) (.mov (.t 0)), .op (some 111) (.nilck (.t 110)), .op (some 112) (.fadr (.t 111) 3), .op (some 113) (.load1 (.t 112))] (.t 113)])
   (.keep [0, 5, 6, 7, 114] (.cond (.t 114)
    (.skip)
    (.exit 0))))
   (.keep [0, 5, 6, 7] (.seq (.block 1 (.seq (.ops [.op (some 117) (.mov (.t 0)),
     .op (some 118) (.nilck (.t 117)),
     .op (some 119) (.fadr (.t 118) 4),
     .op (some 120) (.load1 (.t 119)),
     .op (some 121) (.lenS (.t 120)),
     .op (some 8) (.mov (.t 121))])
    (.keep [0, 5, 6, 7, 8] (.seq (.ops [.op (some 122) (.mov (.t 0)),
     .op (some 123) (.fadr (.t 5) 2),
     .op (some 124) (.load1 (.t 123)),
     .op (some 125) (.mov (.t 7)),
     .op (some 126) (.iadr 1 (.t 124) (.t 125)),
     .op (some 127) (.load1 (.t 126)),
     .call (some 128) 55 [.t 122, .t 127],
     .op (some 9) (.mov (.t 128))])
    (.keep [0, 5, 6, 7, 8, 9] (.seq (.seq (.draw [.op (some 129) (.mov (.t 7)),
      .op (some 130) (.bin .gtr (.t 129) (.k (.int .i64 0))),
      .op (some 131) (.mov (.t 130)),
      .andor 160 true 2 131 [.op (some 132) (.mov (.t 9)), .op (some 133) (.mov (.t 6)), .op (some 134) (.bin .neq (.t 132) (.t 133)), .op (some 135) (.mov (.t 134)), .andor 143 false 6 135 [.op (some 136) (.mov (.t 8)), .op (some 137) (.mov (.t 0)), .op (some 138) (.nilck (.t 137)), .op (some 139) (.fadr (.t 138) 4), .op (some 140) (.load1 (.t 139)), .op (some 141) (.lenS (.t 140)), .op (some 142) (.bin .eql (.t 136) (.t 141))] (.t 142), .op (some 144) (.mov (.t 143)), .andor 159 false 15 144 [.op (some 145) (.mov (.t 0)), .op (some 146) (.nilck (.t 145)), .op (some 147) (.fadr (.t 146) 4), .op (some 148) (.load1 (.t 147)), .op (some 149) (.mov (.t 8)), .op (some 150) (.iadr 1 (.t 148) (.t 149)), .op (some 151) (.load1 (.t 150)), .op (some 152) (.fadr (.t 5) 1), .op (some 153) (.load1 (.t 152)), .op (some 154) (.mov (.t 7)), .op (some 155) (.bin .sub (.t 154) (.k (.int .i64 1))), .op (some 156) (.iadr 1 (.t 153) (.t 155)), .op (some 157) (.load1 (.t 156)), .op (some 158) (.bin .neq (.t 151) (.t 157))] (.t 158)] (.t 159)])
    (.keep [0, 5, 7, 9, 160] (.cond (.t 160)
     (.ops [.op (some 161) (.mov (.t 0)),
      .op (some 162) (.nilck (.t 161)),
      .op (some 163) (.fadr (.t 162) 3),
      .op none (.store 1 (.t 163) (.k (.bool false)))])
     (.skip))))
    (.keep [0, 5, 7, 9] (.ops [.op (some 164) (.mov (.t 9)),
     .op (some 6) (.mov (.t 164))]))))))))
   (.keep [0, 5, 6, 7] (.ops [.op (some 115) (.mov (.t 7)),
    .op (some 116) (.bin .add (.t 115) (.k (.int .i64 1))),
    .op (some 7) (.mov (.t 116))])))))))))
 (.keep [6] (.seq (.ops [.op (some 165) (.mov (.t 6)),
   .op (some 166) (.bin .add (.t 165) (.k (.int .i64 1))),
   .op (some 4) (.mov (.t 166))])
 (.keep [4] (.ret))))))))))))))))))))
theorem k_c_walk_look_fits : fitsF Try.prog 55 ⟨167, k_c_walk_look, [.t 4]⟩ = true := by kernel_rfl
set_option maxHeartbeats 4000000 in
theorem c_walk_look {t : GTree} {f k d : Nat} {st st' : LK Str} (hn : t.nodes.length ≤ 200) (hh : twalkF t f k st = some (st', d)) : Con Try.prog (fun e => Nat.beq e 1002) 55 [.ptr 1000 0, int k] [(1000, .box [.d (.int .i64 t.root), .d (.sl 3 (t.nodes.map TN.row)), .osl 1001 1 0 st.seen.length, .d (.bool true), .osl 1002 1 0 st.keys.length]), (1001, .rows 1 (st.seen.map boolRow)), (1002, .rows 1 (st.keys.map strRow))] (fun r h => r = int (d : Nat) ∧ h = [(1000, .box [.d (.int .i64 t.root), .d (.sl 3 (t.nodes.map TN.row)), .osl 1001 1 0 st'.seen.length, .d (.bool true), .osl 1002 1 0 st'.keys.length]), (1001, .rows 1 (st'.seen.map boolRow)), (1002, .rows 1 (st'.keys.map strRow))]) := by
 induction f generalizing k d st st' with
 | zero => cases hh
 | succ f ih =>
  refine con_of2 k_c_walk_look_fits rfl fun C hP hmv => ?_
  unfold k_c_walk_look
  obtain ⟨n, N, hdd, hc⟩ := walk_at hh
  have q1 := N.inn
  have q2 := N.sn
  have q3 := N.le
  have q5 := N.ks
  have q6 := N.kd
  refine cx_seq ?_
  refine cx_ops ?_
  refine ax_q (q_mov rfl) ?_
  refine ax_nil ?_
  refine cx_keep rfl rfl ?_
  refine cx_seq ?_
  refine cx_seq ?_
  refine cx_ops ?_
  refine ax_q (q_mov rfl) ?_
  refine ax_q (q_mov rfl) ?_
  first | refine ax_q (q_nilck_ptr rfl) ?_ | refine ax_q (q_nilck_rptr rfl) ?_ | refine ax_q (q_nilck_ip rfl) ?_
  first | refine ax_q (q_fadr_ptr rfl) ?_ | refine ax_q (q_fadr_rptr rfl) ?_ | refine ax_q (q_fadr_ip rfl) ?_
  first | refine ax_q (q_fadr_ptr rfl) ?_ | refine ax_q (q_fadr_rptr rfl) ?_ | refine ax_q (q_fadr_ip rfl) ?_
  first | refine ax_q (q_load1_ptr rfl rfl rfl) ?_ | refine ax_q (q_load1_ip rfl) ?_ | refine ax_q (q_load1_rptr rfl rfl rfl rfl) ?_ | refine ax_q (q_load1_rptr rfl rfl (by assumption) rfl) ?_ | refine ax_q (q_load1_rptr rfl rfl (mapAt (by first | assumption | omega)) rfl) ?_
  first | refine ax_q (q_lenS_map rfl) ?_ | refine ax_q (q_lenS_osl rfl) ?_ | refine ax_q (q_lenS_zs rfl) ?_ | refine ax_q (q_lenS rfl) ?_
  refine ax_q (q_sub rfl rfl (by omega)) ?_
  first | refine ax_call rfl (vc_pure0 (c_l01In  ) hP rfl rfl ?_) | refine ax_call rfl (vc_lend0 (c_l01In  ) hP (by repeat (first | exact lal_id _ rfl | exact LAL.nil | refine LAL.cons ?_ ?_ | exact la_id _ rfl | exact LA.lend (lend_whole rfl (by first | (simp; done) | (rw [List.length_map]; rfl))) | refine LA.agg ?_ | refine LA.fn ?_ | refine LA.lend ?_ | exact Lend.d _ | exact Lend.zs _ | exact lend_whole rfl (by first | (simp; done) | (rw [List.length_map]; rfl)) | refine Lend.ptr rfl ?_ | refine Lend.fn ?_ | exact LendL.nil | refine LendL.cons ?_ ?_)) rfl rfl ?_)
  refine ax_q (q_not rfl) ?_
  refine ax_q (q_mov rfl) ?_
  apply ax_or rfl rfl
  ·
   intro g
   have g := bF g
   refine ax_q (q_mov rfl) ?_
   first | refine ax_q (q_nilck_ptr rfl) ?_ | refine ax_q (q_nilck_rptr rfl) ?_ | refine ax_q (q_nilck_ip rfl) ?_
   first | refine ax_q (q_fadr_ptr rfl) ?_ | refine ax_q (q_fadr_rptr rfl) ?_ | refine ax_q (q_fadr_ip rfl) ?_
   first | refine ax_q (q_load1_ptr rfl rfl rfl) ?_ | refine ax_q (q_load1_ip rfl) ?_ | refine ax_q (q_load1_rptr rfl rfl rfl rfl) ?_ | refine ax_q (q_load1_rptr rfl rfl (by assumption) rfl) ?_ | refine ax_q (q_load1_rptr rfl rfl (mapAt (by first | assumption | omega)) rfl) ?_
   refine ax_q (q_mov rfl) ?_
   refine ax_q (q_ixo rfl rfl q2) ?_
   refine ax_q (q_load1_rptr (r := boolRow (st.seen.getD k true)) rfl rfl (boolD q2) rfl) ?_
   exact ax_nil ⟨rfl, by repeat (first | exact trivial | refine ⟨rfl, ?_⟩ | refine ⟨?_, ?_⟩)⟩
  refine ax_nil ?_
  refine cx_keep rfl rfl ?_
  refine cx_cond rfl (fun h0 => ?_) (fun h0 => ?_)
  ·
   have h0 := (fun h => (or_T h).imp bT id) h0
   exfalso
   rcases h0 with h | h
   ·
    rw [inR_iff.2 (show (0 : Int) ≤ (k : Int) ∧ (k : Int) ≤ (t.nodes.length : Int) - 1 by omega)] at h; cases h
   ·
    rw [N.no] at h; cases h
  ·
   have h0 := (fun h => And.intro (bF (or_F h).1) (id (or_F h).2)) h0
   refine cx_skip ?_
   refine cx_keep rfl rfl ?_
   refine cx_seq ?_
   refine cx_ops ?_
   refine ax_q (q_mov rfl) ?_
   first | refine ax_q (q_nilck_ptr rfl) ?_ | refine ax_q (q_nilck_rptr rfl) ?_ | refine ax_q (q_nilck_ip rfl) ?_
   first | refine ax_q (q_fadr_ptr rfl) ?_ | refine ax_q (q_fadr_rptr rfl) ?_ | refine ax_q (q_fadr_ip rfl) ?_
   first | refine ax_q (q_load1_ptr rfl rfl rfl) ?_ | refine ax_q (q_load1_ip rfl) ?_ | refine ax_q (q_load1_rptr rfl rfl rfl rfl) ?_ | refine ax_q (q_load1_rptr rfl rfl (by assumption) rfl) ?_ | refine ax_q (q_load1_rptr rfl rfl (mapAt (by first | assumption | omega)) rfl) ?_
   refine ax_q (q_mov rfl) ?_
   refine ax_q (q_ixo rfl rfl q2) ?_
   refine ax_e (e_str (rs' := (st.seen.set k true).map boolRow) (row := boolRow (st.seen.getD k true)) (q := boolRow true) rfl rfl rfl rfl rfl rfl (boolD q2) rfl rfl List.map_set.symm) ?_
   refine ax_nil ?_
   refine cx_keep rfl rfl ?_
   refine cx_seq ?_
   refine cx_ops ?_
   refine ax_q (q_mov rfl) ?_
   first | refine ax_q (q_nilck_ptr rfl) ?_ | refine ax_q (q_nilck_rptr rfl) ?_ | refine ax_q (q_nilck_ip rfl) ?_
   first | refine ax_q (q_fadr_ptr rfl) ?_ | refine ax_q (q_fadr_rptr rfl) ?_ | refine ax_q (q_fadr_ip rfl) ?_
   first | refine ax_q (q_fadr_ptr rfl) ?_ | refine ax_q (q_fadr_rptr rfl) ?_ | refine ax_q (q_fadr_ip rfl) ?_
   first | refine ax_q (q_load1_ptr rfl rfl rfl) ?_ | refine ax_q (q_load1_ip rfl) ?_ | refine ax_q (q_load1_rptr rfl rfl rfl rfl) ?_ | refine ax_q (q_load1_rptr rfl rfl (by assumption) rfl) ?_ | refine ax_q (q_load1_rptr rfl rfl (mapAt (by first | assumption | omega)) rfl) ?_
   refine ax_q (q_mov rfl) ?_
   refine ax_q (q_ix rfl rfl (mapO N.at_)) ?_
   first | refine ax_q (q_ldN rfl rfl rfl) ?_ | refine ax_q (q_loadN_ip rfl (Nat.le_refl _)) ?_ | refine ax_q (q_loadN_ip rfl (by decide)) ?_ | refine ax_q (q_loadN_rptr rfl rfl (by assumption) (by decide)) ?_ | refine ax_q (q_loadN_rptr rfl rfl (mapAt (by first | assumption | omega)) (by decide)) ?_
   refine ax_e (e_alloc (by decide) rfl rfl) ?_
   refine ax_e (e_st rfl rfl rfl rfl rfl rfl rfl) ?_
   refine ax_nil ?_
   refine cx_keep rfl rfl ?_
   refine cx_seq ?_
   refine cx_seq ?_
   refine cx_ops ?_
   refine ax_q (q_fadr_ptr rfl) ?_
   refine ax_q (q_load1_ptr rfl rfl rfl) ?_
   first | refine ax_q (q_lenS_map rfl) ?_ | refine ax_q (q_lenS_osl rfl) ?_ | refine ax_q (q_lenS_zs rfl) ?_ | refine ax_q (q_lenS rfl) ?_
   refine ax_q (q_ibin rfl rfl rfl) ?_
   refine ax_nil ?_
   refine cx_keep rfl rfl ?_
   refine cx_cond rfl (fun h1 => ?_) (fun h1 => ?_)
   ·
    have h1 := dT h1
    exfalso; omega
   ·
    have h1 := dF h1
    refine cx_skip ?_
    refine cx_keep rfl rfl ?_
    refine cx_seq ?_
    refine cx_seq ?_
    refine cx_ops ?_
    refine ax_q (q_fadr_ptr rfl) ?_
    refine ax_q (q_load1_ptr rfl rfl rfl) ?_
    refine ax_nil ?_
    refine cx_keep rfl rfl ?_
    refine cx_cond rfl (fun h2 => ?_) (fun h2 => ?_)
    ·
     skip
     obtain ⟨hf, g1, g2, rfl, e⟩ := hc.resolve_right (fun q => by rw [q.1] at h2; cases h2)
     subst e
     refine cx_seq ?_
     refine cx_seq ?_
     refine cx_ops ?_
     refine ax_q (q_fadr_ptr rfl) ?_
     refine ax_q (q_load1_ptr rfl rfl rfl) ?_
     first | refine ax_q (q_lenS_map rfl) ?_ | refine ax_q (q_lenS_osl rfl) ?_ | refine ax_q (q_lenS_zs rfl) ?_ | refine ax_q (q_lenS rfl) ?_
     refine ax_q (q_ibin rfl rfl rfl) ?_
     refine ax_q (q_mov rfl) ?_
     apply ax_or rfl rfl
     ·
      intro g
      have g := dF g
      refine ax_q (q_fadr_ptr rfl) ?_
      refine ax_q (q_load1_ptr rfl rfl rfl) ?_
      first | refine ax_q (q_lenS_map rfl) ?_ | refine ax_q (q_lenS_osl rfl) ?_ | refine ax_q (q_lenS_zs rfl) ?_ | refine ax_q (q_lenS rfl) ?_
      refine ax_q (q_ibin rfl rfl rfl) ?_
      refine ax_q (q_mov rfl) ?_
      apply ax_and rfl rfl
      ·
       intro g
       have g := dT g
       refine ax_q (q_mov rfl) ?_
       refine ax_q (q_mov rfl) ?_
       first | refine ax_q (q_nilck_ptr rfl) ?_ | refine ax_q (q_nilck_rptr rfl) ?_ | refine ax_q (q_nilck_ip rfl) ?_
       first | refine ax_q (q_fadr_ptr rfl) ?_ | refine ax_q (q_fadr_rptr rfl) ?_ | refine ax_q (q_fadr_ip rfl) ?_
       first | refine ax_q (q_fadr_ptr rfl) ?_ | refine ax_q (q_fadr_rptr rfl) ?_ | refine ax_q (q_fadr_ip rfl) ?_
       first | refine ax_q (q_load1_ptr rfl rfl rfl) ?_ | refine ax_q (q_load1_ip rfl) ?_ | refine ax_q (q_load1_rptr rfl rfl rfl rfl) ?_ | refine ax_q (q_load1_rptr rfl rfl (by assumption) rfl) ?_ | refine ax_q (q_load1_rptr rfl rfl (mapAt (by first | assumption | omega)) rfl) ?_
       refine ax_q (q_ibin rfl rfl rfl) ?_
       exact ax_nil ⟨rfl, by repeat (first | exact trivial | refine ⟨rfl, ?_⟩ | refine ⟨?_, ?_⟩)⟩
      exact ax_nil ⟨rfl, by repeat (first | exact trivial | refine ⟨rfl, ?_⟩ | refine ⟨?_, ?_⟩)⟩
     refine ax_nil ?_
     refine cx_keep rfl rfl ?_
     refine cx_cond rfl (fun h3 => ?_) (fun h3 => ?_)
     ·
      skip
      exfalso; rw [wleaf_ok g1 g2] at h3; cases h3
     ·
      skip
      refine cx_skip ?_
      refine cx_keep rfl rfl ?_
      refine cx_seq ?_
      refine cx_drawL 7 84 (Nat.beq 1002) (nrA 1002) [] ([(1002, .rows 1 ((st.keys ++ n.keys).map strRow))]) [[0], [0], [78], [79], [80], [5], [82], [81, 83]] [[1002, 1000], [], [], [], [], [], [], [1002, 1000]] rfl ?_
      first | refine ⟨_, .inr ⟨rfl, _, rfl, .inr ⟨rfl, rfl, .inr rfl, rfl, rfl⟩, loc_q (q_mov rfl)⟩, ?_⟩
      first | refine ⟨_, .inr ⟨rfl, _, rfl, .inl rfl, loc_q (q_mov rfl)⟩, ?_⟩
      first | refine ⟨_, .inr ⟨rfl, _, rfl, .inl rfl, loc_q (q_nilck_ptr rfl)⟩, ?_⟩ | refine ⟨_, .inr ⟨rfl, _, rfl, .inl rfl, loc_q (q_nilck_rptr rfl)⟩, ?_⟩ | refine ⟨_, .inr ⟨rfl, _, rfl, .inl rfl, loc_q (q_nilck_ip rfl)⟩, ?_⟩
      first | refine ⟨_, .inr ⟨rfl, _, rfl, .inl rfl, loc_q (q_fadr_ptr rfl)⟩, ?_⟩ | refine ⟨_, .inr ⟨rfl, _, rfl, .inl rfl, loc_q (q_fadr_rptr rfl)⟩, ?_⟩ | refine ⟨_, .inr ⟨rfl, _, rfl, .inl rfl, loc_q (q_fadr_ip rfl)⟩, ?_⟩
      first | refine ⟨_, .inr ⟨rfl, _, rfl, .inl rfl, loc_q (q_load1_ptr rfl rfl rfl)⟩, ?_⟩ | refine ⟨_, .inr ⟨rfl, _, rfl, .inl rfl, loc_q (q_load1_ip rfl)⟩, ?_⟩ | refine ⟨_, .inr ⟨rfl, _, rfl, .inl rfl, loc_q (q_load1_rptr rfl rfl rfl rfl)⟩, ?_⟩ | refine ⟨_, .inr ⟨rfl, _, rfl, .inl rfl, loc_q (q_load1_rptr rfl rfl (by assumption) rfl)⟩, ?_⟩ | refine ⟨_, .inr ⟨rfl, _, rfl, .inl rfl, loc_q (q_load1_rptr rfl rfl (mapAt (by first | assumption | omega)) rfl)⟩, ?_⟩
      first | refine ⟨_, .inr ⟨rfl, _, rfl, .inl rfl, loc_q (q_fadr_ptr rfl)⟩, ?_⟩
      first | refine ⟨_, .inr ⟨rfl, _, rfl, .inl rfl, loc_q (q_load1_ptr rfl rfl rfl)⟩, ?_⟩
      refine ⟨⟨84, _, []⟩, .inl ⟨rfl, rfl, rfl, locl_app (n' := (st.keys ++ n.keys).length) (rs' := (st.keys ++ n.keys).map strRow) rfl rfl (by simp) rfl (fun _ _ h => src_sl 1 _) (.inr (by rw [hmv]; rfl)) (hbnd (by omega) (by rw [List.length_map]; omega) (by decide)) (by simp) app_all⟩, ?_⟩
      refine ⟨rfl, ?_⟩
      first | refine ax_q (q_nilck_ptr rfl) ?_ | refine ax_q (q_nilck_rptr rfl) ?_ | refine ax_q (q_nilck_ip rfl) ?_
      first | refine ax_q (q_fadr_ptr rfl) ?_ | refine ax_q (q_fadr_rptr rfl) ?_ | refine ax_q (q_fadr_ip rfl) ?_
      refine ax_e (e_st rfl rfl rfl rfl rfl rfl rfl) ?_
      refine ax_nil ?_
      refine cx_keep rfl rfl ?_
      refine cx_seq ?_
      refine cx_ops ?_
      refine ax_q (q_mov rfl) ?_
      refine ax_nil ?_
      refine cx_keep rfl rfl ?_
      refine cx_ret (retN id [1000, 1001, 1002] rfl rfl rfl rfl rfl ?_)
      refine ⟨rfl, ?_⟩
      simp only [List.length_set]
      rfl
    ·
     skip
     obtain ⟨hf, g1, g2, e0, he0, rfl, hks⟩ := hc.resolve_left (fun q => by rw [q.1] at h2; cases h2)
     refine cx_skip ?_
     refine cx_keep rfl rfl ?_
     refine cx_seq ?_
     refine cx_seq ?_
     refine cx_ops ?_
     refine ax_q (q_fadr_ptr rfl) ?_
     refine ax_q (q_load1_ptr rfl rfl rfl) ?_
     first | refine ax_q (q_lenS_map rfl) ?_ | refine ax_q (q_lenS_osl rfl) ?_ | refine ax_q (q_lenS_zs rfl) ?_ | refine ax_q (q_lenS rfl) ?_
     refine ax_q (q_fadr_ptr rfl) ?_
     refine ax_q (q_load1_ptr rfl rfl rfl) ?_
     first | refine ax_q (q_lenS_map rfl) ?_ | refine ax_q (q_lenS_osl rfl) ?_ | refine ax_q (q_lenS_zs rfl) ?_ | refine ax_q (q_lenS rfl) ?_
     refine ax_q (q_add rfl rfl (by omega)) ?_
     refine ax_q (q_ibin rfl rfl rfl) ?_
     refine ax_q (q_mov rfl) ?_
     apply ax_or rfl rfl
     ·
      intro g
      have g := nF g
      refine ax_q (q_fadr_ptr rfl) ?_
      refine ax_q (q_load1_ptr rfl rfl rfl) ?_
      first | refine ax_q (q_lenS_map rfl) ?_ | refine ax_q (q_lenS_osl rfl) ?_ | refine ax_q (q_lenS_zs rfl) ?_ | refine ax_q (q_lenS rfl) ?_
      refine ax_q (q_ibin rfl rfl rfl) ?_
      exact ax_nil ⟨rfl, by repeat (first | exact trivial | refine ⟨rfl, ?_⟩ | refine ⟨?_, ?_⟩)⟩
     refine ax_nil ?_
     refine cx_keep rfl rfl ?_
     refine cx_cond rfl (fun h4 => ?_) (fun h4 => ?_)
     ·
      have h4 := (fun h => (or_T h).imp nT dT) h4
      exfalso; omega
     ·
      have h4 := (fun h => And.intro (nF (or_F h).1) (dF (or_F h).2)) h4
      refine cx_skip ?_
      refine cx_keep rfl rfl ?_
      refine cx_seq ?_
      refine cx_ops ?_
      refine ax_q (q_mov rfl) ?_
      refine ax_nil ?_
      refine cx_keep rfl rfl ?_
      refine cx_seq ?_
      refine cx_seq ?_
      refine cx_ops ?_
      refine ax_q (q_mov rfl) ?_
      refine ax_nil ?_
      refine cx_keep rfl rfl ?_
      refine cx_block ?_
      refine cx_loopU (fun m (p : Nat × Nat × LK Str) => p.1 ≤ n.kids.length ∧ m = n.kids.length - p.1 ∧ p.2.1 ≤ 101 ∧ p.2.2.seen.length = st.seen.length ∧ wkidsF (fun k st => twalkF t f k st) n.keys p.1 (n.kids.drop p.1) p.2.1 p.2.2 = some (st', e0)) (fun p => [(7, int p.1), (6, int p.2.1)]) (fun p => (5, .box [.d (.bool n.leaf), .d (.sl 1 (n.keys.map strRow)), .d (.sl 1 (n.kids.map kidRow))]) :: [(1000, .box [.d (.int .i64 t.root), .d (.sl 3 (t.nodes.map TN.row)), .osl 1001 1 0 p.2.2.seen.length, .d (.bool true), .osl 1002 1 0 p.2.2.keys.length]), (1001, .rows 1 (p.2.2.seen.map boolRow)), (1002, .rows 1 (p.2.2.keys.map strRow))])
       ⟨_, (0, 0, ⟨(st.seen.set k true), st.keys, st.deep⟩), ⟨Nat.zero_le _, rfl, Nat.zero_le _, by simp, hks⟩, by simp only [List.length_set]; exact (by repeat (first | exact trivial | refine ⟨rfl, ?_⟩ | refine ⟨?_, ?_⟩))⟩ ?_
      rintro m ⟨i, e, s⟩ ⟨hi, rfl, he, hsl, hks2⟩
      simp only at hi he hsl hks2 ⊢
      refine cx_seq ?_
      refine cx_seq ?_
      refine cx_ops ?_
      refine ax_q (q_mov rfl) ?_
      refine ax_q (q_fadr_ptr rfl) ?_
      refine ax_q (q_load1_ptr rfl rfl rfl) ?_
      first | refine ax_q (q_lenS_map rfl) ?_ | refine ax_q (q_lenS_osl rfl) ?_ | refine ax_q (q_lenS_zs rfl) ?_ | refine ax_q (q_lenS rfl) ?_
      refine ax_q (q_ibin rfl rfl rfl) ?_
      refine ax_q (q_mov rfl) ?_
      apply ax_and rfl rfl
      ·
       intro g
       have g := dT g
       refine ax_q (q_mov rfl) ?_
       first | refine ax_q (q_nilck_ptr rfl) ?_ | refine ax_q (q_nilck_rptr rfl) ?_ | refine ax_q (q_nilck_ip rfl) ?_
       first | refine ax_q (q_fadr_ptr rfl) ?_ | refine ax_q (q_fadr_rptr rfl) ?_ | refine ax_q (q_fadr_ip rfl) ?_
       first | refine ax_q (q_load1_ptr rfl rfl rfl) ?_ | refine ax_q (q_load1_ip rfl) ?_ | refine ax_q (q_load1_rptr rfl rfl rfl rfl) ?_ | refine ax_q (q_load1_rptr rfl rfl (by assumption) rfl) ?_ | refine ax_q (q_load1_rptr rfl rfl (mapAt (by first | assumption | omega)) rfl) ?_
       exact ax_nil ⟨rfl, by repeat (first | exact trivial | refine ⟨rfl, ?_⟩ | refine ⟨?_, ?_⟩)⟩
      refine ax_nil ?_
      refine cx_keep rfl rfl ?_
      refine cx_cond rfl (fun h5 => ?_) (fun h5 => ?_)
      ·
       have h5 : (decide ((i : Int) < (n.kids.length : Int)) && true) = true := h5
       rw [Bool.and_true] at h5
       have h5 := of_decide_eq_true h5
       have h3x : i < n.kids.length := by omega
       obtain ⟨s2, e2, hr, hk2, hk3⟩ := wkidsF_at h3x hks2
       refine cx_skip ?_
       refine cx_keep rfl rfl ?_
       refine cx_seq ?_
       refine cx_block ?_
       refine cx_seq ?_
       refine cx_ops ?_
       refine ax_q (q_mov rfl) ?_
       first | refine ax_q (q_nilck_ptr rfl) ?_ | refine ax_q (q_nilck_rptr rfl) ?_ | refine ax_q (q_nilck_ip rfl) ?_
       first | refine ax_q (q_fadr_ptr rfl) ?_ | refine ax_q (q_fadr_rptr rfl) ?_ | refine ax_q (q_fadr_ip rfl) ?_
       first | refine ax_q (q_load1_ptr rfl rfl rfl) ?_ | refine ax_q (q_load1_ip rfl) ?_ | refine ax_q (q_load1_rptr rfl rfl rfl rfl) ?_ | refine ax_q (q_load1_rptr rfl rfl (by assumption) rfl) ?_ | refine ax_q (q_load1_rptr rfl rfl (mapAt (by first | assumption | omega)) rfl) ?_
       first | refine ax_q (q_lenS_map rfl) ?_ | refine ax_q (q_lenS_osl rfl) ?_ | refine ax_q (q_lenS_zs rfl) ?_ | refine ax_q (q_lenS rfl) ?_
       refine ax_q (q_mov rfl) ?_
       refine ax_nil ?_
       refine cx_keep rfl rfl ?_
       refine cx_seq ?_
       refine cx_ops ?_
       refine ax_q (q_mov rfl) ?_
       refine ax_q (q_fadr_ptr rfl) ?_
       refine ax_q (q_load1_ptr rfl rfl rfl) ?_
       refine ax_q (q_mov rfl) ?_
       refine ax_q (q_ix rfl rfl (mapAt h3x)) ?_
       first | refine ax_q (q_load1_ptr rfl rfl rfl) ?_ | refine ax_q (q_load1_ip rfl) ?_ | refine ax_q (q_load1_rptr rfl rfl rfl rfl) ?_ | refine ax_q (q_load1_rptr rfl rfl (by assumption) rfl) ?_ | refine ax_q (q_load1_rptr rfl rfl (mapAt (by first | assumption | omega)) rfl) ?_
       refine ax_call rfl (vcall_own (ih hr) hP hmv false (fun e => bif Nat.beq e 1000 then 1000 else bif Nat.beq e 1001 then 1001 else 1002) [1000, 1001, 1002] ⟨rfl, rfl, rfl, rfl, ⟨rfl, rfl, rfl, trivial⟩, rfl, rfl, rfl⟩ (.pass rfl rfl (.pass rfl rfl .nil)) ?_)
       rintro r h ⟨rfl, rfl⟩
       refine ⟨(fun e => bif Nat.beq e 1000 then 1000 else bif Nat.beq e 1001 then 1001 else 1002), [], ⟨rfl, rfl, rfl, rfl, mem3 rfl rfl rfl, rfl, rfl, fun h => absurd h Bool.false_ne_true⟩, ?_⟩
       refine ax_q (q_mov rfl) ?_
       refine ax_nil ?_
       refine cx_keep rfl rfl ?_
       refine cx_seq ?_
       refine cx_seq ?_
       refine cx_draw ?_
       refine ax_q (q_mov rfl) ?_
       refine ax_q (q_ibin rfl rfl rfl) ?_
       refine ax_q (q_mov rfl) ?_
       apply ax_and rfl rfl
       ·
        intro g
        have g := dT g
        refine ax_q (q_mov rfl) ?_
        refine ax_q (q_mov rfl) ?_
        refine ax_q (q_ibin rfl rfl rfl) ?_
        refine ax_q (q_mov rfl) ?_
        apply ax_or rfl rfl
        ·
         intro g
         have g := nF g
         refine ax_q (q_mov rfl) ?_
         refine ax_q (q_mov rfl) ?_
         first | refine ax_q (q_nilck_ptr rfl) ?_ | refine ax_q (q_nilck_rptr rfl) ?_ | refine ax_q (q_nilck_ip rfl) ?_
         first | refine ax_q (q_fadr_ptr rfl) ?_ | refine ax_q (q_fadr_rptr rfl) ?_ | refine ax_q (q_fadr_ip rfl) ?_
         first | refine ax_q (q_load1_ptr rfl rfl rfl) ?_ | refine ax_q (q_load1_ip rfl) ?_ | refine ax_q (q_load1_rptr rfl rfl rfl rfl) ?_ | refine ax_q (q_load1_rptr rfl rfl (by assumption) rfl) ?_ | refine ax_q (q_load1_rptr rfl rfl (mapAt (by first | assumption | omega)) rfl) ?_
         first | refine ax_q (q_lenS_map rfl) ?_ | refine ax_q (q_lenS_osl rfl) ?_ | refine ax_q (q_lenS_zs rfl) ?_ | refine ax_q (q_lenS rfl) ?_
         refine ax_q (q_ibin rfl rfl rfl) ?_
         exact ax_nil ⟨rfl, by repeat (first | exact trivial | refine ⟨rfl, ?_⟩ | refine ⟨?_, ?_⟩)⟩
        refine ax_q (q_mov rfl) ?_
        apply ax_or rfl rfl
        ·
         intro g
         have g := (fun h => And.intro (nF (or_F h).1) (dF (or_F h).2)) g
         refine ax_q (q_mov rfl) ?_
         first | refine ax_q (q_nilck_ptr rfl) ?_ | refine ax_q (q_nilck_rptr rfl) ?_ | refine ax_q (q_nilck_ip rfl) ?_
         first | refine ax_q (q_fadr_ptr rfl) ?_ | refine ax_q (q_fadr_rptr rfl) ?_ | refine ax_q (q_fadr_ip rfl) ?_
         first | refine ax_q (q_load1_ptr rfl rfl rfl) ?_ | refine ax_q (q_load1_ip rfl) ?_ | refine ax_q (q_load1_rptr rfl rfl rfl rfl) ?_ | refine ax_q (q_load1_rptr rfl rfl (by assumption) rfl) ?_ | refine ax_q (q_load1_rptr rfl rfl (mapAt (by first | assumption | omega)) rfl) ?_
         refine ax_q (q_mov rfl) ?_
         refine ax_q (q_ixo rfl rfl (hk2 (by omega)).2.1) ?_
         refine ax_q (q_load1_rptr (r := strRow (s2.keys.getD s.keys.length [])) rfl rfl (strD (hk2 (by omega)).2.1) rfl) ?_
         refine ax_q (q_fadr_ptr rfl) ?_
         refine ax_q (q_load1_ptr rfl rfl rfl) ?_
         refine ax_q (q_mov rfl) ?_
         refine ax_qe (r' := int ((i - 1 : Nat) : Int)) (q_ibin rfl rfl rfl) (by rw [wi (by omega) (by omega)]; exact congrArg AM.int (by omega)) ?_
         refine ax_q (q_ix (row := strRow (n.keys.getD (i - 1) [])) rfl rfl (strD (hk2 (by omega)).2.2.1)) ?_
         first | refine ax_q (q_load1_ptr rfl rfl rfl) ?_ | refine ax_q (q_load1_ip rfl) ?_ | refine ax_q (q_load1_rptr rfl rfl rfl rfl) ?_ | refine ax_q (q_load1_rptr rfl rfl (by assumption) rfl) ?_ | refine ax_q (q_load1_rptr rfl rfl (mapAt (by first | assumption | omega)) rfl) ?_
         refine ax_q (q_sbin rfl rfl rfl) ?_
         exact ax_nil ⟨rfl, by repeat (first | exact trivial | refine ⟨rfl, ?_⟩ | refine ⟨?_, ?_⟩)⟩
        exact ax_nil ⟨rfl, by repeat (first | exact trivial | refine ⟨rfl, ?_⟩ | refine ⟨?_, ?_⟩)⟩
       refine ax_nil ?_
       refine cx_keep rfl rfl ?_
       refine cx_cond rfl (fun h6 => ?_) (fun h6 => ?_)
       ·
        skip
        exfalso
        by_cases hi0 : 0 < i
        ·
         obtain ⟨z1, z2, z3, z4⟩ := hk2 hi0
         rw [z4, decide_eq_true (show (e2 : Int) = (e : Int) by omega), decide_eq_false (show ¬ (s.keys.length : Int) = (s2.keys.length : Int) by omega)] at h6; simp at h6
        ·
         rw [decide_eq_false (show ¬ (0 : Int) < (i : Int) by omega)] at h6; cases h6
       ·
        skip
        refine cx_skip ?_
        refine cx_keep rfl rfl ?_
        refine cx_ops ?_
        refine ax_q (q_mov rfl) ?_
        refine ax_q (q_mov rfl) ?_
        refine ax_nil ?_
        refine cx_keep rfl rfl ?_
        refine cx_ops ?_
        refine ax_q (q_mov rfl) ?_
        refine ax_qe (r' := int ((i + 1 : Nat) : Int)) (q_ibin rfl rfl rfl) (by rw [wi (by omega) (by omega)]; rfl) ?_
        refine ax_q (q_mov rfl) ?_
        refine ax_nil ?_
        exact ⟨_, (i + 1, e2, s2), by simp only; omega, ⟨by simp only; omega, rfl, walk_d hr, by simp only; rw [(walk_mono hr).1]; exact hsl, hk3⟩, by repeat (first | exact trivial | refine ⟨rfl, ?_⟩ | refine ⟨?_, ?_⟩)⟩
      ·
       have h5 : (decide ((i : Int) < (n.kids.length : Int)) && true) = false := h5
       rw [Bool.and_true] at h5
       have h5 := of_decide_eq_false h5
       have h3x : i = n.kids.length := by omega
       have hz := wkidsF_end (by omega) hks2
       rw [Prod.mk.injEq] at hz
       obtain ⟨rfl, rfl⟩ := hz
       refine cx_exit rfl ?_
       refine cx_keep rfl rfl ?_
       refine cx_seq ?_
       refine cx_ops ?_
       refine ax_q (q_mov rfl) ?_
       refine ax_qe (r' := int ((e0 + 1 : Nat) : Int)) (q_ibin rfl rfl rfl) (by rw [wi (by omega) (by omega)]; rfl) ?_
       refine ax_q (q_mov rfl) ?_
       refine ax_nil ?_
       refine cx_keep rfl rfl ?_
       refine cx_ret (retN id [1000, 1001, 1002] rfl rfl rfl rfl rfl ?_)
       exact ⟨rfl, rfl⟩


/- loop.example/g00332/spec.l09Walk -/
def k_c_l09Walk : XCode :=
 .seq (.ops [.op (some 1) (.box (.t 0)),
   .op (some 2) (.mov (.k (.nils 1))),
   .op (some 3) (.mov (.k (.int .i64 0))),
   .op (some 4) (.mov (.k (.bool false)))])
 (.keep [1] (.seq (.seq (.ops [.op (some 9) (.fadr (.t 1) 1),
   .op (some 10) (.load1 (.t 9)),
   .op (some 11) (.lenS (.t 10)),
   .op (some 12) (.bin .gtr (.t 11) (.k (.int .i64 200)))])
  (.keep [1, 12] (.cond (.t 12)
  (.seq (.ops [.op (some 13) (.bslice 1 []),
    .op (some 2) (.mov (.t 13)),
    .op (some 3) (.mov (.k (.int .i64 0))),
    .op (some 4) (.mov (.k (.bool false)))])
   (.keep [2, 3, 4] (.ret)))
  (.skip))))
 (.keep [1] (.seq (.drawE [[], [], [1], [1, 2], [1, 2, 3], [], [0, 1, 2, 3, 4, 5], [0, 1, 2, 3, 4, 5, 6], [0, 1, 2, 3, 4, 5, 6, 7]] [.op (some 14) (.loadN 2 (.t 1)),
   .op (some 15) (.fadr (.t 1) 1),
   .op (some 16) (.load1 (.t 15)),
   .op (some 17) (.lenS (.t 16)),
   .op (some 18) (.mkslice 1 1 [.bool false] (.t 17) (.t 17)),
   .op (some 19) (.bslice 1 [])]
  [.op (some 20) (.build [.int .i64 0, .nils 3, .nils 1, .bool false, .nils 1] [(0, 2, .t 14), (2, 1, .t 18), (3, 1, .k (.bool true)), (4, 1, .t 19)]),
   .op (some 21) (.box (.t 20)),
   .op (some 5) (.mov (.t 21))])
 (.keep [1, 5] (.seq (.ops [.op (some 22) (.mov (.t 5)),
   .op (some 23) (.fadr (.t 1) 0),
   .op (some 24) (.load1 (.t 23)),
   .call (some 25) 55 [.t 22, .t 24],
   .op (some 6) (.mov (.t 25))])
 (.keep [5, 6] (.seq (.seq (.ops [.op (some 7) (.mov (.k (.int .i64 0)))])
  (.keep [5, 6, 7] (.block 0 (.loop (.seq (.seq (.ops [.op (some 26) (.mov (.t 7)),
     .op (some 27) (.mov (.t 5)),
     .op (some 28) (.nilck (.t 27)),
     .op (some 29) (.fadr (.t 28) 2),
     .op (some 30) (.load1 (.t 29)),
     .op (some 31) (.lenS (.t 30)),
     .op (some 32) (.bin .lss (.t 26) (.t 31))])
   (.keep [5, 6, 7, 32] (.cond (.t 32)
    (.skip)
    (.exit 0))))
   (.keep [5, 6, 7] (.seq (.block 1 (.ops [.op (some 35) (.mov (.t 5)),
     .op (some 36) (.mov (.t 5)),
     .op (some 37) (.nilck (.t 36)),
     .op (some 38) (.fadr (.t 37) 3),
     .op (some 39) (.load1 (.t 38)),
     .op (some 40) (.mov (.t 39)),
     .andor 48 true 5 40 [.op (some 41) (.mov (.t 5)), .op (some 42) (.nilck (.t 41)), .op (some 43) (.fadr (.t 42) 2), .op (some 44) (.load1 (.t 43)), .op (some 45) (.mov (.t 7)), .op (some 46) (.iadr 1 (.t 44) (.t 45)), .op (some 47) (.load1 (.t 46))] (.t 47),
     .op (some 49) (.nilck (.t 35)),
     .op (some 50) (.fadr (.t 49) 3),
     .op none (.store 1 (.t 50) (.t 48))]))
   (.keep [5, 6, 7] (.ops [.op (some 33) (.mov (.t 7)),
    .op (some 34) (.bin .add (.t 33) (.k (.int .i64 1))),
    .op (some 7) (.mov (.t 34))])))))))))
 (.keep [5, 6] (.seq (.seq (.ops [.op (some 8) (.mov (.k (.int .i64 0)))])
  (.keep [5, 6, 8] (.block 2 (.loop (.seq (.seq (.ops [.op (some 51) (.mov (.t 8)),
     .op (some 52) (.mov (.t 5)),
     .op (some 53) (.nilck (.t 52)),
     .op (some 54) (.fadr (.t 53) 4),
     .op (some 55) (.load1 (.t 54)),
     .op (some 56) (.lenS (.t 55)),
     .op (some 57) (.bin .lss (.t 51) (.t 56))])
   (.keep [5, 6, 8, 57] (.cond (.t 57)
    (.skip)
    (.exit 2))))
   (.keep [5, 6, 8] (.seq (.block 3 (.drawP [[], [], [1], [1, 2], [1, 2, 3], [1, 2, 3, 4], [1, 2, 3, 4, 5], [1, 2, 3, 4, 5, 6], [1, 2, 3, 4, 5, 6, 7], [1, 2, 3, 4, 5, 6, 7, 8], [1, 2, 3, 4, 5], [1, 2, 3, 4, 5, 6, 7, 8, 9, 10], [1, 2, 3, 4, 5, 6, 7, 8, 9, 10, 11], [1, 2, 3, 4, 5, 6, 7, 8, 9, 10, 11, 12], [1, 2, 3, 4, 5, 6, 7, 8, 9, 10, 11, 12, 13], [1, 2, 3, 4, 5, 6, 7, 8, 9, 10, 11, 12, 13, 14], [1, 2, 3, 4, 5, 6, 7, 8, 9, 10, 11, 12, 13, 14, 15], [1, 2, 3, 4, 5, 6, 7, 8, 9, 10, 11, 12, 13, 14, 15, 16], [1, 2, 3, 4, 5, 6, 7, 8, 9, 10, 11, 12, 13, 14, 15, 16, 17], [1, 2, 3, 4, 5, 6, 7, 8, 9, 10, 11, 12, 13, 14, 15, 16, 17, 18], [1, 2, 3, 4, 5, 6, 7, 8, 9, 10, 11, 12, 13, 14, 15, 16, 17, 18, 19], [1, 2, 3, 4, 5, 6, 7, 8, 9, 10, 11, 12, 13, 14, 15, 16, 17, 18, 19, 20], [1, 2, 3, 4, 5, 6, 7, 8, 9, 10, 11, 12, 13, 14, 15, 16, 17, 18, 19, 20, 21], [1, 2, 3, 4, 5, 6, 7, 8, 9, 10, 11, 12, 13, 14, 15, 16, 17, 18], [1, 2, 3, 4, 5, 6, 7, 8, 9, 10, 11, 12, 13, 14, 15, 16, 17, 18, 23], [1, 2, 3, 4, 5, 6, 7, 8, 9, 10, 11, 12, 13, 14, 15, 16, 17, 18, 19, 20, 21, 22, 23, 24], [1, 2, 3, 4, 5, 6, 7, 8, 9, 10, 11, 12, 13, 14, 15, 16, 17, 18, 19, 20, 21, 22, 23, 24, 25], [1, 2, 3, 4, 5, 6, 7, 8, 9, 10, 11, 12, 13, 14, 15, 16, 17, 18], [1, 2, 3, 4, 5, 6, 7, 8, 9, 10, 11, 12, 13, 14, 15, 16, 17, 18, 27], [1, 2, 3, 4, 5, 6, 7, 8, 9, 10, 11, 12, 13, 14, 15, 16, 17, 18, 27, 28], [1, 2, 3, 4, 5, 6, 7, 8, 9, 10, 11, 12, 13, 14, 15, 16, 17, 18, 27, 28, 29], [1, 2, 3, 4, 5, 6, 7, 8, 9, 10, 11, 12, 13, 14, 15, 16, 17, 18], [1, 2, 3, 4, 5, 6, 7, 8, 9, 10, 11, 12, 13, 14, 15, 16, 17, 18, 27, 28, 29, 30, 31], [1, 2, 3, 4, 5, 6, 7, 8, 9, 10, 11, 12, 13, 14, 15, 16, 17, 18, 27, 28, 29, 30, 31, 32], [1, 2, 3, 4, 5, 6, 7, 8, 9, 10, 11, 12, 13, 14, 15, 16, 17, 18, 19, 20, 21, 22, 23, 24, 25, 26, 27, 28, 29, 30, 31, 32, 33], [1, 2, 3, 4, 5, 6, 7, 8, 9, 10, 11, 12, 13, 14, 15, 16, 17, 18, 19, 20, 21, 22, 23, 24, 25, 26, 27, 28, 29, 30, 31, 32, 33, 34], [1, 2, 3, 4, 5, 6, 7, 8, 9, 10, 11, 12, 13, 14, 15, 16, 17, 18, 19, 20, 21, 22, 23, 24, 25, 26, 27, 28, 29, 30, 31, 32, 33, 34, 35], [0, 1, 2, 3, 4, 5, 6, 7, 8, 9, 10, 11, 12, 13, 14, 15, 16, 17, 18, 19, 20, 21, 22, 23, 24, 25, 26, 27, 28, 29, 30, 31, 32, 33, 34, 35, 36], [0, 1, 2, 3, 4, 5, 6, 7, 8, 9, 10, 11, 12, 13, 14, 15, 16, 17, 18, 19, 20, 21, 22, 23, 24, 25, 26, 27, 28, 29, 30, 31, 32, 33, 34, 35, 36, 37], [0, 1, 2, 3, 4, 5, 6, 7, 8, 9, 10, 11, 12, 13, 14, 15, 16, 17, 18, 19, 20, 21, 22, 23, 24, 25, 26, 27, 28, 29, 30, 31, 32, 33, 34, 35, 36, 37, 38]] [.op (some 60) (.mov (.t 5)),
     .op (some 61) (.mov (.t 5)),
     .op (some 62) (.nilck (.t 61)),
     .op (some 63) (.fadr (.t 62) 3),
     .op (some 64) (.load1 (.t 63)),
     .op (some 65) (.mov (.t 64)),
     .andor 74 true 5 65 [.op (some 66) (.mov (.t 5)), .op (some 67) (.nilck (.t 66)), .op (some 68) (.fadr (.t 67) 4), .op (some 69) (.load1 (.t 68)), .op (some 70) (.mov (.t 8)), .op (some 71) (.iadr 1 (.t 69) (.t 70)), .op (some 72) (.load1 (.t 71)), .call (some 73) 47 [.t 72]] (.t 73),
     .op (some 75) (.mov (.t 74)),
     .andor 96 true 15 75 [.op (some 76) (.mov (.t 8)), .op (some 77) (.bin .eql (.t 76) (.k (.int .i64 0))), .op (some 78) (.mov (.t 77)), .andor 95 false 18 78 [.op (some 79) (.mov (.t 5)), .op (some 80) (.nilck (.t 79)), .op (some 81) (.fadr (.t 80) 4), .op (some 82) (.load1 (.t 81)), .op (some 83) (.mov (.t 8)), .op (some 84) (.bin .sub (.t 83) (.k (.int .i64 1))), .op (some 85) (.iadr 1 (.t 82) (.t 84)), .op (some 86) (.load1 (.t 85)), .op (some 87) (.mov (.t 5)), .op (some 88) (.nilck (.t 87)), .op (some 89) (.fadr (.t 88) 4), .op (some 90) (.load1 (.t 89)), .op (some 91) (.mov (.t 8)), .op (some 92) (.iadr 1 (.t 90) (.t 91)), .op (some 93) (.load1 (.t 92)), .op (some 94) (.bin .lss (.t 86) (.t 93))] (.t 94)] (.t 95)]
    [.op (some 97) (.nilck (.t 60)),
     .op (some 98) (.fadr (.t 97) 3),
     .op none (.store 1 (.t 98) (.t 96))]))
   (.keep [5, 6, 8] (.ops [.op (some 58) (.mov (.t 8)),
    .op (some 59) (.bin .add (.t 58) (.k (.int .i64 1))),
    .op (some 8) (.mov (.t 59))])))))))))
 (.keep [5, 6] (.seq (.draw [.op (some 99) (.mov (.t 5)),
   .op (some 100) (.nilck (.t 99)),
   .op (some 101) (.fadr (.t 100) 4),
   .op (some 102) (.load1 (.t 101)),
   .op (some 103) (.mov (.t 6)),
   .op (some 104) (.mov (.t 5)),
   .op (some 105) (.nilck (.t 104)),
   .op (some 106) (.fadr (.t 105) 3),
   .op (some 107) (.load1 (.t 106)),
   .op (some 108) (.mov (.t 107)),
   .andor 115 true 9 108 [.op (some 109) (.mov (.t 5)), .op (some 110) (.nilck (.t 109)), .op (some 111) (.fadr (.t 110) 4), .op (some 112) (.load1 (.t 111)), .op (some 113) (.lenS (.t 112)), .op (some 114) (.bin .leq (.t 113) (.k (.int .i64 60)))] (.t 114),
   .op (some 2) (.mov (.t 102)),
   .op (some 3) (.mov (.t 103)),
   .op (some 4) (.mov (.t 115))])
 (.keep [2, 3, 4] (.ret))))))))))))))
theorem k_c_l09Walk_fits : fitsF Try.prog 46 ⟨116, k_c_l09Walk, [.t 2, .t 3, .t 4]⟩ = true := by kernel_rfl
theorem c_l09Walk {ks : List Str} (hk : KS ks) : Con Try.prog noMv 46 [.agg [.d (.int .i64 (treeT ks).root), .d (.sl 3 ((treeT ks).nodes.map TN.row))]] [] (fun r h => ∃ d : Nat, r = .tup [.osl 0 1 0 ks.length, int (d : Nat), bool true] ∧ h = [(0, .rows 1 (ks.map strRow))]) := by
 refine con_of2 k_c_l09Walk_fits rfl fun C hP hmv => ?_
 unfold k_c_l09Walk
 have K := hk.look
 obtain ⟨⟨sn, kk, dd⟩, DW, hlk, hs1, hs2⟩ := K.wk
 have hrl : (List.replicate (treeT ks).nodes.length true).length = (treeT ks).nodes.length := List.length_replicate
 simp only at hs1 hs2
 have hs2 := hs2.symm
 subst hs1
 subst hs2
 have q1 := K.nd
 have q2 := K.rt
 have q3 := hk.ln
 refine cx_seq ?_
 refine cx_ops ?_
 refine ax_e (e_box rfl rfl (by decide) rfl rfl rfl) ?_
 refine ax_q (q_mov rfl) ?_
 refine ax_q (q_mov rfl) ?_
 refine ax_q (q_mov rfl) ?_
 refine ax_nil ?_
 refine cx_keep rfl rfl ?_
 refine cx_seq ?_
 refine cx_seq ?_
 refine cx_ops ?_
 refine ax_q (q_fadr_ptr rfl) ?_
 refine ax_q (q_load1_ptr rfl rfl rfl) ?_
 first | refine ax_q (q_lenS_map rfl) ?_ | refine ax_q (q_lenS_osl rfl) ?_ | refine ax_q (q_lenS_zs rfl) ?_ | refine ax_q (q_lenS rfl) ?_
 refine ax_q (q_ibin rfl rfl rfl) ?_
 refine ax_nil ?_
 refine cx_keep rfl rfl ?_
 refine cx_cond rfl (fun h0 => ?_) (fun h0 => ?_)
 ·
  have h0 := dT h0
  exfalso; omega
 ·
  have h0 := dF h0
  refine cx_skip ?_
  refine cx_keep rfl rfl ?_
  refine cx_seq ?_
  refine cx_drawL 0 14 (fun _ => false) (fun _ => true) [] ([]) [[1], [1], [15], [16], [17], []] [[], [], [], [], [], []] rfl ?_
  first | refine ⟨⟨14, _, []⟩, .inl ⟨rfl, rfl, rfl, locl_of (loc_q (q_ldN rfl rfl rfl))⟩, ?_⟩
  first | refine ⟨_, .inr ⟨rfl, _, rfl, .inr ⟨rfl, rfl, .inr rfl, rfl, rfl⟩, loc_q (q_fadr_ptr rfl)⟩, ?_⟩
  first | refine ⟨_, .inr ⟨rfl, _, rfl, .inr ⟨rfl, rfl, .inr rfl, rfl, rfl⟩, loc_q (q_load1_ptr rfl rfl rfl)⟩, ?_⟩
  first | refine ⟨_, .inr ⟨rfl, _, rfl, .inr ⟨rfl, rfl, .inr rfl, rfl, rfl⟩, loc_q (q_lenS_map rfl)⟩, ?_⟩ | refine ⟨_, .inr ⟨rfl, _, rfl, .inr ⟨rfl, rfl, .inr rfl, rfl, rfl⟩, loc_q (q_lenS_osl rfl)⟩, ?_⟩ | refine ⟨_, .inr ⟨rfl, _, rfl, .inr ⟨rfl, rfl, .inr rfl, rfl, rfl⟩, loc_q (q_lenS_zs rfl)⟩, ?_⟩ | refine ⟨_, .inr ⟨rfl, _, rfl, .inr ⟨rfl, rfl, .inr rfl, rfl, rfl⟩, loc_q (q_lenS rfl)⟩, ?_⟩
  first | refine ⟨_, .inr ⟨rfl, _, rfl, .inr ⟨rfl, rfl, .inr rfl, rfl, rfl⟩, loc_mkB rfl rfl rfl (by omega)⟩, ?_⟩
  first | refine ⟨_, .inr ⟨rfl, _, rfl, .inr ⟨rfl, rfl, .inr rfl, rfl, rfl⟩, loc_bslice rfl⟩, ?_⟩
  refine ⟨rfl, ?_⟩
  refine ax_q (q_build rfl) ?_
  refine ax_e (e_box rfl rfl (by decide) rfl rfl rfl) ?_
  refine ax_q (q_mov rfl) ?_
  refine ax_nil ?_
  refine cx_keep rfl rfl ?_
  refine cx_seq ?_
  refine cx_ops ?_
  refine ax_q (q_mov rfl) ?_
  refine ax_q (q_fadr_ptr rfl) ?_
  refine ax_q (q_load1_ptr rfl rfl rfl) ?_
  refine ax_call rfl (vcall_own (c_walk_look (st := ⟨List.replicate (treeT ks).nodes.length false, [], 0⟩) q1 hlk) hP hmv false (fun e => bif Nat.beq e 1000 then 21 else bif Nat.beq e 1001 then 18 else 19) [1000, 1001, 1002] ⟨rfl, rfl, rfl, rfl, ⟨rfl, rfl, rfl, trivial⟩, rfl, rfl, rfl⟩ (.pass rfl rfl (.pass rfl rfl .nil)) ?_)
  rintro r h ⟨rfl, rfl⟩
  refine ⟨(fun e => bif Nat.beq e 1000 then 21 else bif Nat.beq e 1001 then 18 else 19), [], ⟨rfl, rfl, rfl, rfl, mem3 rfl rfl rfl, rfl, rfl, fun h => absurd h Bool.false_ne_true⟩, ?_⟩
  dsimp only
  refine ax_q (q_mov rfl) ?_
  refine ax_nil ?_
  refine cx_keep rfl rfl ?_
  refine cx_seq ?_
  refine cx_seq ?_
  refine cx_ops ?_
  refine ax_q (q_mov rfl) ?_
  refine ax_nil ?_
  refine cx_keep rfl rfl ?_
  refine cx_block ?_
  refine cx_loopU (fun m k => k ≤ (List.replicate (treeT ks).nodes.length true).length ∧ m = (List.replicate (treeT ks).nodes.length true).length - k) (fun k : Nat => [(7, int k)]) (fun _ => [(1, .box [.d (.int .i64 (treeT ks).root), .d (.sl 3 ((treeT ks).nodes.map TN.row))]), (21, .box [.d (.int .i64 (treeT ks).root), .d (.sl 3 ((treeT ks).nodes.map TN.row)), .osl 18 1 0 (List.replicate (treeT ks).nodes.length true).length, .d (.bool true), .osl 19 1 0 ks.length]), (18, .rows 1 ((List.replicate (treeT ks).nodes.length true).map boolRow)), (19, .rows 1 (ks.map strRow))]) ⟨_, 0, ⟨Nat.zero_le _, rfl⟩, by repeat (first | exact trivial | refine ⟨rfl, ?_⟩ | refine ⟨?_, ?_⟩)⟩ ?_
  rintro m k ⟨hk0, rfl⟩
  refine cx_seq ?_
  refine cx_seq ?_
  refine cx_ops ?_
  refine ax_q (q_mov rfl) ?_
  refine ax_q (q_mov rfl) ?_
  first | refine ax_q (q_nilck_ptr rfl) ?_ | refine ax_q (q_nilck_rptr rfl) ?_ | refine ax_q (q_nilck_ip rfl) ?_
  first | refine ax_q (q_fadr_ptr rfl) ?_ | refine ax_q (q_fadr_rptr rfl) ?_ | refine ax_q (q_fadr_ip rfl) ?_
  first | refine ax_q (q_load1_ptr rfl rfl rfl) ?_ | refine ax_q (q_load1_ip rfl) ?_ | refine ax_q (q_load1_rptr rfl rfl rfl rfl) ?_ | refine ax_q (q_load1_rptr rfl rfl (by assumption) rfl) ?_ | refine ax_q (q_load1_rptr rfl rfl (mapAt (by first | assumption | omega)) rfl) ?_
  first | refine ax_q (q_lenS_map rfl) ?_ | refine ax_q (q_lenS_osl rfl) ?_ | refine ax_q (q_lenS_zs rfl) ?_ | refine ax_q (q_lenS rfl) ?_
  refine ax_q (q_ibin rfl rfl rfl) ?_
  refine ax_nil ?_
  refine cx_keep rfl rfl ?_
  refine cx_cond rfl (fun h1 => ?_) (fun h1 => ?_)
  ·
   have h1 := dT h1
   have h1x : k < (List.replicate (treeT ks).nodes.length true).length := by omega
   refine cx_skip ?_
   refine cx_keep rfl rfl ?_
   refine cx_seq ?_
   refine cx_block ?_
   refine cx_ops ?_
   refine ax_q (q_mov rfl) ?_
   refine ax_q (q_mov rfl) ?_
   first | refine ax_q (q_nilck_ptr rfl) ?_ | refine ax_q (q_nilck_rptr rfl) ?_ | refine ax_q (q_nilck_ip rfl) ?_
   first | refine ax_q (q_fadr_ptr rfl) ?_ | refine ax_q (q_fadr_rptr rfl) ?_ | refine ax_q (q_fadr_ip rfl) ?_
   first | refine ax_q (q_load1_ptr rfl rfl rfl) ?_ | refine ax_q (q_load1_ip rfl) ?_ | refine ax_q (q_load1_rptr rfl rfl rfl rfl) ?_ | refine ax_q (q_load1_rptr rfl rfl (by assumption) rfl) ?_ | refine ax_q (q_load1_rptr rfl rfl (mapAt (by first | assumption | omega)) rfl) ?_
   refine ax_q (q_mov rfl) ?_
   apply ax_and rfl rfl
   ·
    intro g
    refine ax_q (q_mov rfl) ?_
    first | refine ax_q (q_nilck_ptr rfl) ?_ | refine ax_q (q_nilck_rptr rfl) ?_ | refine ax_q (q_nilck_ip rfl) ?_
    first | refine ax_q (q_fadr_ptr rfl) ?_ | refine ax_q (q_fadr_rptr rfl) ?_ | refine ax_q (q_fadr_ip rfl) ?_
    first | refine ax_q (q_load1_ptr rfl rfl rfl) ?_ | refine ax_q (q_load1_ip rfl) ?_ | refine ax_q (q_load1_rptr rfl rfl rfl rfl) ?_ | refine ax_q (q_load1_rptr rfl rfl (by assumption) rfl) ?_ | refine ax_q (q_load1_rptr rfl rfl (mapAt (by first | assumption | omega)) rfl) ?_
    refine ax_q (q_mov rfl) ?_
    refine ax_q (q_ixo rfl rfl h1x) ?_
    refine ax_q (q_load1_rptr (r := boolRow ((List.replicate (treeT ks).nodes.length true).getD k true)) rfl rfl (boolD h1x) rfl) ?_
    exact ax_nil ⟨rfl, by repeat (first | exact trivial | refine ⟨rfl, ?_⟩ | refine ⟨?_, ?_⟩)⟩
   rw [rep_true]
   first | refine ax_q (q_nilck_ptr rfl) ?_ | refine ax_q (q_nilck_rptr rfl) ?_ | refine ax_q (q_nilck_ip rfl) ?_
   first | refine ax_q (q_fadr_ptr rfl) ?_ | refine ax_q (q_fadr_rptr rfl) ?_ | refine ax_q (q_fadr_ip rfl) ?_
   refine ax_e (e_st rfl rfl rfl rfl rfl rfl rfl) ?_
   refine ax_nil ?_
   refine cx_keep rfl rfl ?_
   refine cx_ops ?_
   refine ax_q (q_mov rfl) ?_
   refine ax_qe (r' := int ((k + 1 : Nat) : Int)) (q_ibin rfl rfl rfl) (by rw [wi (by omega) (by omega)]; rfl) ?_
   refine ax_q (q_mov rfl) ?_
   refine ax_nil ?_
   exact ⟨_, k + 1, by omega, ⟨by omega, rfl⟩, by repeat (first | exact trivial | refine ⟨rfl, ?_⟩ | refine ⟨?_, ?_⟩)⟩
  ·
   have h1 := dF h1
   refine cx_exit rfl ?_
   refine cx_keep rfl rfl ?_
   refine cx_seq ?_
   refine cx_seq ?_
   refine cx_ops ?_
   refine ax_q (q_mov rfl) ?_
   refine ax_nil ?_
   refine cx_keep rfl rfl ?_
   refine cx_block ?_
   refine cx_loopU (fun m k => k ≤ ks.length ∧ m = ks.length - k) (fun k : Nat => [(8, int k)]) (fun _ => [(1, .box [.d (.int .i64 (treeT ks).root), .d (.sl 3 ((treeT ks).nodes.map TN.row))]), (21, .box [.d (.int .i64 (treeT ks).root), .d (.sl 3 ((treeT ks).nodes.map TN.row)), .osl 18 1 0 (List.replicate (treeT ks).nodes.length true).length, .d (.bool true), .osl 19 1 0 ks.length]), (18, .rows 1 ((List.replicate (treeT ks).nodes.length true).map boolRow)), (19, .rows 1 (ks.map strRow))]) ⟨_, 0, ⟨Nat.zero_le _, rfl⟩, by repeat (first | exact trivial | refine ⟨rfl, ?_⟩ | refine ⟨?_, ?_⟩)⟩ ?_
   rintro m k ⟨hk0, rfl⟩
   refine cx_seq ?_
   refine cx_seq ?_
   refine cx_ops ?_
   refine ax_q (q_mov rfl) ?_
   refine ax_q (q_mov rfl) ?_
   first | refine ax_q (q_nilck_ptr rfl) ?_ | refine ax_q (q_nilck_rptr rfl) ?_ | refine ax_q (q_nilck_ip rfl) ?_
   first | refine ax_q (q_fadr_ptr rfl) ?_ | refine ax_q (q_fadr_rptr rfl) ?_ | refine ax_q (q_fadr_ip rfl) ?_
   first | refine ax_q (q_load1_ptr rfl rfl rfl) ?_ | refine ax_q (q_load1_ip rfl) ?_ | refine ax_q (q_load1_rptr rfl rfl rfl rfl) ?_ | refine ax_q (q_load1_rptr rfl rfl (by assumption) rfl) ?_ | refine ax_q (q_load1_rptr rfl rfl (mapAt (by first | assumption | omega)) rfl) ?_
   first | refine ax_q (q_lenS_map rfl) ?_ | refine ax_q (q_lenS_osl rfl) ?_ | refine ax_q (q_lenS_zs rfl) ?_ | refine ax_q (q_lenS rfl) ?_
   refine ax_q (q_ibin rfl rfl rfl) ?_
   refine ax_nil ?_
   refine cx_keep rfl rfl ?_
   refine cx_cond rfl (fun h2 => ?_) (fun h2 => ?_)
   ·
    have h2 := dT h2
    have h2x : k < ks.length := by omega
    have hz := hk.sz _ (List.getElem_mem h2x)
    refine cx_skip ?_
    refine cx_keep rfl rfl ?_
    refine cx_seq ?_
    refine cx_block ?_
    refine cx_drawP ?_
    refine ax_q (q_mov rfl) ?_
    refine ax_q (q_mov rfl) ?_
    first | refine ax_q (q_nilck_ptr rfl) ?_ | refine ax_q (q_nilck_rptr rfl) ?_ | refine ax_q (q_nilck_ip rfl) ?_
    first | refine ax_q (q_fadr_ptr rfl) ?_ | refine ax_q (q_fadr_rptr rfl) ?_ | refine ax_q (q_fadr_ip rfl) ?_
    first | refine ax_q (q_load1_ptr rfl rfl rfl) ?_ | refine ax_q (q_load1_ip rfl) ?_ | refine ax_q (q_load1_rptr rfl rfl rfl rfl) ?_ | refine ax_q (q_load1_rptr rfl rfl (by assumption) rfl) ?_ | refine ax_q (q_load1_rptr rfl rfl (mapAt (by first | assumption | omega)) rfl) ?_
    refine ax_q (q_mov rfl) ?_
    apply ax_and rfl rfl
    ·
     intro g
     refine ax_q (q_mov rfl) ?_
     first | refine ax_q (q_nilck_ptr rfl) ?_ | refine ax_q (q_nilck_rptr rfl) ?_ | refine ax_q (q_nilck_ip rfl) ?_
     first | refine ax_q (q_fadr_ptr rfl) ?_ | refine ax_q (q_fadr_rptr rfl) ?_ | refine ax_q (q_fadr_ip rfl) ?_
     first | refine ax_q (q_load1_ptr rfl rfl rfl) ?_ | refine ax_q (q_load1_ip rfl) ?_ | refine ax_q (q_load1_rptr rfl rfl rfl rfl) ?_ | refine ax_q (q_load1_rptr rfl rfl (by assumption) rfl) ?_ | refine ax_q (q_load1_rptr rfl rfl (mapAt (by first | assumption | omega)) rfl) ?_
     refine ax_q (q_mov rfl) ?_
     refine ax_q (q_ixo rfl rfl h2x) ?_
     refine ax_q (q_load1_rptr (r := strRow ks[k]) rfl rfl (mapAt h2x) rfl) ?_
     first | refine ax_callq rfl (c_l09Key (s := ks[k]) ) hP (lal_id _ rfl) rfl ?_ | refine ax_callq rfl (c_l09Key (s := ks[k]) ) hP (by repeat (first | exact lal_id _ rfl | exact LAL.nil | refine LAL.cons ?_ ?_ | exact la_id _ rfl | exact LA.lend (lend_whole rfl (by first | (simp; done) | (rw [List.length_map]; rfl))) | refine LA.agg ?_ | refine LA.fn ?_ | refine LA.lend ?_ | exact Lend.d _ | exact Lend.zs _ | exact lend_whole rfl (by first | (simp; done) | (rw [List.length_map]; rfl)) | refine Lend.ptr rfl ?_ | refine Lend.fn ?_ | exact LendL.nil | refine LendL.cons ?_ ?_)) rfl ?_
     exact ax_nil ⟨rfl, by repeat (first | exact trivial | refine ⟨rfl, ?_⟩ | refine ⟨?_, ?_⟩)⟩
    refine ax_q (q_mov rfl) ?_
    apply ax_and rfl rfl
    ·
     intro g
     have g := (fun h => And.intro (id (and_T h).1) (id (and_T h).2)) g
     refine ax_q (q_mov rfl) ?_
     refine ax_q (q_ibin rfl rfl rfl) ?_
     refine ax_q (q_mov rfl) ?_
     apply ax_or rfl rfl
     ·
      intro g
      have g := dF g
      refine ax_q (q_mov rfl) ?_
      first | refine ax_q (q_nilck_ptr rfl) ?_ | refine ax_q (q_nilck_rptr rfl) ?_ | refine ax_q (q_nilck_ip rfl) ?_
      first | refine ax_q (q_fadr_ptr rfl) ?_ | refine ax_q (q_fadr_rptr rfl) ?_ | refine ax_q (q_fadr_ip rfl) ?_
      first | refine ax_q (q_load1_ptr rfl rfl rfl) ?_ | refine ax_q (q_load1_ip rfl) ?_ | refine ax_q (q_load1_rptr rfl rfl rfl rfl) ?_ | refine ax_q (q_load1_rptr rfl rfl (by assumption) rfl) ?_ | refine ax_q (q_load1_rptr rfl rfl (mapAt (by first | assumption | omega)) rfl) ?_
      refine ax_q (q_mov rfl) ?_
      refine ax_qe (r' := int ((k - 1 : Nat) : Int)) (q_ibin rfl rfl rfl) (by rw [wi (by omega) (by omega)]; exact congrArg AM.int (by omega)) ?_
      refine ax_q (q_ixo rfl rfl (by omega)) ?_
      refine ax_q (q_load1_rptr (r := strRow (ks.getD (k - 1) [])) rfl rfl (strD (by omega)) rfl) ?_
      refine ax_q (q_mov rfl) ?_
      first | refine ax_q (q_nilck_ptr rfl) ?_ | refine ax_q (q_nilck_rptr rfl) ?_ | refine ax_q (q_nilck_ip rfl) ?_
      first | refine ax_q (q_fadr_ptr rfl) ?_ | refine ax_q (q_fadr_rptr rfl) ?_ | refine ax_q (q_fadr_ip rfl) ?_
      first | refine ax_q (q_load1_ptr rfl rfl rfl) ?_ | refine ax_q (q_load1_ip rfl) ?_ | refine ax_q (q_load1_rptr rfl rfl rfl rfl) ?_ | refine ax_q (q_load1_rptr rfl rfl (by assumption) rfl) ?_ | refine ax_q (q_load1_rptr rfl rfl (mapAt (by first | assumption | omega)) rfl) ?_
      refine ax_q (q_mov rfl) ?_
      refine ax_q (q_ixo rfl rfl h2x) ?_
      refine ax_q (q_load1_rptr (r := strRow ks[k]) rfl rfl (mapAt h2x) rfl) ?_
      refine ax_q (q_sbin rfl rfl rfl) ?_
      exact ax_nil ⟨rfl, by repeat (first | exact trivial | refine ⟨rfl, ?_⟩ | refine ⟨?_, ?_⟩)⟩
     exact ax_nil ⟨rfl, by repeat (first | exact trivial | refine ⟨rfl, ?_⟩ | refine ⟨?_, ?_⟩)⟩
    refine ax_nil ?_
    rw [key_ok hk h2x]
    first | refine ax_q (q_nilck_ptr rfl) ?_ | refine ax_q (q_nilck_rptr rfl) ?_ | refine ax_q (q_nilck_ip rfl) ?_
    first | refine ax_q (q_fadr_ptr rfl) ?_ | refine ax_q (q_fadr_rptr rfl) ?_ | refine ax_q (q_fadr_ip rfl) ?_
    refine ax_e (e_st rfl rfl rfl rfl rfl rfl rfl) ?_
    refine ax_nil ?_
    refine cx_keep rfl rfl ?_
    refine cx_ops ?_
    refine ax_q (q_mov rfl) ?_
    refine ax_qe (r' := int ((k + 1 : Nat) : Int)) (q_ibin rfl rfl rfl) (by rw [wi (by omega) (by omega)]; rfl) ?_
    refine ax_q (q_mov rfl) ?_
    refine ax_nil ?_
    exact ⟨_, k + 1, by omega, ⟨by omega, rfl⟩, by repeat (first | exact trivial | refine ⟨rfl, ?_⟩ | refine ⟨?_, ?_⟩)⟩
   ·
    have h2 := dF h2
    refine cx_exit rfl ?_
    refine cx_keep rfl rfl ?_
    refine cx_seq ?_
    refine cx_draw ?_
    refine ax_q (q_mov rfl) ?_
    first | refine ax_q (q_nilck_ptr rfl) ?_ | refine ax_q (q_nilck_rptr rfl) ?_ | refine ax_q (q_nilck_ip rfl) ?_
    first | refine ax_q (q_fadr_ptr rfl) ?_ | refine ax_q (q_fadr_rptr rfl) ?_ | refine ax_q (q_fadr_ip rfl) ?_
    first | refine ax_q (q_load1_ptr rfl rfl rfl) ?_ | refine ax_q (q_load1_ip rfl) ?_ | refine ax_q (q_load1_rptr rfl rfl rfl rfl) ?_ | refine ax_q (q_load1_rptr rfl rfl (by assumption) rfl) ?_ | refine ax_q (q_load1_rptr rfl rfl (mapAt (by first | assumption | omega)) rfl) ?_
    refine ax_q (q_mov rfl) ?_
    refine ax_q (q_mov rfl) ?_
    first | refine ax_q (q_nilck_ptr rfl) ?_ | refine ax_q (q_nilck_rptr rfl) ?_ | refine ax_q (q_nilck_ip rfl) ?_
    first | refine ax_q (q_fadr_ptr rfl) ?_ | refine ax_q (q_fadr_rptr rfl) ?_ | refine ax_q (q_fadr_ip rfl) ?_
    first | refine ax_q (q_load1_ptr rfl rfl rfl) ?_ | refine ax_q (q_load1_ip rfl) ?_ | refine ax_q (q_load1_rptr rfl rfl rfl rfl) ?_ | refine ax_q (q_load1_rptr rfl rfl (by assumption) rfl) ?_ | refine ax_q (q_load1_rptr rfl rfl (mapAt (by first | assumption | omega)) rfl) ?_
    refine ax_q (q_mov rfl) ?_
    apply ax_and rfl rfl
    ·
     intro g
     refine ax_q (q_mov rfl) ?_
     first | refine ax_q (q_nilck_ptr rfl) ?_ | refine ax_q (q_nilck_rptr rfl) ?_ | refine ax_q (q_nilck_ip rfl) ?_
     first | refine ax_q (q_fadr_ptr rfl) ?_ | refine ax_q (q_fadr_rptr rfl) ?_ | refine ax_q (q_fadr_ip rfl) ?_
     first | refine ax_q (q_load1_ptr rfl rfl rfl) ?_ | refine ax_q (q_load1_ip rfl) ?_ | refine ax_q (q_load1_rptr rfl rfl rfl rfl) ?_ | refine ax_q (q_load1_rptr rfl rfl (by assumption) rfl) ?_ | refine ax_q (q_load1_rptr rfl rfl (mapAt (by first | assumption | omega)) rfl) ?_
     first | refine ax_q (q_lenS_map rfl) ?_ | refine ax_q (q_lenS_osl rfl) ?_ | refine ax_q (q_lenS_zs rfl) ?_ | refine ax_q (q_lenS rfl) ?_
     refine ax_q (q_ibin rfl rfl rfl) ?_
     exact ax_nil ⟨rfl, by repeat (first | exact trivial | refine ⟨rfl, ?_⟩ | refine ⟨?_, ?_⟩)⟩
    refine ax_q (q_mov rfl) ?_
    refine ax_q (q_mov rfl) ?_
    refine ax_q (q_mov rfl) ?_
    refine ax_nil ?_
    refine cx_keep rfl rfl ?_
    refine cx_ret (retN (fun _ => 0) [19] rfl rfl rfl rfl rfl ?_)
    exact ⟨DW, by rw [show (true && decide ((ks.length : Int) ≤ 60)) = true from by rw [decide_eq_true (by omega)]; rfl]; rfl, rfl⟩


/- loop.example/g00332/spec.l09Ask -/
def k_c_l09Ask : XCode :=
 .seq (.ops [.op (some 2) (.box (.t 0)),
   .op (some 4) (.mov (.k (.nils 1))),
   .op (some 5) (.mov (.k (.int .i64 0)))])
 (.keep [1, 2] (.seq (.seq (.ops [.op (some 9) (.mov (.t 1)),
   .op (some 10) (.lenT (.t 9)),
   .op (some 11) (.bin .gtr (.t 10) (.k (.int .i64 65536)))])
  (.keep [1, 2, 11] (.cond (.t 11)
  (.seq (.ops [.op (some 12) (.bslice 1 []),
    .op (some 4) (.mov (.t 12)),
    .op (some 5) (.mov (.k (.int .i64 2)))])
   (.keep [4, 5] (.ret)))
  (.skip))))
 (.keep [1, 2] (.seq (.ops [.op (some 14) (.loadN 2 (.t 2)),
   .call (some 15) 46 [.t 14],
   .op (some 13) (.mov (.t 15)),
   .op (some 16) (.ext (.t 13) 0),
   .op (some 17) (.ext (.t 13) 1),
   .op (some 18) (.ext (.t 13) 2),
   .op (some 6) (.mov (.t 16)),
   .op (some 7) (.mov (.t 17)),
   .op (some 8) (.mov (.t 18))])
 (.keep [1, 6, 8] (.seq (.seq (.ops [.op (some 19) (.mov (.t 8)),
   .op (some 20) (.not (.t 19))])
  (.keep [1, 6, 20] (.cond (.t 20)
  (.seq (.ops [.op (some 21) (.bslice 1 []),
    .op (some 4) (.mov (.t 21)),
    .op (some 5) (.mov (.k (.int .i64 1)))])
   (.keep [4, 5] (.ret)))
  (.skip))))
 (.keep [1, 6] (.seq (.seq (.ops [.op (some 22) (.mov (.t 1)),
   .call (some 23) 47 [.t 22],
   .op (some 24) (.not (.t 23))])
  (.keep [6, 24] (.cond (.t 24)
  (.seq (.ops [.op (some 25) (.bslice 1 []),
    .op (some 4) (.mov (.t 25)),
    .op (some 5) (.mov (.k (.int .i64 4)))])
   (.keep [4, 5] (.ret)))
  (.skip))))
 (.keep [6] (.seq (.ops [.op (some 26) (.mov (.t 6)),
   .op (some 4) (.mov (.t 26)),
   .op (some 5) (.mov (.k (.int .i64 0)))])
 (.keep [4, 5] (.ret))))))))))))
theorem k_c_l09Ask_fits : fitsF Try.prog 27 ⟨27, k_c_l09Ask, [.t 4, .t 5]⟩ = true := by kernel_rfl
theorem c_l09Ask {ks : List Str} {key : Str} (hk : KS ks) (hz : 1 ≤ key.length ∧ key.length ≤ 30) : Con Try.prog noMv 27 [.agg [.d (.int .i64 (treeT ks).root), .d (.sl 3 ((treeT ks).nodes.map TN.row))], str key] [] (fun r h => r = .tup [.osl 0 1 0 ks.length, int 0] ∧ h = [(0, .rows 1 (ks.map strRow))]) := by
 refine con_of2 k_c_l09Ask_fits rfl fun C hP hmv => ?_
 unfold k_c_l09Ask
 have q3 := hk.ln
 refine cx_seq ?_
 refine cx_ops ?_
 refine ax_e (e_box rfl rfl (by decide) rfl rfl rfl) ?_
 refine ax_q (q_mov rfl) ?_
 refine ax_q (q_mov rfl) ?_
 refine ax_nil ?_
 refine cx_keep rfl rfl ?_
 refine cx_seq ?_
 refine cx_seq ?_
 refine cx_ops ?_
 refine ax_q (q_mov rfl) ?_
 refine ax_q (q_lenT rfl) ?_
 refine ax_q (q_ibin rfl rfl rfl) ?_
 refine ax_nil ?_
 refine cx_keep rfl rfl ?_
 refine cx_cond rfl (fun h0 => ?_) (fun h0 => ?_)
 ·
  have h0 := dT h0
  exfalso; omega
 ·
  have h0 := dF h0
  refine cx_skip ?_
  refine cx_keep rfl rfl ?_
  refine cx_seq ?_
  refine cx_ops ?_
  refine ax_q (q_ldN rfl rfl rfl) ?_
  first | refine ax_call rfl (vc_pure (c_l09Walk  ?_) hP rfl ?_) | refine ax_call rfl (vc_lend (c_l09Walk  ?_) hP (by repeat (first | exact lal_id _ rfl | exact LAL.nil | refine LAL.cons ?_ ?_ | exact la_id _ rfl | exact LA.lend (lend_whole rfl (by first | (simp; done) | (rw [List.length_map]; rfl))) | refine LA.agg ?_ | refine LA.fn ?_ | refine LA.lend ?_ | exact Lend.d _ | exact Lend.zs _ | exact lend_whole rfl (by first | (simp; done) | (rw [List.length_map]; rfl)) | refine Lend.ptr rfl ?_ | refine Lend.fn ?_ | exact LendL.nil | refine LendL.cons ?_ ?_)) ?_)
  ·
   first | assumption | omega | (simp; done) | (simp; omega)
  rintro r h ⟨DD, rfl, rfl⟩
  refine ⟨fun i => 15 + 200 * i, [0], ⟨rfl, rfl, rfl, rfl, rfl, (by first | exact (fun h => absurd h Bool.false_ne_true) | exact (fun _ => ⟨rfl, (noisl_of (by repeat (first | exact trivial | refine ⟨noisl_map (fun _ => rfl), ?_⟩ | refine ⟨?_, ?_⟩)))⟩))⟩, ?_⟩
  skip
  refine ax_q (q_mov rfl) ?_
  refine ax_q (q_ext rfl rfl) ?_
  refine ax_q (q_ext rfl rfl) ?_
  refine ax_q (q_ext rfl rfl) ?_
  refine ax_q (q_mov rfl) ?_
  refine ax_q (q_mov rfl) ?_
  refine ax_q (q_mov rfl) ?_
  refine ax_nil ?_
  refine cx_keep rfl rfl ?_
  refine cx_seq ?_
  refine cx_seq ?_
  refine cx_ops ?_
  refine ax_q (q_mov rfl) ?_
  refine ax_q (q_not rfl) ?_
  refine ax_nil ?_
  refine cx_keep rfl rfl ?_
  refine cx_cond rfl (fun h1 => ?_) (fun h1 => ?_)
  ·
   skip
   exact absurd h1 Bool.false_ne_true
  ·
   skip
   refine cx_skip ?_
   refine cx_keep rfl rfl ?_
   refine cx_seq ?_
   refine cx_seq ?_
   refine cx_ops ?_
   refine ax_q (q_mov rfl) ?_
   first | refine ax_call rfl (vc_pure0 (c_l09Key  ) hP rfl rfl ?_) | refine ax_call rfl (vc_lend0 (c_l09Key  ) hP (by repeat (first | exact lal_id _ rfl | exact LAL.nil | refine LAL.cons ?_ ?_ | exact la_id _ rfl | exact LA.lend (lend_whole rfl (by first | (simp; done) | (rw [List.length_map]; rfl))) | refine LA.agg ?_ | refine LA.fn ?_ | refine LA.lend ?_ | exact Lend.d _ | exact Lend.zs _ | exact lend_whole rfl (by first | (simp; done) | (rw [List.length_map]; rfl)) | refine Lend.ptr rfl ?_ | refine Lend.fn ?_ | exact LendL.nil | refine LendL.cons ?_ ?_)) rfl rfl ?_)
   refine ax_q (q_not rfl) ?_
   refine ax_nil ?_
   refine cx_keep rfl rfl ?_
   refine cx_cond rfl (fun h2 => ?_) (fun h2 => ?_)
   ·
    skip
    exfalso; rw [inR_iff.2 (show (1 : Int) ≤ (key.length : Int) ∧ (key.length : Int) ≤ 30 by omega)] at h2; cases h2
   ·
    skip
    refine cx_skip ?_
    refine cx_keep rfl rfl ?_
    refine cx_seq ?_
    refine cx_ops ?_
    refine ax_q (q_mov rfl) ?_
    refine ax_q (q_mov rfl) ?_
    refine ax_q (q_mov rfl) ?_
    refine ax_nil ?_
    refine cx_keep rfl rfl ?_
    refine cx_ret (retN (fun _ => 0) [15] rfl rfl rfl rfl rfl ?_)
    exact ⟨rfl, rfl⟩


/- loop.example/g00332/spec.l09Part -/
def k_c_l09Part : XCode :=
 .seq (.ops [.op (some 4) (.mov (.k (.int .i64 0)))])
 (.keep [0, 1] (.seq (.seq (.ops [.op (some 5) (.mov (.t 0)),
   .op (some 6) (.mov (.t 1)),
   .op (some 7) (.bin .add (.t 6) (.k (.int .i64 1))),
   .op (some 8) (.bin .eql (.t 5) (.t 7))])
  (.keep [0, 1, 8] (.cond (.t 8)
  (.seq (.ops [.op (some 9) (.mov (.t 1)),
    .op (some 10) (.bin .sub (.t 9) (.k (.int .i64 1))),
    .op (some 4) (.mov (.t 10))])
   (.keep [4] (.ret)))
  (.skip))))
 (.keep [0, 1] (.seq (.ops [.op (some 11) (.mov (.t 0)),
   .op (some 12) (.mov (.t 1)),
   .op (some 13) (.mx false (.t 11) (.t 12)),
   .op (some 4) (.mov (.t 13))])
 (.keep [4] (.ret))))))
theorem k_c_l09Part_fits : fitsF Try.prog 48 ⟨14, k_c_l09Part, [.t 4]⟩ = true := by kernel_rfl
theorem c_l09Part {a b : Nat} (ha : a ≤ 1000) (hb : 1 ≤ b ∧ b ≤ 100) : Con Try.prog noMv 48 [int a, int b] [] (fun r h => r = int (chunkN a b : Nat) ∧ h = []) := by
 refine con_of2 k_c_l09Part_fits rfl fun C hP hmv => ?_
 unfold k_c_l09Part
 refine cx_seq ?_
 refine cx_ops ?_
 refine ax_q (q_mov rfl) ?_
 refine ax_nil ?_
 refine cx_keep rfl rfl ?_
 refine cx_seq ?_
 refine cx_seq ?_
 refine cx_ops ?_
 refine ax_q (q_mov rfl) ?_
 refine ax_q (q_mov rfl) ?_
 refine ax_q (q_add rfl rfl (by omega)) ?_
 refine ax_q (q_ibin rfl rfl rfl) ?_
 refine ax_nil ?_
 refine cx_keep rfl rfl ?_
 refine cx_cond rfl (fun h0 => ?_) (fun h0 => ?_)
 ·
  have h0 := dT h0
  refine cx_seq ?_
  refine cx_ops ?_
  refine ax_q (q_mov rfl) ?_
  refine ax_qe (r' := int ((b - 1 : Nat) : Int)) (q_ibin rfl rfl rfl) (by rw [wi (by omega) (by omega)]; exact congrArg AM.int (by omega)) ?_
  refine ax_q (q_mov rfl) ?_
  refine ax_nil ?_
  refine cx_keep rfl rfl ?_
  refine cx_ret (ret0 rfl rfl ?_)
  exact ⟨by unfold chunkN; rw [if_neg (by omega), if_pos (by omega)]; rfl, rfl⟩
 ·
  have h0 := dF h0
  refine cx_skip ?_
  refine cx_keep rfl rfl ?_
  refine cx_seq ?_
  refine cx_ops ?_
  refine ax_q (q_mov rfl) ?_
  refine ax_q (q_mov rfl) ?_
  refine ax_qe (r' := int (chunkN a b : Nat)) (q_mx rfl rfl) (congrArg AM.int (part_mx h0)) ?_
  refine ax_q (q_mov rfl) ?_
  refine ax_nil ?_
  refine cx_keep rfl rfl ?_
  refine cx_ret (ret0 rfl rfl ?_)
  exact ⟨rfl, rfl⟩


/- loop.example/g00332/spec.l09Build -/
def k_c_l09Build : XCode :=
 .seq (.ops [.op (some 2) (.alloc [.int .i64 0, .nils 3])])
 (.keep [0, 2] (.seq (.ops [.op (some 12) (.bslice 3 []),
   .op (some 13) (.build [.int .i64 0, .nils 3] [(1, 1, .t 12)]),
   .op (some 3) (.alloc [.int .i64 0, .nils 3]),
   .op none (.store 2 (.t 3) (.t 13))])
 (.keep [0, 2, 3] (.seq (.ops [.op (some 14) (.bslice 1 []),
   .op (some 4) (.mov (.t 14))])
 (.keep [0, 2, 3, 4] (.seq (.ops [.op (some 15) (.bslice 1 []),
   .op (some 5) (.mov (.t 15))])
 (.keep [0, 2, 3, 4, 5] (.seq (.seq (.ops [.op (some 6) (.mov (.k (.int .i64 0)))])
  (.keep [0, 2, 3, 4, 5, 6] (.block 0 (.loop (.seq (.seq (.ops [.op (some 16) (.mov (.t 6)),
     .op (some 17) (.mov (.t 0)),
     .op (some 18) (.lenS (.t 17)),
     .op (some 19) (.bin .lss (.t 16) (.t 18)),
     .op (some 20) (.mov (.t 19)),
     .andor 23 false 4 20 [.op (some 21) (.mov (.t 6)), .op (some 22) (.bin .eql (.t 21) (.k (.int .i64 0)))] (.t 22)])
   (.keep [0, 2, 3, 4, 5, 6, 23] (.cond (.t 23)
    (.skip)
    (.exit 0))))
   (.keep [0, 2, 3, 4, 5, 6] (.block 1 (.seq (.ops [.op (some 24) (.mov (.t 0)),
     .op (some 25) (.lenS (.t 24)),
     .op (some 26) (.mov (.t 6)),
     .op (some 27) (.bin .sub (.t 25) (.t 26)),
     .call (some 28) 48 [.t 27, .k (.int .i64 4)],
     .op (some 7) (.mov (.t 28))])
   (.keep [0, 2, 3, 4, 5, 6, 7] (.seq (.drawE [[], [0], [], [], [], [], [], [5, 6], [3, 4, 5, 6, 7], [2, 3, 4, 5, 6, 7, 8], [], [2, 3, 4, 5, 6, 7, 8, 9, 10], [2, 3, 4, 5, 6, 7, 8, 9, 10, 11], [0, 1, 2, 3, 4, 5, 6, 7, 8, 9, 10, 11, 12], [0, 1, 2, 3, 4, 5, 6, 7, 8, 9, 10, 11, 12, 13], [0, 1, 2, 3, 4, 5, 6, 7, 8, 9, 10, 11, 12, 13, 14]] [.op (some 29) (.fadr (.t 3) 1),
     .op (some 30) (.load1 (.t 29)),
     .op (some 31) (.bslice 1 []),
     .op (some 32) (.mov (.t 0)),
     .op (some 33) (.mov (.t 6)),
     .op (some 34) (.mov (.t 6)),
     .op (some 35) (.mov (.t 7)),
     .op (some 36) (.bin .add (.t 34) (.t 35)),
     .op (some 37) (.slc 1 (.t 32) (some (.t 33)) (some (.t 36)) none),
     .op (some 38) (.app 1 16 [.str []] (.t 31) (.t 37)),
     .op (some 39) (.bslice 1 []),
     .op (some 40) (.build [.bool false, .nils 1, .nils 1] [(0, 1, .k (.bool true)), (1, 1, .t 38), (2, 1, .t 39)]),
     .op (some 41) (.bslice 3 [.t 40])]
    [.op (some 42) (.app 3 56 [.bool false, .nils 1, .nils 1] (.t 30) (.t 41)),
     .op (some 43) (.fadr (.t 3) 1),
     .op none (.store 1 (.t 43) (.t 42))])
   (.keep [0, 2, 3, 4, 5, 6, 7] (.seq (.ops [.op (some 44) (.mov (.t 4)),
     .op (some 45) (.fadr (.t 3) 1),
     .op (some 46) (.load1 (.t 45)),
     .op (some 47) (.lenS (.t 46)),
     .op (some 48) (.bin .sub (.t 47) (.k (.int .i64 1))),
     .op (some 49) (.bslice 1 [.t 48]),
     .op (some 50) (.app 1 8 [.int .i64 0] (.t 44) (.t 49)),
     .op (some 4) (.mov (.t 50))])
   (.keep [0, 2, 3, 4, 5, 6, 7] (.seq (.seq (.ops [.op (some 51) (.mov (.t 7)),
     .op (some 52) (.bin .eql (.t 51) (.k (.int .i64 0)))])
    (.keep [0, 2, 3, 4, 5, 6, 7, 52] (.cond (.t 52)
    (.exit 0)
    (.skip))))
   (.keep [0, 2, 3, 4, 5, 6, 7] (.seq (.ops [.op (some 53) (.mov (.t 5)),
     .op (some 54) (.mov (.t 0)),
     .op (some 55) (.mov (.t 6)),
     .op (some 56) (.iadr 1 (.t 54) (.t 55)),
     .op (some 57) (.load1 (.t 56)),
     .op (some 58) (.bslice 1 [.t 57]),
     .op (some 59) (.app 1 16 [.str []] (.t 53) (.t 58)),
     .op (some 5) (.mov (.t 59))])
   (.keep [0, 2, 3, 4, 5, 6, 7] (.ops [.op (some 60) (.mov (.t 6)),
    .op (some 61) (.mov (.t 7)),
    .op (some 62) (.bin .add (.t 60) (.t 61)),
    .op (some 6) (.mov (.t 62))]))))))))))))))))))
 (.keep [2, 3, 4, 5] (.seq (.block 2 (.loop (.seq (.seq (.ops [.op (some 63) (.mov (.t 4)),
     .op (some 64) (.lenS (.t 63)),
     .op (some 65) (.bin .gtr (.t 64) (.k (.int .i64 1)))])
   (.keep [2, 3, 4, 5, 65] (.cond (.t 65)
    (.skip)
    (.exit 2))))
   (.keep [2, 3, 4, 5] (.block 3 (.seq (.ops [.op (some 66) (.bslice 1 []),
     .op (some 8) (.mov (.t 66))])
   (.keep [2, 3, 4, 5, 8] (.seq (.ops [.op (some 67) (.bslice 1 []),
     .op (some 9) (.mov (.t 67))])
   (.keep [2, 3, 4, 5, 8, 9] (.seq (.seq (.ops [.op (some 10) (.mov (.k (.int .i64 0)))])
    (.keep [2, 3, 4, 5, 8, 9, 10] (.block 4 (.loop (.seq (.seq (.ops [.op (some 68) (.mov (.t 10)),
       .op (some 69) (.mov (.t 4)),
       .op (some 70) (.lenS (.t 69)),
       .op (some 71) (.bin .lss (.t 68) (.t 70))])
     (.keep [2, 3, 4, 5, 8, 9, 10, 71] (.cond (.t 71)
      (.skip)
      (.exit 4))))
     (.keep [2, 3, 4, 5, 8, 9, 10] (.block 5 (.seq (.ops [.op (some 72) (.mov (.t 4)),
       .op (some 73) (.lenS (.t 72)),
       .op (some 74) (.mov (.t 10)),
       .op (some 75) (.bin .sub (.t 73) (.t 74)),
       .call (some 76) 48 [.t 75, .k (.int .i64 5)],
       .op (some 11) (.mov (.t 76))])
     (.keep [2, 3, 4, 5, 8, 9, 10, 11] (.seq (.drawE [[], [0], [], [], [], [4], [], [], [6, 7], [3, 4, 5, 6, 7, 8], [2, 3, 4, 5, 6, 7, 8, 9], [], [], [], [], [], [14, 15], [12, 13, 14, 15, 16], [2, 3, 4, 5, 6, 7, 8, 9, 10, 11, 12, 13, 14, 15, 16, 17], [2, 3, 4, 5, 6, 7, 8, 9, 10, 11, 12, 13, 14, 15, 16, 17, 18], [2, 3, 4, 5, 6, 7, 8, 9, 10, 11, 12, 13, 14, 15, 16, 17, 18, 19], [0, 1, 2, 3, 4, 5, 6, 7, 8, 9, 10, 11, 12, 13, 14, 15, 16, 17, 18, 19, 20], [0, 1, 2, 3, 4, 5, 6, 7, 8, 9, 10, 11, 12, 13, 14, 15, 16, 17, 18, 19, 20, 21], [0, 1, 2, 3, 4, 5, 6, 7, 8, 9, 10, 11, 12, 13, 14, 15, 16, 17, 18, 19, 20, 21, 22]] [.op (some 77) (.fadr (.t 3) 1),
       .op (some 78) (.load1 (.t 77)),
       .op (some 79) (.bslice 1 []),
       .op (some 80) (.mov (.t 5)),
       .op (some 81) (.mov (.t 10)),
       .op (some 82) (.bin .add (.t 81) (.k (.int .i64 1))),
       .op (some 83) (.mov (.t 10)),
       .op (some 84) (.mov (.t 11)),
       .op (some 85) (.bin .add (.t 83) (.t 84)),
       .op (some 86) (.slc 1 (.t 80) (some (.t 82)) (some (.t 85)) none),
       .op (some 87) (.app 1 16 [.str []] (.t 79) (.t 86)),
       .op (some 88) (.bslice 1 []),
       .op (some 89) (.mov (.t 4)),
       .op (some 90) (.mov (.t 10)),
       .op (some 91) (.mov (.t 10)),
       .op (some 92) (.mov (.t 11)),
       .op (some 93) (.bin .add (.t 91) (.t 92)),
       .op (some 94) (.slc 1 (.t 89) (some (.t 90)) (some (.t 93)) none),
       .op (some 95) (.app 1 8 [.int .i64 0] (.t 88) (.t 94)),
       .op (some 96) (.build [.bool false, .nils 1, .nils 1] [(1, 1, .t 87), (2, 1, .t 95)]),
       .op (some 97) (.bslice 3 [.t 96])]
      [.op (some 98) (.app 3 56 [.bool false, .nils 1, .nils 1] (.t 78) (.t 97)),
       .op (some 99) (.fadr (.t 3) 1),
       .op none (.store 1 (.t 99) (.t 98))])
     (.keep [2, 3, 4, 5, 8, 9, 10, 11] (.seq (.ops [.op (some 100) (.mov (.t 8)),
       .op (some 101) (.fadr (.t 3) 1),
       .op (some 102) (.load1 (.t 101)),
       .op (some 103) (.lenS (.t 102)),
       .op (some 104) (.bin .sub (.t 103) (.k (.int .i64 1))),
       .op (some 105) (.bslice 1 [.t 104]),
       .op (some 106) (.app 1 8 [.int .i64 0] (.t 100) (.t 105)),
       .op (some 8) (.mov (.t 106))])
     (.keep [2, 3, 4, 5, 8, 9, 10, 11] (.seq (.ops [.op (some 107) (.mov (.t 9)),
       .op (some 108) (.mov (.t 5)),
       .op (some 109) (.mov (.t 10)),
       .op (some 110) (.iadr 1 (.t 108) (.t 109)),
       .op (some 111) (.load1 (.t 110)),
       .op (some 112) (.bslice 1 [.t 111]),
       .op (some 113) (.app 1 16 [.str []] (.t 107) (.t 112)),
       .op (some 9) (.mov (.t 113))])
     (.keep [2, 3, 4, 5, 8, 9, 10, 11] (.ops [.op (some 114) (.mov (.t 10)),
      .op (some 115) (.mov (.t 11)),
      .op (some 116) (.bin .add (.t 114) (.t 115)),
      .op (some 10) (.mov (.t 116))]))))))))))))))))
   (.keep [2, 3, 8, 9] (.seq (.ops [.op (some 117) (.mov (.t 8)),
     .op (some 4) (.mov (.t 117))])
   (.keep [2, 3, 4, 9] (.ops [.op (some 118) (.mov (.t 9)),
    .op (some 5) (.mov (.t 118))]))))))))))))))
 (.keep [2, 3, 4] (.seq (.ops [.op (some 119) (.mov (.t 4)),
   .op (some 120) (.iadr 1 (.t 119) (.k (.int .i64 0))),
   .op (some 121) (.load1 (.t 120)),
   .op (some 122) (.fadr (.t 3) 0),
   .op none (.store 1 (.t 122) (.t 121))])
 (.keep [2, 3] (.seq (.ops [.op (some 123) (.loadN 2 (.t 3)),
   .op none (.store 2 (.t 2) (.t 123))])
 (.keep [2] (.ret))))))))))))))))
theorem k_c_l09Build_fits : fitsF Try.prog 29 ⟨124, k_c_l09Build, [.cN 2 2]⟩ = true := by kernel_rfl
set_option maxHeartbeats 4000000 in
theorem c_l09Build {ks : List Str} (hl : ks.length ≤ 61) (h0k : 0 < ks.length) : Con Try.prog noMv 29 [.d (.sl 1 (ks.map strRow))] [] (fun r h => r = .agg [.d (.int .i64 (treeT ks).root), .d (.sl 3 ((treeT ks).nodes.map TN.row))] ∧ h = []) := by
 refine con_of2 k_c_l09Build_fits rfl fun C hP hmv => ?_
 unfold k_c_l09Build
 have K := look_tree ([] : Str) (ks := ks) (by omega)
 obtain ⟨nsF, lvF_, leF, hL, hT⟩ := tree_start h0k K.tr
 generalize treeT ks = T at hT ⊢
 refine cx_seq ?_
 refine cx_ops ?_
 refine ax_e (e_alloc (by decide) rfl rfl) ?_
 refine ax_nil ?_
 refine cx_keep rfl rfl ?_
 refine cx_seq ?_
 refine cx_ops ?_
 refine ax_e (e_bslice rfl (by decide) rfl rfl) ?_
 refine ax_q (q_build rfl) ?_
 refine ax_e (e_alloc (by decide) rfl rfl) ?_
 refine ax_e (e_st rfl rfl rfl rfl rfl rfl rfl) ?_
 refine ax_nil ?_
 refine cx_keep rfl rfl ?_
 refine cx_seq ?_
 refine cx_ops ?_
 refine ax_e (e_bslice rfl (by decide) rfl rfl) ?_
 refine ax_q (q_mov rfl) ?_
 refine ax_nil ?_
 refine cx_keep rfl rfl ?_
 refine cx_seq ?_
 refine cx_ops ?_
 refine ax_e (e_bslice rfl (by decide) rfl rfl) ?_
 refine ax_q (q_mov rfl) ?_
 refine ax_nil ?_
 refine cx_keep rfl rfl ?_
 refine cx_seq ?_
 refine cx_seq ?_
 refine cx_ops ?_
 refine ax_q (q_mov rfl) ?_
 refine ax_nil ?_
 refine cx_keep rfl rfl ?_
 refine cx_block ?_
 refine cx_loopU (fun m (p : Nat × List GNode × List Nat × List Str) => p.1 ≤ ks.length ∧ lvF m (ks.drop p.1) p.2.1 p.2.2.1 p.2.2.2 = some (nsF, lvF_, leF)) (fun p => [(6, int p.1), (4, .osl 14 1 0 p.2.2.1.length), (5, .osl 15 1 0 p.2.2.2.length)]) (fun p => [(2, .box [.d (.int .i64 0), .zs 3]), (3, .box [.d (.int .i64 0), .osl 12 3 0 p.2.1.length]), (12, .rows 3 (p.2.1.map TN.row)), (14, .rows 1 (p.2.2.1.map kidRow)), (15, .rows 1 (p.2.2.2.map strRow))])
  ⟨_, (0, [], [], []), ⟨Nat.zero_le _, hL⟩, by repeat (first | exact trivial | refine ⟨rfl, ?_⟩ | refine ⟨?_, ?_⟩)⟩ ?_
 rintro m ⟨i, ns, lv, le⟩ ⟨hi, hs⟩
 simp only at hi hs ⊢
 have hdl : (ks.drop i).length = ks.length - i := List.length_drop
 refine cx_seq ?_
 refine cx_seq ?_
 refine cx_ops ?_
 refine ax_q (q_mov rfl) ?_
 refine ax_q (q_mov rfl) ?_
 first | refine ax_q (q_lenS_map rfl) ?_ | refine ax_q (q_lenS_osl rfl) ?_ | refine ax_q (q_lenS_zs rfl) ?_ | refine ax_q (q_lenS rfl) ?_
 refine ax_q (q_ibin rfl rfl rfl) ?_
 refine ax_q (q_mov rfl) ?_
 apply ax_or rfl rfl
 ·
  intro g
  have g := dF g
  refine ax_q (q_mov rfl) ?_
  refine ax_q (q_ibin rfl rfl rfl) ?_
  exact ax_nil ⟨rfl, by repeat (first | exact trivial | refine ⟨rfl, ?_⟩ | refine ⟨?_, ?_⟩)⟩
 refine ax_nil ?_
 refine cx_keep rfl rfl ?_
 refine cx_cond rfl (fun h0 => ?_) (fun h0 => ?_)
 ·
  have h1x : i < ks.length := by
   rw [Bool.or_eq_true] at h0
   rcases h0 with h | h
   ·
    have := of_decide_eq_true h; omega
   ·
    have := of_decide_eq_true h; omega
  obtain ⟨g, c, rfl, hc, s1, s2, s3, s4, s5, hs2⟩ := lv_step (by omega) hs
  rw [List.drop_drop, getD_drop0] at hs2
  rw [hdl] at hc s5
  refine cx_skip ?_
  refine cx_keep rfl rfl ?_
  refine cx_block ?_
  refine cx_seq ?_
  refine cx_ops ?_
  refine ax_q (q_mov rfl) ?_
  first | refine ax_q (q_lenS_map rfl) ?_ | refine ax_q (q_lenS_osl rfl) ?_ | refine ax_q (q_lenS_zs rfl) ?_ | refine ax_q (q_lenS rfl) ?_
  refine ax_q (q_mov rfl) ?_
  refine ax_qe (r' := int ((ks.length - i : Nat) : Int)) (q_ibin rfl rfl rfl) (by rw [wi (by omega) (by omega)]; exact congrArg AM.int (by omega)) ?_
  first | refine ax_call rfl (vc_pure0 (c_l09Part (a := ks.length - i) (b := 4) ?_ ?_) hP rfl rfl ?_) | refine ax_call rfl (vc_lend0 (c_l09Part (a := ks.length - i) (b := 4) ?_ ?_) hP (by repeat (first | exact lal_id _ rfl | exact LAL.nil | refine LAL.cons ?_ ?_ | exact la_id _ rfl | exact LA.lend (lend_whole rfl (by first | (simp; done) | (rw [List.length_map]; rfl))) | refine LA.agg ?_ | refine LA.fn ?_ | refine LA.lend ?_ | exact Lend.d _ | exact Lend.zs _ | exact lend_whole rfl (by first | (simp; done) | (rw [List.length_map]; rfl)) | refine Lend.ptr rfl ?_ | refine Lend.fn ?_ | exact LendL.nil | refine LendL.cons ?_ ?_)) rfl rfl ?_)
  ·
   first | assumption | omega | (simp; done) | (simp; omega)
  ·
   first | assumption | omega | (simp; done) | (simp; omega)
  rw [← hc]
  refine ax_q (q_mov rfl) ?_
  refine ax_nil ?_
  refine cx_keep rfl rfl ?_
  refine cx_seq ?_
  refine cx_drawL 0 29 (fun _ => false) (fun _ => true) [] ([]) [[3], [29], [], [0], [6], [6], [7], [34, 35], [32, 33, 36], [31, 37], [], [38, 39], [40]] [[], [], [], [], [], [], [], [], [], [], [], [], []] rfl ?_
  first | refine ⟨⟨29, _, []⟩, .inl ⟨rfl, rfl, rfl, locl_of (loc_q (q_fadr_ptr rfl))⟩, ?_⟩
  first | refine ⟨_, .inr ⟨rfl, _, rfl, .inr ⟨rfl, rfl, .inl rfl, rfl, rfl⟩, loc_q (q_load1_ptr rfl rfl rfl)⟩, ?_⟩
  first | refine ⟨_, .inr ⟨rfl, _, rfl, .inr ⟨rfl, rfl, .inr rfl, rfl, rfl⟩, loc_bsliceZ⟩, ?_⟩
  first | refine ⟨_, .inr ⟨rfl, _, rfl, .inr ⟨rfl, rfl, .inr rfl, rfl, rfl⟩, loc_q (q_mov rfl)⟩, ?_⟩
  first | refine ⟨_, .inr ⟨rfl, _, rfl, .inr ⟨rfl, rfl, .inr rfl, rfl, rfl⟩, loc_q (q_mov rfl)⟩, ?_⟩
  first | refine ⟨_, .inr ⟨rfl, _, rfl, .inr ⟨rfl, rfl, .inr rfl, rfl, rfl⟩, loc_q (q_mov rfl)⟩, ?_⟩
  first | refine ⟨_, .inr ⟨rfl, _, rfl, .inr ⟨rfl, rfl, .inr rfl, rfl, rfl⟩, loc_q (q_mov rfl)⟩, ?_⟩
  first | refine ⟨_, .inr ⟨rfl, _, rfl, .inr ⟨rfl, rfl, .inr rfl, rfl, rfl⟩, loc_qe (r' := int ((i + c : Nat) : Int)) (q_ibin rfl rfl rfl) (by rw [wi (by omega) (by omega)]; rfl)⟩, ?_⟩
  first | refine ⟨_, .inr ⟨rfl, _, rfl, .inr ⟨rfl, rfl, .inr rfl, rfl, rfl⟩, loc_qe (r' := .d (.sl 1 (((ks.drop i).take c).map strRow))) (q_slc rfl rfl rfl (by omega) (by omega) (by simp; omega)) (slR_mid (by omega) (by omega))⟩, ?_⟩
  first | refine ⟨_, .inr ⟨rfl, _, rfl, .inr ⟨rfl, rfl, .inr rfl, rfl, rfl⟩, loc_appZD (rs := ((ks.drop i).take c).map strRow) rfl rfl (fun _ _ h => src_sl 1 _) (bnd0 (by simp; omega) (by decide)) rfl⟩, ?_⟩
  first | refine ⟨_, .inr ⟨rfl, _, rfl, .inr ⟨rfl, rfl, .inr rfl, rfl, rfl⟩, loc_bsliceZ⟩, ?_⟩
  first | refine ⟨_, .inr ⟨rfl, _, rfl, .inr ⟨rfl, rfl, .inr rfl, rfl, rfl⟩, loc_q (q_build rfl)⟩, ?_⟩
  first | refine ⟨_, .inr ⟨rfl, _, rfl, .inr ⟨rfl, rfl, .inr rfl, rfl, rfl⟩, loc_bsliceD (rows := [TN.row (⟨true, ((ks.drop i).take c), []⟩ : GNode)]) rfl⟩, ?_⟩
  refine ⟨rfl, ?_⟩
  refine ax_e (e_appn (n' := (ns ++ [(⟨true, ((ks.drop i).take c), []⟩ : GNode)]).length) (rs' := (ns ++ [(⟨true, ((ks.drop i).take c), []⟩ : GNode)]).map TN.row) rfl rfl (by simp) rfl (src_sl 3 _) (.inl (by decide)) (hbnd (by omega) (by simp) (by decide)) (by simp) (app_all (ys := [(⟨true, ((ks.drop i).take c), []⟩ : GNode)]) (row := TN.row))) ?_
  refine ax_q (q_fadr_ptr rfl) ?_
  refine ax_e (e_st rfl rfl rfl rfl rfl rfl rfl) ?_
  refine ax_nil ?_
  refine cx_keep rfl rfl ?_
  refine cx_seq ?_
  refine cx_ops ?_
  refine ax_q (q_mov rfl) ?_
  refine ax_q (q_fadr_ptr rfl) ?_
  refine ax_q (q_load1_ptr rfl rfl rfl) ?_
  first | refine ax_q (q_lenS_map rfl) ?_ | refine ax_q (q_lenS_osl rfl) ?_ | refine ax_q (q_lenS_zs rfl) ?_ | refine ax_q (q_lenS rfl) ?_
  refine ax_qe (r' := int (ns.length : Nat)) (q_ibin rfl rfl rfl) (by rw [List.length_append, List.length_singleton, wi (by omega) (by omega)]; exact congrArg AM.int (by omega)) ?_
  refine ax_e (e_bsliceD (rows := [kidRow ns.length]) rfl) ?_
  refine ax_e (e_appn (n' := (lv ++ [ns.length]).length) (rs' := (lv ++ [ns.length]).map kidRow) rfl rfl (by simp) rfl (src_sl 1 _) (.inl (by decide)) (hbnd (by omega) (by simp) (by decide)) (by simp) (app_all (ys := [ns.length]) (row := kidRow))) ?_
  refine ax_q (q_mov rfl) ?_
  refine ax_nil ?_
  refine cx_keep rfl rfl ?_
  refine cx_seq ?_
  refine cx_seq ?_
  refine cx_ops ?_
  refine ax_q (q_mov rfl) ?_
  refine ax_q (q_ibin rfl rfl rfl) ?_
  refine ax_nil ?_
  refine cx_keep rfl rfl ?_
  refine cx_cond rfl (fun h1 => ?_) (fun h1 => ?_)
  ·
   have h1 := dT h1
   exfalso; omega
  ·
   have h1 := dF h1
   refine cx_skip ?_
   refine cx_keep rfl rfl ?_
   refine cx_seq ?_
   refine cx_ops ?_
   refine ax_q (q_mov rfl) ?_
   refine ax_q (q_mov rfl) ?_
   refine ax_q (q_mov rfl) ?_
   refine ax_q (q_ix (row := strRow (ks.getD i [])) rfl rfl (strD h1x)) ?_
   first | refine ax_q (q_load1_ptr rfl rfl rfl) ?_ | refine ax_q (q_load1_ip rfl) ?_ | refine ax_q (q_load1_rptr rfl rfl rfl rfl) ?_ | refine ax_q (q_load1_rptr rfl rfl (by assumption) rfl) ?_ | refine ax_q (q_load1_rptr rfl rfl (mapAt (by first | assumption | omega)) rfl) ?_
   refine ax_e (e_bsliceD (rows := [strRow (ks.getD i [])]) rfl) ?_
   refine ax_e (e_appn (n' := (le ++ [ks.getD i []]).length) (rs' := (le ++ [ks.getD i []]).map strRow) rfl rfl (by simp) rfl (src_sl 1 _) (.inl (by decide)) (hbnd (by omega) (by simp) (by decide)) (by simp) (app_all (ys := [ks.getD i []]) (row := strRow))) ?_
   refine ax_q (q_mov rfl) ?_
   refine ax_nil ?_
   refine cx_keep rfl rfl ?_
   refine cx_ops ?_
   refine ax_q (q_mov rfl) ?_
   refine ax_q (q_mov rfl) ?_
   refine ax_qe (r' := int ((i + c : Nat) : Int)) (q_ibin rfl rfl rfl) (by rw [wi (by omega) (by omega)]; rfl) ?_
   refine ax_q (q_mov rfl) ?_
   refine ax_nil ?_
   exact ⟨_, (i + c, ns ++ [(⟨true, ((ks.drop i).take c), []⟩ : GNode)], lv ++ [ns.length], le ++ [ks.getD i []]), Nat.lt_succ_self _, ⟨by simp only; omega, hs2⟩, by repeat (first | exact trivial | refine ⟨rfl, ?_⟩ | refine ⟨?_, ?_⟩)⟩
 ·
  have h1x : ¬ i < ks.length := by
   rw [Bool.or_eq_false_iff] at h0
   have := of_decide_eq_false h0.1; omega
  have hs3 := lv_end (by omega) hs
  rw [Prod.mk.injEq, Prod.mk.injEq] at hs3
  obtain ⟨rfl, rfl, rfl⟩ := hs3
  refine cx_exit rfl ?_
  refine cx_keep rfl rfl ?_
  refine cx_seq ?_
  refine cx_block ?_
  refine cx_wk (wk_frz 4 14 rfl rfl (.whole (by simp)) rfl) ?_
  refine cx_wk (wk_frz 5 15 rfl rfl (.whole (by simp)) rfl) ?_
  refine cx_loopU (fun m (p : List GNode × List Nat × List Str) => topF m p.1 p.2.1 p.2.2 = some T) (fun p => [(4, .d (.sl 1 (p.2.1.map kidRow))), (5, .d (.sl 1 (p.2.2.map strRow)))]) (fun p => [(2, .box [.d (.int .i64 0), .zs 3]), (3, .box [.d (.int .i64 0), .osl 12 3 0 p.1.length]), (12, .rows 3 (p.1.map TN.row))])
   ⟨_, (nsF, lvF_, leF), hT, by repeat (first | exact trivial | refine ⟨rfl, ?_⟩ | refine ⟨?_, ?_⟩)⟩ ?_
  rintro m ⟨ns, lv, le⟩ hs
  simp only at hs ⊢
  refine cx_seq ?_
  refine cx_seq ?_
  refine cx_ops ?_
  refine ax_q (q_mov rfl) ?_
  first | refine ax_q (q_lenS_map rfl) ?_ | refine ax_q (q_lenS_osl rfl) ?_ | refine ax_q (q_lenS_zs rfl) ?_ | refine ax_q (q_lenS rfl) ?_
  refine ax_q (q_ibin rfl rfl rfl) ?_
  refine ax_nil ?_
  refine cx_keep rfl rfl ?_
  refine cx_cond rfl (fun h2 => ?_) (fun h2 => ?_)
  ·
   have h2 := dT h2
   obtain ⟨g, nsU, abU, alU, rfl, s1, s2, hU, hs3⟩ := top_step (by omega) hs
   refine cx_skip ?_
   refine cx_keep rfl rfl ?_
   refine cx_block ?_
   refine cx_seq ?_
   refine cx_ops ?_
   refine ax_e (e_bslice rfl (by decide) rfl rfl) ?_
   refine ax_q (q_mov rfl) ?_
   refine ax_nil ?_
   refine cx_keep rfl rfl ?_
   refine cx_seq ?_
   refine cx_ops ?_
   refine ax_e (e_bslice rfl (by decide) rfl rfl) ?_
   refine ax_q (q_mov rfl) ?_
   refine ax_nil ?_
   refine cx_keep rfl rfl ?_
   refine cx_seq ?_
   refine cx_seq ?_
   refine cx_ops ?_
   refine ax_q (q_mov rfl) ?_
   refine ax_nil ?_
   refine cx_keep rfl rfl ?_
   refine cx_block ?_
   refine cx_loopU (fun m (p : Nat × List GNode × List Nat × List Str) => p.1 ≤ lv.length ∧ upF m (lv.drop p.1) (le.drop p.1) p.2.1 p.2.2.1 p.2.2.2 = some (nsU, abU, alU)) (fun p => [(10, int p.1), (8, .osl 66 1 0 p.2.2.1.length), (9, .osl 67 1 0 p.2.2.2.length)]) (fun p => [(2, .box [.d (.int .i64 0), .zs 3]), (3, .box [.d (.int .i64 0), .osl 12 3 0 p.2.1.length]), (12, .rows 3 (p.2.1.map TN.row)), (66, .rows 1 (p.2.2.1.map kidRow)), (67, .rows 1 (p.2.2.2.map strRow))])
    ⟨_, (0, ns, [], []), ⟨Nat.zero_le _, hU⟩, by repeat (first | exact trivial | refine ⟨rfl, ?_⟩ | refine ⟨?_, ?_⟩)⟩ ?_
   rintro m ⟨i, ns, ab, al⟩ ⟨hi, hs⟩
   simp only at hi hs ⊢
   have hdl : (lv.drop i).length = lv.length - i := List.length_drop
   have hdl2 : (le.drop i).length = le.length - i := List.length_drop
   refine cx_seq ?_
   refine cx_seq ?_
   refine cx_ops ?_
   refine ax_q (q_mov rfl) ?_
   refine ax_q (q_mov rfl) ?_
   first | refine ax_q (q_lenS_map rfl) ?_ | refine ax_q (q_lenS_osl rfl) ?_ | refine ax_q (q_lenS_zs rfl) ?_ | refine ax_q (q_lenS rfl) ?_
   refine ax_q (q_ibin rfl rfl rfl) ?_
   refine ax_nil ?_
   refine cx_keep rfl rfl ?_
   refine cx_cond rfl (fun h3 => ?_) (fun h3 => ?_)
   ·
    have h3 := dT h3
    obtain ⟨g2, c, rfl, hc, u1, u2, u3, u4, u5, u6, hu2⟩ := up_step (by omega) hs
    rw [List.drop_drop, List.drop_drop, List.drop_drop, getD_drop0] at hu2
    rw [hdl] at hc u6
    refine cx_skip ?_
    refine cx_keep rfl rfl ?_
    refine cx_block ?_
    refine cx_seq ?_
    refine cx_ops ?_
    refine ax_q (q_mov rfl) ?_
    first | refine ax_q (q_lenS_map rfl) ?_ | refine ax_q (q_lenS_osl rfl) ?_ | refine ax_q (q_lenS_zs rfl) ?_ | refine ax_q (q_lenS rfl) ?_
    refine ax_q (q_mov rfl) ?_
    refine ax_qe (r' := int ((lv.length - i : Nat) : Int)) (q_ibin rfl rfl rfl) (by rw [wi (by omega) (by omega)]; exact congrArg AM.int (by omega)) ?_
    first | refine ax_call rfl (vc_pure0 (c_l09Part (a := lv.length - i) (b := 5) ?_ ?_) hP rfl rfl ?_) | refine ax_call rfl (vc_lend0 (c_l09Part (a := lv.length - i) (b := 5) ?_ ?_) hP (by repeat (first | exact lal_id _ rfl | exact LAL.nil | refine LAL.cons ?_ ?_ | exact la_id _ rfl | exact LA.lend (lend_whole rfl (by first | (simp; done) | (rw [List.length_map]; rfl))) | refine LA.agg ?_ | refine LA.fn ?_ | refine LA.lend ?_ | exact Lend.d _ | exact Lend.zs _ | exact lend_whole rfl (by first | (simp; done) | (rw [List.length_map]; rfl)) | refine Lend.ptr rfl ?_ | refine Lend.fn ?_ | exact LendL.nil | refine LendL.cons ?_ ?_)) rfl rfl ?_)
    ·
     first | assumption | omega | (simp; done) | (simp; omega)
    ·
     first | assumption | omega | (simp; done) | (simp; omega)
    rw [← hc]
    refine ax_q (q_mov rfl) ?_
    refine ax_nil ?_
    refine cx_keep rfl rfl ?_
    refine cx_seq ?_
    refine cx_drawL 0 77 (fun _ => false) (fun _ => true) [] ([]) [[3], [77], [], [5], [10], [81], [10], [11], [83, 84], [80, 82, 85], [79, 86], [], [4], [10], [10], [11], [91, 92], [89, 90, 93], [88, 94], [87, 95], [96]] [[], [], [], [], [], [], [], [], [], [], [], [], [], [], [], [], [], [], [], [], []] rfl ?_
    first | refine ⟨⟨77, _, []⟩, .inl ⟨rfl, rfl, rfl, locl_of (loc_q (q_fadr_ptr rfl))⟩, ?_⟩
    first | refine ⟨_, .inr ⟨rfl, _, rfl, .inr ⟨rfl, rfl, .inl rfl, rfl, rfl⟩, loc_q (q_load1_ptr rfl rfl rfl)⟩, ?_⟩
    first | refine ⟨_, .inr ⟨rfl, _, rfl, .inr ⟨rfl, rfl, .inr rfl, rfl, rfl⟩, loc_bsliceZ⟩, ?_⟩
    first | refine ⟨_, .inr ⟨rfl, _, rfl, .inr ⟨rfl, rfl, .inr rfl, rfl, rfl⟩, loc_q (q_mov rfl)⟩, ?_⟩
    first | refine ⟨_, .inr ⟨rfl, _, rfl, .inr ⟨rfl, rfl, .inr rfl, rfl, rfl⟩, loc_q (q_mov rfl)⟩, ?_⟩
    first | refine ⟨_, .inr ⟨rfl, _, rfl, .inr ⟨rfl, rfl, .inr rfl, rfl, rfl⟩, loc_qe (r' := int ((i + 1 : Nat) : Int)) (q_ibin rfl rfl rfl) (by rw [wi (by omega) (by omega)]; rfl)⟩, ?_⟩
    first | refine ⟨_, .inr ⟨rfl, _, rfl, .inr ⟨rfl, rfl, .inr rfl, rfl, rfl⟩, loc_q (q_mov rfl)⟩, ?_⟩
    first | refine ⟨_, .inr ⟨rfl, _, rfl, .inr ⟨rfl, rfl, .inr rfl, rfl, rfl⟩, loc_q (q_mov rfl)⟩, ?_⟩
    first | refine ⟨_, .inr ⟨rfl, _, rfl, .inr ⟨rfl, rfl, .inr rfl, rfl, rfl⟩, loc_qe (r' := int ((i + c : Nat) : Int)) (q_ibin rfl rfl rfl) (by rw [wi (by omega) (by omega)]; rfl)⟩, ?_⟩
    first | refine ⟨_, .inr ⟨rfl, _, rfl, .inr ⟨rfl, rfl, .inr rfl, rfl, rfl⟩, loc_qe (r' := .d (.sl 1 (((le.drop (i + 1)).take (c - 1)).map strRow))) (q_slc rfl rfl rfl (by omega) (by omega) (by simp; omega)) (slR_mid (by omega) (by omega))⟩, ?_⟩
    first | refine ⟨_, .inr ⟨rfl, _, rfl, .inr ⟨rfl, rfl, .inr rfl, rfl, rfl⟩, loc_appZD (rs := ((le.drop (i + 1)).take (c - 1)).map strRow) rfl rfl (fun _ _ h => src_sl 1 _) (bnd0 (by simp; omega) (by decide)) rfl⟩, ?_⟩
    first | refine ⟨_, .inr ⟨rfl, _, rfl, .inr ⟨rfl, rfl, .inr rfl, rfl, rfl⟩, loc_bsliceZ⟩, ?_⟩
    first | refine ⟨_, .inr ⟨rfl, _, rfl, .inr ⟨rfl, rfl, .inr rfl, rfl, rfl⟩, loc_q (q_mov rfl)⟩, ?_⟩
    first | refine ⟨_, .inr ⟨rfl, _, rfl, .inr ⟨rfl, rfl, .inr rfl, rfl, rfl⟩, loc_q (q_mov rfl)⟩, ?_⟩
    first | refine ⟨_, .inr ⟨rfl, _, rfl, .inr ⟨rfl, rfl, .inr rfl, rfl, rfl⟩, loc_q (q_mov rfl)⟩, ?_⟩
    first | refine ⟨_, .inr ⟨rfl, _, rfl, .inr ⟨rfl, rfl, .inr rfl, rfl, rfl⟩, loc_q (q_mov rfl)⟩, ?_⟩
    first | refine ⟨_, .inr ⟨rfl, _, rfl, .inr ⟨rfl, rfl, .inr rfl, rfl, rfl⟩, loc_qe (r' := int ((i + c : Nat) : Int)) (q_ibin rfl rfl rfl) (by rw [wi (by omega) (by omega)]; rfl)⟩, ?_⟩
    first | refine ⟨_, .inr ⟨rfl, _, rfl, .inr ⟨rfl, rfl, .inr rfl, rfl, rfl⟩, loc_qe (r' := .d (.sl 1 (((lv.drop i).take c).map kidRow))) (q_slc rfl rfl rfl (by omega) (by omega) (by simp; omega)) (slR_mid (by omega) (by omega))⟩, ?_⟩
    first | refine ⟨_, .inr ⟨rfl, _, rfl, .inr ⟨rfl, rfl, .inr rfl, rfl, rfl⟩, loc_appZD (rs := ((lv.drop i).take c).map kidRow) rfl rfl (fun _ _ h => src_sl 1 _) (bnd0 (by simp; omega) (by decide)) rfl⟩, ?_⟩
    first | refine ⟨_, .inr ⟨rfl, _, rfl, .inr ⟨rfl, rfl, .inr rfl, rfl, rfl⟩, loc_q (q_build rfl)⟩, ?_⟩
    first | refine ⟨_, .inr ⟨rfl, _, rfl, .inr ⟨rfl, rfl, .inr rfl, rfl, rfl⟩, loc_bsliceD (rows := [TN.row (⟨false, ((le.drop (i + 1)).take (c - 1)), ((lv.drop i).take c)⟩ : GNode)]) rfl⟩, ?_⟩
    refine ⟨rfl, ?_⟩
    refine ax_e (e_appn (n' := (ns ++ [(⟨false, ((le.drop (i + 1)).take (c - 1)), ((lv.drop i).take c)⟩ : GNode)]).length) (rs' := (ns ++ [(⟨false, ((le.drop (i + 1)).take (c - 1)), ((lv.drop i).take c)⟩ : GNode)]).map TN.row) rfl rfl (by simp) rfl (src_sl 3 _) (.inl (by decide)) (hbnd (by omega) (by simp) (by decide)) (by simp) (app_all (ys := [(⟨false, ((le.drop (i + 1)).take (c - 1)), ((lv.drop i).take c)⟩ : GNode)]) (row := TN.row))) ?_
    refine ax_q (q_fadr_ptr rfl) ?_
    refine ax_e (e_st rfl rfl rfl rfl rfl rfl rfl) ?_
    refine ax_nil ?_
    refine cx_keep rfl rfl ?_
    refine cx_seq ?_
    refine cx_ops ?_
    refine ax_q (q_mov rfl) ?_
    refine ax_q (q_fadr_ptr rfl) ?_
    refine ax_q (q_load1_ptr rfl rfl rfl) ?_
    first | refine ax_q (q_lenS_map rfl) ?_ | refine ax_q (q_lenS_osl rfl) ?_ | refine ax_q (q_lenS_zs rfl) ?_ | refine ax_q (q_lenS rfl) ?_
    refine ax_qe (r' := int (ns.length : Nat)) (q_ibin rfl rfl rfl) (by rw [List.length_append, List.length_singleton, wi (by omega) (by omega)]; exact congrArg AM.int (by omega)) ?_
    refine ax_e (e_bsliceD (rows := [kidRow ns.length]) rfl) ?_
    refine ax_e (e_appn (n' := (ab ++ [ns.length]).length) (rs' := (ab ++ [ns.length]).map kidRow) rfl rfl (by simp) rfl (src_sl 1 _) (.inl (by decide)) (hbnd (by omega) (by simp) (by decide)) (by simp) (app_all (ys := [ns.length]) (row := kidRow))) ?_
    refine ax_q (q_mov rfl) ?_
    refine ax_nil ?_
    refine cx_keep rfl rfl ?_
    refine cx_seq ?_
    refine cx_ops ?_
    refine ax_q (q_mov rfl) ?_
    refine ax_q (q_mov rfl) ?_
    refine ax_q (q_mov rfl) ?_
    refine ax_q (q_ix (row := strRow (le.getD i [])) rfl rfl (strD (by omega))) ?_
    first | refine ax_q (q_load1_ptr rfl rfl rfl) ?_ | refine ax_q (q_load1_ip rfl) ?_ | refine ax_q (q_load1_rptr rfl rfl rfl rfl) ?_ | refine ax_q (q_load1_rptr rfl rfl (by assumption) rfl) ?_ | refine ax_q (q_load1_rptr rfl rfl (mapAt (by first | assumption | omega)) rfl) ?_
    refine ax_e (e_bsliceD (rows := [strRow (le.getD i [])]) rfl) ?_
    refine ax_e (e_appn (n' := (al ++ [le.getD i []]).length) (rs' := (al ++ [le.getD i []]).map strRow) rfl rfl (by simp) rfl (src_sl 1 _) (.inl (by decide)) (hbnd (by omega) (by simp) (by decide)) (by simp) (app_all (ys := [le.getD i []]) (row := strRow))) ?_
    refine ax_q (q_mov rfl) ?_
    refine ax_nil ?_
    refine cx_keep rfl rfl ?_
    refine cx_ops ?_
    refine ax_q (q_mov rfl) ?_
    refine ax_q (q_mov rfl) ?_
    refine ax_qe (r' := int ((i + c : Nat) : Int)) (q_ibin rfl rfl rfl) (by rw [wi (by omega) (by omega)]; rfl) ?_
    refine ax_q (q_mov rfl) ?_
    refine ax_nil ?_
    exact ⟨_, (i + c, ns ++ [(⟨false, ((le.drop (i + 1)).take (c - 1)), ((lv.drop i).take c)⟩ : GNode)], ab ++ [ns.length], al ++ [le.getD i []]), Nat.lt_succ_self _, ⟨by simp only; omega, hu2⟩, by repeat (first | exact trivial | refine ⟨rfl, ?_⟩ | refine ⟨?_, ?_⟩)⟩
   ·
    have h3 := dF h3
    have hs4 := up_end (by omega) hs
    rw [Prod.mk.injEq, Prod.mk.injEq] at hs4
    obtain ⟨rfl, rfl, rfl⟩ := hs4
    refine cx_exit rfl ?_
    refine cx_keep rfl rfl ?_
    refine cx_seq ?_
    refine cx_ops ?_
    refine ax_wk (wk_frz 8 66 rfl rfl (.whole (by simp)) rfl) ?_
    refine ax_wk (wk_frz 9 67 rfl rfl (.whole (by simp)) rfl) ?_
    refine ax_q (q_mov rfl) ?_
    refine ax_q (q_mov rfl) ?_
    refine ax_nil ?_
    refine cx_keep rfl rfl ?_
    refine cx_ops ?_
    refine ax_q (q_mov rfl) ?_
    refine ax_q (q_mov rfl) ?_
    refine ax_nil ?_
    exact ⟨_, (nsU, abU, alU), Nat.lt_succ_self _, hs3, by repeat (first | exact trivial | refine ⟨rfl, ?_⟩ | refine ⟨?_, ?_⟩)⟩
  ·
   have h2 := dF h2
   obtain ⟨s1, s2, rfl⟩ := top_end (by omega) hs
   refine cx_exit rfl ?_
   refine cx_keep rfl rfl ?_
   refine cx_seq ?_
   refine cx_ops ?_
   refine ax_q (q_mov rfl) ?_
   refine ax_q (q_ixI rfl rfl (by omega) (kidD (by omega))) ?_
   first | refine ax_q (q_load1_ptr rfl rfl rfl) ?_ | refine ax_q (q_load1_ip rfl) ?_ | refine ax_q (q_load1_rptr rfl rfl rfl rfl) ?_ | refine ax_q (q_load1_rptr rfl rfl (by assumption) rfl) ?_ | refine ax_q (q_load1_rptr rfl rfl (mapAt (by first | assumption | omega)) rfl) ?_
   refine ax_q (q_fadr_ptr rfl) ?_
   refine ax_e (e_st rfl rfl rfl rfl rfl rfl rfl) ?_
   refine ax_nil ?_
   refine cx_keep rfl rfl ?_
   refine cx_seq ?_
   refine cx_ops ?_
   refine ax_q (q_ldN rfl rfl rfl) ?_
   refine ax_wk (wk_frz 123 12 rfl rfl (.agg (.cons (.same rfl) (.cons (.whole (by simp)) .nil))) rfl) ?_
   refine ax_e (e_st rfl rfl rfl rfl rfl rfl rfl) ?_
   refine ax_nil ?_
   refine cx_keep rfl rfl ?_
   refine cx_ret (ret0 rfl rfl ?_)
   exact ⟨rfl, rfl⟩


/- loop.example/g00332/spec.TreeInsert -/
def k_c_sTreeInsert : XCode :=
 .seq (.ops [.op (some 2) (.box (.t 0)),
   .op (some 4) (.alloc [.int .i64 0, .nils 3]),
   .op (some 5) (.mov (.k (.int .i64 0)))])
 (.keep [1, 2, 4] (.seq (.seq (.ops [.op (some 9) (.mov (.t 1)),
   .op (some 10) (.lenT (.t 9)),
   .op (some 11) (.bin .gtr (.t 10) (.k (.int .i64 65536)))])
  (.keep [1, 2, 4, 11] (.cond (.t 11)
  (.seq (.ops [.op (some 12) (.build [.int .i64 0, .nils 3] []),
    .op none (.store 2 (.t 4) (.t 12)),
    .op (some 5) (.mov (.k (.int .i64 2)))])
   (.keep [4, 5] (.ret)))
  (.skip))))
 (.keep [1, 2, 4] (.seq (.ops [.op (some 14) (.loadN 2 (.t 2)),
   .op (some 15) (.mov (.t 1)),
   .call (some 16) 27 [.t 14, .t 15],
   .op (some 13) (.mov (.t 16)),
   .op (some 17) (.ext (.t 13) 0),
   .op (some 18) (.ext (.t 13) 1),
   .op (some 6) (.mov (.t 17)),
   .op (some 7) (.mov (.t 18))])
 (.keep [1, 4, 6, 7] (.seq (.seq (.ops [.op (some 19) (.mov (.t 7)),
   .op (some 20) (.bin .neq (.t 19) (.k (.int .i64 0)))])
  (.keep [1, 4, 6, 7, 20] (.cond (.t 20)
  (.seq (.ops [.op (some 21) (.build [.int .i64 0, .nils 3] []),
    .op (some 22) (.mov (.t 7)),
    .op none (.store 2 (.t 4) (.t 21)),
    .op (some 5) (.mov (.t 22))])
   (.keep [4, 5] (.ret)))
  (.skip))))
 (.keep [1, 4, 6] (.seq (.ops [.op (some 23) (.mov (.t 6)),
   .op (some 24) (.mov (.t 1)),
   .call (some 25) 28 [.t 23, .t 24],
   .op (some 8) (.mov (.t 25))])
 (.keep [1, 4, 6, 8] (.seq (.seq (.ops [.op (some 26) (.mov (.t 8)),
   .op (some 27) (.mov (.t 6)),
   .op (some 28) (.lenS (.t 27)),
   .op (some 29) (.bin .lss (.t 26) (.t 28)),
   .op (some 30) (.mov (.t 29)),
   .andor 37 true 4 30 [.op (some 31) (.mov (.t 6)), .op (some 32) (.mov (.t 8)), .op (some 33) (.iadr 1 (.t 31) (.t 32)), .op (some 34) (.load1 (.t 33)), .op (some 35) (.mov (.t 1)), .op (some 36) (.bin .eql (.t 34) (.t 35))] (.t 36)])
  (.keep [1, 4, 6, 8, 37] (.cond (.t 37)
  (.seq (.ops [.op (some 38) (.build [.int .i64 0, .nils 3] []),
    .op none (.store 2 (.t 4) (.t 38)),
    .op (some 5) (.mov (.k (.int .i64 9)))])
   (.keep [4, 5] (.ret)))
  (.skip))))
 (.keep [1, 4, 6, 8] (.seq (.seq (.ops [.op (some 39) (.mov (.t 6)),
   .op (some 40) (.lenS (.t 39)),
   .op (some 41) (.bin .eql (.t 40) (.k (.int .i64 60)))])
  (.keep [1, 4, 6, 8, 41] (.cond (.t 41)
  (.seq (.ops [.op (some 42) (.build [.int .i64 0, .nils 3] []),
    .op none (.store 2 (.t 4) (.t 42)),
    .op (some 5) (.mov (.k (.int .i64 7)))])
   (.keep [4, 5] (.ret)))
  (.skip))))
 (.keep [1, 4, 6, 8] (.seq (.drawE [[], [], [], [1, 2], [0, 1, 2, 3], [], [5], [0, 1, 2, 3, 4, 5, 6], [], [], [8, 9], [0, 1, 2, 3, 4, 5, 6, 7, 8, 9, 10], [0, 1, 2, 3, 4, 5, 6, 7, 8, 9, 10, 11], [0, 1, 2, 3, 4, 5, 6, 7, 8, 9, 10, 11, 12], [0, 1, 2, 3, 4, 5, 6, 7, 8, 9, 10, 11, 12, 13]] [.op (some 43) (.bslice 1 []),
   .op (some 44) (.mov (.t 6)),
   .op (some 45) (.mov (.t 8)),
   .op (some 46) (.slc 1 (.t 44) none (some (.t 45)) none),
   .op (some 47) (.app 1 16 [.str []] (.t 43) (.t 46)),
   .op (some 48) (.mov (.t 1)),
   .op (some 49) (.bslice 1 [.t 48]),
   .op (some 50) (.app 1 16 [.str []] (.t 47) (.t 49)),
   .op (some 51) (.mov (.t 6)),
   .op (some 52) (.mov (.t 8)),
   .op (some 53) (.slc 1 (.t 51) (some (.t 52)) none none)]
  [.op (some 54) (.app 1 16 [.str []] (.t 50) (.t 53)),
   .call (some 55) 29 [.t 54],
   .op none (.store 2 (.t 4) (.t 55)),
   .op (some 5) (.mov (.k (.int .i64 0)))])
 (.keep [4, 5] (.ret))))))))))))))))
theorem k_c_sTreeInsert_fits : fitsF Try.prog 14 ⟨56, k_c_sTreeInsert, [.cN 4 2, .t 5]⟩ = true := by kernel_rfl
set_option maxHeartbeats 2000000 in
theorem c_sTreeInsert {ks : List Str} {key : Str} (hk : KS ks) (hz : 1 ≤ key.length ∧ key.length ≤ 30) (hl : ks.length < 60) (hh : hitS ks key = false) : Con Try.prog noMv 14 [.agg [.d (.int .i64 (treeT ks).root), .d (.sl 3 ((treeT ks).nodes.map TN.row))], str key] [] (fun r h => r = .tup [.agg [.d (.int .i64 (treeT (insA ks (posS ks key) key)).root), .d (.sl 3 ((treeT (insA ks (posS ks key) key)).nodes.map TN.row))], int 0] ∧ h = []) := by
 refine con_of2 k_c_sTreeInsert_fits rfl fun C hP hmv => ?_
 unfold k_c_sTreeInsert
 have q3 := hk.ln
 have hpl := @posS_le ks key
 refine cx_seq ?_
 refine cx_ops ?_
 refine ax_e (e_box rfl rfl (by decide) rfl rfl rfl) ?_
 refine ax_e (e_alloc (by decide) rfl rfl) ?_
 refine ax_q (q_mov rfl) ?_
 refine ax_nil ?_
 refine cx_keep rfl rfl ?_
 refine cx_seq ?_
 refine cx_seq ?_
 refine cx_ops ?_
 refine ax_q (q_mov rfl) ?_
 refine ax_q (q_lenT rfl) ?_
 refine ax_q (q_ibin rfl rfl rfl) ?_
 refine ax_nil ?_
 refine cx_keep rfl rfl ?_
 refine cx_cond rfl (fun h0 => ?_) (fun h0 => ?_)
 ·
  have h0 := dT h0
  exfalso; omega
 ·
  have h0 := dF h0
  refine cx_skip ?_
  refine cx_keep rfl rfl ?_
  refine cx_seq ?_
  refine cx_ops ?_
  refine ax_q (q_ldN rfl rfl rfl) ?_
  refine ax_q (q_mov rfl) ?_
  first | refine ax_call rfl (vc_pure (c_l09Ask  ?_ ?_) hP rfl ?_) | refine ax_call rfl (vc_lend (c_l09Ask  ?_ ?_) hP (by repeat (first | exact lal_id _ rfl | exact LAL.nil | refine LAL.cons ?_ ?_ | exact la_id _ rfl | exact LA.lend (lend_whole rfl (by first | (simp; done) | (rw [List.length_map]; rfl))) | refine LA.agg ?_ | refine LA.fn ?_ | refine LA.lend ?_ | exact Lend.d _ | exact Lend.zs _ | exact lend_whole rfl (by first | (simp; done) | (rw [List.length_map]; rfl)) | refine Lend.ptr rfl ?_ | refine Lend.fn ?_ | exact LendL.nil | refine LendL.cons ?_ ?_)) ?_)
  ·
   first | assumption | omega | (simp; done) | (simp; omega)
  ·
   first | assumption | omega | (simp; done) | (simp; omega)
  rintro r h ⟨rfl, rfl⟩
  refine ⟨fun i => 16 + 200 * i, [0], ⟨rfl, rfl, rfl, rfl, rfl, (by first | exact (fun h => absurd h Bool.false_ne_true) | exact (fun _ => ⟨rfl, (noisl_of (by repeat (first | exact trivial | refine ⟨noisl_map (fun _ => rfl), ?_⟩ | refine ⟨?_, ?_⟩)))⟩))⟩, ?_⟩
  skip
  refine ax_q (q_mov rfl) ?_
  refine ax_q (q_ext rfl rfl) ?_
  refine ax_q (q_ext rfl rfl) ?_
  refine ax_q (q_mov rfl) ?_
  refine ax_q (q_mov rfl) ?_
  refine ax_nil ?_
  refine cx_keep rfl rfl ?_
  refine cx_seq ?_
  refine cx_seq ?_
  refine cx_ops ?_
  refine ax_q (q_mov rfl) ?_
  refine ax_q (q_ibin rfl rfl rfl) ?_
  refine ax_nil ?_
  refine cx_keep rfl rfl ?_
  refine cx_cond rfl (fun h1 => ?_) (fun h1 => ?_)
  ·
   have h1 := nT h1
   exact absurd rfl h1
  ·
   have h1 := nF h1
   refine cx_skip ?_
   refine cx_keep rfl rfl ?_
   refine cx_seq ?_
   refine cx_ops ?_
   refine ax_q (q_mov rfl) ?_
   refine ax_q (q_mov rfl) ?_
   refine ax_call rfl (vc_lend0 (c_l09At (xs := ks) (key := key) hk.asc (by omega)) hP (.cons (.lend (lend_whole rfl (by simp))) (.cons (.d _) .nil)) rfl rfl ?_)
   refine ax_q (q_mov rfl) ?_
   refine ax_nil ?_
   refine cx_keep rfl rfl ?_
   refine cx_seq ?_
   refine cx_seq ?_
   refine cx_ops ?_
   refine ax_q (q_mov rfl) ?_
   refine ax_q (q_mov rfl) ?_
   first | refine ax_q (q_lenS_map rfl) ?_ | refine ax_q (q_lenS_osl rfl) ?_ | refine ax_q (q_lenS_zs rfl) ?_ | refine ax_q (q_lenS rfl) ?_
   refine ax_q (q_ibin rfl rfl rfl) ?_
   refine ax_q (q_mov rfl) ?_
   apply ax_and rfl rfl
   ·
    intro g
    have g := dT g
    refine ax_q (q_mov rfl) ?_
    refine ax_q (q_mov rfl) ?_
    refine ax_q (q_ixo rfl rfl (by omega)) ?_
    refine ax_q (q_load1_rptr (r := strRow (ks.getD (posS ks key) [])) rfl rfl (strD (by omega)) rfl) ?_
    refine ax_q (q_mov rfl) ?_
    refine ax_q (q_sbin rfl rfl rfl) ?_
    exact ax_nil ⟨rfl, by repeat (first | exact trivial | refine ⟨rfl, ?_⟩ | refine ⟨?_, ?_⟩)⟩
   refine ax_nil ?_
   refine cx_keep rfl rfl ?_
   refine cx_cond rfl (fun h2 => ?_) (fun h2 => ?_)
   ·
    skip
    exfalso; rw [hitS_and hk.asc, hh] at h2; cases h2
   ·
    skip
    refine cx_skip ?_
    refine cx_keep rfl rfl ?_
    refine cx_seq ?_
    refine cx_seq ?_
    refine cx_ops ?_
    refine ax_q (q_mov rfl) ?_
    first | refine ax_q (q_lenS_map rfl) ?_ | refine ax_q (q_lenS_osl rfl) ?_ | refine ax_q (q_lenS_zs rfl) ?_ | refine ax_q (q_lenS rfl) ?_
    refine ax_wk (wk_frz 6 16 rfl rfl (.whole (by simp)) rfl) ?_
    refine ax_q (q_ibin rfl rfl rfl) ?_
    refine ax_nil ?_
    refine cx_keep rfl rfl ?_
    refine cx_cond rfl (fun h3 => ?_) (fun h3 => ?_)
    ·
     have h3 := dT h3
     exfalso; omega
    ·
     have h3 := dF h3
     refine cx_skip ?_
     refine cx_keep rfl rfl ?_
     refine cx_seq ?_
     refine cx_drawL 7 50 (Nat.beq 47) (nrA 47) [] ([(47, .rows 1 (((ks.take (posS ks key)) ++ [key]).map strRow))]) [[], [6], [8], [44, 45], [43, 46], [1], [48], [47, 49], [6], [8], [51, 52]] [[], [], [], [], [], [], [], [47], [47], [47], [47]] rfl ?_
     first | refine ⟨_, .inr ⟨rfl, _, rfl, .inl rfl, loc_bsliceZ⟩, ?_⟩
     first | refine ⟨_, .inr ⟨rfl, _, rfl, .inl rfl, loc_q (q_mov rfl)⟩, ?_⟩
     first | refine ⟨_, .inr ⟨rfl, _, rfl, .inl rfl, loc_q (q_mov rfl)⟩, ?_⟩
     first | refine ⟨_, .inr ⟨rfl, _, rfl, .inl rfl, loc_qe (r' := .d (.sl 1 ((ks.take (posS ks key)).map strRow))) (q_slc rfl rfl rfl (by omega) (by omega) (by simp; omega)) (slR_take (by omega))⟩, ?_⟩
     first | refine ⟨_, .inr ⟨rfl, _, rfl, .inl rfl, loc_appZ (n := posS ks key) (rs := (ks.take (posS ks key)).map strRow) rfl rfl (fun _ _ h => src_sl 1 _) (bnd0 (by simp; omega) (by decide)) (by simp; omega) rfl⟩, ?_⟩
     first | refine ⟨_, .inr ⟨rfl, _, rfl, .inl rfl, loc_q (q_mov rfl)⟩, ?_⟩
     first | refine ⟨_, .inr ⟨rfl, _, rfl, .inl rfl, loc_bsliceD (rows := [key].map strRow) rfl⟩, ?_⟩
     refine ⟨⟨50, _, []⟩, .inl ⟨rfl, rfl, rfl, locl_app (n' := posS ks key + 1) (rs' := ((ks.take (posS ks key)) ++ [key]).map strRow) rfl rfl (by simp; omega) rfl (fun _ _ h => src_sl 1 _) (.inl (by decide)) (hbnd (by omega) (by simp) (by decide)) (by simp) (by rw [List.take_of_length_le (by simp; omega), List.map_append])⟩, ?_⟩
     first | refine ⟨_, .inr ⟨rfl, _, rfl, .inr ⟨rfl, rfl, .inr rfl, rfl, rfl⟩, loc_q (q_mov rfl)⟩, ?_⟩
     first | refine ⟨_, .inr ⟨rfl, _, rfl, .inr ⟨rfl, rfl, .inr rfl, rfl, rfl⟩, loc_q (q_mov rfl)⟩, ?_⟩
     first | refine ⟨_, .inr ⟨rfl, _, rfl, .inr ⟨rfl, rfl, .inr rfl, rfl, rfl⟩, loc_qe (r' := .d (.sl 1 ((ks.drop (posS ks key)).map strRow))) (q_slc rfl rfl rfl (by omega) (by simp; omega) (by simp)) (slR_drop (by omega))⟩, ?_⟩
     refine ⟨rfl, ?_⟩
     refine ax_e (e_appn (n' := (insA ks (posS ks key) key).length) (rs' := (insA ks (posS ks key) key).map strRow) rfl rfl (by simp; omega) rfl (src_sl 1 _) (.inl (by decide)) (hbnd (by omega) (by simp; omega) (by decide)) (by rw [insA_len posS_le]; simp; omega) (by rw [List.take_of_length_le (by simp; omega), ← List.map_append, List.append_assoc]; rfl)) ?_
     refine ax_wk (wk_frz 54 47 rfl rfl (.whole (by simp)) rfl) ?_
     first | refine ax_call rfl (vc_pure0 (c_l09Build (ks := (insA ks (posS ks key) key)) ?_ ?_) hP rfl rfl ?_) | refine ax_call rfl (vc_lend0 (c_l09Build (ks := (insA ks (posS ks key) key)) ?_ ?_) hP (by repeat (first | exact lal_id _ rfl | exact LAL.nil | refine LAL.cons ?_ ?_ | exact la_id _ rfl | exact LA.lend (lend_whole rfl (by first | (simp; done) | (rw [List.length_map]; rfl))) | refine LA.agg ?_ | refine LA.fn ?_ | refine LA.lend ?_ | exact Lend.d _ | exact Lend.zs _ | exact lend_whole rfl (by first | (simp; done) | (rw [List.length_map]; rfl)) | refine Lend.ptr rfl ?_ | refine Lend.fn ?_ | exact LendL.nil | refine LendL.cons ?_ ?_)) rfl rfl ?_)
     ·
      rw [insA_len posS_le]; omega
     ·
      rw [insA_len posS_le]; omega
     refine ax_e (e_st rfl rfl rfl rfl rfl rfl rfl) ?_
     refine ax_q (q_mov rfl) ?_
     refine ax_nil ?_
     refine cx_keep rfl rfl ?_
     refine cx_ret (ret0 rfl rfl ?_)
     exact ⟨rfl, rfl⟩


/- loop.example/g00332/impl.TreeOK -/
def k_c_TreeOK : XCode :=
 .seq (.ops [.op (some 1) (.box (.t 0)),
   .op (some 2) (.mov (.k (.bool false)))])
 (.keep [1] (.seq (.ops [.op (some 6) (.loadN 2 (.t 1)),
   .call (some 7) 23 [.t 6],
   .op (some 5) (.mov (.t 7)),
   .op (some 8) (.ext (.t 5) 0),
   .op (some 9) (.ext (.t 5) 1),
   .op (some 3) (.mov (.t 8)),
   .op (some 4) (.mov (.t 9))])
 (.keep [4] (.seq (.ops [.op (some 10) (.mov (.t 4)),
   .op (some 2) (.mov (.t 10))])
 (.keep [2] (.ret))))))
theorem k_c_TreeOK_fits : fitsF Try.prog 11 ⟨11, k_c_TreeOK, [.t 2]⟩ = true := by kernel_rfl
theorem c_TreeOK {ks : List Str} (hk : KS ks) : Con Try.prog noMv 11 [.agg [.d (.int .i64 (treeT ks).root), .d (.sl 3 ((treeT ks).nodes.map TN.row))]] [] (fun r h => r = bool true ∧ h = []) := by
 refine con_of2 k_c_TreeOK_fits rfl fun C hP hmv => ?_
 unfold k_c_TreeOK
 refine cx_seq ?_
 refine cx_ops ?_
 refine ax_e (e_box rfl rfl (by decide) rfl rfl rfl) ?_
 refine ax_q (q_mov rfl) ?_
 refine ax_nil ?_
 refine cx_keep rfl rfl ?_
 refine cx_seq ?_
 refine cx_ops ?_
 refine ax_q (q_ldN rfl rfl rfl) ?_
 first | refine ax_call rfl (vc_pure (c_keysT  ?_) hP rfl ?_) | refine ax_call rfl (vc_lend (c_keysT  ?_) hP (by repeat (first | exact lal_id _ rfl | exact LAL.nil | refine LAL.cons ?_ ?_ | exact la_id _ rfl | exact LA.lend (lend_whole rfl (by first | (simp; done) | (rw [List.length_map]; rfl))) | refine LA.agg ?_ | refine LA.fn ?_ | refine LA.lend ?_ | exact Lend.d _ | exact Lend.zs _ | exact lend_whole rfl (by first | (simp; done) | (rw [List.length_map]; rfl)) | refine Lend.ptr rfl ?_ | refine Lend.fn ?_ | exact LendL.nil | refine LendL.cons ?_ ?_)) ?_)
 ·
  first | assumption | omega | (simp; done) | (simp; omega)
 rintro r h ⟨rfl, rfl⟩
 refine ⟨fun i => 7 + 200 * i, [0], ⟨rfl, rfl, rfl, rfl, rfl, (by first | exact (fun h => absurd h Bool.false_ne_true) | exact (fun _ => ⟨rfl, (noisl_of (by repeat (first | exact trivial | refine ⟨noisl_map (fun _ => rfl), ?_⟩ | refine ⟨?_, ?_⟩)))⟩))⟩, ?_⟩
 skip
 refine ax_q (q_mov rfl) ?_
 refine ax_q (q_ext rfl rfl) ?_
 refine ax_q (q_ext rfl rfl) ?_
 refine ax_q (q_mov rfl) ?_
 refine ax_q (q_mov rfl) ?_
 refine ax_nil ?_
 refine cx_keep rfl rfl ?_
 refine cx_seq ?_
 refine cx_ops ?_
 refine ax_q (q_mov rfl) ?_
 refine ax_q (q_mov rfl) ?_
 refine ax_nil ?_
 refine cx_keep rfl rfl ?_
 refine cx_ret (ret0 rfl rfl ?_)
 exact ⟨rfl, rfl⟩


/- loop.example/g00332/impl.TreeDepth -/
def k_c_TreeDepth : XCode :=
 .seq (.ops [.op (some 1) (.box (.t 0)),
   .op (some 2) (.mov (.k (.int .i64 0))),
   .op (some 3) (.mov (.k (.int .i64 0)))])
 (.keep [1] (.seq (.seq (.ops [.op (some 6) (.loadN 2 (.t 1)),
   .call (some 7) 11 [.t 6],
   .op (some 8) (.not (.t 7))])
  (.keep [1, 8] (.cond (.t 8)
  (.seq (.ops [.op (some 2) (.mov (.k (.int .i64 0))),
    .op (some 3) (.mov (.k (.int .i64 1)))])
   (.keep [2, 3] (.ret)))
  (.skip))))
 (.keep [1] (.seq (.draw [.op (some 9) (.fadr (.t 1) 0),
   .op (some 10) (.load1 (.t 9)),
   .op (some 4) (.mov (.k (.int .i64 1))),
   .op (some 5) (.mov (.t 10))])
 (.keep [1, 4, 5] (.seq (.block 0 (.loop (.seq (.seq (.ops [.op (some 11) (.fadr (.t 1) 1),
     .op (some 12) (.load1 (.t 11)),
     .op (some 13) (.mov (.t 5)),
     .op (some 14) (.iadr 3 (.t 12) (.t 13)),
     .op (some 15) (.fadr (.t 14) 0),
     .op (some 16) (.load1 (.t 15)),
     .op (some 17) (.not (.t 16))])
   (.keep [1, 4, 5, 17] (.cond (.t 17)
    (.skip)
    (.exit 0))))
   (.keep [1, 4, 5] (.block 1 (.draw [.op (some 18) (.mov (.t 4)),
    .op (some 19) (.bin .add (.t 18) (.k (.int .i64 1))),
    .op (some 20) (.fadr (.t 1) 1),
    .op (some 21) (.load1 (.t 20)),
    .op (some 22) (.mov (.t 5)),
    .op (some 23) (.iadr 3 (.t 21) (.t 22)),
    .op (some 24) (.fadr (.t 23) 2),
    .op (some 25) (.load1 (.t 24)),
    .op (some 26) (.iadr 1 (.t 25) (.k (.int .i64 0))),
    .op (some 27) (.load1 (.t 26)),
    .op (some 4) (.mov (.t 19)),
    .op (some 5) (.mov (.t 27))]))))))
 (.keep [4] (.seq (.ops [.op (some 28) (.mov (.t 4)),
   .op (some 2) (.mov (.t 28)),
   .op (some 3) (.mov (.k (.int .i64 0)))])
 (.keep [2, 3] (.ret))))))))))
theorem k_c_TreeDepth_fits : fitsF Try.prog 15 ⟨29, k_c_TreeDepth, [.t 2, .t 3]⟩ = true := by kernel_rfl
theorem c_TreeDepth {ks : List Str} (hk : KS ks) : Con Try.prog noMv 15 [.agg [.d (.int .i64 (treeT ks).root), .d (.sl 3 ((treeT ks).nodes.map TN.row))]] [] (fun r h => ∃ d : Nat, 1 ≤ d ∧ d ≤ 10 ∧ (d = 1 ∨ 2 ^ (d - 1) ≤ ks.length) ∧ r = .tup [int (d : Nat), int 0] ∧ h = []) := by
 refine con_of2 k_c_TreeDepth_fits rfl fun C hP hmv => ?_
 unfold k_c_TreeDepth
 have K := hk.look
 obtain ⟨D, hD, d1, d2, d3⟩ := K.dp
 have q1 := K.nd
 have q2 := K.rt
 refine cx_seq ?_
 refine cx_ops ?_
 refine ax_e (e_box rfl rfl (by decide) rfl rfl rfl) ?_
 refine ax_q (q_mov rfl) ?_
 refine ax_q (q_mov rfl) ?_
 refine ax_nil ?_
 refine cx_keep rfl rfl ?_
 refine cx_seq ?_
 refine cx_seq ?_
 refine cx_ops ?_
 refine ax_q (q_ldN rfl rfl rfl) ?_
 first | refine ax_call rfl (vc_pure0 (c_TreeOK  ?_) hP rfl rfl ?_) | refine ax_call rfl (vc_lend0 (c_TreeOK  ?_) hP (by repeat (first | exact lal_id _ rfl | exact LAL.nil | refine LAL.cons ?_ ?_ | exact la_id _ rfl | exact LA.lend (lend_whole rfl (by first | (simp; done) | (rw [List.length_map]; rfl))) | refine LA.agg ?_ | refine LA.fn ?_ | refine LA.lend ?_ | exact Lend.d _ | exact Lend.zs _ | exact lend_whole rfl (by first | (simp; done) | (rw [List.length_map]; rfl)) | refine Lend.ptr rfl ?_ | refine Lend.fn ?_ | exact LendL.nil | refine LendL.cons ?_ ?_)) rfl rfl ?_)
 ·
  first | assumption | omega | (simp; done) | (simp; omega)
 refine ax_q (q_not rfl) ?_
 refine ax_nil ?_
 refine cx_keep rfl rfl ?_
 refine cx_cond rfl (fun h0 => ?_) (fun h0 => ?_)
 ·
  skip
  exact absurd h0 Bool.false_ne_true
 ·
  skip
  refine cx_skip ?_
  refine cx_keep rfl rfl ?_
  refine cx_seq ?_
  refine cx_draw ?_
  refine ax_q (q_fadr_ptr rfl) ?_
  refine ax_q (q_load1_ptr rfl rfl rfl) ?_
  refine ax_q (q_mov rfl) ?_
  refine ax_q (q_mov rfl) ?_
  refine ax_nil ?_
  refine cx_keep rfl rfl ?_
  refine cx_seq ?_
  refine cx_block ?_
  refine cx_loopU (fun m (p : Nat × Nat) => dpG (treeT ks) m p.1 p.2 = some D) (fun p => [(4, int p.1), (5, int p.2)]) (fun _ => [(1, .box [.d (.int .i64 (treeT ks).root), .d (.sl 3 ((treeT ks).nodes.map TN.row))])])
   ⟨_, (1, (treeT ks).root), hD, by repeat (first | exact trivial | refine ⟨rfl, ?_⟩ | refine ⟨?_, ?_⟩)⟩ ?_
  rintro m ⟨d, k⟩ hs
  simp only at hs ⊢
  obtain ⟨n, hn, hkl, hc⟩ := dp_step hs
  refine cx_seq ?_
  refine cx_seq ?_
  refine cx_ops ?_
  refine ax_q (q_fadr_ptr rfl) ?_
  refine ax_q (q_load1_ptr rfl rfl rfl) ?_
  refine ax_q (q_mov rfl) ?_
  refine ax_q (q_ix rfl rfl (mapO hn)) ?_
  first | refine ax_q (q_fadr_ptr rfl) ?_ | refine ax_q (q_fadr_rptr rfl) ?_ | refine ax_q (q_fadr_ip rfl) ?_
  first | refine ax_q (q_load1_ptr rfl rfl rfl) ?_ | refine ax_q (q_load1_ip rfl) ?_ | refine ax_q (q_load1_rptr rfl rfl rfl rfl) ?_ | refine ax_q (q_load1_rptr rfl rfl (by assumption) rfl) ?_ | refine ax_q (q_load1_rptr rfl rfl (mapAt (by first | assumption | omega)) rfl) ?_
  refine ax_q (q_not rfl) ?_
  refine ax_nil ?_
  refine cx_keep rfl rfl ?_
  refine cx_cond rfl (fun h1 => ?_) (fun h1 => ?_)
  ·
   have h1 : n.leaf = false := bT h1
   obtain ⟨hf, hk0, hd, g, rfl, hs2⟩ := hc.resolve_left (fun q => by rw [q.1] at h1; cases h1)
   refine cx_skip ?_
   refine cx_keep rfl rfl ?_
   refine cx_block ?_
   refine cx_draw ?_
   refine ax_q (q_mov rfl) ?_
   refine ax_qe (r' := int ((d + 1 : Nat) : Int)) (q_ibin rfl rfl rfl) (by rw [wi (by omega) (by omega)]; rfl) ?_
   refine ax_q (q_fadr_ptr rfl) ?_
   refine ax_q (q_load1_ptr rfl rfl rfl) ?_
   refine ax_q (q_mov rfl) ?_
   refine ax_q (q_ix rfl rfl (mapO hn)) ?_
   first | refine ax_q (q_fadr_ptr rfl) ?_ | refine ax_q (q_fadr_rptr rfl) ?_ | refine ax_q (q_fadr_ip rfl) ?_
   first | refine ax_q (q_load1_ptr rfl rfl rfl) ?_ | refine ax_q (q_load1_ip rfl) ?_ | refine ax_q (q_load1_rptr rfl rfl rfl rfl) ?_ | refine ax_q (q_load1_rptr rfl rfl (by assumption) rfl) ?_ | refine ax_q (q_load1_rptr rfl rfl (mapAt (by first | assumption | omega)) rfl) ?_
   refine ax_q (q_ixI rfl rfl (by omega) (kidD hk0)) ?_
   first | refine ax_q (q_load1_ptr rfl rfl rfl) ?_ | refine ax_q (q_load1_ip rfl) ?_ | refine ax_q (q_load1_rptr rfl rfl rfl rfl) ?_ | refine ax_q (q_load1_rptr rfl rfl (by assumption) rfl) ?_ | refine ax_q (q_load1_rptr rfl rfl (mapAt (by first | assumption | omega)) rfl) ?_
   refine ax_q (q_mov rfl) ?_
   refine ax_q (q_mov rfl) ?_
   refine ax_nil ?_
   exact ⟨_, (d + 1, n.kids.getD 0 0), Nat.lt_succ_self _, hs2, by repeat (first | exact trivial | refine ⟨rfl, ?_⟩ | refine ⟨?_, ?_⟩)⟩
  ·
   have h1 : n.leaf = true := bF h1
   obtain ⟨hf, rfl⟩ := hc.resolve_right (fun q => by rw [q.1] at h1; cases h1)
   refine cx_exit rfl ?_
   refine cx_keep rfl rfl ?_
   refine cx_seq ?_
   refine cx_ops ?_
   refine ax_q (q_mov rfl) ?_
   refine ax_q (q_mov rfl) ?_
   refine ax_q (q_mov rfl) ?_
   refine ax_nil ?_
   refine cx_keep rfl rfl ?_
   refine cx_ret (ret0 rfl rfl ?_)
   exact ⟨d, d1, d2, d3, rfl, rfl⟩

end Go.Proofs.Ytiapgkpjnadebaa
