/- The walks: what each function computes, as a contract without a world (part 1). -/
import Derived.Test.YtenfhamolacdaaaProg
import Derived.Test.YtenfhamolacdaaaW0
namespace Go.Proofs.Ytenfhamolacdaaa
open Go Go.AM
set_option maxRecDepth 10000
set_option linter.unusedVariables false
set_option linter.unusedSimpArgs false
/- (loop.example/g00332/impl.Tree).keys -/
def k_c_keysT : XCode :=
 .seq (.ops [.op (some 1) (.box (.t 0)),
   .op (some 2) (.mov (.k (.nils 1))),
   .op (some 3) (.mov (.k (.bool false)))])
 (.keep [1] (.seq (.seq (.ops [.op (some 7) (.fadr (.t 1) 1),
   .op (some 8) (.load1 (.t 7)),
   .op (some 9) (.lenS (.t 8)),
   .op (some 10) (.bin .gtr (.t 9) (.k (.int .i64 200)))])
  (.keep [1, 10] (.cond (.t 10)
  (.seq (.ops [.op (some 2) (.mov (.k (.nils 1))),
    .op (some 3) (.mov (.k (.bool false)))])
   (.keep [2, 3] (.ret)))
  (.skip))))
 (.keep [1] (.seq (.drawE [[], [], [1], [1, 2], [1, 2, 3], [0, 1, 2, 3, 4], [0, 1, 2, 3, 4, 5], [0, 1, 2, 3, 4, 5, 6]] [.op (some 11) (.loadN 2 (.t 1)),
   .op (some 12) (.fadr (.t 1) 1),
   .op (some 13) (.load1 (.t 12)),
   .op (some 14) (.lenS (.t 13)),
   .op (some 15) (.mkslice 1 1 [.bool false] (.t 14) (.t 14))]
  [.op (some 16) (.build [.int .i64 0, .nils 3, .nils 1, .nils 1, .int .i64 0, .bool false] [(0, 2, .t 11), (2, 1, .t 15)]),
   .op (some 17) (.box (.t 16)),
   .op (some 4) (.mov (.t 17))])
 (.keep [1, 4] (.seq (.ops [.op (some 18) (.mov (.t 4)),
   .op (some 19) (.fadr (.t 1) 0),
   .op (some 20) (.load1 (.t 19)),
   .call (some 21) 56 [.t 18, .t 20, .k (.int .i64 1), .k (.bool true)]])
 (.keep [4] (.seq (.seq (.ops [.op (some 22) (.mov (.t 4)),
   .op (some 23) (.nilck (.t 22)),
   .op (some 24) (.fadr (.t 23) 5),
   .op (some 25) (.load1 (.t 24)),
   .op (some 26) (.mov (.t 25)),
   .andor 32 false 4 26 [.op (some 27) (.mov (.t 4)), .op (some 28) (.nilck (.t 27)), .op (some 29) (.fadr (.t 28) 2), .op (some 30) (.load1 (.t 29)), .call (some 31) 57 [.t 30, .k (.bool false)]] (.t 31),
   .op (some 33) (.mov (.t 32)),
   .andor 40 false 11 33 [.op (some 34) (.mov (.t 4)), .op (some 35) (.nilck (.t 34)), .op (some 36) (.fadr (.t 35) 3), .op (some 37) (.load1 (.t 36)), .op (some 38) (.lenS (.t 37)), .op (some 39) (.bin .gtr (.t 38) (.k (.int .i64 60)))] (.t 39)])
  (.keep [4, 40] (.cond (.t 40)
  (.seq (.ops [.op (some 2) (.mov (.k (.nils 1))),
    .op (some 3) (.mov (.k (.bool false)))])
   (.keep [2, 3] (.ret)))
  (.skip))))
 (.keep [4] (.seq (.seq (.ops [.op (some 41) (.mov (.t 4)),
   .op (some 42) (.nilck (.t 41)),
   .op (some 43) (.fadr (.t 42) 3),
   .op (some 44) (.load1 (.t 43)),
   .op (some 45) (.lenS (.t 44)),
   .op (some 46) (.mov (.k (.int .i64 0)))])
  (.keep [4, 44, 45, 46] (.block 0 (.loop (.seq (.ops [.op (some 47) (.bin .lss (.t 46) (.t 45))])
   (.keep [4, 44, 45, 46, 47] (.seq (.cond (.t 47)
    (.skip)
    (.exit 0))
   (.keep [4, 44, 45, 46] (.seq (.block 1 (.seq (.ops [.op (some 48) (.mov (.t 46)),
     .op (some 49) (.iadr 1 (.t 44) (.t 46)),
     .op (some 50) (.load1 (.t 49)),
     .op (some 5) (.mov (.t 48)),
     .op (some 6) (.mov (.t 50))])
    (.keep [4, 5, 6, 44, 45, 46] (.seq (.ops [.op (some 51) (.mov (.t 6)),
     .call (some 52) 34 [.t 51],
     .op (some 53) (.not (.t 52)),
     .op (some 54) (.mov (.t 53)),
     .andor 69 false 3 54 [.op (some 55) (.mov (.t 5)), .op (some 56) (.bin .gtr (.t 55) (.k (.int .i64 0))), .op (some 57) (.mov (.t 56)), .andor 68 true 6 57 [.op (some 58) (.mov (.t 4)), .op (some 59) (.nilck (.t 58)), .op (some 60) (.fadr (.t 59) 3), .op (some 61) (.load1 (.t 60)), .op (some 62) (.mov (.t 5)), .op (some 63) (.bin .sub (.t 62) (.k (.int .i64 1))), .op (some 64) (.iadr 1 (.t 61) (.t 63)), .op (some 65) (.load1 (.t 64)), .op (some 66) (.mov (.t 6)), .op (some 67) (.bin .geq (.t 65) (.t 66))] (.t 67)] (.t 68)])
    (.keep [4, 44, 45, 46, 69] (.cond (.t 69)
    (.seq (.ops [.op (some 2) (.mov (.k (.nils 1))),
      .op (some 3) (.mov (.k (.bool false)))])
     (.keep [2, 3] (.ret)))
    (.skip)))))))
   (.keep [4, 44, 45, 46] (.ops [.op (some 70) (.bin .add (.t 46) (.k (.int .i64 1))),
    .op (some 46) (.mov (.t 70))])))))))))))
 (.keep [4] (.seq (.ops [.op (some 71) (.mov (.t 4)),
   .op (some 72) (.nilck (.t 71)),
   .op (some 73) (.fadr (.t 72) 3),
   .op (some 74) (.load1 (.t 73)),
   .op (some 2) (.mov (.t 74)),
   .op (some 3) (.mov (.k (.bool true)))])
 (.keep [2, 3] (.ret))))))))))))))
theorem k_c_keysT_fits : fitsF Try.prog 33 ⟨75, k_c_keysT, [.t 2, .t 3]⟩ = true := by kernel_rfl
set_option maxHeartbeats 4000000 in
theorem c_keysT {t : ITree} (hT : TB t) : Con Try.prog noMv 33 [.agg [.d (.int .i64 t.Root), .d (.sl 3 (t.Nodes.map INode.row))]] [] (fun r h => ∃ (ks : List Str) (ok : Bool), ((ok = true ∧ keysI t = some ks) ∨ (ok = false ∧ keysI t = none)) ∧ r = .tup [.osl 0 1 0 ks.length, bool ok] ∧ h = [(0, .rows 1 (ks.map strRow))]) := by
 refine con_of2 k_c_keysT_fits rfl fun C hP hmv => ?_
 unfold k_c_keysT
 have hT1 := hT.nd
 refine cx_seq (cx_ops ?_)
 refine ax_e (e_box rfl rfl (by decide) rfl rfl rfl) ?_
 refine ax_q (q_mov rfl) ?_
 refine ax_q (q_mov rfl) ?_
 refine ax_nil (cx_keep rfl rfl (cx_seq (cx_seq (cx_ops ?_))))
 refine ax_q (q_fadr_ptr rfl) ?_
 refine ax_q (q_load1_ptr rfl rfl rfl) ?_
 refine ax_q (q_lenS_map rfl) ?_
 refine ax_q (q_ibin rfl rfl rfl) ?_
 refine ax_nil (cx_keep rfl rfl ?_)
 refine cx_cond rfl (fun h0 => ?_) (fun h0 => ?_)
 ·
  have h0 := dT h0
  refine cx_seq (cx_ops ?_)
  refine ax_q (q_mov rfl) ?_
  refine ax_q (q_mov rfl) ?_
  refine ax_nil (cx_keep rfl rfl ?_)
  refine cx_wk (wk_virt 900 1 rfl rfl rfl) ?_
  refine cx_wk (wk_zs 2 900 [] rfl rfl) ?_
  refine cx_ret (retN (fun _ => 0) [900] rfl rfl rfl rfl rfl ?_)
  exact ⟨[], false, .inr ⟨rfl, keysI_no (.inl (by omega))⟩, rfl, rfl⟩
 ·
  have h0 := dF h0
  have hn : t.Nodes.length ≤ 200 := by omega
  refine cx_skip ?_
  refine cx_keep rfl rfl (cx_seq ?_)
  refine cx_drawL 0 11 (fun _ => false) (fun _ => true) [] ([]) [[1], [1], [12], [13], [14]] [[], [], [], [], []] rfl ?_
  first | refine ⟨⟨11, _, []⟩, .inl ⟨rfl, rfl, rfl, locl_of (loc_q (q_ldN rfl rfl rfl))⟩, ?_⟩
  first | refine ⟨_, .inr ⟨rfl, _, rfl, .inr ⟨rfl, rfl, .inr rfl, rfl, rfl⟩, loc_q (q_fadr_ptr rfl)⟩, ?_⟩
  first | refine ⟨_, .inr ⟨rfl, _, rfl, .inr ⟨rfl, rfl, .inr rfl, rfl, rfl⟩, loc_q (q_load1_ptr rfl rfl rfl)⟩, ?_⟩
  refine ⟨_, .inr ⟨rfl, _, rfl, .inr ⟨rfl, rfl, .inr rfl, rfl, rfl⟩, loc_q (q_lenS_map rfl)⟩, ?_⟩
  first | refine ⟨_, .inr ⟨rfl, _, rfl, .inr ⟨rfl, rfl, .inr rfl, rfl, rfl⟩, loc_mkB rfl rfl rfl (by omega)⟩, ?_⟩
  refine ⟨rfl, ?_⟩
  refine ax_q (q_build rfl) ?_
  refine ax_e (e_box rfl rfl (by decide) rfl rfl rfl) ?_
  refine ax_q (q_mov rfl) ?_
  refine ax_nil (cx_keep rfl rfl (cx_seq (cx_ops ?_)))
  refine ax_q (q_mov rfl) ?_
  refine ax_q (q_fadr_ptr rfl) ?_
  refine ax_q (q_load1_ptr rfl rfl rfl) ?_
  refine ax_wk (wk_virt 901 1 rfl rfl rfl) ?_
  refine ax_wk (wk_zsb 17 901 3 rfl rfl rfl) ?_
  refine ax_call rfl (vcall_own (c_node_look (f := t.Nodes.length + 1) (d := 1) (k := t.Root) (rt := true) (st := st0 t) hn hT (by unfold st0; simp) (by unfold st0; rw [unseen_rep]; omega) (by unfold st0; rw [unseen_rep]; omega) (by unfold st0; rw [unseen_rep]; simp; omega)) hP hmv false (fun e => bif Nat.beq e 1000 then 17 else bif Nat.beq e 1001 then 15 else 901) [1000, 1001, 1002] ⟨rfl, rfl, rfl, rfl, ⟨rfl, rfl, rfl, trivial⟩, rfl, rfl, rfl⟩ (.pass rfl rfl (.pass rfl rfl (.pass rfl rfl (.pass rfl rfl .nil)))) ?_)
  rintro r h ⟨s, bad, rfl, rfl, hsl, hkl, hor⟩
  refine ⟨(fun e => bif Nat.beq e 1000 then 17 else bif Nat.beq e 1001 then 15 else 901), [], ⟨rfl, rfl, rfl, rfl, mem3 rfl rfl rfl, rfl, rfl, fun h => absurd h Bool.false_ne_true⟩, ?_⟩
  refine ax_nil (cx_keep rfl rfl (cx_seq (cx_seq (cx_ops ?_))))
  refine ax_q (q_mov rfl) ?_
  refine ax_q (q_nilck_ptr rfl) ?_
  refine ax_q (q_fadr_ptr rfl) ?_
  refine ax_q (q_load1_ptr rfl rfl rfl) ?_
  refine ax_q (q_mov rfl) ?_
  apply ax_or rfl rfl
  ·
   intro g
   refine ax_q (q_mov rfl) ?_
   refine ax_q (q_nilck_ptr rfl) ?_
   refine ax_q (q_fadr_ptr rfl) ?_
   refine ax_q (q_load1_ptr rfl rfl rfl) ?_
   first | refine ax_call rfl (vc_pure0 (c_Contains_Bool (xs := s.seen) (v := false) ?_) hP rfl rfl ?_) | refine ax_call rfl (vc_lend0 (c_Contains_Bool (xs := s.seen) (v := false) ?_) hP (by repeat (first | exact lal_id _ rfl | exact LAL.nil | refine LAL.cons ?_ ?_ | exact la_id _ rfl | exact LA.lend (lend_whole rfl (by first | (simp; done) | (rw [List.length_map]; rfl))) | refine LA.agg ?_ | refine LA.fn ?_ | refine LA.lend ?_ | exact Lend.d _ | exact Lend.zs _ | exact lend_whole rfl (by first | (simp; done) | (rw [List.length_map]; rfl)) | refine Lend.ptr rfl ?_ | refine Lend.fn ?_ | exact Lend.osld rfl (by simp [mkNs_len]) (nn_map (fun _ => rfl)) | exact LendL.nil | refine LendL.cons ?_ ?_)) rfl rfl ?_)
   ·
    rw [hsl]; unfold st0; simp; omega
   exact ax_nil ⟨rfl, by repeat constructor⟩
  refine ax_q (q_mov rfl) ?_
  apply ax_or rfl rfl
  ·
   intro g
   have g := (fun h => And.intro (id (or_F h).1) (id (or_F h).2)) g
   refine ax_q (q_mov rfl) ?_
   refine ax_q (q_nilck_ptr rfl) ?_
   refine ax_q (q_fadr_ptr rfl) ?_
   refine ax_q (q_load1_ptr rfl rfl rfl) ?_
   first | refine ax_q (q_lenS_map rfl) ?_ | refine ax_q (q_lenS_osl rfl) ?_
   refine ax_q (q_ibin rfl rfl rfl) ?_
   exact ax_nil ⟨rfl, by repeat constructor⟩
  refine ax_nil (cx_keep rfl rfl ?_)
  refine cx_cond rfl (fun h1 => ?_) (fun h1 => ?_)
  ·
   have hno : keysI t = none := by
    rcases hor with ⟨rfl, hl⟩ | ⟨rfl, hl⟩
    ·
     rw [keysI_of hn hl]
     unfold keysOf
     rw [if_neg]
     intro q
     rw [any_seen, q.1.1, decide_eq_false (by have := q.1.2; omega)] at h1
     cases h1
    ·
     exact keysI_no (.inr hl)
   refine cx_seq (cx_ops ?_)
   refine ax_q (q_mov rfl) ?_
   refine ax_q (q_mov rfl) ?_
   refine ax_nil (cx_keep rfl rfl ?_)
   refine cx_wk (wk_virt 900 1 rfl rfl rfl) ?_
   refine cx_wk (wk_zs 2 900 [] rfl rfl) ?_
   refine cx_ret (retN (fun _ => 0) [900] rfl rfl rfl rfl rfl ?_)
   exact ⟨[], false, .inr ⟨rfl, hno⟩, rfl, rfl⟩
  ·
   have hb : bad = false ∧ s.seen.all (fun b => b) = true ∧ s.keys.length ≤ 60 := by
    rw [any_seen] at h1
    simp only [Bool.or_eq_false_iff, Bool.not_eq_false', decide_eq_false_iff_not] at h1
    exact ⟨h1.1.1, h1.1.2, by omega⟩
   obtain ⟨rfl, hb2, hb3⟩ := hb
   have hl := (hor.resolve_right (fun q => by cases q.1)).2
   have hKO := keysI_of hn hl
   refine cx_skip ?_
   refine cx_keep rfl rfl (cx_seq (cx_seq (cx_ops ?_)))
   refine ax_q (q_mov rfl) ?_
   refine ax_q (q_nilck_ptr rfl) ?_
   refine ax_q (q_fadr_ptr rfl) ?_
   refine ax_q (q_load1_ptr rfl rfl rfl) ?_
   first | refine ax_q (q_lenS_map rfl) ?_ | refine ax_q (q_lenS_osl rfl) ?_
   refine ax_q (q_mov rfl) ?_
   refine ax_nil (cx_keep rfl rfl (cx_block ?_))
   refine cx_loopU (fun m k => k ≤ s.keys.length ∧ m = s.keys.length - k ∧ ∀ i (hi : i < s.keys.length), i < k → (inR s.keys[i].length 1 30 && (decide (i = 0) || Op.bytesLess (s.keys.getD (i - 1) []) s.keys[i])) = true) (fun k : Nat => [(46, int k)]) (fun _ => [(1, .box [.d (.int .i64 t.Root), .d (.sl 3 (t.Nodes.map INode.row))]), (17, .box [.d (.int .i64 t.Root), .d (.sl 3 (t.Nodes.map INode.row)), .osl 15 1 0 s.seen.length, .osl 901 1 0 s.keys.length, .d (.int .i64 s.deep), .d (.bool false)]), (15, .rows 1 (s.seen.map boolRow)), (901, .rows 1 (s.keys.map strRow))]) ⟨_, 0, ⟨Nat.zero_le _, rfl, fun i _ hi => by omega⟩, by repeat constructor⟩ ?_
   rintro m k ⟨hk0, rfl, hg⟩
   refine cx_seq (cx_ops ?_)
   refine ax_q (q_ibin rfl rfl rfl) ?_
   refine ax_nil (cx_keep rfl rfl (cx_seq ?_))
   refine cx_cond rfl (fun h2 => ?_) (fun h2 => ?_)
   ·
    have h2 := dT h2
    have h2x : k < s.keys.length := by omega
    refine cx_skip ?_
    refine cx_keep rfl rfl (cx_seq (cx_block (cx_seq (cx_ops ?_))))
    refine ax_q (q_mov rfl) ?_
    refine ax_q (q_ixo rfl rfl h2x) ?_
    refine ax_q (q_load1_rptr (r := strRow s.keys[k]) rfl rfl (mapAt h2x) rfl) ?_
    refine ax_q (q_mov rfl) ?_
    refine ax_q (q_mov rfl) ?_
    refine ax_nil (cx_keep rfl rfl (cx_seq (cx_ops ?_)))
    refine ax_q (q_mov rfl) ?_
    refine ax_call rfl (vc_pure0 (c_isKey (s := s.keys[k]) ) hP rfl rfl ?_)
    refine ax_q (q_not rfl) ?_
    refine ax_q (q_mov rfl) ?_
    apply ax_or rfl rfl
    ·
     intro g
     have g := bF g
     refine ax_q (q_mov rfl) ?_
     refine ax_q (q_ibin rfl rfl rfl) ?_
     refine ax_q (q_mov rfl) ?_
     apply ax_and rfl rfl
     ·
      intro g
      have g := dT g
      refine ax_q (q_mov rfl) ?_
      refine ax_q (q_nilck_ptr rfl) ?_
      refine ax_q (q_fadr_ptr rfl) ?_
      refine ax_q (q_load1_ptr rfl rfl rfl) ?_
      refine ax_q (q_mov rfl) ?_
      refine ax_qe (r' := int ((k - 1 : Nat) : Int)) (q_ibin rfl rfl rfl) (by rw [wi (by omega) (by omega)]; exact congrArg AM.int (by omega)) ?_
      refine ax_q (q_ixo rfl rfl (by omega)) ?_
      refine ax_q (q_load1_rptr (r := strRow (s.keys.getD (k - 1) [])) rfl rfl (strD (by omega)) rfl) ?_
      refine ax_q (q_mov rfl) ?_
      refine ax_q (q_sbin rfl rfl rfl) ?_
      exact ax_nil ⟨rfl, by repeat constructor⟩
     exact ax_nil ⟨rfl, by repeat constructor⟩
    refine ax_nil (cx_keep rfl rfl ?_)
    refine cx_cond rfl (fun h3 => ?_) (fun h3 => ?_)
    ·
     have hgn := key_no h2x h3
     refine cx_seq (cx_ops ?_)
     refine ax_q (q_mov rfl) ?_
     refine ax_q (q_mov rfl) ?_
     refine ax_nil (cx_keep rfl rfl ?_)
     refine cx_wk (wk_virt 900 1 rfl rfl rfl) ?_
     refine cx_wk (wk_zs 2 900 [] rfl rfl) ?_
     refine cx_ret (retN (fun _ => 0) [900] rfl rfl rfl rfl rfl ?_)
     exact ⟨[], false, .inr ⟨rfl, by rw [hKO]; unfold keysOf; rw [if_neg (fun q => by rw [hgn] at q; cases q.2)]⟩, rfl, rfl⟩
    ·
     skip
     refine cx_skip ?_
     refine cx_keep rfl rfl (cx_ops ?_)
     refine ax_qe (r' := int ((k + 1 : Nat) : Int)) (q_ibin rfl rfl rfl) (by rw [wi (by omega) (by omega)]; rfl) ?_
     refine ax_q (q_mov rfl) ?_
     refine ax_nil ?_
     exact ⟨_, k + 1, by omega, ⟨by omega, rfl, fun i hi hik => by
      rcases Nat.lt_succ_iff_lt_or_eq.1 hik with q | rfl
      ·
       exact hg i hi q
      ·
       exact key_yes h2x h3⟩, by repeat constructor⟩
   ·
    have h2 := dF h2
    obtain rfl : k = s.keys.length := by omega
    have hgk := goodK_all (fun i hi => hg i hi (by omega))
    refine cx_exit rfl ?_
    refine cx_keep rfl rfl (cx_seq (cx_ops ?_))
    refine ax_q (q_mov rfl) ?_
    refine ax_q (q_nilck_ptr rfl) ?_
    refine ax_q (q_fadr_ptr rfl) ?_
    refine ax_q (q_load1_ptr rfl rfl rfl) ?_
    refine ax_q (q_mov rfl) ?_
    refine ax_q (q_mov rfl) ?_
    refine ax_nil (cx_keep rfl rfl ?_)
    refine cx_ret (retN (fun _ => 0) [901] rfl rfl rfl rfl rfl ?_)
    exact ⟨s.keys, true, .inl ⟨rfl, by rw [hKO]; unfold keysOf; rw [if_pos ⟨⟨hb2, hb3⟩, hgk⟩]⟩, rfl, rfl⟩


/- loop.example/g00332/impl.treeAsked -/
def k_c_treeAsked : XCode :=
 .seq (.ops [.op (some 2) (.box (.t 0)),
   .op (some 4) (.mov (.k (.nils 1))),
   .op (some 5) (.mov (.k (.int .i64 0)))])
 (.keep [1, 2] (.seq (.seq (.ops [.op (some 8) (.mov (.t 1)),
   .op (some 9) (.bslice 1 [.t 8]),
   .call (some 10) 32 [.t 9]])
  (.keep [1, 2, 10] (.cond (.t 10)
  (.seq (.ops [.op (some 4) (.mov (.k (.nils 1))),
    .op (some 5) (.mov (.k (.int .i64 2)))])
   (.keep [4, 5] (.ret)))
  (.skip))))
 (.keep [1, 2] (.seq (.ops [.op (some 12) (.loadN 2 (.t 2)),
   .call (some 13) 33 [.t 12],
   .op (some 11) (.mov (.t 13)),
   .op (some 14) (.ext (.t 11) 0),
   .op (some 15) (.ext (.t 11) 1),
   .op (some 6) (.mov (.t 14)),
   .op (some 7) (.mov (.t 15))])
 (.keep [1, 6, 7] (.seq (.block 0 (.seq (.ops [.op (some 17) (.mov (.t 7)),
    .op (some 18) (.not (.t 17)),
    .op (some 16) (.mov (.t 18))])
  (.keep [1, 6, 16] (.cond (.t 16)
   (.seq (.ops [.op (some 4) (.mov (.k (.nils 1))),
     .op (some 5) (.mov (.k (.int .i64 1)))])
   (.keep [4, 5] (.ret)))
   (.seq (.ops [.op (some 20) (.mov (.t 1)),
     .call (some 21) 34 [.t 20],
     .op (some 22) (.not (.t 21)),
     .op (some 19) (.mov (.t 22))])
   (.keep [6, 19] (.cond (.t 19)
    (.seq (.ops [.op (some 4) (.mov (.k (.nils 1))),
      .op (some 5) (.mov (.k (.int .i64 4)))])
    (.keep [4, 5] (.ret)))
    (.skip))))))))
 (.keep [6] (.seq (.ops [.op (some 23) (.mov (.t 6)),
   .op (some 4) (.mov (.t 23)),
   .op (some 5) (.mov (.k (.int .i64 0)))])
 (.keep [4, 5] (.ret))))))))))
theorem k_c_treeAsked_fits : fitsF Try.prog 19 ⟨24, k_c_treeAsked, [.t 4, .t 5]⟩ = true := by kernel_rfl
theorem c_treeAsked {t : ITree} {key : Str} (hT : TB t) (hz : key.length ≤ 1048576) : Con Try.prog noMv 19 [.agg [.d (.int .i64 t.Root), .d (.sl 3 (t.Nodes.map INode.row))], str key] [] (fun r h => r = .tup [.osl 0 1 0 (askF t key).1.length, int (askF t key).2] ∧ h = [(0, .rows 1 ((askF t key).1.map strRow))]) := by
 refine con_of2 k_c_treeAsked_fits rfl fun C hP hmv => ?_
 unfold k_c_treeAsked
 refine cx_seq (cx_ops ?_)
 refine ax_e (e_box rfl rfl (by decide) rfl rfl rfl) ?_
 refine ax_q (q_mov rfl) ?_
 refine ax_q (q_mov rfl) ?_
 refine ax_nil (cx_keep rfl rfl (cx_seq (cx_seq (cx_ops ?_))))
 refine ax_q (q_mov rfl) ?_
 refine ax_e (e_bsliceD (rows := [key].map strRow) rfl) ?_
 refine ax_call rfl (vc_pure0 (c_isLong (xs := [key]) ?_) hP rfl rfl ?_)
 ·
  simp
 refine ax_nil (cx_keep rfl rfl ?_)
 refine cx_cond rfl (fun h0 => ?_) (fun h0 => ?_)
 ·
  have hlg :  65536 < key.length := by
   rw [show [key].any long64 = decide (65536 < (key.length : Int)) from by unfold long64; simp] at h0
   have := of_decide_eq_true h0; omega
  refine cx_seq (cx_ops ?_)
  refine ax_q (q_mov rfl) ?_
  refine ax_q (q_mov rfl) ?_
  refine ax_nil (cx_keep rfl rfl ?_)
  refine cx_wk (wk_virt 900 1 rfl rfl rfl) ?_
  refine cx_wk (wk_zs 4 900 [] rfl rfl) ?_
  refine cx_ret (retN (fun _ => 0) [900] rfl rfl rfl rfl rfl ?_)
  rw [askF_long hlg]; exact ⟨rfl, rfl⟩
 ·
  have hlg : ¬ 65536 < key.length := by
   rw [show [key].any long64 = decide (65536 < (key.length : Int)) from by unfold long64; simp] at h0
   have := of_decide_eq_false h0; omega
  refine cx_skip ?_
  refine cx_keep rfl rfl (cx_seq (cx_ops ?_))
  refine ax_q (q_ldN rfl rfl rfl) ?_
  refine ax_call rfl (vc_pure (c_keysT  ?_) hP rfl ?_)
  ·
   assumption
  rintro r h ⟨KS9, OK9, HK9, rfl, rfl⟩
  refine ⟨fun i => 13 + 200 * i, [0], ⟨rfl, rfl, rfl, rfl, rfl, (by first | exact (fun h => absurd h Bool.false_ne_true) | exact (fun _ => ⟨rfl, (noisl_of (by repeat (first | exact trivial | refine ⟨noisl_map (fun _ => rfl), ?_⟩ | refine ⟨?_, ?_⟩)))⟩))⟩, ?_⟩
  skip
  refine ax_q (q_mov rfl) ?_
  refine ax_q (q_ext rfl rfl) ?_
  refine ax_q (q_ext rfl rfl) ?_
  refine ax_q (q_mov rfl) ?_
  refine ax_q (q_mov rfl) ?_
  refine ax_nil (cx_keep rfl rfl (cx_seq (cx_block (cx_seq (cx_ops ?_)))))
  refine ax_q (q_mov rfl) ?_
  refine ax_q (q_not rfl) ?_
  refine ax_q (q_mov rfl) ?_
  refine ax_nil (cx_keep rfl rfl ?_)
  refine cx_cond rfl (fun h1 => ?_) (fun h1 => ?_)
  ·
   have hno : keysI t = none := (HK9.resolve_left (fun q => by rw [q.1] at h1; cases h1)).2
   refine cx_seq (cx_ops ?_)
   refine ax_q (q_mov rfl) ?_
   refine ax_q (q_mov rfl) ?_
   refine ax_nil (cx_keep rfl rfl ?_)
   refine cx_wk (wk_virt 900 1 rfl rfl rfl) ?_
   refine cx_wk (wk_zs 4 900 [] rfl rfl) ?_
   refine cx_ret (retN (fun _ => 0) [900] rfl rfl rfl rfl rfl ?_)
   rw [askF_bad hlg hno]; exact ⟨rfl, rfl⟩
  ·
   have hsm : keysI t = some KS9 := (HK9.resolve_right (fun q => by rw [q.1] at h1; cases h1)).2
   refine cx_seq (cx_ops ?_)
   refine ax_q (q_mov rfl) ?_
   refine ax_call rfl (vc_pure0 (c_isKey  ) hP rfl rfl ?_)
   refine ax_q (q_not rfl) ?_
   refine ax_q (q_mov rfl) ?_
   refine ax_nil (cx_keep rfl rfl ?_)
   refine cx_cond rfl (fun h2 => ?_) (fun h2 => ?_)
   ·
    have h2 : ¬ inR key.length 1 30 = true := by rw [bT h2]; simp
    refine cx_seq (cx_ops ?_)
    refine ax_q (q_mov rfl) ?_
    refine ax_q (q_mov rfl) ?_
    refine ax_nil (cx_keep rfl rfl ?_)
    refine cx_wk (wk_virt 900 1 rfl rfl rfl) ?_
    refine cx_wk (wk_zs 4 900 [] rfl rfl) ?_
    refine cx_ret (retN (fun _ => 0) [900] rfl rfl rfl rfl rfl ?_)
    rw [askF_some hlg hsm, if_neg h2]; exact ⟨rfl, rfl⟩
   ·
    have h2 : inR key.length 1 30 = true := bF h2
    refine cx_skip ?_
    refine cx_keep rfl rfl (cx_seq (cx_ops ?_))
    refine ax_q (q_mov rfl) ?_
    refine ax_q (q_mov rfl) ?_
    refine ax_q (q_mov rfl) ?_
    refine ax_nil (cx_keep rfl rfl ?_)
    refine cx_ret (retN (fun _ => 0) [13] rfl rfl rfl rfl rfl ?_)
    rw [askF_some hlg hsm, if_pos h2]; exact ⟨rfl, rfl⟩


/- cmp.isNaN[string] -/
def k_c_cmp_isNaN : XCode :=
 .seq (.ops [.op (some 2) (.mov (.k (.bool false)))])
 (.keep [0] (.seq (.ops [.op (some 3) (.mov (.t 0)),
   .op (some 4) (.mov (.t 0)),
   .op (some 5) (.bin .neq (.t 3) (.t 4)),
   .op (some 2) (.mov (.t 5))])
 (.keep [2] (.ret))))
theorem k_c_cmp_isNaN_fits : fitsF Try.prog 59 ⟨6, k_c_cmp_isNaN, [.t 2]⟩ = true := by kernel_rfl
theorem c_cmp_isNaN {s : Str} : Con Try.prog noMv 59 [str s] [] (fun r h => r = bool false ∧ h = []) := by
 refine con_of2 k_c_cmp_isNaN_fits rfl fun C hP hmv => ?_
 unfold k_c_cmp_isNaN
 refine cx_seq (cx_ops ?_)
 refine ax_q (q_mov rfl) ?_
 refine ax_nil (cx_keep rfl rfl (cx_seq (cx_ops ?_)))
 refine ax_q (q_mov rfl) ?_
 refine ax_q (q_mov rfl) ?_
 refine ax_q (q_sbin rfl rfl rfl) ?_
 refine ax_q (q_mov rfl) ?_
 refine ax_nil (cx_keep rfl rfl ?_)
 refine cx_ret (ret0 rfl rfl ?_)
 exact ⟨by simp; rfl, rfl⟩


/- cmp.Less[string] -/
def k_c_Less : XCode :=
 .seq (.ops [.op (some 4) (.mov (.k (.bool false)))])
 (.keep [0, 1] (.seq (.ops [.op (some 5) (.mov (.t 0)),
   .call (some 6) 59 [.t 5],
   .op (some 7) (.mov (.t 6)),
   .andor 11 true 2 7 [.op (some 8) (.mov (.t 1)), .call (some 9) 59 [.t 8], .op (some 10) (.not (.t 9))] (.t 10),
   .op (some 12) (.mov (.t 11)),
   .andor 16 false 7 12 [.op (some 13) (.mov (.t 0)), .op (some 14) (.mov (.t 1)), .op (some 15) (.bin .lss (.t 13) (.t 14))] (.t 15),
   .op (some 4) (.mov (.t 16))])
 (.keep [4] (.ret))))
theorem k_c_Less_fits : fitsF Try.prog 35 ⟨17, k_c_Less, [.t 4]⟩ = true := by kernel_rfl
theorem c_Less {a b : Str} : Con Try.prog noMv 35 [str a, str b] [] (fun r h => r = bool (Op.bytesLess a b) ∧ h = []) := by
 refine con_of2 k_c_Less_fits rfl fun C hP hmv => ?_
 unfold k_c_Less
 refine cx_seq (cx_ops ?_)
 refine ax_q (q_mov rfl) ?_
 refine ax_nil (cx_keep rfl rfl (cx_seq (cx_ops ?_)))
 refine ax_q (q_mov rfl) ?_
 refine ax_call rfl (vc_pure0 (c_cmp_isNaN  ) hP rfl rfl ?_)
 refine ax_q (q_mov rfl) ?_
 apply ax_and rfl rfl
 ·
  intro g
  refine ax_q (q_mov rfl) ?_
  refine ax_call rfl (vc_pure0 (c_cmp_isNaN  ) hP rfl rfl ?_)
  refine ax_q (q_not rfl) ?_
  exact ax_nil ⟨rfl, by repeat constructor⟩
 refine ax_q (q_mov rfl) ?_
 apply ax_or rfl rfl
 ·
  intro g
  have g := (fun h => (and_F h).imp id bF) g
  refine ax_q (q_mov rfl) ?_
  refine ax_q (q_mov rfl) ?_
  refine ax_q (q_sbin rfl rfl rfl) ?_
  exact ax_nil ⟨rfl, by repeat constructor⟩
 refine ax_q (q_mov rfl) ?_
 refine ax_nil (cx_keep rfl rfl ?_)
 refine cx_ret (ret0 rfl rfl ?_)
 exact ⟨by simp; rfl, rfl⟩


/- slices.isNaN[string] -/
def k_c_slices_isNaN : XCode :=
 .seq (.ops [.op (some 2) (.mov (.k (.bool false)))])
 (.keep [0] (.seq (.ops [.op (some 3) (.mov (.t 0)),
   .op (some 4) (.mov (.t 0)),
   .op (some 5) (.bin .neq (.t 3) (.t 4)),
   .op (some 2) (.mov (.t 5))])
 (.keep [2] (.ret))))
theorem k_c_slices_isNaN_fits : fitsF Try.prog 36 ⟨6, k_c_slices_isNaN, [.t 2]⟩ = true := by kernel_rfl
theorem c_slices_isNaN {s : Str} : Con Try.prog noMv 36 [str s] [] (fun r h => r = bool false ∧ h = []) := by
 refine con_of2 k_c_slices_isNaN_fits rfl fun C hP hmv => ?_
 unfold k_c_slices_isNaN
 refine cx_seq (cx_ops ?_)
 refine ax_q (q_mov rfl) ?_
 refine ax_nil (cx_keep rfl rfl (cx_seq (cx_ops ?_)))
 refine ax_q (q_mov rfl) ?_
 refine ax_q (q_mov rfl) ?_
 refine ax_q (q_sbin rfl rfl rfl) ?_
 refine ax_q (q_mov rfl) ?_
 refine ax_nil (cx_keep rfl rfl ?_)
 refine cx_ret (ret0 rfl rfl ?_)
 exact ⟨by simp; rfl, rfl⟩


/- slices.BinarySearch[[]string,string] -/
def k_c_BinS : XCode :=
 .seq (.ops [.op (some 4) (.mov (.k (.int .i64 0))),
   .op (some 5) (.mov (.k (.bool false)))])
 (.keep [0, 1] (.seq (.ops [.op (some 10) (.mov (.t 0)),
   .op (some 11) (.lenS (.t 10)),
   .op (some 6) (.mov (.t 11))])
 (.keep [0, 1, 6] (.seq (.ops [.op (some 12) (.mov (.t 6)),
   .op (some 7) (.mov (.k (.int .i64 0))),
   .op (some 8) (.mov (.t 12))])
 (.keep [0, 1, 6, 7, 8] (.seq (.block 0 (.loop (.seq (.seq (.ops [.op (some 13) (.mov (.t 7)),
     .op (some 14) (.mov (.t 8)),
     .op (some 15) (.bin .lss (.t 13) (.t 14))])
   (.keep [0, 1, 6, 7, 8, 15] (.cond (.t 15)
    (.skip)
    (.exit 0))))
   (.keep [0, 1, 6, 7, 8] (.block 1 (.seq (.ops [.op (some 16) (.mov (.t 7)),
     .op (some 17) (.mov (.t 8)),
     .op (some 18) (.bin .add (.t 16) (.t 17)),
     .op (some 19) (.conv .u64 (.t 18)),
     .op (some 20) (.bin .shr (.t 19) (.k (.int .u64 1))),
     .op (some 21) (.conv .i64 (.t 20)),
     .op (some 9) (.mov (.t 21))])
   (.keep [0, 1, 6, 7, 8, 9] (.seq (.ops [.op (some 22) (.mov (.t 0)),
     .op (some 23) (.mov (.t 9)),
     .op (some 24) (.iadr 1 (.t 22) (.t 23)),
     .op (some 25) (.load1 (.t 24)),
     .op (some 26) (.mov (.t 1)),
     .call (some 27) 35 [.t 25, .t 26]])
   (.keep [0, 1, 6, 7, 8, 9, 27] (.cond (.t 27)
    (.ops [.op (some 28) (.mov (.t 9)),
     .op (some 29) (.bin .add (.t 28) (.k (.int .i64 1))),
     .op (some 7) (.mov (.t 29))])
    (.ops [.op (some 30) (.mov (.t 9)),
     .op (some 8) (.mov (.t 30))])))))))))))
 (.keep [0, 1, 6, 7] (.seq (.ops [.op (some 31) (.mov (.t 7)),
   .op (some 32) (.mov (.t 7)),
   .op (some 33) (.mov (.t 6)),
   .op (some 34) (.bin .lss (.t 32) (.t 33)),
   .op (some 35) (.mov (.t 34)),
   .andor 53 true 4 35 [.op (some 36) (.mov (.t 0)), .op (some 37) (.mov (.t 7)), .op (some 38) (.iadr 1 (.t 36) (.t 37)), .op (some 39) (.load1 (.t 38)), .op (some 40) (.mov (.t 1)), .op (some 41) (.bin .eql (.t 39) (.t 40)), .op (some 42) (.mov (.t 41)), .andor 52 false 11 42 [.op (some 43) (.mov (.t 0)), .op (some 44) (.mov (.t 7)), .op (some 45) (.iadr 1 (.t 43) (.t 44)), .op (some 46) (.load1 (.t 45)), .call (some 47) 36 [.t 46], .op (some 48) (.mov (.t 47)), .andor 51 true 17 48 [.op (some 49) (.mov (.t 1)), .call (some 50) 36 [.t 49]] (.t 50)] (.t 51)] (.t 52),
   .op (some 4) (.mov (.t 31)),
   .op (some 5) (.mov (.t 53))])
 (.keep [4, 5] (.ret))))))))))
theorem k_c_BinS_fits : fitsF Try.prog 20 ⟨54, k_c_BinS, [.t 4, .t 5]⟩ = true := by kernel_rfl
theorem c_BinS {xs : List Str} {s : Str} (ha : Asc xs) (hl : xs.length ≤ 1000000) : Con Try.prog noMv 20 [.d (.sl 1 (xs.map strRow)), str s] [] (fun r h => r = .tup [int (posS xs s : Nat), bool (hitS xs s)] ∧ h = []) := by
 refine con_of2 k_c_BinS_fits rfl fun C hP hmv => ?_
 unfold k_c_BinS
 refine cx_seq (cx_ops ?_)
 refine ax_q (q_mov rfl) ?_
 refine ax_q (q_mov rfl) ?_
 refine ax_nil (cx_keep rfl rfl (cx_seq (cx_ops ?_)))
 refine ax_q (q_mov rfl) ?_
 refine ax_q (q_lenS_map rfl) ?_
 refine ax_q (q_mov rfl) ?_
 refine ax_nil (cx_keep rfl rfl (cx_seq (cx_ops ?_)))
 refine ax_q (q_mov rfl) ?_
 refine ax_q (q_mov rfl) ?_
 refine ax_q (q_mov rfl) ?_
 refine ax_nil (cx_keep rfl rfl (cx_seq (cx_block ?_)))
 refine cx_loopU (fun n (p : Nat × Nat) => p.1 ≤ posS xs s ∧ posS xs s ≤ p.2 ∧ p.2 ≤ xs.length ∧ n = p.2 - p.1) (fun p => [(7, int (p.1 : Nat)), (8, int (p.2 : Nat))]) (fun _ => []) ⟨_, (0, xs.length), ⟨Nat.zero_le _, posS_le, Nat.le_refl _, rfl⟩, by repeat constructor⟩ ?_
 rintro n ⟨i, j⟩ ⟨hi, hj, hjl, rfl⟩
 simp only at hi hj hjl ⊢
 refine cx_seq (cx_seq (cx_ops ?_))
 refine ax_q (q_mov rfl) ?_
 refine ax_q (q_mov rfl) ?_
 refine ax_q (q_ibin rfl rfl rfl) ?_
 refine ax_nil (cx_keep rfl rfl ?_)
 refine cx_cond rfl (fun h0 => ?_) (fun h0 => ?_)
 ·
  have h0 := dT h0
  have hij : i < j := by omega
  have hh : (i + j) / 2 < xs.length := by omega
  refine cx_skip ?_
  refine cx_keep rfl rfl (cx_block (cx_seq (cx_ops ?_)))
  refine ax_q (q_mov rfl) ?_
  refine ax_q (q_mov rfl) ?_
  refine ax_qe (r' := int ((i + j : Nat) : Int)) (q_ibin rfl rfl rfl) (by rw [wi (by omega) (by omega)]; rfl) ?_
  refine ax_qe (r' := .d (.int .u64 ((i + j : Nat) : Int))) (q_conv rfl) (u64N (by omega)) ?_
  refine ax_qe (r' := .d (.int .u64 (((i + j) / 2 : Nat) : Int))) (q_ishf rfl rfl rfl (by omega)) (shrN) ?_
  refine ax_qe (r' := int (((i + j) / 2 : Nat) : Int)) (q_conv rfl) (i64N (by omega)) ?_
  refine ax_q (q_mov rfl) ?_
  refine ax_nil (cx_keep rfl rfl (cx_seq (cx_ops ?_)))
  refine ax_q (q_mov rfl) ?_
  refine ax_q (q_mov rfl) ?_
  refine ax_q (q_ix rfl rfl (mapAt hh)) ?_
  first | refine ax_q (q_load1_ptr rfl rfl rfl) ?_ | refine ax_q (q_load1_ip rfl) ?_
  refine ax_q (q_mov rfl) ?_
  refine ax_call rfl (vc_pure0 (c_Less  ) hP rfl rfl ?_)
  refine ax_nil (cx_keep rfl rfl ?_)
  refine cx_cond rfl (fun h1 => ?_) (fun h1 => ?_)
  ·
   skip
   refine cx_ops ?_
   refine ax_q (q_mov rfl) ?_
   refine ax_qe (r' := int (((i + j) / 2 + 1 : Nat) : Int)) (q_ibin rfl rfl rfl) (by rw [wi (by omega) (by omega)]; rfl) ?_
   refine ax_q (q_mov rfl) ?_
   refine ax_nil ?_
   exact ⟨_, ((i + j) / 2 + 1, j), by simp only; omega, ⟨by simp only; exact Nat.lt_of_not_le (fun h => by have := posS_hi ha h hh; rw [h1] at this; cases this), by simp only; omega, by simp only; omega, rfl⟩, by repeat constructor⟩
  ·
   skip
   refine cx_ops ?_
   refine ax_q (q_mov rfl) ?_
   refine ax_q (q_mov rfl) ?_
   refine ax_nil ?_
   exact ⟨_, (i, (i + j) / 2), by simp only; omega, ⟨by simp only; omega, by simp only; exact Nat.le_of_not_lt (fun h => by have := posS_lo h hh; rw [h1] at this; cases this), by simp only; omega, rfl⟩, by repeat constructor⟩
 ·
  have h0 := dF h0
  have hij : i = posS xs s := by omega
  subst hij
  refine cx_exit rfl ?_
  refine cx_keep rfl rfl (cx_seq (cx_ops ?_))
  refine ax_q (q_mov rfl) ?_
  refine ax_q (q_mov rfl) ?_
  refine ax_q (q_mov rfl) ?_
  refine ax_q (q_ibin rfl rfl rfl) ?_
  refine ax_q (q_mov rfl) ?_
  apply ax_and rfl rfl
  ·
   intro g
   have g := dT g
   refine ax_q (q_mov rfl) ?_
   refine ax_q (q_mov rfl) ?_
   refine ax_q (q_ix (row := strRow (xs.getD (posS xs s) [])) rfl rfl (strD (by omega))) ?_
   first | refine ax_q (q_load1_ptr rfl rfl rfl) ?_ | refine ax_q (q_load1_ip rfl) ?_
   refine ax_q (q_mov rfl) ?_
   refine ax_q (q_sbin rfl rfl rfl) ?_
   refine ax_q (q_mov rfl) ?_
   apply ax_or rfl rfl
   ·
    intro g
    have g := dF g
    refine ax_q (q_mov rfl) ?_
    refine ax_q (q_mov rfl) ?_
    refine ax_q (q_ix (row := strRow (xs.getD (posS xs s) [])) rfl rfl (strD (by omega))) ?_
    first | refine ax_q (q_load1_ptr rfl rfl rfl) ?_ | refine ax_q (q_load1_ip rfl) ?_
    refine ax_call rfl (vc_pure0 (c_slices_isNaN  ) hP rfl rfl ?_)
    refine ax_q (q_mov rfl) ?_
    apply ax_and rfl rfl
    ·
     intro g
     refine ax_q (q_mov rfl) ?_
     refine ax_call rfl (vc_pure0 (c_slices_isNaN  ) hP rfl rfl ?_)
     exact ax_nil ⟨rfl, by repeat constructor⟩
    exact ax_nil ⟨rfl, by repeat constructor⟩
   exact ax_nil ⟨rfl, by repeat constructor⟩
  refine ax_q (q_mov rfl) ?_
  refine ax_q (q_mov rfl) ?_
  refine ax_nil (cx_keep rfl rfl ?_)
  refine cx_ret (ret0 rfl rfl ?_)
  exact ⟨by rw [← hitS_and ha, Bool.and_false, Bool.or_false]; rfl, rfl⟩


/- loop.example/g00332/impl.NewTree -/
def k_c_NewTree : XCode :=
 .seq (.ops [.op (some 0) (.alloc [.int .i64 0, .nils 3])])
 (.keep [0] (.seq (.ops [.op (some 1) (.build [.bool false, .nils 1, .nils 1] [(0, 1, .k (.bool true))]),
   .op (some 2) (.bslice 3 [.t 1]),
   .op (some 3) (.build [.int .i64 0, .nils 3] [(1, 1, .t 2)]),
   .op none (.store 2 (.t 0) (.t 3))])
 (.keep [0] (.ret))))
theorem k_c_NewTree_fits : fitsF Try.prog 37 ⟨4, k_c_NewTree, [.cN 0 2]⟩ = true := by kernel_rfl
theorem c_NewTree  : Con Try.prog noMv 37 [] [] (fun r h => r = .agg [.d (.int .i64 (treeT ([] : List Str)).root), .osl 0 3 0 (treeT ([] : List Str)).nodes.length] ∧ h = [(0, .deep 3 ((treeT ([] : List Str)).nodes.map TN.row) [])]) := by
 refine con_of2 k_c_NewTree_fits rfl fun C hP hmv => ?_
 unfold k_c_NewTree
 refine cx_seq (cx_ops ?_)
 refine ax_e (e_alloc (by decide) rfl rfl) ?_
 refine ax_nil (cx_keep rfl rfl (cx_seq (cx_ops ?_)))
 refine ax_q (q_build rfl) ?_
 refine ax_e (e_bsliceE (ds := TN.row ⟨true, [], []⟩) rfl rfl (.flat (.flat rfl) (.flat (.zs 1) (.flat (.zs 1) .nil))) rfl (by decide) rfl rfl) ?_
 refine ax_q (q_build rfl) ?_
 refine ax_e (e_st rfl rfl rfl rfl rfl rfl rfl) ?_
 refine ax_nil (cx_keep rfl rfl ?_)
 refine cx_ret (retN (fun _ => 0) [2] rfl rfl rfl rfl rfl ?_)
 exact ⟨rfl, rfl⟩


/- loop.example/g00332/impl.chunk -/
def k_c_chunk : XCode :=
 .seq (.ops [.op (some 4) (.mov (.k (.int .i64 0)))])
 (.keep [0, 1] (.seq (.block 0 (.seq (.ops [.op (some 6) (.mov (.t 0)),
    .op (some 7) (.mov (.t 1)),
    .op (some 8) (.bin .leq (.t 6) (.t 7)),
    .op (some 5) (.mov (.t 8))])
  (.keep [0, 1, 5] (.cond (.t 5)
   (.seq (.ops [.op (some 9) (.mov (.t 0)),
     .op (some 4) (.mov (.t 9))])
   (.keep [4] (.ret)))
   (.seq (.ops [.op (some 11) (.mov (.t 0)),
     .op (some 12) (.mov (.t 1)),
     .op (some 13) (.bin .add (.t 12) (.k (.int .i64 1))),
     .op (some 14) (.bin .eql (.t 11) (.t 13)),
     .op (some 10) (.mov (.t 14))])
   (.keep [1, 10] (.cond (.t 10)
    (.seq (.ops [.op (some 15) (.mov (.t 1)),
      .op (some 16) (.bin .sub (.t 15) (.k (.int .i64 1))),
      .op (some 4) (.mov (.t 16))])
    (.keep [4] (.ret)))
    (.skip))))))))
 (.keep [1] (.seq (.ops [.op (some 17) (.mov (.t 1)),
   .op (some 4) (.mov (.t 17))])
 (.keep [4] (.ret))))))
theorem k_c_chunk_fits : fitsF Try.prog 38 ⟨18, k_c_chunk, [.t 4]⟩ = true := by kernel_rfl
theorem c_chunk {a b : Nat} (ha : a ≤ 1000) (hb : 1 ≤ b ∧ b ≤ 100) : Con Try.prog noMv 38 [int a, int b] [] (fun r h => r = int (chunkN a b : Nat) ∧ h = []) := by
 refine con_of2 k_c_chunk_fits rfl fun C hP hmv => ?_
 unfold k_c_chunk
 refine cx_seq (cx_ops ?_)
 refine ax_q (q_mov rfl) ?_
 refine ax_nil (cx_keep rfl rfl (cx_seq (cx_block (cx_seq (cx_ops ?_)))))
 refine ax_q (q_mov rfl) ?_
 refine ax_q (q_mov rfl) ?_
 refine ax_q (q_ibin rfl rfl rfl) ?_
 refine ax_q (q_mov rfl) ?_
 refine ax_nil (cx_keep rfl rfl ?_)
 refine cx_cond rfl (fun h0 => ?_) (fun h0 => ?_)
 ·
  have h0 := dT h0
  refine cx_seq (cx_ops ?_)
  refine ax_q (q_mov rfl) ?_
  refine ax_q (q_mov rfl) ?_
  refine ax_nil (cx_keep rfl rfl ?_)
  refine cx_ret (ret0 rfl rfl ?_)
  exact ⟨by unfold chunkN; rw [if_pos (by omega)]; rfl, rfl⟩
 ·
  have h0 := dF h0
  refine cx_seq (cx_ops ?_)
  refine ax_q (q_mov rfl) ?_
  refine ax_q (q_mov rfl) ?_
  refine ax_q (q_add rfl rfl (by omega)) ?_
  refine ax_q (q_ibin rfl rfl rfl) ?_
  refine ax_q (q_mov rfl) ?_
  refine ax_nil (cx_keep rfl rfl ?_)
  refine cx_cond rfl (fun h1 => ?_) (fun h1 => ?_)
  ·
   have h1 := dT h1
   refine cx_seq (cx_ops ?_)
   refine ax_q (q_mov rfl) ?_
   refine ax_qe (r' := int ((b - 1 : Nat) : Int)) (q_ibin rfl rfl rfl) (by rw [wi (by omega) (by omega)]; exact congrArg AM.int (by omega)) ?_
   refine ax_q (q_mov rfl) ?_
   refine ax_nil (cx_keep rfl rfl ?_)
   refine cx_ret (ret0 rfl rfl ?_)
   exact ⟨by unfold chunkN; rw [if_neg (by omega), if_pos (by omega)]; rfl, rfl⟩
  ·
   have h1 := dF h1
   refine cx_skip ?_
   refine cx_keep rfl rfl (cx_seq (cx_ops ?_))
   refine ax_q (q_mov rfl) ?_
   refine ax_q (q_mov rfl) ?_
   refine ax_nil (cx_keep rfl rfl ?_)
   refine cx_ret (ret0 rfl rfl ?_)
   exact ⟨by unfold chunkN; rw [if_neg (by omega), if_neg (by omega)]; rfl, rfl⟩


/- slices.Clone[[]string,string] -/
def k_c_Clone_Str : XCode :=
 .seq (.ops [.op (some 2) (.mov (.k (.nils 1)))])
 (.keep [0] (.seq (.seq (.ops [.op (some 3) (.mov (.t 0)),
   .op (some 4) (.eqn false (.t 3))])
  (.keep [0, 4] (.cond (.t 4)
  (.seq (.ops [.op (some 2) (.mov (.k (.nils 1)))])
   (.keep [2] (.ret)))
  (.skip))))
 (.keep [0] (.seq (.ops [.op (some 5) (.bslice 1 []),
   .op (some 6) (.mov (.t 0)),
   .op (some 7) (.app 1 16 [.str []] (.t 5) (.t 6)),
   .op (some 2) (.mov (.t 7))])
 (.keep [2] (.ret))))))
theorem k_c_Clone_Str_fits : fitsF Try.prog 39 ⟨8, k_c_Clone_Str, [.t 2]⟩ = true := by kernel_rfl
theorem c_Clone_Str {xs : List Str} (hw : xs.length ≤ 1048576) : Con Try.prog noMv 39 [.d (.sl 1 (xs.map strRow))] [] (fun r h => r = .osl 0 1 0 xs.length ∧ h = [(0, .rows 1 (xs.map strRow))]) := by
 refine con_of2 k_c_Clone_Str_fits rfl fun C hP hmv => ?_
 unfold k_c_Clone_Str
 refine cx_seq (cx_ops ?_)
 refine ax_q (q_mov rfl) ?_
 refine ax_nil (cx_keep rfl rfl (cx_seq (cx_seq (cx_ops ?_))))
 refine ax_q (q_mov rfl) ?_
 refine ax_eqn_sl rfl (fun b hb => ?_)
 refine ax_nil (cx_keep rfl rfl ?_)
 refine cx_cond rfl (fun h0 => ?_) (fun h0 => ?_)
 ·
  skip
  refine cx_seq (cx_ops ?_)
  refine ax_q (q_mov rfl) ?_
  refine ax_nil (cx_keep rfl rfl ?_)
  have hx : xs = [] := List.map_eq_nil_iff.1 (hb h0)
  subst hx
  refine cx_wk (wk_virt 900 1 rfl rfl rfl) ?_
  refine cx_wk (wk_zs 2 900 [] rfl rfl) ?_
  refine cx_ret (retN (fun _ => 0) [900] rfl rfl rfl rfl rfl ?_)
  exact ⟨rfl, rfl⟩
 ·
  skip
  refine cx_skip ?_
  refine cx_keep rfl rfl (cx_seq (cx_ops ?_))
  refine ax_e (e_bslice rfl (by decide) rfl rfl) ?_
  refine ax_q (q_mov rfl) ?_
  refine ax_e (e_app_osl rfl rfl (Nat.le_refl _) rfl (src_sl 1 _) (.inl (by decide)) (by simp only [List.length_map, List.length_nil]; omega)) ?_
  refine ax_q (q_mov rfl) ?_
  refine ax_nil (cx_keep rfl rfl ?_)
  refine cx_ret (retN (fun _ => 0) [5] rfl rfl rfl rfl rfl ?_)
  exact ⟨by simp [renA, mkRes], by simp [renOs, renO]⟩


/- slices.Clone[[]int,int] -/
def k_c_Clone_Kid : XCode :=
 .seq (.ops [.op (some 2) (.mov (.k (.nils 1)))])
 (.keep [0] (.seq (.seq (.ops [.op (some 3) (.mov (.t 0)),
   .op (some 4) (.eqn false (.t 3))])
  (.keep [0, 4] (.cond (.t 4)
  (.seq (.ops [.op (some 2) (.mov (.k (.nils 1)))])
   (.keep [2] (.ret)))
  (.skip))))
 (.keep [0] (.seq (.ops [.op (some 5) (.bslice 1 []),
   .op (some 6) (.mov (.t 0)),
   .op (some 7) (.app 1 8 [.int .i64 0] (.t 5) (.t 6)),
   .op (some 2) (.mov (.t 7))])
 (.keep [2] (.ret))))))
theorem k_c_Clone_Kid_fits : fitsF Try.prog 40 ⟨8, k_c_Clone_Kid, [.t 2]⟩ = true := by kernel_rfl
theorem c_Clone_Kid {xs : List Nat} (hw : xs.length ≤ 1048576) : Con Try.prog noMv 40 [.d (.sl 1 (xs.map kidRow))] [] (fun r h => r = .osl 0 1 0 xs.length ∧ h = [(0, .rows 1 (xs.map kidRow))]) := by
 refine con_of2 k_c_Clone_Kid_fits rfl fun C hP hmv => ?_
 unfold k_c_Clone_Kid
 refine cx_seq (cx_ops ?_)
 refine ax_q (q_mov rfl) ?_
 refine ax_nil (cx_keep rfl rfl (cx_seq (cx_seq (cx_ops ?_))))
 refine ax_q (q_mov rfl) ?_
 refine ax_eqn_sl rfl (fun b hb => ?_)
 refine ax_nil (cx_keep rfl rfl ?_)
 refine cx_cond rfl (fun h0 => ?_) (fun h0 => ?_)
 ·
  skip
  refine cx_seq (cx_ops ?_)
  refine ax_q (q_mov rfl) ?_
  refine ax_nil (cx_keep rfl rfl ?_)
  have hx : xs = [] := List.map_eq_nil_iff.1 (hb h0)
  subst hx
  refine cx_wk (wk_virt 900 1 rfl rfl rfl) ?_
  refine cx_wk (wk_zs 2 900 [] rfl rfl) ?_
  refine cx_ret (retN (fun _ => 0) [900] rfl rfl rfl rfl rfl ?_)
  exact ⟨rfl, rfl⟩
 ·
  skip
  refine cx_skip ?_
  refine cx_keep rfl rfl (cx_seq (cx_ops ?_))
  refine ax_e (e_bslice rfl (by decide) rfl rfl) ?_
  refine ax_q (q_mov rfl) ?_
  refine ax_e (e_app_osl rfl rfl (Nat.le_refl _) rfl (src_sl 1 _) (.inl (by decide)) (by simp only [List.length_map, List.length_nil]; omega)) ?_
  refine ax_q (q_mov rfl) ?_
  refine ax_nil (cx_keep rfl rfl ?_)
  refine cx_ret (retN (fun _ => 0) [5] rfl rfl rfl rfl rfl ?_)
  exact ⟨by simp [renA, mkRes], by simp [renOs, renO]⟩


/- loop.example/g00332/impl.treeOf -/
def k_c_treeOf : XCode :=
 .seq (.ops [.op (some 2) (.alloc [.int .i64 0, .nils 3])])
 (.keep [0, 2] (.seq (.seq (.ops [.op (some 10) (.mov (.t 0)),
   .op (some 11) (.lenS (.t 10)),
   .op (some 12) (.bin .eql (.t 11) (.k (.int .i64 0)))])
  (.keep [0, 2, 12] (.cond (.t 12)
  (.seq (.ops [.call (some 13) 37 [],
    .op none (.store 2 (.t 2) (.t 13))])
   (.keep [2] (.ret)))
  (.skip))))
 (.keep [0, 2] (.seq (.ops [.op (some 14) (.build [.int .i64 0, .nils 3] []),
   .op (some 15) (.bslice 1 []),
   .op (some 16) (.bslice 1 []),
   .op (some 3) (.alloc [.int .i64 0, .nils 3]),
   .op none (.store 2 (.t 3) (.t 14)),
   .op (some 4) (.mov (.t 15)),
   .op (some 5) (.mov (.t 16))])
 (.keep [0, 2, 3, 4, 5] (.seq (.block 0 (.loop (.seq (.seq (.ops [.op (some 17) (.mov (.t 0)),
     .op (some 18) (.lenS (.t 17)),
     .op (some 19) (.bin .gtr (.t 18) (.k (.int .i64 0)))])
   (.keep [0, 2, 3, 4, 5, 19] (.cond (.t 19)
    (.skip)
    (.exit 0))))
   (.keep [0, 2, 3, 4, 5] (.block 1 (.seq (.ops [.op (some 20) (.mov (.t 0)),
     .op (some 21) (.lenS (.t 20)),
     .call (some 22) 38 [.t 21, .k (.int .i64 4)],
     .op (some 6) (.mov (.t 22))])
   (.keep [0, 2, 3, 4, 5, 6] (.seq (.drawE [[], [], [1], [1, 2], [1, 2, 3], [0, 1, 2, 3, 4], [], [], [7], [7, 8], [7, 8, 9], [0, 1, 2, 3, 4, 5, 6, 7, 8, 9, 10], [0, 1, 2, 3, 4, 5, 6, 7, 8, 9, 10, 11], [0, 1, 2, 3, 4, 5, 6, 7, 8, 9, 10, 11, 12]] [.op (some 23) (.mov (.t 4)),
     .op (some 24) (.fadr (.t 3) 1),
     .op (some 25) (.load1 (.t 24)),
     .op (some 26) (.lenS (.t 25)),
     .op (some 27) (.bslice 1 [.t 26]),
     .op (some 28) (.app 1 8 [.int .i64 0] (.t 23) (.t 27)),
     .op (some 29) (.mov (.t 5)),
     .op (some 30) (.mov (.t 0)),
     .op (some 31) (.iadr 1 (.t 30) (.k (.int .i64 0))),
     .op (some 32) (.load1 (.t 31)),
     .op (some 33) (.bslice 1 [.t 32])]
    [.op (some 34) (.app 1 16 [.str []] (.t 29) (.t 33)),
     .op (some 4) (.mov (.t 28)),
     .op (some 5) (.mov (.t 34))])
   (.keep [0, 2, 3, 4, 5, 6] (.seq (.drawE [[], [0], [], [], [2, 3], [2, 3, 4], [2, 3, 4, 5], [2, 3, 4, 5, 6], [0, 1, 2, 3, 4, 5, 6, 7], [0, 1, 2, 3, 4, 5, 6, 7, 8], [0, 1, 2, 3, 4, 5, 6, 7, 8, 9]] [.op (some 35) (.fadr (.t 3) 1),
     .op (some 36) (.load1 (.t 35)),
     .op (some 37) (.mov (.t 0)),
     .op (some 38) (.mov (.t 6)),
     .op (some 39) (.slc 1 (.t 37) none (some (.t 38)) none),
     .call (some 40) 39 [.t 39],
     .op (some 41) (.build [.bool false, .nils 1, .nils 1] [(0, 1, .k (.bool true)), (1, 1, .t 40)]),
     .op (some 42) (.bslice 3 [.t 41])]
    [.op (some 43) (.app 3 56 [.bool false, .nils 1, .nils 1] (.t 36) (.t 42)),
     .op (some 44) (.fadr (.t 3) 1),
     .op none (.store 1 (.t 44) (.t 43))])
   (.keep [0, 2, 3, 4, 5, 6] (.ops [.op (some 45) (.mov (.t 0)),
    .op (some 46) (.mov (.t 6)),
    .op (some 47) (.slc 1 (.t 45) (some (.t 46)) none none),
    .op (some 0) (.mov (.t 47))]))))))))))))
 (.keep [2, 3, 4, 5] (.seq (.block 2 (.loop (.seq (.seq (.ops [.op (some 48) (.mov (.t 4)),
     .op (some 49) (.lenS (.t 48)),
     .op (some 50) (.bin .gtr (.t 49) (.k (.int .i64 1)))])
   (.keep [2, 3, 4, 5, 50] (.cond (.t 50)
    (.skip)
    (.exit 2))))
   (.keep [2, 3, 4, 5] (.block 3 (.seq (.ops [.op (some 51) (.bslice 1 []),
     .op (some 52) (.bslice 1 []),
     .op (some 7) (.mov (.t 51)),
     .op (some 8) (.mov (.t 52))])
   (.keep [2, 3, 4, 5, 7, 8] (.seq (.block 4 (.loop (.seq (.seq (.ops [.op (some 53) (.mov (.t 4)),
       .op (some 54) (.lenS (.t 53)),
       .op (some 55) (.bin .gtr (.t 54) (.k (.int .i64 0)))])
     (.keep [2, 3, 4, 5, 7, 8, 55] (.cond (.t 55)
      (.skip)
      (.exit 4))))
     (.keep [2, 3, 4, 5, 7, 8] (.block 5 (.seq (.ops [.op (some 56) (.mov (.t 4)),
       .op (some 57) (.lenS (.t 56)),
       .call (some 58) 38 [.t 57, .k (.int .i64 5)],
       .op (some 9) (.mov (.t 58))])
     (.keep [2, 3, 4, 5, 7, 8, 9] (.seq (.drawE [[], [], [1], [1, 2], [1, 2, 3], [0, 1, 2, 3, 4], [], [], [7], [7, 8], [7, 8, 9], [0, 1, 2, 3, 4, 5, 6, 7, 8, 9, 10], [0, 1, 2, 3, 4, 5, 6, 7, 8, 9, 10, 11], [0, 1, 2, 3, 4, 5, 6, 7, 8, 9, 10, 11, 12]] [.op (some 59) (.mov (.t 7)),
       .op (some 60) (.fadr (.t 3) 1),
       .op (some 61) (.load1 (.t 60)),
       .op (some 62) (.lenS (.t 61)),
       .op (some 63) (.bslice 1 [.t 62]),
       .op (some 64) (.app 1 8 [.int .i64 0] (.t 59) (.t 63)),
       .op (some 65) (.mov (.t 8)),
       .op (some 66) (.mov (.t 5)),
       .op (some 67) (.iadr 1 (.t 66) (.k (.int .i64 0))),
       .op (some 68) (.load1 (.t 67)),
       .op (some 69) (.bslice 1 [.t 68])]
      [.op (some 70) (.app 1 16 [.str []] (.t 65) (.t 69)),
       .op (some 7) (.mov (.t 64)),
       .op (some 8) (.mov (.t 70))])
     (.keep [2, 3, 4, 5, 7, 8, 9] (.seq (.drawE [[], [0], [], [], [2, 3], [2, 3, 4], [], [], [6, 7], [2, 3, 4, 5, 6, 7, 8], [2, 3, 4, 5, 6, 7, 8, 9], [2, 3, 4, 5, 6, 7, 8, 9, 10], [0, 1, 2, 3, 4, 5, 6, 7, 8, 9, 10, 11], [0, 1, 2, 3, 4, 5, 6, 7, 8, 9, 10, 11, 12], [0, 1, 2, 3, 4, 5, 6, 7, 8, 9, 10, 11, 12, 13]] [.op (some 71) (.fadr (.t 3) 1),
       .op (some 72) (.load1 (.t 71)),
       .op (some 73) (.mov (.t 5)),
       .op (some 74) (.mov (.t 9)),
       .op (some 75) (.slc 1 (.t 73) (some (.k (.int .i64 1))) (some (.t 74)) none),
       .call (some 76) 39 [.t 75],
       .op (some 77) (.mov (.t 4)),
       .op (some 78) (.mov (.t 9)),
       .op (some 79) (.slc 1 (.t 77) none (some (.t 78)) none),
       .call (some 80) 40 [.t 79],
       .op (some 81) (.build [.bool false, .nils 1, .nils 1] [(1, 1, .t 76), (2, 1, .t 80)]),
       .op (some 82) (.bslice 3 [.t 81])]
      [.op (some 83) (.app 3 56 [.bool false, .nils 1, .nils 1] (.t 72) (.t 82)),
       .op (some 84) (.fadr (.t 3) 1),
       .op none (.store 1 (.t 84) (.t 83))])
     (.keep [2, 3, 4, 5, 7, 8, 9] (.draw [.op (some 85) (.mov (.t 4)),
      .op (some 86) (.mov (.t 9)),
      .op (some 87) (.slc 1 (.t 85) (some (.t 86)) none none),
      .op (some 88) (.mov (.t 5)),
      .op (some 89) (.mov (.t 9)),
      .op (some 90) (.slc 1 (.t 88) (some (.t 89)) none none),
      .op (some 4) (.mov (.t 87)),
      .op (some 5) (.mov (.t 90))]))))))))))))
   (.keep [2, 3, 7, 8] (.ops [.op (some 91) (.mov (.t 7)),
    .op (some 92) (.mov (.t 8)),
    .op (some 4) (.mov (.t 91)),
    .op (some 5) (.mov (.t 92))]))))))))))
 (.keep [2, 3, 4] (.seq (.ops [.op (some 93) (.mov (.t 4)),
   .op (some 94) (.iadr 1 (.t 93) (.k (.int .i64 0))),
   .op (some 95) (.load1 (.t 94)),
   .op (some 96) (.fadr (.t 3) 0),
   .op none (.store 1 (.t 96) (.t 95))])
 (.keep [2, 3] (.seq (.ops [.op (some 97) (.loadN 2 (.t 3)),
   .op none (.store 2 (.t 2) (.t 97))])
 (.keep [2] (.ret))))))))))))))
theorem k_c_treeOf_fits : fitsF Try.prog 21 ⟨98, k_c_treeOf, [.cN 2 2]⟩ = true := by kernel_rfl
set_option maxHeartbeats 4000000 in
theorem c_treeOf {ks : List Str} (hl : ks.length ≤ 61) : Con Try.prog noMv 21 [.d (.sl 1 (ks.map strRow))] [] (fun r h => r = .agg [.d (.int .i64 (treeT ks).root), .osl 0 3 0 (treeT ks).nodes.length] ∧ h = [(0, .deep 3 ((treeT ks).nodes.map TN.row) [])]) := by
 refine con_of2 k_c_treeOf_fits rfl fun C hP hmv => ?_
 unfold k_c_treeOf
 have K := look_tree ([] : Str) (ks := ks) (by omega)
 refine cx_seq (cx_ops ?_)
 refine ax_e (e_alloc (by decide) rfl rfl) ?_
 refine ax_nil (cx_keep rfl rfl (cx_seq (cx_seq (cx_ops ?_))))
 refine ax_q (q_mov rfl) ?_
 refine ax_q (q_lenS_map rfl) ?_
 refine ax_q (q_ibin rfl rfl rfl) ?_
 refine ax_nil (cx_keep rfl rfl ?_)
 refine cx_cond rfl (fun h0 => ?_) (fun h0 => ?_)
 ·
  have h0 := dT h0
  have hks : ks = [] := List.eq_nil_of_length_eq_zero (by omega)
  subst hks
  refine cx_seq (cx_ops ?_)
  refine ax_call rfl (vc_pure (c_NewTree  ) hP rfl ?_)
  rintro r h ⟨rfl, rfl⟩
  refine ⟨fun i => 13 + 200 * i, [0], ⟨rfl, rfl, rfl, rfl, rfl, (by first | exact (fun h => absurd h Bool.false_ne_true) | exact (fun _ => ⟨rfl, (noisl_of (by repeat (first | exact trivial | refine ⟨noisl_map (fun _ => rfl), ?_⟩ | refine ⟨?_, ?_⟩)))⟩))⟩, ?_⟩
  skip
  refine ax_e (e_st rfl rfl rfl rfl rfl rfl rfl) ?_
  refine ax_nil (cx_keep rfl rfl ?_)
  refine cx_ret (retN (fun _ => 0) [13] rfl rfl rfl rfl rfl ?_)
  exact ⟨rfl, rfl⟩
 ·
  have h0 := dF h0
  obtain ⟨nsF, lvF_, leF, hL, hT⟩ := tree_start (by omega) K.tr
  generalize treeT ks = T at hT ⊢
  refine cx_skip ?_
  refine cx_keep rfl rfl (cx_seq (cx_ops ?_))
  refine ax_q (q_build rfl) ?_
  refine ax_e (e_bslice rfl (by decide) rfl rfl) ?_
  refine ax_e (e_bslice rfl (by decide) rfl rfl) ?_
  refine ax_e (e_alloc (by decide) rfl rfl) ?_
  refine ax_e (e_st rfl rfl rfl rfl rfl rfl rfl) ?_
  refine ax_q (q_mov rfl) ?_
  refine ax_q (q_mov rfl) ?_
  refine ax_nil (cx_keep rfl rfl (cx_seq (cx_block ?_)))
  refine cx_wk (wk_virt 902 3 rfl rfl rfl) ?_
  refine cx_wk (wk_zsb 3 902 1 rfl rfl rfl) ?_
  refine cx_wk (wk_deepz 902 (rs' := []) rfl rfl) ?_
  refine cx_loopU (fun m (p : List Str × List GNode × List Nat × List Str) => p.1.length ≤ 61 ∧ lvF m p.1 p.2.1 p.2.2.1 p.2.2.2 = some (nsF, lvF_, leF)) (fun p => [(0, .d (.sl 1 (p.1.map strRow))), (4, .osl 15 1 0 p.2.2.1.length), (5, .osl 16 1 0 p.2.2.2.length)]) (fun p => [(2, .box [.d (.int .i64 0), .zs 3]), (3, .box [.d (.int .i64 0), .osl 902 3 0 p.2.1.length]), (902, .deep 3 (p.2.1.map TN.row) []), (15, .rows 1 (p.2.2.1.map kidRow)), (16, .rows 1 (p.2.2.2.map strRow))])
   ⟨_, (ks, [], [], []), ⟨hl, hL⟩, by repeat constructor⟩ ?_
  rintro m ⟨rest, ns, lv, le⟩ ⟨hr, hs⟩
  simp only at hr hs ⊢
  refine cx_seq (cx_seq (cx_ops ?_))
  refine ax_q (q_mov rfl) ?_
  refine ax_q (q_lenS_map rfl) ?_
  refine ax_q (q_ibin rfl rfl rfl) ?_
  refine ax_nil (cx_keep rfl rfl ?_)
  refine cx_cond rfl (fun h1 => ?_) (fun h1 => ?_)
  ·
   have h1 := dT h1
   obtain ⟨g, c, rfl, hc, s1, s2, s3, s4, s5, hs2⟩ := lv_step (by omega) hs
   refine cx_skip ?_
   refine cx_keep rfl rfl (cx_block (cx_seq (cx_ops ?_)))
   refine ax_q (q_mov rfl) ?_
   refine ax_q (q_lenS_map rfl) ?_
   refine ax_call rfl (vc_pure0 (c_chunk (a := rest.length) (b := 4) ?_ ?_) hP rfl rfl ?_)
   ·
    first | assumption | omega
   ·
    first | assumption | omega
   rw [← hc]
   refine ax_q (q_mov rfl) ?_
   refine ax_nil (cx_keep rfl rfl (cx_seq ?_))
   refine cx_drawL 5 28 (Nat.beq 15) (nrA 15) [] ([(15, .rows 1 ((lv ++ [ns.length]).map kidRow))]) [[4], [3], [24], [25], [26], [23, 27], [5], [0], [30], [31], [32]] [[], [], [], [], [], [15], [15], [15], [15], [15], [15]] rfl ?_
   first | refine ⟨_, .inr ⟨rfl, _, rfl, .inl rfl, loc_q (q_mov rfl)⟩, ?_⟩
   first | refine ⟨_, .inr ⟨rfl, _, rfl, .inl rfl, loc_q (q_fadr_ptr rfl)⟩, ?_⟩
   first | refine ⟨_, .inr ⟨rfl, _, rfl, .inl rfl, loc_q (q_load1_ptr rfl rfl rfl)⟩, ?_⟩
   first | refine ⟨_, .inr ⟨rfl, _, rfl, .inl rfl, loc_q (q_lenS_map rfl)⟩, ?_⟩ | refine ⟨_, .inr ⟨rfl, _, rfl, .inl rfl, loc_q (q_lenS_osl rfl)⟩, ?_⟩
   first | refine ⟨_, .inr ⟨rfl, _, rfl, .inl rfl, loc_bsliceD (rows := [kidRow ns.length]) rfl⟩, ?_⟩
   refine ⟨⟨28, _, []⟩, .inl ⟨rfl, rfl, rfl, locl_app (n' := (lv ++ [ns.length]).length) (rs' := (lv ++ [ns.length]).map kidRow) rfl rfl (by simp) rfl (fun _ _ h => src_sl 1 _) (.inl (by decide)) (hbnd (by omega) (by simp) (by decide)) (by simp) (app_all (ys := [ns.length]) (row := kidRow))⟩, ?_⟩
   first | refine ⟨_, .inr ⟨rfl, _, rfl, .inr ⟨rfl, rfl, .inr rfl, rfl, rfl⟩, loc_q (q_mov rfl)⟩, ?_⟩
   first | refine ⟨_, .inr ⟨rfl, _, rfl, .inr ⟨rfl, rfl, .inr rfl, rfl, rfl⟩, loc_q (q_mov rfl)⟩, ?_⟩
   first | refine ⟨_, .inr ⟨rfl, _, rfl, .inr ⟨rfl, rfl, .inr rfl, rfl, rfl⟩, loc_q (q_ixI rfl rfl (by omega) (strD (by omega)))⟩, ?_⟩
   first | refine ⟨_, .inr ⟨rfl, _, rfl, .inr ⟨rfl, rfl, .inr rfl, rfl, rfl⟩, loc_q (q_load1_ptr rfl rfl rfl)⟩, ?_⟩ | refine ⟨_, .inr ⟨rfl, _, rfl, .inr ⟨rfl, rfl, .inr rfl, rfl, rfl⟩, loc_q (q_load1_ip rfl)⟩, ?_⟩
   first | refine ⟨_, .inr ⟨rfl, _, rfl, .inr ⟨rfl, rfl, .inr rfl, rfl, rfl⟩, loc_bsliceD (rows := [strRow (rest.getD 0 [])]) rfl⟩, ?_⟩
   refine ⟨rfl, ?_⟩
   refine ax_e (e_appn (n' := (le ++ [rest.getD 0 []]).length) (rs' := (le ++ [rest.getD 0 []]).map strRow) rfl rfl (by simp) rfl (src_sl 1 _) (.inl (by decide)) (hbnd (by omega) (by simp) (by decide)) (by simp) (app_all (ys := [rest.getD 0 []]) (row := strRow))) ?_
   refine ax_q (q_mov rfl) ?_
   refine ax_q (q_mov rfl) ?_
   refine ax_nil (cx_keep rfl rfl (cx_seq ?_))
   refine cx_drawL 0 35 (fun _ => false) (fun _ => true) [] ([]) [[3], [35], [0], [6], [37, 38], [39], [40], [41]] [[], [], [], [], [], [], [], []] rfl ?_
   first | refine ⟨⟨35, _, []⟩, .inl ⟨rfl, rfl, rfl, locl_of (loc_q (q_fadr_ptr rfl))⟩, ?_⟩
   first | refine ⟨_, .inr ⟨rfl, _, rfl, .inr ⟨rfl, rfl, .inl rfl, rfl, rfl⟩, loc_q (q_load1_ptr rfl rfl rfl)⟩, ?_⟩
   first | refine ⟨_, .inr ⟨rfl, _, rfl, .inr ⟨rfl, rfl, .inr rfl, rfl, rfl⟩, loc_q (q_mov rfl)⟩, ?_⟩
   first | refine ⟨_, .inr ⟨rfl, _, rfl, .inr ⟨rfl, rfl, .inr rfl, rfl, rfl⟩, loc_q (q_mov rfl)⟩, ?_⟩
   first | refine ⟨_, .inr ⟨rfl, _, rfl, .inr ⟨rfl, rfl, .inr rfl, rfl, rfl⟩, loc_qe (r' := .d (.sl 1 ((rest.take c).map strRow))) (q_slc rfl rfl rfl (by omega) (by omega) (by simp; omega)) (slR_take (by omega))⟩, ?_⟩
   first | refine ⟨_, .inr ⟨rfl, _, rfl, .inr ⟨rfl, rfl, .inr rfl, rfl, rfl⟩, loc_call (fun i => 40 + 200 * i) false rfl (c_Clone_Str (xs := rest.take c) (by simp; omega)) hP (.inr ⟨rfl, rfl, rfl⟩) rfl rfl (fun h => by cases h)⟩, ?_⟩
   first | refine ⟨_, .inr ⟨rfl, _, rfl, .inr ⟨rfl, rfl, .inr rfl, rfl, rfl⟩, loc_q (q_build rfl)⟩, ?_⟩
   first | refine ⟨_, .inr ⟨rfl, _, rfl, .inr ⟨rfl, rfl, .inr rfl, rfl, rfl⟩, loc_bsliceC rfl rfl rfl rfl⟩, ?_⟩
   refine ⟨rfl, ?_⟩
   refine ax_e (e_appD (b0 := 42) (ds := TN.row (⟨true, rest.take c, []⟩ : GNode)) (ks := [(1, 40)]) (rs' := (ns ++ [(⟨true, rest.take c, []⟩ : GNode)]).map TN.row) (n' := (ns ++ [(⟨true, rest.take c, []⟩ : GNode)]).length) rfl rfl (by simp) rfl rfl rfl (.flat (.flat rfl) (.own (.own rfl (by rw [List.length_map])) (.flat (.zs 1) .nil))) (by decide) (.inl (by decide)) (by have : (2 * (ns.length + 1) + 256) * 56 ≤ (2 * 300 + 256) * 56 := Nat.mul_le_mul_right _ (by omega); omega) (by simp) (app_row1 rfl)) ?_
   refine ax_q (q_fadr_ptr rfl) ?_
   refine ax_e (e_st rfl rfl rfl rfl rfl rfl rfl) ?_
   refine ax_wk (wk_closeE 902 40 ns.length 1 (row := TN.row (⟨true, rest.take c, []⟩ : GNode)) (xs := (rest.take c).map strRow) (ys := (rest.take c).map strRow) (hs := []) rfl rfl app_at1 rfl rfl (flat_map (fun _ => rfl)) rfl rfl rfl (set_same app_at1)) ?_
   refine ax_nil (cx_keep rfl rfl (cx_ops ?_))
   refine ax_q (q_mov rfl) ?_
   refine ax_q (q_mov rfl) ?_
   refine ax_qe (r' := .d (.sl 1 ((rest.drop c).map strRow))) (q_slc rfl rfl rfl (by omega) (by simp; omega) (by simp)) (slR_drop (by omega)) ?_
   refine ax_q (q_mov rfl) ?_
   refine ax_nil ?_
   exact ⟨_, (rest.drop c, ns ++ [(⟨true, rest.take c, []⟩ : GNode)], lv ++ [ns.length], le ++ [rest.getD 0 []]), Nat.lt_succ_self _, ⟨by simp only [List.length_drop]; omega, hs2⟩, by repeat constructor⟩
  ·
   have h1 := dF h1
   have hs3 := lv_end (by omega) hs
   rw [Prod.mk.injEq, Prod.mk.injEq] at hs3
   obtain ⟨rfl, rfl, rfl⟩ := hs3
   refine cx_exit rfl ?_
   refine cx_keep rfl rfl (cx_seq (cx_block ?_))
   refine cx_wk (wk_frz 4 15 rfl rfl (.whole (by simp)) rfl) ?_
   refine cx_wk (wk_frz 5 16 rfl rfl (.whole (by simp)) rfl) ?_
   refine cx_loopU (fun m (p : List GNode × List Nat × List Str) => topF m p.1 p.2.1 p.2.2 = some T) (fun p => [(4, .d (.sl 1 (p.2.1.map kidRow))), (5, .d (.sl 1 (p.2.2.map strRow)))]) (fun p => [(2, .box [.d (.int .i64 0), .zs 3]), (3, .box [.d (.int .i64 0), .osl 902 3 0 p.1.length]), (902, .deep 3 (p.1.map TN.row) [])])
    ⟨_, (nsF, lvF_, leF), hT, by repeat constructor⟩ ?_
   rintro m ⟨ns, lv, le⟩ hs
   simp only at hs ⊢
   refine cx_seq (cx_seq (cx_ops ?_))
   refine ax_q (q_mov rfl) ?_
   refine ax_q (q_lenS_map rfl) ?_
   refine ax_q (q_ibin rfl rfl rfl) ?_
   refine ax_nil (cx_keep rfl rfl ?_)
   refine cx_cond rfl (fun h2 => ?_) (fun h2 => ?_)
   ·
    have h2 := dT h2
    obtain ⟨g, nsU, abU, alU, rfl, s1, s2, hU, hs3⟩ := top_step (by omega) hs
    refine cx_skip ?_
    refine cx_keep rfl rfl (cx_block (cx_seq (cx_ops ?_)))
    refine ax_e (e_bslice rfl (by decide) rfl rfl) ?_
    refine ax_e (e_bslice rfl (by decide) rfl rfl) ?_
    refine ax_q (q_mov rfl) ?_
    refine ax_q (q_mov rfl) ?_
    refine ax_nil (cx_keep rfl rfl (cx_seq (cx_block ?_)))
    refine cx_loopU (fun m (p : List Nat × List Str × List GNode × List Nat × List Str) => p.1.length ≤ 200 ∧ upF m p.1 p.2.1 p.2.2.1 p.2.2.2.1 p.2.2.2.2 = some (nsU, abU, alU)) (fun p => [(4, .d (.sl 1 (p.1.map kidRow))), (5, .d (.sl 1 (p.2.1.map strRow))), (7, .osl 51 1 0 p.2.2.2.1.length), (8, .osl 52 1 0 p.2.2.2.2.length)]) (fun p => [(2, .box [.d (.int .i64 0), .zs 3]), (3, .box [.d (.int .i64 0), .osl 902 3 0 p.2.2.1.length]), (902, .deep 3 (p.2.2.1.map TN.row) []), (51, .rows 1 (p.2.2.2.1.map kidRow)), (52, .rows 1 (p.2.2.2.2.map strRow))])
     ⟨_, (lv, le, ns, [], []), ⟨s2, hU⟩, by repeat constructor⟩ ?_
    rintro m ⟨lv, le, ns, ab, al⟩ ⟨hr, hs⟩
    simp only at hr hs ⊢
    refine cx_seq (cx_seq (cx_ops ?_))
    refine ax_q (q_mov rfl) ?_
    refine ax_q (q_lenS_map rfl) ?_
    refine ax_q (q_ibin rfl rfl rfl) ?_
    refine ax_nil (cx_keep rfl rfl ?_)
    refine cx_cond rfl (fun h3 => ?_) (fun h3 => ?_)
    ·
     have h3 := dT h3
     obtain ⟨g2, c, rfl, hc, u1, u2, u3, u4, u5, u6, hu2⟩ := up_step (by omega) hs
     refine cx_skip ?_
     refine cx_keep rfl rfl (cx_block (cx_seq (cx_ops ?_)))
     refine ax_q (q_mov rfl) ?_
     refine ax_q (q_lenS_map rfl) ?_
     refine ax_call rfl (vc_pure0 (c_chunk (a := lv.length) (b := 5) ?_ ?_) hP rfl rfl ?_)
     ·
      first | assumption | omega
     ·
      first | assumption | omega
     rw [← hc]
     refine ax_q (q_mov rfl) ?_
     refine ax_nil (cx_keep rfl rfl (cx_seq ?_))
     refine cx_drawL 5 64 (Nat.beq 51) (nrA 51) [] ([(51, .rows 1 ((ab ++ [ns.length]).map kidRow))]) [[7], [3], [60], [61], [62], [59, 63], [8], [5], [66], [67], [68]] [[], [], [], [], [], [51], [51], [51], [51], [51], [51]] rfl ?_
     first | refine ⟨_, .inr ⟨rfl, _, rfl, .inl rfl, loc_q (q_mov rfl)⟩, ?_⟩
     first | refine ⟨_, .inr ⟨rfl, _, rfl, .inl rfl, loc_q (q_fadr_ptr rfl)⟩, ?_⟩
     first | refine ⟨_, .inr ⟨rfl, _, rfl, .inl rfl, loc_q (q_load1_ptr rfl rfl rfl)⟩, ?_⟩
     first | refine ⟨_, .inr ⟨rfl, _, rfl, .inl rfl, loc_q (q_lenS_map rfl)⟩, ?_⟩ | refine ⟨_, .inr ⟨rfl, _, rfl, .inl rfl, loc_q (q_lenS_osl rfl)⟩, ?_⟩
     first | refine ⟨_, .inr ⟨rfl, _, rfl, .inl rfl, loc_bsliceD (rows := [kidRow ns.length]) rfl⟩, ?_⟩
     refine ⟨⟨64, _, []⟩, .inl ⟨rfl, rfl, rfl, locl_app (n' := (ab ++ [ns.length]).length) (rs' := (ab ++ [ns.length]).map kidRow) rfl rfl (by simp) rfl (fun _ _ h => src_sl 1 _) (.inl (by decide)) (hbnd (by omega) (by simp) (by decide)) (by simp) (app_all (ys := [ns.length]) (row := kidRow))⟩, ?_⟩
     first | refine ⟨_, .inr ⟨rfl, _, rfl, .inr ⟨rfl, rfl, .inr rfl, rfl, rfl⟩, loc_q (q_mov rfl)⟩, ?_⟩
     first | refine ⟨_, .inr ⟨rfl, _, rfl, .inr ⟨rfl, rfl, .inr rfl, rfl, rfl⟩, loc_q (q_mov rfl)⟩, ?_⟩
     first | refine ⟨_, .inr ⟨rfl, _, rfl, .inr ⟨rfl, rfl, .inr rfl, rfl, rfl⟩, loc_q (q_ixI rfl rfl (by omega) (strD (by omega)))⟩, ?_⟩
     first | refine ⟨_, .inr ⟨rfl, _, rfl, .inr ⟨rfl, rfl, .inr rfl, rfl, rfl⟩, loc_q (q_load1_ptr rfl rfl rfl)⟩, ?_⟩ | refine ⟨_, .inr ⟨rfl, _, rfl, .inr ⟨rfl, rfl, .inr rfl, rfl, rfl⟩, loc_q (q_load1_ip rfl)⟩, ?_⟩
     first | refine ⟨_, .inr ⟨rfl, _, rfl, .inr ⟨rfl, rfl, .inr rfl, rfl, rfl⟩, loc_bsliceD (rows := [strRow (le.getD 0 [])]) rfl⟩, ?_⟩
     refine ⟨rfl, ?_⟩
     refine ax_e (e_appn (n' := (al ++ [le.getD 0 []]).length) (rs' := (al ++ [le.getD 0 []]).map strRow) rfl rfl (by simp) rfl (src_sl 1 _) (.inl (by decide)) (hbnd (by omega) (by simp) (by decide)) (by simp) (app_all (ys := [le.getD 0 []]) (row := strRow))) ?_
     refine ax_q (q_mov rfl) ?_
     refine ax_q (q_mov rfl) ?_
     refine ax_nil (cx_keep rfl rfl (cx_seq ?_))
     refine cx_drawL 0 71 (fun _ => false) (fun _ => true) [] ([]) [[3], [71], [5], [9], [73, 74], [75], [4], [9], [77, 78], [79], [76, 80], [81]] [[], [], [], [], [], [], [], [], [], [], [], []] rfl ?_
     first | refine ⟨⟨71, _, []⟩, .inl ⟨rfl, rfl, rfl, locl_of (loc_q (q_fadr_ptr rfl))⟩, ?_⟩
     first | refine ⟨_, .inr ⟨rfl, _, rfl, .inr ⟨rfl, rfl, .inl rfl, rfl, rfl⟩, loc_q (q_load1_ptr rfl rfl rfl)⟩, ?_⟩
     first | refine ⟨_, .inr ⟨rfl, _, rfl, .inr ⟨rfl, rfl, .inr rfl, rfl, rfl⟩, loc_q (q_mov rfl)⟩, ?_⟩
     first | refine ⟨_, .inr ⟨rfl, _, rfl, .inr ⟨rfl, rfl, .inr rfl, rfl, rfl⟩, loc_q (q_mov rfl)⟩, ?_⟩
     first | refine ⟨_, .inr ⟨rfl, _, rfl, .inr ⟨rfl, rfl, .inr rfl, rfl, rfl⟩, loc_qe (r' := .d (.sl 1 (((le.drop 1).take (c - 1)).map strRow))) (q_slc rfl rfl rfl (by omega) (by omega) (by simp; omega)) (slR_mid rfl (by omega))⟩, ?_⟩
     first | refine ⟨_, .inr ⟨rfl, _, rfl, .inr ⟨rfl, rfl, .inr rfl, rfl, rfl⟩, loc_call (fun i => 76 + 200 * i) false rfl (c_Clone_Str (xs := (le.drop 1).take (c - 1)) (by simp; omega)) hP (.inr ⟨rfl, rfl, rfl⟩) rfl rfl (fun h => by cases h)⟩, ?_⟩
     first | refine ⟨_, .inr ⟨rfl, _, rfl, .inr ⟨rfl, rfl, .inr rfl, rfl, rfl⟩, loc_q (q_mov rfl)⟩, ?_⟩
     first | refine ⟨_, .inr ⟨rfl, _, rfl, .inr ⟨rfl, rfl, .inr rfl, rfl, rfl⟩, loc_q (q_mov rfl)⟩, ?_⟩
     first | refine ⟨_, .inr ⟨rfl, _, rfl, .inr ⟨rfl, rfl, .inr rfl, rfl, rfl⟩, loc_qe (r' := .d (.sl 1 ((lv.take c).map kidRow))) (q_slc rfl rfl rfl (by omega) (by omega) (by simp; omega)) (slR_take (by omega))⟩, ?_⟩
     first | refine ⟨_, .inr ⟨rfl, _, rfl, .inr ⟨rfl, rfl, .inr rfl, rfl, rfl⟩, loc_call (fun i => 80 + 200 * i) false rfl (c_Clone_Kid (xs := lv.take c) (by simp; omega)) hP (.inr ⟨rfl, rfl, rfl⟩) rfl rfl (fun h => by cases h)⟩, ?_⟩
     first | refine ⟨_, .inr ⟨rfl, _, rfl, .inr ⟨rfl, rfl, .inr rfl, rfl, rfl⟩, loc_q (q_build rfl)⟩, ?_⟩
     first | refine ⟨_, .inr ⟨rfl, _, rfl, .inr ⟨rfl, rfl, .inr rfl, rfl, rfl⟩, loc_bsliceC rfl rfl rfl rfl⟩, ?_⟩
     refine ⟨rfl, ?_⟩
     refine ax_e (e_appD (b0 := 82) (ds := TN.row (⟨false, (le.drop 1).take (c - 1), lv.take c⟩ : GNode)) (ks := [(1, 76), (2, 80)]) (rs' := (ns ++ [(⟨false, (le.drop 1).take (c - 1), lv.take c⟩ : GNode)]).map TN.row) (n' := (ns ++ [(⟨false, (le.drop 1).take (c - 1), lv.take c⟩ : GNode)]).length) rfl rfl (by simp) rfl rfl rfl (.flat (.flat rfl) (.own (.own rfl (by rw [List.length_map])) (.own (.own rfl (by rw [List.length_map])) .nil))) (by decide) (.inl (by decide)) (by have : (2 * (ns.length + 1) + 256) * 56 ≤ (2 * 300 + 256) * 56 := Nat.mul_le_mul_right _ (by omega); omega) (by simp) (app_row1 rfl)) ?_
     refine ax_q (q_fadr_ptr rfl) ?_
     refine ax_e (e_st rfl rfl rfl rfl rfl rfl rfl) ?_
     refine ax_wk (wk_closeE 902 76 ns.length 1 (row := TN.row (⟨false, (le.drop 1).take (c - 1), lv.take c⟩ : GNode)) (xs := ((le.drop 1).take (c - 1)).map strRow) (ys := ((le.drop 1).take (c - 1)).map strRow) (hs := [(ns.length, 2, 80)]) rfl rfl app_at1 rfl rfl (flat_map (fun _ => rfl)) hole_21 rfl rfl (set_same app_at1)) ?_
     refine ax_wk (wk_closeE 902 80 ns.length 2 (row := TN.row (⟨false, (le.drop 1).take (c - 1), lv.take c⟩ : GNode)) (xs := (lv.take c).map kidRow) (ys := (lv.take c).map kidRow) (hs := []) rfl rfl app_at1 rfl rfl (flat_map (fun _ => rfl)) rfl rfl rfl (set_same app_at1)) ?_
     refine ax_nil (cx_keep rfl rfl (cx_draw ?_))
     refine ax_q (q_mov rfl) ?_
     refine ax_q (q_mov rfl) ?_
     refine ax_qe (r' := .d (.sl 1 ((lv.drop c).map kidRow))) (q_slc rfl rfl rfl (by omega) (by simp; omega) (by simp)) (slR_drop (by omega)) ?_
     refine ax_q (q_mov rfl) ?_
     refine ax_q (q_mov rfl) ?_
     refine ax_qe (r' := .d (.sl 1 ((le.drop c).map strRow))) (q_slc rfl rfl rfl (by omega) (by simp; omega) (by simp)) (slR_drop (by omega)) ?_
     refine ax_q (q_mov rfl) ?_
     refine ax_q (q_mov rfl) ?_
     refine ax_nil ?_
     exact ⟨_, (lv.drop c, le.drop c, ns ++ [(⟨false, (le.drop 1).take (c - 1), lv.take c⟩ : GNode)], ab ++ [ns.length], al ++ [le.getD 0 []]), Nat.lt_succ_self _, ⟨by simp only [List.length_drop]; omega, hu2⟩, by repeat constructor⟩
    ·
     have h3 := dF h3
     have hs4 := up_end (by omega) hs
     rw [Prod.mk.injEq, Prod.mk.injEq] at hs4
     obtain ⟨rfl, rfl, rfl⟩ := hs4
     refine cx_exit rfl ?_
     refine cx_keep rfl rfl (cx_ops ?_)
     refine ax_wk (wk_frz 7 51 rfl rfl (.whole (by simp)) rfl) ?_
     refine ax_wk (wk_frz 8 52 rfl rfl (.whole (by simp)) rfl) ?_
     refine ax_q (q_mov rfl) ?_
     refine ax_q (q_mov rfl) ?_
     refine ax_q (q_mov rfl) ?_
     refine ax_q (q_mov rfl) ?_
     refine ax_nil ?_
     exact ⟨_, (nsU, abU, alU), Nat.lt_succ_self _, hs3, by repeat constructor⟩
   ·
    have h2 := dF h2
    obtain ⟨s1, s2, rfl⟩ := top_end (by omega) hs
    refine cx_exit rfl ?_
    refine cx_keep rfl rfl (cx_seq (cx_ops ?_))
    refine ax_q (q_mov rfl) ?_
    refine ax_q (q_ixI rfl rfl (by omega) (kidD (by omega))) ?_
    first | refine ax_q (q_load1_ptr rfl rfl rfl) ?_ | refine ax_q (q_load1_ip rfl) ?_
    refine ax_q (q_fadr_ptr rfl) ?_
    refine ax_e (e_st rfl rfl rfl rfl rfl rfl rfl) ?_
    refine ax_nil (cx_keep rfl rfl (cx_seq (cx_ops ?_)))
    refine ax_q (q_ldN rfl rfl rfl) ?_
    refine ax_e (e_st rfl rfl rfl rfl rfl rfl rfl) ?_
    refine ax_nil (cx_keep rfl rfl ?_)
    refine cx_ret (retN (fun _ => 0) [902] rfl rfl rfl rfl rfl ?_)
    exact ⟨rfl, rfl⟩


/- slices.Delete[[]string,string] -/
def k_c_Delete_Str : XCode :=
 .seq (.ops [.op (some 6) (.mov (.k (.nils 1)))])
 (.keep [0, 1, 2] (.seq (.ops [.op (some 8) (.mov (.t 0)),
   .op (some 9) (.mov (.t 1)),
   .op (some 10) (.mov (.t 2)),
   .op (some 11) (.mov (.t 0)),
   .op (some 12) (.lenS (.t 11)),
   .op (some 13) (.slc 1 (.t 8) (some (.t 9)) (some (.t 10)) (some (.t 12)))])
 (.keep [0, 1, 2] (.seq (.seq (.ops [.op (some 14) (.mov (.t 1)),
   .op (some 15) (.mov (.t 2)),
   .op (some 16) (.bin .eql (.t 14) (.t 15))])
  (.keep [0, 1, 2, 16] (.cond (.t 16)
  (.seq (.ops [.op (some 17) (.mov (.t 0)),
    .op (some 6) (.mov (.t 17))])
   (.keep [6] (.ret)))
  (.skip))))
 (.keep [0, 1, 2] (.seq (.ops [.op (some 18) (.mov (.t 0)),
   .op (some 19) (.lenS (.t 18)),
   .op (some 7) (.mov (.t 19))])
 (.keep [0, 1, 2, 7] (.seq (.drawE [[], [], [0, 1], [], [], [3, 4], [0, 1, 2, 3, 4, 5], [0, 1, 2, 3, 4, 5, 6]] [.op (some 20) (.mov (.t 0)),
   .op (some 21) (.mov (.t 1)),
   .op (some 22) (.slc 1 (.t 20) none (some (.t 21)) none),
   .op (some 23) (.mov (.t 0)),
   .op (some 24) (.mov (.t 2)),
   .op (some 25) (.slc 1 (.t 23) (some (.t 24)) none none)]
  [.op (some 26) (.app 1 16 [.str []] (.t 22) (.t 25)),
   .op (some 0) (.mov (.t 26))])
 (.keep [0, 7] (.seq (.ops [.op (some 27) (.mov (.t 0)),
   .op (some 28) (.mov (.t 0)),
   .op (some 29) (.lenS (.t 28)),
   .op (some 30) (.mov (.t 7)),
   .op (some 31) (.slc 1 (.t 27) (some (.t 29)) (some (.t 30)) none),
   .op none (.clr 1 [.str []] (.t 31))])
 (.keep [0] (.seq (.ops [.op (some 32) (.mov (.t 0)),
   .op (some 6) (.mov (.t 32))])
 (.keep [6] (.ret))))))))))))))
theorem k_c_Delete_Str_fits : fitsF Try.prog 26 ⟨33, k_c_Delete_Str, [.t 6]⟩ = true := by kernel_rfl
theorem c_Delete_Str {xs : List Str} {i : Nat} (hi : i < xs.length) (hl : xs.length ≤ 1000000) : Con Try.prog (fun e => Nat.beq e 1000) 26 [.osl 1000 1 0 xs.length, int (i : Nat), int ((i + 1 : Nat) : Int)] [(1000, .rows 1 (xs.map strRow))] (fun r h => r = .osl 1000 1 0 (xs.length - 1) ∧ h = [(1000, .rows 1 ((delA xs i).map strRow))]) := by
 refine con_of2 k_c_Delete_Str_fits rfl fun C hP hmv => ?_
 unfold k_c_Delete_Str
 refine cx_cap 0 rfl fun c hc => ?_
 refine cx_seq (cx_ops ?_)
 refine ax_q (q_mov rfl) ?_
 refine ax_nil (cx_keep rfl rfl (cx_seq (cx_ops ?_)))
 refine ax_q (q_mov rfl) ?_
 refine ax_q (q_mov rfl) ?_
 refine ax_q (q_mov rfl) ?_
 refine ax_q (q_mov rfl) ?_
 refine ax_q (q_lenC rfl) ?_
 refine ax_q (q_slcX rfl rfl rfl rfl (by omega) (by omega) (by omega) (by omega)) ?_
 refine ax_nil (cx_keep rfl rfl (cx_seq (cx_seq (cx_ops ?_))))
 refine ax_q (q_mov rfl) ?_
 refine ax_q (q_mov rfl) ?_
 refine ax_q (q_ibin rfl rfl rfl) ?_
 refine ax_nil (cx_keep rfl rfl ?_)
 refine cx_cond rfl (fun h0 => ?_) (fun h0 => ?_)
 ·
  have h0 := dT h0
  exfalso; omega
 ·
  have h0 := dF h0
  refine cx_skip ?_
  refine cx_keep rfl rfl (cx_seq (cx_ops ?_))
  refine ax_q (q_mov rfl) ?_
  refine ax_q (q_lenC rfl) ?_
  refine ax_q (q_mov rfl) ?_
  refine ax_nil (cx_keep rfl rfl (cx_seq ?_))
  refine cx_drawL 0 20 (fun _ => false) (fun _ => true) [] ([]) [[0], [1], [20, 21], [0], [2], [23, 24]] [[], [], [], [], [], []] rfl ?_
  first | refine ⟨⟨20, _, []⟩, .inl ⟨rfl, rfl, rfl, locl_of (loc_q (q_mov rfl))⟩, ?_⟩
  first | refine ⟨_, .inr ⟨rfl, _, rfl, .inr ⟨rfl, rfl, .inr rfl, rfl, rfl⟩, loc_q (q_mov rfl)⟩, ?_⟩
  first | refine ⟨_, .inr ⟨rfl, _, rfl, .inr ⟨rfl, rfl, .inl rfl, rfl, rfl⟩, loc_qe (r' := .oslc 1000 1 (0) (i) (c)) (q_slcC rfl rfl rfl (by omega) (by omega) (by omega)) (oslcE (by omega) (by omega) (by omega))⟩, ?_⟩
  first | refine ⟨_, .inr ⟨rfl, _, rfl, .inr ⟨rfl, rfl, .inr rfl, rfl, rfl⟩, loc_q (q_mov rfl)⟩, ?_⟩
  first | refine ⟨_, .inr ⟨rfl, _, rfl, .inr ⟨rfl, rfl, .inr rfl, rfl, rfl⟩, loc_q (q_mov rfl)⟩, ?_⟩
  first | refine ⟨_, .inr ⟨rfl, _, rfl, .inr ⟨rfl, rfl, .inr rfl, rfl, rfl⟩, loc_qe (r' := .oslc 1000 1 (i + 1) (xs.length - (i + 1)) (c - (i + 1))) (q_slcC rfl rfl rfl (by omega) (by omega) (by omega)) (oslcE (by omega) (by omega) (by omega))⟩, ?_⟩
  refine ⟨rfl, ?_⟩
  refine ax_wk (wk_uncap 25 rfl) ?_
  refine ax_ee (st'' := ⟨(26, .oslc 1000 1 0 (xs.length - 1) c) :: _, (1000, .rows 1 ((delA xs i).map strRow ++ (xs.map strRow).drop (xs.length - 1))) :: _⟩) (e_app_in rfl rfl (by simp only [List.length_map]; omega) rfl (src_osl (s := i + 1) (len := xs.length - (i + 1)) rfl (by simp only [List.length_map]; omega)) (by simp only [List.length_take, List.length_drop, List.length_map]; omega)) (by rw [show (((xs.map strRow).drop (i + 1)).take (xs.length - (i + 1))).length = xs.length - (i + 1) from by simp, show i + (xs.length - (i + 1)) = xs.length - 1 from by omega, ← del_1 hi, show i + (xs.length - (i + 1)) = xs.length - 1 from by omega]) ?_
  refine ax_q (q_mov rfl) ?_
  refine ax_nil (cx_keep rfl rfl (cx_seq (cx_ops ?_)))
  refine ax_q (q_mov rfl) ?_
  refine ax_q (q_mov rfl) ?_
  refine ax_q (q_lenC rfl) ?_
  refine ax_q (q_mov rfl) ?_
  refine ax_qe (r' := .oslc 1000 1 (xs.length - 1) (1) (c - (xs.length - 1))) (q_slcC rfl rfl rfl (by omega) (by omega) (by omega)) (oslcE (by omega) (by omega) (by omega)) ?_
  refine ax_wk (wk_uncap 31 rfl) ?_
  refine ax_e (e_clr rfl rfl (by simp only [List.length_append, List.length_map, List.length_drop, delA_len hi]; omega) rfl) ?_
  refine ax_wk (wk_rows 1000 (rs' := (delA xs i).map strRow) rfl (del_2 hi)) ?_
  refine ax_nil (cx_keep rfl rfl (cx_seq (cx_ops ?_)))
  refine ax_q (q_mov rfl) ?_
  refine ax_q (q_mov rfl) ?_
  refine ax_nil (cx_keep rfl rfl ?_)
  refine cx_wk (wk_uncap 6 rfl) ?_
  refine cx_ret (retN id [1000] rfl rfl rfl rfl rfl ?_)
  exact ⟨rfl, rfl⟩


/- loop.example/g00332/impl.TreeDelete -/
def k_c_TreeDelete : XCode :=
 .seq (.ops [.op (some 2) (.box (.t 0)),
   .op (some 4) (.alloc [.int .i64 0, .nils 3]),
   .op (some 5) (.mov (.k (.int .i64 0)))])
 (.keep [1, 2, 4] (.seq (.ops [.op (some 11) (.loadN 2 (.t 2)),
   .op (some 12) (.mov (.t 1)),
   .call (some 13) 19 [.t 11, .t 12],
   .op (some 10) (.mov (.t 13)),
   .op (some 14) (.ext (.t 10) 0),
   .op (some 15) (.ext (.t 10) 1),
   .op (some 6) (.mov (.t 14)),
   .op (some 7) (.mov (.t 15))])
 (.keep [1, 4, 6, 7] (.seq (.seq (.ops [.op (some 16) (.mov (.t 7)),
   .op (some 17) (.bin .neq (.t 16) (.k (.int .i64 0)))])
  (.keep [1, 4, 6, 7, 17] (.cond (.t 17)
  (.seq (.ops [.op (some 18) (.build [.int .i64 0, .nils 3] []),
    .op (some 19) (.mov (.t 7)),
    .op none (.store 2 (.t 4) (.t 18)),
    .op (some 5) (.mov (.t 19))])
   (.keep [4, 5] (.ret)))
  (.skip))))
 (.keep [1, 4, 6] (.seq (.ops [.op (some 21) (.mov (.t 6)),
   .op (some 22) (.mov (.t 1)),
   .call (some 23) 20 [.t 21, .t 22],
   .op (some 20) (.mov (.t 23)),
   .op (some 24) (.ext (.t 20) 0),
   .op (some 25) (.ext (.t 20) 1),
   .op (some 8) (.mov (.t 24)),
   .op (some 9) (.mov (.t 25))])
 (.keep [4, 6, 8, 9] (.seq (.seq (.ops [.op (some 26) (.mov (.t 9)),
   .op (some 27) (.not (.t 26))])
  (.keep [4, 6, 8, 27] (.cond (.t 27)
  (.seq (.ops [.op (some 28) (.build [.int .i64 0, .nils 3] []),
    .op none (.store 2 (.t 4) (.t 28)),
    .op (some 5) (.mov (.k (.int .i64 5)))])
   (.keep [4, 5] (.ret)))
  (.skip))))
 (.keep [4, 6, 8] (.seq (.ops [.op (some 29) (.mov (.t 6)),
   .op (some 30) (.mov (.t 8)),
   .op (some 31) (.mov (.t 8)),
   .op (some 32) (.bin .add (.t 31) (.k (.int .i64 1))),
   .call (some 33) 26 [.t 29, .t 30, .t 32],
   .call (some 34) 21 [.t 33],
   .op none (.store 2 (.t 4) (.t 34)),
   .op (some 5) (.mov (.k (.int .i64 0)))])
 (.keep [4, 5] (.ret))))))))))))
theorem k_c_TreeDelete_fits : fitsF Try.prog 13 ⟨35, k_c_TreeDelete, [.cN 4 2, .t 5]⟩ = true := by kernel_rfl
theorem c_TreeDelete {t : ITree} {key : Str} (hT : TB t) (hz : key.length ≤ 1048576) : Con Try.prog noMv 13 [.agg [.d (.int .i64 t.Root), .d (.sl 3 (t.Nodes.map INode.row))], str key] [] (fun r h => r = .tup [.agg [.d (.int .i64 (delF t key).1.Root), .osl 0 3 0 (delF t key).1.Nodes.length], int (delF t key).2] ∧ h = [(0, .deep 3 ((delF t key).1.Nodes.map INode.row) [])]) := by
 refine con_of2 k_c_TreeDelete_fits rfl fun C hP hmv => ?_
 unfold k_c_TreeDelete
 refine cx_seq (cx_ops ?_)
 refine ax_e (e_box rfl rfl (by decide) rfl rfl rfl) ?_
 refine ax_e (e_alloc (by decide) rfl rfl) ?_
 refine ax_q (q_mov rfl) ?_
 refine ax_nil (cx_keep rfl rfl (cx_seq (cx_ops ?_)))
 refine ax_q (q_ldN rfl rfl rfl) ?_
 refine ax_q (q_mov rfl) ?_
 refine ax_call rfl (vc_pure (c_treeAsked  ?_ ?_) hP rfl ?_)
 ·
  assumption
 ·
  assumption
 rintro r h ⟨rfl, rfl⟩
 refine ⟨fun i => 13 + 200 * i, [0], ⟨rfl, rfl, rfl, rfl, rfl, (by first | exact (fun h => absurd h Bool.false_ne_true) | exact (fun _ => ⟨rfl, (noisl_of (by repeat (first | exact trivial | refine ⟨noisl_map (fun _ => rfl), ?_⟩ | refine ⟨?_, ?_⟩)))⟩))⟩, ?_⟩
 skip
 refine ax_q (q_mov rfl) ?_
 refine ax_q (q_ext rfl rfl) ?_
 refine ax_q (q_ext rfl rfl) ?_
 refine ax_q (q_mov rfl) ?_
 refine ax_q (q_mov rfl) ?_
 refine ax_nil (cx_keep rfl rfl (cx_seq (cx_seq (cx_ops ?_))))
 refine ax_q (q_mov rfl) ?_
 refine ax_q (q_ibin rfl rfl rfl) ?_
 refine ax_nil (cx_keep rfl rfl ?_)
 refine cx_cond rfl (fun h0 => ?_) (fun h0 => ?_)
 ·
  have h0 := nT h0
  refine cx_seq (cx_ops ?_)
  refine ax_q (q_build rfl) ?_
  refine ax_wk (wk_virt 903 3 rfl rfl rfl) ?_
  refine ax_wk (wk_zs 18 903 [1] rfl rfl) ?_
  refine ax_wk (wk_deepz 903 (rs' := []) rfl rfl) ?_
  refine ax_q (q_mov rfl) ?_
  refine ax_e (e_st rfl rfl rfl rfl rfl rfl rfl) ?_
  refine ax_q (q_mov rfl) ?_
  refine ax_nil (cx_keep rfl rfl ?_)
  refine cx_ret (retN (fun _ => 0) [903] rfl rfl rfl rfl rfl ?_)
  rw [delF_no h0]; exact ⟨rfl, rfl⟩
 ·
  have h0 := nF h0
  obtain ⟨hk, hz1, hz2⟩ := askF_ks h0
  obtain ⟨ks, hks⟩ : ∃ ks, (askF t key).1 = ks := ⟨_, rfl⟩
  rw [hks] at hk ⊢
  have q3 := hk.ln
  refine cx_skip ?_
  refine cx_keep rfl rfl (cx_seq (cx_ops ?_))
  refine ax_q (q_mov rfl) ?_
  refine ax_q (q_mov rfl) ?_
  refine ax_call rfl (vc_lend0 (c_BinS (xs := ks) (s := key) hk.asc (by omega)) hP (.cons (.lend (lend_whole rfl (by simp))) (.cons (.d _) .nil)) rfl rfl ?_)
  refine ax_q (q_mov rfl) ?_
  refine ax_q (q_ext rfl rfl) ?_
  refine ax_q (q_ext rfl rfl) ?_
  refine ax_q (q_mov rfl) ?_
  refine ax_q (q_mov rfl) ?_
  refine ax_nil (cx_keep rfl rfl (cx_seq (cx_seq (cx_ops ?_))))
  refine ax_q (q_mov rfl) ?_
  refine ax_q (q_not rfl) ?_
  refine ax_nil (cx_keep rfl rfl ?_)
  refine cx_cond rfl (fun h1 => ?_) (fun h1 => ?_)
  ·
   have h1 : hitS ks key = false := bT h1
   refine cx_seq (cx_ops ?_)
   refine ax_q (q_build rfl) ?_
   refine ax_wk (wk_virt 903 3 rfl rfl rfl) ?_
   refine ax_wk (wk_zs 28 903 [1] rfl rfl) ?_
   refine ax_wk (wk_deepz 903 (rs' := []) rfl rfl) ?_
   refine ax_e (e_st rfl rfl rfl rfl rfl rfl rfl) ?_
   refine ax_q (q_mov rfl) ?_
   refine ax_nil (cx_keep rfl rfl ?_)
   refine cx_ret (retN (fun _ => 0) [903] rfl rfl rfl rfl rfl ?_)
   rw [delF_2 h0 (by rw [hks]; exact h1)]; exact ⟨rfl, rfl⟩
  ·
   have h1 : hitS ks key = true := bF h1
   obtain ⟨hp, hpe⟩ := (posS_mem hk.asc).1 (of_decide_eq_true h1)
   refine cx_skip ?_
   refine cx_keep rfl rfl (cx_seq (cx_ops ?_))
   refine ax_q (q_mov rfl) ?_
   refine ax_q (q_mov rfl) ?_
   refine ax_q (q_mov rfl) ?_
   refine ax_qe (r' := int ((posS ks key + 1 : Nat) : Int)) (q_ibin rfl rfl rfl) (by rw [wi (by omega) (by omega)]; rfl) ?_
   refine ax_call rfl (vcall_own (c_Delete_Str (xs := ks) (i := posS ks key) hp (by omega)) hP hmv false (fun _ => 13) [1000] ⟨rfl, rfl, rfl, rfl, ⟨rfl, trivial⟩, rfl, rfl, rfl⟩ (.pass rfl rfl (.pass rfl rfl (.pass rfl rfl .nil))) ?_)
   rintro r h ⟨rfl, rfl⟩
   refine ⟨(fun _ => 13), [], ⟨rfl, rfl, rfl, rfl, mem1 rfl, rfl, rfl, fun h => absurd h Bool.false_ne_true⟩, ?_⟩
   refine ax_wk (wk_frz 33 13 rfl rfl (.whole (by rw [List.length_map, delA_len hp])) rfl) ?_
   refine ax_call rfl (vc_pure (c_treeOf (ks := (delA ks (posS ks key))) ?_) hP rfl ?_)
   ·
    rw [delA_len hp]; omega
   rintro r h ⟨rfl, rfl⟩
   refine ⟨fun i => 34 + 200 * i, [0], ⟨rfl, rfl, rfl, rfl, rfl, (by first | exact (fun h => absurd h Bool.false_ne_true) | exact (fun _ => ⟨rfl, (noisl_of (by repeat (first | exact trivial | refine ⟨noisl_map (fun _ => rfl), ?_⟩ | refine ⟨?_, ?_⟩)))⟩))⟩, ?_⟩
   skip
   refine ax_e (e_st rfl rfl rfl rfl rfl rfl rfl) ?_
   refine ax_q (q_mov rfl) ?_
   refine ax_nil (cx_keep rfl rfl ?_)
   refine cx_ret (retN (fun _ => 0) [34] rfl rfl rfl rfl rfl ?_)
   rw [delF_1 h0 hks h1]
   refine ⟨?_, ?_⟩
   ·
    show _ = AV.tup [.agg [_, .osl 0 3 0 ((treeT (delA ks (posS ks key))).nodes.map embN).length], _]
    rw [List.length_map]; rfl
   ·
    show _ = [(0, OB.deep 3 (((treeT (delA ks (posS ks key))).nodes.map embN).map INode.row) [])]
    rw [emb_rows]; rfl

end Go.Proofs.Ytenfhamolacdaaa
