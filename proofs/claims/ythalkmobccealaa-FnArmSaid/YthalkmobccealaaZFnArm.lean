/- The law FnArm of the given program returns true for all arguments, and its arguments read behind the call as they read before: the statement FnArmSaid, with no condition. -/
import Derived.Test.YthalkmobccealaaW0
import Derived.Test.YthalkmobccealaaRows
namespace Go.Proofs.Ythalkmobccealaa
open Go Go.AM Go.ChangeShapes Go.RowKit
set_option linter.unusedVariables false
set_option linter.unusedSimpArgs false
namespace fnArm
set_option maxRecDepth 10000
/- loop.example/g00332/laws.FnArm -/
def k_c_FnArm : XCode :=
 .seq (.ops [.op (some 4) (.mov (.k (.bool false)))])
 (.keep [0, 1] (.seq (.seq (.ops [.op (some 16) (.mov (.t 0)),
   .op (some 17) (.lenS (.t 16)),
   .op (some 18) (.bin .gtr (.t 17) (.k (.int .i64 1048576))),
   .op (some 19) (.mov (.t 18)),
   .andor 23 false 3 19 [.op (some 20) (.mov (.t 1)), .op (some 21) (.lenS (.t 20)), .op (some 22) (.bin .gtr (.t 21) (.k (.int .i64 1048576)))] (.t 22)])
  (.keep [0, 1, 23] (.cond (.t 23)
  (.seq (.ops [.op (some 4) (.mov (.k (.bool true)))])
   (.keep [4] (.ret)))
  (.skip))))
 (.keep [0, 1] (.seq (.ops [.op (some 24) (.mov (.t 0)),
   .call (some 25) 6 [.t 24],
   .op (some 5) (.alloc [.nils 1, .nils 2, .bool false, .nils 1]),
   .op none (.store 4 (.t 5) (.t 25))])
 (.keep [1, 5] (.seq (.ops [.op (some 26) (.mov (.t 1)),
   .call (some 27) 7 [.t 26],
   .op (some 6) (.mov (.t 27))])
 (.keep [5, 6] (.seq (.ops [.op (some 29) (.loadN 4 (.t 5)),
   .op (some 30) (.mov (.t 6)),
   .call (some 31) 8 [.t 29, .t 30],
   .op (some 28) (.mov (.t 31)),
   .op (some 32) (.ext (.t 28) 0),
   .op (some 33) (.ext (.t 28) 1),
   .op (some 7) (.alloc [.nils 1, .nils 2, .bool false, .nils 1]),
   .op none (.store 4 (.t 7) (.t 32)),
   .op (some 8) (.mov (.t 33))])
 (.keep [5, 6, 7, 8] (.seq (.ops [.op (some 35) (.loadN 4 (.t 7)),
   .call (some 36) 9 [.t 35],
   .op (some 34) (.mov (.t 36)),
   .op (some 37) (.ext (.t 34) 0),
   .op (some 38) (.ext (.t 34) 1),
   .op (some 39) (.ext (.t 34) 2),
   .op (some 9) (.alloc [.nils 1, .nils 2, .bool false, .nils 1]),
   .op none (.store 4 (.t 9) (.t 37)),
   .op (some 10) (.mov (.t 38)),
   .op (some 11) (.mov (.t 39))])
 (.keep [5, 6, 7, 8, 9, 10, 11] (.seq (.ops [.op (some 41) (.loadN 4 (.t 5)),
   .op (some 42) (.mov (.t 6)),
   .call (some 43) 10 [.t 41, .t 42],
   .op (some 40) (.mov (.t 43)),
   .op (some 44) (.ext (.t 40) 0),
   .op (some 45) (.ext (.t 40) 1),
   .op (some 12) (.alloc [.nils 1, .nils 2, .bool false, .nils 1]),
   .op none (.store 4 (.t 12) (.t 44)),
   .op (some 13) (.mov (.t 45))])
 (.keep [5, 7, 8, 9, 10, 11, 12, 13] (.seq (.ops [.op (some 47) (.fadr (.t 5) 0),
   .op (some 48) (.load1 (.t 47)),
   .op (some 49) (.lenS (.t 48)),
   .call (some 50) 11 [.t 49],
   .op (some 46) (.mov (.t 50)),
   .op (some 51) (.ext (.t 46) 0),
   .op (some 52) (.ext (.t 46) 1),
   .op (some 14) (.alloc [.nils 1, .nils 2, .bool false, .nils 1]),
   .op none (.store 4 (.t 14) (.t 51)),
   .op (some 15) (.mov (.t 52))])
 (.keep [5, 7, 8, 9, 10, 11, 12, 13, 14, 15] (.seq (.ops [.op (some 53) (.mov (.t 8)),
   .op (some 54) (.bin .eql (.t 53) (.k (.int .i64 0))),
   .op (some 55) (.mov (.t 54)),
   .andor 58 true 2 55 [.op (some 56) (.fadr (.t 7) 2), .op (some 57) (.load1 (.t 56))] (.t 57),
   .op (some 59) (.mov (.t 58)),
   .andor 62 true 6 59 [.op (some 60) (.mov (.t 11)), .op (some 61) (.bin .eql (.t 60) (.k (.int .i64 0)))] (.t 61),
   .op (some 63) (.mov (.t 62)),
   .andor 66 true 10 63 [.op (some 64) (.mov (.t 10)), .op (some 65) (.not (.t 64))] (.t 65),
   .op (some 67) (.mov (.t 66)),
   .andor 70 true 14 67 [.op (some 68) (.mov (.t 13)), .op (some 69) (.bin .eql (.t 68) (.k (.int .i64 0)))] (.t 69),
   .op (some 71) (.mov (.t 70)),
   .andor 75 true 18 71 [.op (some 72) (.loadN 4 (.t 9)), .op (some 73) (.loadN 4 (.t 12)), .call (some 74) 12 [.t 72, .t 73]] (.t 74),
   .op (some 76) (.mov (.t 75)),
   .andor 80 true 23 76 [.op (some 77) (.fadr (.t 9) 2), .op (some 78) (.load1 (.t 77)), .op (some 79) (.not (.t 78))] (.t 79),
   .op (some 81) (.mov (.t 80)),
   .andor 84 true 28 81 [.op (some 82) (.mov (.t 15)), .op (some 83) (.bin .eql (.t 82) (.k (.int .i64 0)))] (.t 83),
   .op (some 85) (.mov (.t 84)),
   .andor 93 true 32 85 [.op (some 86) (.fadr (.t 14) 0), .op (some 87) (.load1 (.t 86)), .op (some 88) (.lenS (.t 87)), .op (some 89) (.fadr (.t 5) 0), .op (some 90) (.load1 (.t 89)), .op (some 91) (.lenS (.t 90)), .op (some 92) (.bin .eql (.t 88) (.t 91))] (.t 92),
   .op (some 4) (.mov (.t 93))])
 (.keep [4] (.ret))))))))))))))))))
theorem k_c_FnArm_fits : fitsF Try.prog 3 ⟨94, k_c_FnArm, [.t 4]⟩ = true := by kernel_rfl
set_option maxHeartbeats 4000000 in
theorem c_FnArm {code more : Str} (w0 : wfL (fun _ => True) code) (w1 : wfL (fun _ => True) more) : Con Try.prog noMv 3 [.d (.sl 1 (code.map byteRow)), .d (.sl 1 (more.map byteRow))] [] (fun r h => r = bool true ∧ h = []) := by
 refine con_of2 k_c_FnArm_fits rfl fun C hP hmv => ?_
 unfold k_c_FnArm
 refine cx_seq ?_
 refine cx_ops ?_
 refine ax_q (q_mov rfl) ?_
 refine ax_nil ?_
 refine cx_keep rfl rfl ?_
 refine cx_seq ?_
 refine cx_seq ?_
 refine cx_ops ?_
 refine ax_q (q_mov rfl) ?_
 first | refine ax_q (q_lenS_map rfl) ?_ | refine ax_q (q_lenS_osl rfl) ?_ | refine ax_q (q_lenS_zs rfl) ?_ | refine ax_q (q_lenS rfl) ?_
 refine ax_q (q_ibin rfl rfl rfl) ?_
 refine ax_q (q_mov rfl) ?_
 apply ax_or rfl rfl
 ·
  intro g
  have g := dF g
  refine ax_q (q_mov rfl) ?_
  first | refine ax_q (q_lenS_map rfl) ?_ | refine ax_q (q_lenS_osl rfl) ?_ | refine ax_q (q_lenS_zs rfl) ?_ | refine ax_q (q_lenS rfl) ?_
  refine ax_q (q_ibin rfl rfl rfl) ?_
  exact ax_nil ⟨rfl, by repeat (first | exact trivial | refine ⟨rfl, ?_⟩ | refine ⟨?_, ?_⟩)⟩
 refine ax_nil ?_
 refine cx_keep rfl rfl ?_
 refine cx_cond rfl (fun h0 => ?_) (fun h0 => ?_)
 ·
  have h0 := (fun h => (or_T h).imp dT dT) h0
  refine cx_seq ?_
  refine cx_ops ?_
  refine ax_q (q_mov rfl) ?_
  refine ax_nil ?_
  refine cx_keep rfl rfl ?_
  refine cx_ret (ret0 rfl rfl ?_)
  exact ⟨rfl, rfl⟩
 ·
  have h0 := (fun h => And.intro (dF (or_F h).1) (dF (or_F h).2)) h0
  have hlc : code.length ≤ 1048576 := by omega
  have hlm : more.length ≤ 1048576 := by omega
  refine cx_skip ?_
  refine cx_keep rfl rfl ?_
  refine cx_seq ?_
  refine cx_ops ?_
  refine ax_q (q_mov rfl) ?_
  first | refine ax_call rfl (vc_pure (c_DiskOf  ?_) hP rfl ?_) | refine ax_call rfl (vc_lend (c_DiskOf  ?_) hP (by repeat (first | exact lal_id _ rfl | exact LAL.nil | refine LAL.cons ?_ ?_ | exact la_id _ rfl | exact LA.lend (lend_whole rfl (by first | (simp; done) | (rw [List.length_map]; rfl))) | refine LA.agg ?_ | refine LA.fn ?_ | refine LA.lend ?_ | exact Lend.d _ | exact Lend.zs _ | exact lend_whole rfl (by first | (simp; done) | (rw [List.length_map]; rfl)) | refine Lend.ptr rfl ?_ | refine Lend.fn ?_ | exact LendL.nil | refine LendL.cons ?_ ?_)) ?_)
  ·
   first | assumption | omega | (simp; done) | (simp; omega)
  rintro r h ⟨d, hd, rfl, rfl⟩
  refine ⟨fun i => 25 + 200 * i, [0, 1, 2], ⟨rfl, rfl, rfl, rfl, rfl, (by first | exact (fun h => absurd h Bool.false_ne_true) | exact (fun _ => ⟨rfl, (noisl_of (show noislL [_, _, _] from ⟨noisl_map (fun _ => rfl), noisl_map (fun _ => rfl), noisl_map (fun _ => rfl), trivial⟩))⟩))⟩, ?_⟩
  skip
  refine ax_e (e_alloc (by decide) rfl rfl) ?_
  refine ax_e (e_st rfl rfl rfl rfl rfl rfl rfl) ?_
  refine ax_nil ?_
  refine cx_keep rfl rfl ?_
  refine cx_seq ?_
  refine cx_ops ?_
  refine ax_q (q_mov rfl) ?_
  refine ax_call rfl (vc_pure (c_KeepsOf hlm) hP rfl ?_)
  rintro r h ⟨keep, hk, rfl, rfl⟩
  refine ⟨id, [], ⟨rfl, rfl, rfl, rfl, rfl, fun h => absurd h Bool.false_ne_true⟩, ?_⟩
  refine ax_q (q_mov rfl) ?_
  refine ax_nil ?_
  refine cx_keep rfl rfl ?_
  refine cx_seq ?_
  refine cx_ops ?_
  refine ax_q (q_ldN rfl rfl rfl) ?_
  refine ax_q (q_mov rfl) ?_
  have hs0 := hd.ok.s0
  have hs1 := hd.s9
  have hs2 := hd.cm
  have hs3 := hd.km
  have ea := armF_ok hd.ok (show keep.length ≤ 500 by omega)
  have es := syncF_arm (keep := keep) hd.ok (by omega)
  have ec := crashF_ok hd.ok (show keep.length ≤ 500 by omega)
  have hcl := @crashD_len d keep
  first | refine ax_call rfl (vc_pure (c_DiskArm (d := d) (keep := keep) ?_ ?_ ?_ ?_) hP rfl ?_) | refine ax_call rfl (vc_lend (c_DiskArm (d := d) (keep := keep) ?_ ?_ ?_ ?_) hP (by repeat (first | exact lal_id _ rfl | exact LAL.nil | refine LAL.cons ?_ ?_ | exact la_id _ rfl | exact LA.lend (lend_whole rfl (by first | (simp; done) | (rw [List.length_map]; rfl))) | refine LA.agg ?_ | refine LA.fn ?_ | refine LA.lend ?_ | exact Lend.d _ | exact Lend.zs _ | exact lend_whole rfl (by first | (simp; done) | (rw [List.length_map]; rfl)) | refine Lend.ptr rfl ?_ | refine Lend.fn ?_ | exact LendL.nil | refine LendL.cons ?_ ?_)) ?_)
  ·
   first | assumption | omega | (simp; done) | (simp; omega)
  ·
   first | assumption | omega | (simp; done) | (simp; omega)
  ·
   first | assumption | omega | (simp; done) | (simp; omega)
  ·
   first | assumption | omega | (simp; done) | (simp; omega)
  rintro r h ⟨rfl, rfl⟩
  refine ⟨fun i => 31 + 200 * i, [0, 1, 2], ⟨rfl, rfl, rfl, rfl, rfl, (by first | exact (fun h => absurd h Bool.false_ne_true) | exact (fun _ => ⟨rfl, (noisl_of (by repeat (first | exact trivial | refine ⟨noisl_map (fun _ => rfl), ?_⟩ | refine ⟨?_, ?_⟩)))⟩))⟩, ?_⟩
  skip
  rw [ea]
  dsimp only
  refine ax_q (q_mov rfl) ?_
  refine ax_q (q_ext rfl rfl) ?_
  refine ax_q (q_ext rfl rfl) ?_
  refine ax_e (e_alloc (by decide) rfl rfl) ?_
  refine ax_e (e_st rfl rfl rfl rfl rfl rfl rfl) ?_
  refine ax_q (q_mov rfl) ?_
  refine ax_nil ?_
  refine cx_keep rfl rfl ?_
  refine cx_seq ?_
  refine cx_ops ?_
  refine ax_q (q_ldN rfl rfl rfl) ?_
  first | refine ax_call rfl (vc_pure (c_DiskSync (d := ⟨d.Sectors, d.Cache, true, keep⟩) ?_ ?_ ?_) hP rfl ?_) | refine ax_call rfl (vc_lend (c_DiskSync (d := ⟨d.Sectors, d.Cache, true, keep⟩) ?_ ?_ ?_) hP (by repeat (first | exact lal_id _ rfl | exact LAL.nil | refine LAL.cons ?_ ?_ | exact la_id _ rfl | exact LA.lend (lend_whole rfl (by first | (simp; done) | (rw [List.length_map]; rfl))) | refine LA.agg ?_ | refine LA.fn ?_ | refine LA.lend ?_ | exact Lend.d _ | exact Lend.zs _ | exact lend_whole rfl (by first | (simp; done) | (rw [List.length_map]; rfl)) | refine Lend.ptr rfl ?_ | refine Lend.fn ?_ | exact LendL.nil | refine LendL.cons ?_ ?_)) ?_)
  ·
   first | assumption | omega | (simp; done) | (simp; omega)
  ·
   first | assumption | omega | (simp; done) | (simp; omega)
  ·
   first | assumption | omega | (simp; done) | (simp; omega)
  rintro r h ⟨rfl, rfl⟩
  refine ⟨fun i => 36 + 200 * i, [0, 1, 2], ⟨rfl, rfl, rfl, rfl, rfl, (by first | exact (fun h => absurd h Bool.false_ne_true) | exact (fun _ => ⟨rfl, (noisl_of (by repeat (first | exact trivial | refine ⟨noisl_map (fun _ => rfl), ?_⟩ | refine ⟨?_, ?_⟩)))⟩))⟩, ?_⟩
  skip
  rw [es]
  dsimp only
  refine ax_q (q_mov rfl) ?_
  refine ax_q (q_ext rfl rfl) ?_
  refine ax_q (q_ext rfl rfl) ?_
  refine ax_q (q_ext rfl rfl) ?_
  refine ax_e (e_alloc (by decide) rfl rfl) ?_
  refine ax_e (e_st rfl rfl rfl rfl rfl rfl rfl) ?_
  refine ax_q (q_mov rfl) ?_
  refine ax_q (q_mov rfl) ?_
  refine ax_nil ?_
  refine cx_keep rfl rfl ?_
  refine cx_seq ?_
  refine cx_ops ?_
  refine ax_q (q_ldN rfl rfl rfl) ?_
  refine ax_q (q_mov rfl) ?_
  first | refine ax_call rfl (vc_pure (c_DiskCrash (d := d) (keep := keep) ?_ ?_ ?_ ?_) hP rfl ?_) | refine ax_call rfl (vc_lend (c_DiskCrash (d := d) (keep := keep) ?_ ?_ ?_ ?_) hP (by repeat (first | exact lal_id _ rfl | exact LAL.nil | refine LAL.cons ?_ ?_ | exact la_id _ rfl | exact LA.lend (lend_whole rfl (by first | (simp; done) | (rw [List.length_map]; rfl))) | refine LA.agg ?_ | refine LA.fn ?_ | refine LA.lend ?_ | exact Lend.d _ | exact Lend.zs _ | exact lend_whole rfl (by first | (simp; done) | (rw [List.length_map]; rfl)) | refine Lend.ptr rfl ?_ | refine Lend.fn ?_ | exact LendL.nil | refine LendL.cons ?_ ?_)) ?_)
  ·
   first | assumption | omega | (simp; done) | (simp; omega)
  ·
   first | assumption | omega | (simp; done) | (simp; omega)
  ·
   first | assumption | omega | (simp; done) | (simp; omega)
  ·
   first | assumption | omega | (simp; done) | (simp; omega)
  rintro r h ⟨rfl, rfl⟩
  refine ⟨fun i => 43 + 200 * i, [0, 1, 2], ⟨rfl, rfl, rfl, rfl, rfl, (by first | exact (fun h => absurd h Bool.false_ne_true) | exact (fun _ => ⟨rfl, (noisl_of (by repeat (first | exact trivial | refine ⟨noisl_map (fun _ => rfl), ?_⟩ | refine ⟨?_, ?_⟩)))⟩))⟩, ?_⟩
  skip
  rw [ec]
  dsimp only
  refine ax_q (q_mov rfl) ?_
  refine ax_q (q_ext rfl rfl) ?_
  refine ax_q (q_ext rfl rfl) ?_
  refine ax_e (e_alloc (by decide) rfl rfl) ?_
  refine ax_e (e_st rfl rfl rfl rfl rfl rfl rfl) ?_
  refine ax_q (q_mov rfl) ?_
  refine ax_nil ?_
  refine cx_keep rfl rfl ?_
  refine cx_seq ?_
  refine cx_ops ?_
  refine ax_q (q_fadr_ptr rfl) ?_
  refine ax_q (q_load1_ptr rfl rfl rfl) ?_
  first | refine ax_q (q_lenS_map rfl) ?_ | refine ax_q (q_lenS_osl rfl) ?_ | refine ax_q (q_lenS_zs rfl) ?_ | refine ax_q (q_lenS rfl) ?_
  first | refine ax_call rfl (vc_pure (c_NewDisk (n := (d.Sectors.length : Int)) ?_) hP rfl ?_) | refine ax_call rfl (vc_lend (c_NewDisk (n := (d.Sectors.length : Int)) ?_) hP (by repeat (first | exact lal_id _ rfl | exact LAL.nil | refine LAL.cons ?_ ?_ | exact la_id _ rfl | exact LA.lend (lend_whole rfl (by first | (simp; done) | (rw [List.length_map]; rfl))) | refine LA.agg ?_ | refine LA.fn ?_ | refine LA.lend ?_ | exact Lend.d _ | exact Lend.zs _ | exact lend_whole rfl (by first | (simp; done) | (rw [List.length_map]; rfl)) | refine Lend.ptr rfl ?_ | refine Lend.fn ?_ | exact LendL.nil | refine LendL.cons ?_ ?_)) ?_)
  ·
   first | assumption | omega | (simp; done) | (simp; omega)
  rintro r h ⟨rfl, rfl⟩
  refine ⟨fun i => 50 + 200 * i, [0], ⟨rfl, rfl, rfl, rfl, rfl, (by first | exact (fun h => absurd h Bool.false_ne_true) | exact (fun _ => ⟨rfl, (noisl_of (by repeat (first | exact trivial | refine ⟨noisl_map (fun _ => rfl), ?_⟩ | refine ⟨?_, ?_⟩)))⟩))⟩, ?_⟩
  skip
  refine ax_q (q_mov rfl) ?_
  refine ax_q (q_ext rfl rfl) ?_
  refine ax_q (q_ext rfl rfl) ?_
  refine ax_e (e_alloc (by decide) rfl rfl) ?_
  refine ax_e (e_st rfl rfl rfl rfl rfl rfl rfl) ?_
  refine ax_q (q_mov rfl) ?_
  refine ax_nil ?_
  refine cx_keep rfl rfl ?_
  refine cx_seq ?_
  refine cx_ops ?_
  refine ax_q (q_mov rfl) ?_
  refine ax_q (q_ibin rfl rfl rfl) ?_
  refine ax_q (q_mov rfl) ?_
  apply ax_and rfl rfl
  ·
   intro g
   have g := dT g
   refine ax_q (q_fadr_ptr rfl) ?_
   refine ax_q (q_load1_ptr rfl rfl rfl) ?_
   exact ax_nil ⟨rfl, by repeat (first | exact trivial | refine ⟨rfl, ?_⟩ | refine ⟨?_, ?_⟩)⟩
  refine ax_q (q_mov rfl) ?_
  apply ax_and rfl rfl
  ·
   intro g
   have g := (fun h => And.intro (dT (and_T h).1) (id (and_T h).2)) g
   refine ax_q (q_mov rfl) ?_
   refine ax_q (q_ibin rfl rfl rfl) ?_
   exact ax_nil ⟨rfl, by repeat (first | exact trivial | refine ⟨rfl, ?_⟩ | refine ⟨?_, ?_⟩)⟩
  refine ax_q (q_mov rfl) ?_
  apply ax_and rfl rfl
  ·
   intro g
   have g := (fun h => And.intro ((fun h => And.intro (dT (and_T h).1) (id (and_T h).2)) (and_T h).1) (dT (and_T h).2)) g
   refine ax_q (q_mov rfl) ?_
   refine ax_q (q_not rfl) ?_
   exact ax_nil ⟨rfl, by repeat (first | exact trivial | refine ⟨rfl, ?_⟩ | refine ⟨?_, ?_⟩)⟩
  refine ax_q (q_mov rfl) ?_
  apply ax_and rfl rfl
  ·
   intro g
   have g := (fun h => And.intro ((fun h => And.intro ((fun h => And.intro (dT (and_T h).1) (id (and_T h).2)) (and_T h).1) (dT (and_T h).2)) (and_T h).1) (bT (and_T h).2)) g
   refine ax_q (q_mov rfl) ?_
   refine ax_q (q_ibin rfl rfl rfl) ?_
   exact ax_nil ⟨rfl, by repeat (first | exact trivial | refine ⟨rfl, ?_⟩ | refine ⟨?_, ?_⟩)⟩
  refine ax_q (q_mov rfl) ?_
  apply ax_and rfl rfl
  ·
   intro g
   have g := (fun h => And.intro ((fun h => And.intro ((fun h => And.intro ((fun h => And.intro (dT (and_T h).1) (id (and_T h).2)) (and_T h).1) (dT (and_T h).2)) (and_T h).1) (bT (and_T h).2)) (and_T h).1) (dT (and_T h).2)) g
   refine ax_q (q_ldN rfl rfl rfl) ?_
   refine ax_q (q_ldN rfl rfl rfl) ?_
   first | refine ax_call rfl (vc_pure0 (c_sameDisk (x := (crashD d keep)) (y := (crashD d keep)) ?_ ?_ ?_ ?_ ?_ ?_) hP rfl rfl ?_) | refine ax_call rfl (vc_lend0 (c_sameDisk (x := (crashD d keep)) (y := (crashD d keep)) ?_ ?_ ?_ ?_ ?_ ?_) hP (by repeat (first | exact lal_id _ rfl | exact LAL.nil | refine LAL.cons ?_ ?_ | exact la_id _ rfl | exact LA.lend (lend_whole rfl (by first | (simp; done) | (rw [List.length_map]; rfl))) | refine LA.agg ?_ | refine LA.fn ?_ | refine LA.lend ?_ | exact Lend.d _ | exact Lend.zs _ | exact lend_whole rfl (by first | (simp; done) | (rw [List.length_map]; rfl)) | refine Lend.ptr rfl ?_ | refine Lend.fn ?_ | exact LendL.nil | refine LendL.cons ?_ ?_)) rfl rfl ?_)
   ·
    first | assumption | omega | (simp; done) | (simp; omega)
   ·
    exact Nat.zero_le _
   ·
    exact Nat.zero_le _
   ·
    first | assumption | omega | (simp; done) | (simp; omega)
   ·
    exact Nat.zero_le _
   ·
    exact Nat.zero_le _
   exact ax_nil ⟨rfl, by repeat (first | exact trivial | refine ⟨rfl, ?_⟩ | refine ⟨?_, ?_⟩)⟩
  refine ax_q (q_mov rfl) ?_
  apply ax_and rfl rfl
  ·
   intro g
   have g := (fun h => And.intro ((fun h => And.intro ((fun h => And.intro ((fun h => And.intro ((fun h => And.intro (dT (and_T h).1) (id (and_T h).2)) (and_T h).1) (dT (and_T h).2)) (and_T h).1) (bT (and_T h).2)) (and_T h).1) (dT (and_T h).2)) (and_T h).1) (id (and_T h).2)) g
   refine ax_q (q_fadr_ptr rfl) ?_
   refine ax_q (q_load1_ptr rfl rfl rfl) ?_
   refine ax_q (q_not rfl) ?_
   exact ax_nil ⟨rfl, by repeat (first | exact trivial | refine ⟨rfl, ?_⟩ | refine ⟨?_, ?_⟩)⟩
  refine ax_q (q_mov rfl) ?_
  apply ax_and rfl rfl
  ·
   intro g
   have g := (fun h => And.intro ((fun h => And.intro ((fun h => And.intro ((fun h => And.intro ((fun h => And.intro ((fun h => And.intro (dT (and_T h).1) (id (and_T h).2)) (and_T h).1) (dT (and_T h).2)) (and_T h).1) (bT (and_T h).2)) (and_T h).1) (dT (and_T h).2)) (and_T h).1) (id (and_T h).2)) (and_T h).1) (bT (and_T h).2)) g
   refine ax_q (q_mov rfl) ?_
   refine ax_q (q_ibin rfl rfl rfl) ?_
   exact ax_nil ⟨rfl, by repeat (first | exact trivial | refine ⟨rfl, ?_⟩ | refine ⟨?_, ?_⟩)⟩
  refine ax_q (q_mov rfl) ?_
  apply ax_and rfl rfl
  ·
   intro g
   have g := (fun h => And.intro ((fun h => And.intro ((fun h => And.intro ((fun h => And.intro ((fun h => And.intro ((fun h => And.intro ((fun h => And.intro (dT (and_T h).1) (id (and_T h).2)) (and_T h).1) (dT (and_T h).2)) (and_T h).1) (bT (and_T h).2)) (and_T h).1) (dT (and_T h).2)) (and_T h).1) (id (and_T h).2)) (and_T h).1) (bT (and_T h).2)) (and_T h).1) (dT (and_T h).2)) g
   refine ax_q (q_fadr_ptr rfl) ?_
   refine ax_q (q_load1_ptr rfl rfl rfl) ?_
   first | refine ax_q (q_lenS_map rfl) ?_ | refine ax_q (q_lenS_osl rfl) ?_ | refine ax_q (q_lenS_zs rfl) ?_ | refine ax_q (q_lenS rfl) ?_
   refine ax_q (q_fadr_ptr rfl) ?_
   refine ax_q (q_load1_ptr rfl rfl rfl) ?_
   first | refine ax_q (q_lenS_map rfl) ?_ | refine ax_q (q_lenS_osl rfl) ?_ | refine ax_q (q_lenS_zs rfl) ?_ | refine ax_q (q_lenS rfl) ?_
   refine ax_q (q_ibin rfl rfl rfl) ?_
   exact ax_nil ⟨rfl, by repeat (first | exact trivial | refine ⟨rfl, ?_⟩ | refine ⟨?_, ?_⟩)⟩
  refine ax_q (q_mov rfl) ?_
  refine ax_nil ?_
  refine cx_keep rfl rfl ?_
  refine cx_ret (ret0 rfl rfl ?_)
  exact ⟨by rw [eqb_rfl]; simp [newDk, crashD]; rfl, rfl⟩

theorem own : ownKnob Try.prog.godebug = none := by kernel_rfl
theorem laid : laidOutB Try.prog = true := by kernel_rfl
theorem closedTs : closedT Try.prog [5, 22] = true := by kernel_rfl
theorem con (rows : List (List D)) (h : HasAll Try.prog Try.f3.params.toList rows) : Con Try.prog noMv 3 (argsAV Try.prog Try.f3.params.toList rows) [] (fun r h => r = AM.bool true ∧ h = []) := by
  rw [Try.params3] at h ⊢
  obtain ⟨d0, r0, rfl, h0, h⟩ := h
  obtain ⟨d1, r1, rfl, h1, h⟩ := h
  obtain rfl := h
  obtain ⟨a0, rfl, w0⟩ := (dec_slice (sz := 1) Try.underlying22 (by kernel_rfl) (dec_byte Try.underlying5)) h0
  obtain ⟨a1, rfl, w1⟩ := (dec_slice (sz := 1) Try.underlying22 (by kernel_rfl) (dec_byte Try.underlying5)) h1
  have e : argsAV Try.prog [22, 22] [[.sl 1 (a0.map byteRow)], [.sl 1 (a1.map byteRow)]] = [.d (.sl 1 (a0.map byteRow)), .d (.sl 1 (a1.map byteRow))] := by
    first | (simp only [argsAV, argAV, Try.underlying22]; done) | (simp only [argsAV, argAV, Try.underlying22]; rfl)
  show Con Try.prog noMv 3 (argsAV Try.prog [22, 22] [[.sl 1 (a0.map byteRow)], [.sl 1 (a1.map byteRow)]]) [] _
  rw [e]
  exact c_FnArm w0 w1
set_option maxRecDepth 100000 in
theorem lifted (os : Os) (started : os.Started) (H : Type) (enc : TypeId × Value → H) :
    ReturnsInHanded {} Try.checked os 3 .any (Rows.fnArmSpec.pre6 enc Try.prog Try.f3 Rows.fnArmRow.domain false) (Rows.fnArmSpec.post enc Try.prog Try.f3 false true false false) := by
  refine returnsInHanded_of_change (C := Try.checked) own started (by kernel_rfl) Try.func3
    (ChangeSpec.witness6 (enc := enc) (C := Try.checked) false ⟨#[], #[.slice none 0 0, .slice none 0 0], []⟩ 8 (by kernel_rfl) (by kernel_rfl) (by kernel_rfl) (by kernel_rfl)) ?_
  intro W base args ds gs before hval hW hcnd _
  refine law_contract closedTs laid (by kernel_rfl) rfl rfl Try.underlying4 con (fun hl => ?_) hval hW
  match ds, hl with
  | [x0, x1], _ => rfl
theorem over : Rows.fnArmRow.holds Try.pinned (OpenSpec.ofChange Rows.fnArmSpec) :=
  OpenClaim.holds_of_wide 3 Try.f3 rfl rfl rfl rfl rfl rfl rfl ⟨rfl, rfl, rfl, rfl, rfl⟩ rfl rfl rfl rfl rfl (by kernel_rfl) Try.func3 (by kernel_rfl)
    (of_decide_eq_true (by kernel_rfl)) (by unfold Func.isWrapper; first | (rw [if_pos (by decide +kernel)]; kernel_rfl) | (rw [if_neg (by decide +kernel)]; exact ⟨rfl, rfl⟩))
    (fun os started H enc _ => lifted os started H enc)
theorem proved : Rows.FnArmSaid := over
end fnArm
end Go.Proofs.Ythalkmobccealaa
#print axioms Go.Proofs.Ythalkmobccealaa.fnArm.proved
