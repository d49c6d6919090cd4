/- The walks: what each function computes, as a contract without a world (part 1). -/
import Derived.Test.YtiapgkpjnadebaaProg
import Derived.Test.YtiapgkpjnadebaaW0
namespace Go.Proofs.Ytiapgkpjnadebaa
open Go Go.AM
set_option maxRecDepth 10000
set_option linter.unusedVariables false
set_option linter.unusedSimpArgs false
/- loop.example/g00332/impl.TreeFind -/
def k_c_TreeFind : XCode :=
 .seq (.ops [.op (some 2) (.box (.t 0)),
   .op (some 4) (.mov (.k (.bool false))),
   .op (some 5) (.mov (.k (.int .i64 0)))])
 (.keep [1, 2] (.seq (.ops [.op (some 11) (.loadN 2 (.t 2)),
   .op (some 12) (.mov (.t 1)),
   .call (some 13) 18 [.t 11, .t 12],
   .op (some 10) (.mov (.t 13)),
   .op (some 14) (.ext (.t 10) 0),
   .op (some 15) (.ext (.t 10) 1),
   .op (some 6) (.mov (.t 14)),
   .op (some 7) (.mov (.t 15))])
 (.keep [1, 6, 7] (.seq (.seq (.ops [.op (some 16) (.mov (.t 7)),
   .op (some 17) (.bin .neq (.t 16) (.k (.int .i64 0)))])
  (.keep [1, 6, 7, 17] (.cond (.t 17)
  (.seq (.ops [.op (some 18) (.mov (.t 7)),
    .op (some 4) (.mov (.k (.bool false))),
    .op (some 5) (.mov (.t 18))])
   (.keep [4, 5] (.ret)))
  (.skip))))
 (.keep [1, 6] (.seq (.ops [.op (some 20) (.mov (.t 6)),
   .op (some 21) (.mov (.t 1)),
   .call (some 22) 19 [.t 20, .t 21],
   .op (some 19) (.mov (.t 22)),
   .op (some 23) (.ext (.t 19) 0),
   .op (some 24) (.ext (.t 19) 1),
   .op (some 8) (.mov (.t 23)),
   .op (some 9) (.mov (.t 24))])
 (.keep [9] (.seq (.ops [.op (some 25) (.mov (.t 9)),
   .op (some 4) (.mov (.t 25)),
   .op (some 5) (.mov (.k (.int .i64 0)))])
 (.keep [4, 5] (.ret))))))))))
theorem k_c_TreeFind_fits : fitsF Try.prog 13 ⟨26, k_c_TreeFind, [.t 4, .t 5]⟩ = true := by kernel_rfl
theorem c_TreeFind {ks : List Str} {key : Str} (hk : KS ks) (hz : 1 ≤ key.length ∧ key.length ≤ 30) : Con Try.prog noMv 13 [.agg [.d (.int .i64 (treeT ks).root), .d (.sl 3 ((treeT ks).nodes.map TN.row))], str key] [] (fun r h => r = .tup [bool (hitS ks key), int 0] ∧ h = []) := by
 refine con_of2 k_c_TreeFind_fits rfl fun C hP hmv => ?_
 unfold k_c_TreeFind
 have q3 := hk.ln
 refine cx_seq ?_
 refine cx_ops ?_
 refine ax_e (e_box rfl rfl (by decide) rfl rfl rfl) ?_
 refine ax_q (q_mov rfl) ?_
 refine ax_q (q_mov rfl) ?_
 refine ax_nil ?_
 refine cx_keep rfl rfl ?_
 refine cx_seq ?_
 refine cx_ops ?_
 refine ax_q (q_ldN rfl rfl rfl) ?_
 refine ax_q (q_mov rfl) ?_
 first | refine ax_call rfl (vc_pure (c_treeAsked  ?_ ?_) hP rfl ?_) | refine ax_call rfl (vc_lend (c_treeAsked  ?_ ?_) hP (by repeat (first | exact lal_id _ rfl | exact LAL.nil | refine LAL.cons ?_ ?_ | exact la_id _ rfl | exact LA.lend (lend_whole rfl (by first | (simp; done) | (rw [List.length_map]; rfl))) | refine LA.agg ?_ | refine LA.fn ?_ | refine LA.lend ?_ | exact Lend.d _ | exact Lend.zs _ | exact lend_whole rfl (by first | (simp; done) | (rw [List.length_map]; rfl)) | refine Lend.ptr rfl ?_ | refine Lend.fn ?_ | exact LendL.nil | refine LendL.cons ?_ ?_)) ?_)
 ·
  first | assumption | omega | (simp; done) | (simp; omega)
 ·
  first | assumption | omega | (simp; done) | (simp; omega)
 rintro r h ⟨rfl, rfl⟩
 refine ⟨fun i => 13 + 200 * i, [0], ⟨rfl, rfl, rfl, rfl, rfl, (by first | exact (fun h => absurd h Bool.false_ne_true) | exact (fun _ => ⟨rfl, (noisl_of (by repeat (first | exact trivial | refine ⟨noisl_map (fun _ => rfl), ?_⟩ | refine ⟨?_, ?_⟩)))⟩))⟩, ?_⟩
 skip
 refine ax_q (q_mov rfl) ?_
 refine ax_q (q_ext rfl rfl) ?_
 refine ax_q (q_ext rfl rfl) ?_
 refine ax_q (q_mov rfl) ?_
 refine ax_q (q_mov rfl) ?_
 refine ax_nil ?_
 refine cx_keep rfl rfl ?_
 refine cx_seq ?_
 refine cx_seq ?_
 refine cx_ops ?_
 refine ax_q (q_mov rfl) ?_
 refine ax_q (q_ibin rfl rfl rfl) ?_
 refine ax_nil ?_
 refine cx_keep rfl rfl ?_
 refine cx_cond rfl (fun h0 => ?_) (fun h0 => ?_)
 ·
  have h0 := nT h0
  exact absurd rfl h0
 ·
  have h0 := nF h0
  refine cx_skip ?_
  refine cx_keep rfl rfl ?_
  refine cx_seq ?_
  refine cx_ops ?_
  refine ax_q (q_mov rfl) ?_
  refine ax_q (q_mov rfl) ?_
  refine ax_call rfl (vc_lend0 (c_BinS (xs := ks) (s := key) hk.asc (by omega)) hP (.cons (.lend (lend_whole rfl (by simp))) (.cons (.d _) .nil)) rfl rfl ?_)
  refine ax_q (q_mov rfl) ?_
  refine ax_q (q_ext rfl rfl) ?_
  refine ax_q (q_ext rfl rfl) ?_
  refine ax_q (q_mov rfl) ?_
  refine ax_q (q_mov rfl) ?_
  refine ax_nil ?_
  refine cx_keep rfl rfl ?_
  refine cx_seq ?_
  refine cx_ops ?_
  refine ax_q (q_mov rfl) ?_
  refine ax_q (q_mov rfl) ?_
  refine ax_q (q_mov rfl) ?_
  refine ax_nil ?_
  refine cx_keep rfl rfl ?_
  refine cx_ret (ret0 rfl rfl ?_)
  exact ⟨rfl, rfl⟩

end Go.Proofs.Ytiapgkpjnadebaa
