/- The walks: what each function computes, as a contract without a world (part 1). -/
import Derived.Test.YtkingadnnilgiaaProg
import Derived.Test.YtkingadnnilgiaaW0
namespace Go.Proofs.Ytkingadnnilgiaa
open Go Go.AM
set_option maxRecDepth 10000
set_option linter.unusedVariables false
set_option linter.unusedSimpArgs false
/- loop.example/g00332/spec.SortRows -/
def k_c_sSortRows : XCode :=
 .seq (.ops [.op (some 6) (.mov (.k (.nils 7))),
   .op (some 7) (.mov (.k (.int .i64 0)))])
 (.keep [0, 1, 2] (.seq (.seq (.ops [.op (some 8) (.mov (.t 0)),
   .op (some 9) (.lenS (.t 8)),
   .op (some 10) (.bin .gtr (.t 9) (.k (.int .i64 4096)))])
  (.keep [0, 1, 2, 10] (.cond (.t 10)
  (.seq (.ops [.op (some 11) (.bslice 7 []),
    .op (some 6) (.mov (.t 11)),
    .op (some 7) (.mov (.k (.int .i64 2)))])
   (.keep [6, 7] (.ret)))
  (.skip))))
 (.keep [0, 1, 2] (.seq (.seq (.ops [.op (some 12) (.mov (.t 0)),
   .op (some 13) (.lenS (.t 12)),
   .op (some 14) (.bin .gtr (.t 13) (.k (.int .i64 100)))])
  (.keep [0, 1, 2, 14] (.cond (.t 14)
  (.seq (.ops [.op (some 15) (.bslice 7 []),
    .op (some 6) (.mov (.t 15)),
    .op (some 7) (.mov (.k (.int .i64 6)))])
   (.keep [6, 7] (.ret)))
  (.skip))))
 (.keep [0, 1, 2] (.seq (.seq (.ops [.op (some 16) (.mov (.t 0)),
   .call (some 17) 43 [.t 16],
   .op (some 18) (.not (.t 17))])
  (.keep [0, 1, 2, 18] (.cond (.t 18)
  (.seq (.ops [.op (some 19) (.bslice 7 []),
    .op (some 6) (.mov (.t 19)),
    .op (some 7) (.mov (.k (.int .i64 1)))])
   (.keep [6, 7] (.ret)))
  (.skip))))
 (.keep [0, 1, 2] (.seq (.seq (.ops [.op (some 20) (.mov (.t 1)),
   .call (some 21) 32 [.t 20, .k (.int .i64 0), .k (.int .i64 2)],
   .op (some 22) (.not (.t 21))])
  (.keep [0, 1, 2, 22] (.cond (.t 22)
  (.seq (.ops [.op (some 23) (.bslice 7 []),
    .op (some 6) (.mov (.t 23)),
    .op (some 7) (.mov (.k (.int .i64 4)))])
   (.keep [6, 7] (.ret)))
  (.skip))))
 (.keep [0, 1, 2] (.seq (.ops [.op (some 24) (.mov (.t 0)),
   .op (some 25) (.mov (.t 1)),
   .op (some 26) (.mov (.t 2)),
   .call (some 27) 44 [.t 24, .t 25, .t 26],
   .op (some 6) (.mov (.t 27)),
   .op (some 7) (.mov (.k (.int .i64 0)))])
 (.keep [6, 7] (.ret))))))))))))
theorem k_c_sSortRows_fits : fitsF Try.prog 21 ⟨28, k_c_sSortRows, [.t 6, .t 7]⟩ = true := by kernel_rfl
theorem c_sSortRows {xs : List GRow} {k : Int} (hg : RG xs 6) (hk : 0 ≤ k ∧ k ≤ 2) : Con Try.prog noMv 21 [.d (.sl 7 (xs.map GRow.row)), int k, bool false] [] (fun r h => r = .tup [.osl 0 7 0 (sortS (ltR k) xs).length, int 0] ∧ h = [(0, .rows 7 ((sortS (ltR k) xs).map GRow.row))]) := by
 refine con_of2 k_c_sSortRows_fits rfl fun C hP hmv => ?_
 unfold k_c_sSortRows
 have hln := hg.ln
 have hsz := fun x (hx : x ∈ xs) => row_sz (hg.ok x hx)
 refine cx_seq ?_
 refine cx_ops ?_
 refine ax_q (q_mov rfl) ?_
 refine ax_q (q_mov rfl) ?_
 refine ax_nil ?_
 refine cx_keep rfl rfl ?_
 refine cx_seq ?_
 refine cx_seq ?_
 refine cx_ops ?_
 refine ax_q (q_mov rfl) ?_
 first | refine ax_q (q_lenS_map rfl) ?_ | refine ax_q (q_lenS_osl rfl) ?_ | refine ax_q (q_lenS_zs rfl) ?_ | refine ax_q (q_lenS rfl) ?_
 refine ax_q (q_ibin rfl rfl rfl) ?_
 refine ax_nil ?_
 refine cx_keep rfl rfl ?_
 refine cx_cond rfl (fun h0 => ?_) (fun h0 => ?_)
 ·
  have h0 := dT h0
  exfalso; omega
 ·
  have h0 := dF h0
  refine cx_skip ?_
  refine cx_keep rfl rfl ?_
  refine cx_seq ?_
  refine cx_seq ?_
  refine cx_ops ?_
  refine ax_q (q_mov rfl) ?_
  first | refine ax_q (q_lenS_map rfl) ?_ | refine ax_q (q_lenS_osl rfl) ?_ | refine ax_q (q_lenS_zs rfl) ?_ | refine ax_q (q_lenS rfl) ?_
  refine ax_q (q_ibin rfl rfl rfl) ?_
  refine ax_nil ?_
  refine cx_keep rfl rfl ?_
  refine cx_cond rfl (fun h1 => ?_) (fun h1 => ?_)
  ·
   have h1 := dT h1
   exfalso; omega
  ·
   have h1 := dF h1
   refine cx_skip ?_
   refine cx_keep rfl rfl ?_
   refine cx_seq ?_
   refine cx_seq ?_
   refine cx_ops ?_
   refine ax_q (q_mov rfl) ?_
   first | refine ax_call rfl (vc_pure0 (c_l12Rows  ?_) hP rfl rfl ?_) | refine ax_call rfl (vc_lend0 (c_l12Rows  ?_) hP (by repeat (first | exact lal_id _ rfl | exact LAL.nil | refine LAL.cons ?_ ?_ | exact la_id _ rfl | exact LA.lend (lend_whole rfl (by first | (simp; done) | (rw [List.length_map]; rfl))) | refine LA.agg ?_ | refine LA.fn ?_ | refine LA.lend ?_ | exact Lend.d _ | exact Lend.zs _ | exact lend_whole rfl (by first | (simp; done) | (rw [List.length_map]; rfl)) | refine Lend.ptr rfl ?_ | refine Lend.fn ?_ | exact LendL.nil | refine LendL.cons ?_ ?_)) rfl rfl ?_)
   ·
    first | assumption | omega | (simp; done) | (simp; omega)
   refine ax_q (q_not rfl) ?_
   refine ax_nil ?_
   refine cx_keep rfl rfl ?_
   refine cx_cond rfl (fun h2 => ?_) (fun h2 => ?_)
   ·
    skip
    exact absurd h2 Bool.false_ne_true
   ·
    skip
    refine cx_skip ?_
    refine cx_keep rfl rfl ?_
    refine cx_seq ?_
    refine cx_seq ?_
    refine cx_ops ?_
    refine ax_q (q_mov rfl) ?_
    first | refine ax_call rfl (vc_pure0 (c_l01In  ) hP rfl rfl ?_) | refine ax_call rfl (vc_lend0 (c_l01In  ) hP (by repeat (first | exact lal_id _ rfl | exact LAL.nil | refine LAL.cons ?_ ?_ | exact la_id _ rfl | exact LA.lend (lend_whole rfl (by first | (simp; done) | (rw [List.length_map]; rfl))) | refine LA.agg ?_ | refine LA.fn ?_ | refine LA.lend ?_ | exact Lend.d _ | exact Lend.zs _ | exact lend_whole rfl (by first | (simp; done) | (rw [List.length_map]; rfl)) | refine Lend.ptr rfl ?_ | refine Lend.fn ?_ | exact LendL.nil | refine LendL.cons ?_ ?_)) rfl rfl ?_)
    refine ax_q (q_not rfl) ?_
    refine ax_nil ?_
    refine cx_keep rfl rfl ?_
    refine cx_cond rfl (fun h3 => ?_) (fun h3 => ?_)
    ·
     have h3 := bT h3
     exfalso; rw [inR_iff.2 hk] at h3; cases h3
    ·
     have h3 := bF h3
     refine cx_skip ?_
     refine cx_keep rfl rfl ?_
     refine cx_seq ?_
     refine cx_ops ?_
     refine ax_q (q_mov rfl) ?_
     refine ax_q (q_mov rfl) ?_
     refine ax_q (q_mov rfl) ?_
     first | refine ax_call rfl (vc_pure (c_l12Sort (xs := xs) (k := k) ?_ ?_) hP rfl ?_) | refine ax_call rfl (vc_lend (c_l12Sort (xs := xs) (k := k) ?_ ?_) hP (by repeat (first | exact lal_id _ rfl | exact LAL.nil | refine LAL.cons ?_ ?_ | exact la_id _ rfl | exact LA.lend (lend_whole rfl (by first | (simp; done) | (rw [List.length_map]; rfl))) | refine LA.agg ?_ | refine LA.fn ?_ | refine LA.lend ?_ | exact Lend.d _ | exact Lend.zs _ | exact lend_whole rfl (by first | (simp; done) | (rw [List.length_map]; rfl)) | refine Lend.ptr rfl ?_ | refine Lend.fn ?_ | exact LendL.nil | refine LendL.cons ?_ ?_)) ?_)
     ·
      first | assumption | omega | (simp; done) | (simp; omega)
     ·
      first | assumption | omega | (simp; done) | (simp; omega)
     rintro r h ⟨rfl, rfl⟩
     refine ⟨fun i => 27 + 200 * i, [0], ⟨rfl, rfl, rfl, rfl, rfl, (by first | exact (fun h => absurd h Bool.false_ne_true) | exact (fun _ => ⟨rfl, (noisl_of (by repeat (first | exact trivial | refine ⟨noisl_map (fun _ => rfl), ?_⟩ | refine ⟨?_, ?_⟩)))⟩))⟩, ?_⟩
     skip
     refine ax_q (q_mov rfl) ?_
     refine ax_q (q_mov rfl) ?_
     refine ax_nil ?_
     refine cx_keep rfl rfl ?_
     refine cx_ret (retN (fun _ => 0) [27] rfl rfl rfl rfl rfl ?_)
     exact ⟨rfl, rfl⟩


/- loop.example/g00332/impl.CompareValues -/
def k_c_CompareValues : XCode :=
 .seq (.ops [.op (some 2) (.box (.t 0)),
   .op (some 3) (.box (.t 1)),
   .op (some 4) (.mov (.k (.int .i64 0))),
   .op (some 5) (.mov (.k (.int .i64 0)))])
 (.keep [2, 3] (.seq (.seq (.ops [.op (some 6) (.loadN 3 (.t 2)),
   .call (some 7) 45 [.t 6],
   .op (some 8) (.not (.t 7)),
   .op (some 9) (.mov (.t 8)),
   .andor 13 false 3 9 [.op (some 10) (.loadN 3 (.t 3)), .call (some 11) 45 [.t 10], .op (some 12) (.not (.t 11))] (.t 12)])
  (.keep [2, 3, 13] (.cond (.t 13)
  (.seq (.ops [.op (some 4) (.mov (.k (.int .i64 0))),
    .op (some 5) (.mov (.k (.int .i64 1)))])
   (.keep [4, 5] (.ret)))
  (.skip))))
 (.keep [2, 3] (.seq (.ops [.op (some 14) (.loadN 3 (.t 2)),
   .op (some 15) (.loadN 3 (.t 3)),
   .call (some 16) 46 [.t 14, .t 15],
   .op (some 4) (.mov (.t 16)),
   .op (some 5) (.mov (.k (.int .i64 0)))])
 (.keep [4, 5] (.ret))))))
theorem k_c_CompareValues_fits : fitsF Try.prog 22 ⟨17, k_c_CompareValues, [.t 4, .t 5]⟩ = true := by kernel_rfl
theorem c_CompareValues {a b : GValue} (ha : valueOK a = true) (hb : valueOK b = true) (hx : a.T.length ≤ 1048576) (hy : b.T.length ≤ 1048576) : Con Try.prog noMv 22 [a.av, b.av] [] (fun r h => r = .tup [int (cmpV a b), int 0] ∧ h = []) := by
 refine con_of2 k_c_CompareValues_fits rfl fun C hP hmv => ?_
 unfold k_c_CompareValues
 refine cx_seq ?_
 refine cx_ops ?_
 refine ax_e (e_box rfl rfl (by decide) rfl rfl rfl) ?_
 refine ax_e (e_box rfl rfl (by decide) rfl rfl rfl) ?_
 refine ax_q (q_mov rfl) ?_
 refine ax_q (q_mov rfl) ?_
 refine ax_nil ?_
 refine cx_keep rfl rfl ?_
 refine cx_seq ?_
 refine cx_seq ?_
 refine cx_ops ?_
 refine ax_q (q_ldN rfl rfl rfl) ?_
 first | refine ax_call rfl (vc_pure0 (c_ValueOK (v := a) ?_) hP rfl rfl ?_) | refine ax_call rfl (vc_lend0 (c_ValueOK (v := a) ?_) hP (by repeat (first | exact lal_id _ rfl | exact LAL.nil | refine LAL.cons ?_ ?_ | exact la_id _ rfl | exact LA.lend (lend_whole rfl (by first | (simp; done) | (rw [List.length_map]; rfl))) | refine LA.agg ?_ | refine LA.fn ?_ | refine LA.lend ?_ | exact Lend.d _ | exact Lend.zs _ | exact lend_whole rfl (by first | (simp; done) | (rw [List.length_map]; rfl)) | refine Lend.ptr rfl ?_ | refine Lend.fn ?_ | exact LendL.nil | refine LendL.cons ?_ ?_)) rfl rfl ?_)
 ·
  first | assumption | omega | (simp; done) | (simp; omega)
 refine ax_q (q_not rfl) ?_
 refine ax_q (q_mov rfl) ?_
 apply ax_or rfl rfl
 ·
  intro g
  have g := bF g
  refine ax_q (q_ldN rfl rfl rfl) ?_
  first | refine ax_call rfl (vc_pure0 (c_ValueOK (v := b) ?_) hP rfl rfl ?_) | refine ax_call rfl (vc_lend0 (c_ValueOK (v := b) ?_) hP (by repeat (first | exact lal_id _ rfl | exact LAL.nil | refine LAL.cons ?_ ?_ | exact la_id _ rfl | exact LA.lend (lend_whole rfl (by first | (simp; done) | (rw [List.length_map]; rfl))) | refine LA.agg ?_ | refine LA.fn ?_ | refine LA.lend ?_ | exact Lend.d _ | exact Lend.zs _ | exact lend_whole rfl (by first | (simp; done) | (rw [List.length_map]; rfl)) | refine Lend.ptr rfl ?_ | refine Lend.fn ?_ | exact LendL.nil | refine LendL.cons ?_ ?_)) rfl rfl ?_)
  ·
   first | assumption | omega | (simp; done) | (simp; omega)
  refine ax_q (q_not rfl) ?_
  exact ax_nil ⟨rfl, by repeat (first | exact trivial | refine ⟨rfl, ?_⟩ | refine ⟨?_, ?_⟩)⟩
 refine ax_nil ?_
 refine cx_keep rfl rfl ?_
 refine cx_cond rfl (fun h0 => ?_) (fun h0 => ?_)
 ·
  have h0 := (fun h => (or_T h).imp bT bT) h0
  exfalso
  rcases h0 with h | h
  ·
   rw [ha] at h; cases h
  ·
   rw [hb] at h; cases h
 ·
  have h0 := (fun h => And.intro (bF (or_F h).1) (bF (or_F h).2)) h0
  refine cx_skip ?_
  refine cx_keep rfl rfl ?_
  refine cx_seq ?_
  refine cx_ops ?_
  refine ax_q (q_ldN rfl rfl rfl) ?_
  refine ax_q (q_ldN rfl rfl rfl) ?_
  first | refine ax_call rfl (vc_pure0 (c_compareValues (a := a) (b := b) ) hP rfl rfl ?_) | refine ax_call rfl (vc_lend0 (c_compareValues (a := a) (b := b) ) hP (by repeat (first | exact lal_id _ rfl | exact LAL.nil | refine LAL.cons ?_ ?_ | exact la_id _ rfl | exact LA.lend (lend_whole rfl (by first | (simp; done) | (rw [List.length_map]; rfl))) | refine LA.agg ?_ | refine LA.fn ?_ | refine LA.lend ?_ | exact Lend.d _ | exact Lend.zs _ | exact lend_whole rfl (by first | (simp; done) | (rw [List.length_map]; rfl)) | refine Lend.ptr rfl ?_ | refine Lend.fn ?_ | exact LendL.nil | refine LendL.cons ?_ ?_)) rfl rfl ?_)
  refine ax_q (q_mov rfl) ?_
  refine ax_q (q_mov rfl) ?_
  refine ax_nil ?_
  refine cx_keep rfl rfl ?_
  refine cx_ret (ret0 rfl rfl ?_)
  exact ⟨rfl, rfl⟩

end Go.Proofs.Ytkingadnnilgiaa
