/- A function that ranges over an iterator, or of the library, at the level of worlds: what it computes, and its contract (part 0). -/
import Derived.RangeFuncNested
import Derived.RangeFuncBound
import Derived.RangeFuncCalls
import Derived.RangeFuncLeaves
import Derived.RangeFuncFrom
import Derived.RangeFuncBox
import Derived.Shelf.Abstract
import Derived.WalkKit
import Derived.OwnWalkIn
import Derived.TacticsInMore
import Derived.LoopNIn
import Derived.LoopIn
import Derived.Test.YtcloaaakhojjgaaGreatProg
import Derived.Test.YtcloaaakhojjgaaGreatA3
namespace Go.Proofs.YtcloaaakhojjgaaGreat
open Go Go.RowKit Go.Shelf
attribute [local go_sem] Oper.semAt_some
set_option maxRecDepth 100000 in
set_option maxHeartbeats 1000000 in
theorem bw_in (F : Fence) (n : Nat) (h5 : F.fn 135) (hro : F.round = none) (a : Option Addr) (len cap : Nat) (w : World) :
    CallsIn F n Tryz.prog 135 #[.slice a len cap] w fun e w' => e = .returned (.func (.func 172) #[] #[.pointer (some ⟨w.heap.size, 0, none⟩)]) ∧ w' = w.alloc (.cells #[.slice a len cap] 24) := by
  refine callsIn_of_wp Tryz.func135 rfl h5 ?_ hro
  simp only [Tryz.ntmps135, List.size_toArray, List.length_cons, List.length_nil, Nat.reduceAdd, Nat.reduceSub, Array.replicate_succ, Array.replicate_zero, List.push_toArray, List.append_toArray, List.nil_append, List.cons_append]
  gi_wp2
  go_ret
  exact ⟨rfl, rfl⟩
abbrev BWa := Int × AM.GPending
/-- What has come when k rounds are over: from the last one on. -/
def bwU (p : Nat → AM.GPending) (len k : Nat) : List BWa := (List.range k).map (fun (j : Nat) => ((len : Int) - 1 - (j : Int), p (len - 1 - j)))
theorem bwU_succ (p : Nat → AM.GPending) (len k : Nat) : bwU p len (k + 1) = bwU p len k ++ [((len : Int) - 1 - k, p (len - 1 - k))] := by simp [bwU, List.range_succ]
theorem bwU_length (p : Nat → AM.GPending) (len k : Nat) : (bwU p len k).length = k := by simp [bwU]
set_option maxRecDepth 100000 in
set_option maxHeartbeats 4000000 in
theorem bw1_in (F : Fence) (n : Nat) (h8 : F.fn 172) (hro : F.round = none) (hn : 1 ≤ n) (l Bs n₀ b off len cap : Nat) (p : Nat → AM.GPending) (hreach : len * 8 ≤ 140737488351232) (hb : b < n₀) (J Jx : List BWa → World → Prop)
    (hY : ∀ pre x W, J pre W → pre.length < len → YieldAt F (n - 1) Tryz.prog l #[.int .i64 x.1, .agg #[.int .i64 x.2.At, .string ⟨x.2.Data.toArray⟩]] W fun e W' =>
      (e = .returned (.bool true) ∧ J (pre ++ [x]) W' ∧ Below n₀ W W') ∨ (e = .returned (.bool false) ∧ Jx (pre ++ [x]) W'))
    (W : World) (hBs : W.cell? ⟨Bs, 0, none⟩ = some (.slice (some ⟨b, off, none⟩) len cap)) (hBb : Bs < n₀)
    (hc : ∀ j, j < len → W.cell? ⟨b, off + j * 2, none⟩ = some (.int .i64 (p j).At) ∧ W.cell? ⟨b, off + j * 2 + 1, none⟩ = some (.string ⟨(p j).Data.toArray⟩)) (h0 : J [] W) :
    CallsIn F n Tryz.prog 172 #[.func (.yield l) #[] #[], .pointer (some ⟨Bs, 0, none⟩)] W fun e W' => (∃ v, e = .returned v) ∧
      ((∃ ys, ys = bwU p len len ∧ J ys W') ∨ (∃ pre, (∃ k, k ≤ len ∧ pre = bwU p len k) ∧ Jx pre W')) := by
  refine callsIn_of_wp Tryz.func172 rfl h8 ?_ hro
  simp only [Tryz.ntmps172, List.size_toArray, List.length_cons, List.length_nil, Nat.reduceAdd, Nat.reduceSub, Array.replicate_succ, Array.replicate_zero, List.push_toArray, List.append_toArray, List.nil_append, List.cons_append]
  gi_wp2
  gi_loopw [3] (fun i wr => ∃ k : Nat, k ≤ len ∧ i = .int .i64 ((len : Int) - 1 - k) ∧ J (bwU p len k) wr ∧ Below n₀ W wr)
    (fun i _ => (intOf i + 1).toNat)
  case atStart => exact ⟨0, Nat.zero_le _, by simp, h0, Below.refl _ _⟩
  case round =>
    obtain ⟨k, hk, rfl, hJs, hnx⟩ := hrel
    have hBs' := (hnx.cell (p := ⟨Bs, 0, none⟩) hBb).trans hBs
    by_cases hlt : k < len
    · obtain ⟨fn, tmps, assign, body, hy, hR⟩ := hY _ ((len : Int) - 1 - k, p (len - 1 - k)) wr hJs (by rw [bwU_length]; exact hlt)
      dsimp only at hy
      have hi : ((len : Int) - 1 - k).toNat = len - 1 - k := by omega
      have hi2 : (0 : Int) ≤ (len : Int) - 1 - k := by omega
      have hc1 := (hnx.cell (p := ⟨b, off + (len - 1 - k) * 2, none⟩) hb).trans (hc (len - 1 - k) (by omega)).1
      have hc2 := (hnx.cell (p := ⟨b, off + (len - 1 - k) * 2 + 1, none⟩) hb).trans (hc (len - 1 - k) (by omega)).2
      gi_wp2
      refine hR.mono ?_
      rintro e W3 (⟨rfl, hJ3, hk3⟩ | ⟨rfl, hJx3⟩)
      · gi_wp2
        go_roundw
        case rel => exact ⟨k + 1, by omega, by simp; omega, by rw [bwU_succ]; exact hJ3, hnx.trans hk3⟩
        case measure => simp [intOf]; omega
      · gi_wp2
        refine bodyPost_ret (results_none rfl _ _ _) rfl ?_
        exact ⟨⟨_, rfl⟩, .inr ⟨_, ⟨k + 1, by omega, (bwU_succ _ _ _).symm⟩, hJx3⟩⟩
    · obtain rfl : k = len := by omega
      gi_wp2
      go_end0
      exact ⟨⟨_, rfl⟩, .inl ⟨_, rfl, hJs⟩⟩
set_option maxRecDepth 100000 in
set_option maxHeartbeats 1000000 in
theorem bw1_nil_in (F : Fence) (n : Nat) (h8 : F.fn 172) (hro : F.round = none) (l Bs cap : Nat) (a : Option Addr) (J : List BWa → World → Prop) (W : World) (hBs : W.cell? ⟨Bs, 0, none⟩ = some (.slice a 0 cap)) (h0 : J [] W) :
    CallsIn F n Tryz.prog 172 #[.func (.yield l) #[] #[], .pointer (some ⟨Bs, 0, none⟩)] W fun e W' => (∃ v, e = .returned v) ∧ J [] W' := by
  refine callsIn_of_wp Tryz.func172 rfl h8 ?_ hro
  simp only [Tryz.ntmps172, List.size_toArray, List.length_cons, List.length_nil, Nat.reduceAdd, Nat.reduceSub, Array.replicate_succ, Array.replicate_zero, List.push_toArray, List.append_toArray, List.nil_append, List.cons_append]
  gi_wp2
  gi_loopw [3] (fun i wr => i = .int .i64 (-1) ∧ J [] wr) (fun _ _ => 0)
  case atStart => exact ⟨rfl, h0⟩
  case round =>
    obtain ⟨rfl, hJs⟩ := hrel
    gi_wp2
    go_end0
    exact ⟨⟨_, rfl⟩, hJs⟩
/-- The slice holds the writes. -/
def Pens (n₀ : Nat) (W : World) (cv : Value) (len : Nat) (p : Nat → AM.GPending) : Prop :=
  ∃ a cap, cv = .slice a len cap ∧ (len = 0 ∨ ∃ b off, a = some ⟨b, off, none⟩ ∧ b < n₀ ∧ ∀ j, j < len → W.cell? ⟨b, off + j * 2, none⟩ = some (.int .i64 (p j).At) ∧ W.cell? ⟨b, off + j * 2 + 1, none⟩ = some (.string ⟨(p j).Data.toArray⟩))
theorem Pens.below {n₀ : Nat} {A B : World} (h : Below n₀ A B) {cv : Value} {len : Nat} {p : Nat → AM.GPending} (hp : Pens n₀ A cv len p) : Pens n₀ B cv len p := by
  obtain ⟨a, cap, e, hh⟩ := hp
  refine ⟨a, cap, e, hh.imp id ?_⟩
  rintro ⟨b, off, e2, hb, hc⟩
  exact ⟨b, off, e2, hb, fun j hj => ⟨(h.cell (p := ⟨b, off + j * 2, none⟩) hb).trans (hc j hj).1, (h.cell (p := ⟨b, off + j * 2 + 1, none⟩) hb).trans (hc j hj).2⟩⟩
theorem Pens.up {n₀ n₁ : Nat} {A : World} {cv : Value} {len : Nat} {p : Nat → AM.GPending} (hp : Pens n₀ A cv len p) (h : n₀ ≤ n₁) : Pens n₁ A cv len p := by
  obtain ⟨a, cap, e, hh⟩ := hp
  exact ⟨a, cap, e, hh.imp id (fun ⟨b, off, e2, hb, hc⟩ => ⟨b, off, e2, Nat.lt_of_lt_of_le hb h, hc⟩)⟩
theorem bw_stops (F : Fence) (n : Nat) (h8 : F.fn 172) (hro : F.round = none) (hn : 1 ≤ n) (Bs n₀ : Nat) (cv : Value) (len : Nat) (p : Nat → AM.GPending) (hreach : len * 8 ≤ 140737488351232) (w : World) (hBs : Bs < n₀) (hn₀ : n₀ ≤ w.heap.size)
    (hc : w.cell? ⟨Bs, 0, none⟩ = some cv) (hI : Pens n₀ w cv len p) :
    SeqStopsK F n Tryz.prog 172 #[.pointer (some ⟨Bs, 0, none⟩)] (fun x : BWa => #[.int .i64 x.1, .agg #[.int .i64 x.2.At, .string ⟨x.2.Data.toArray⟩]]) (Below n₀) (fun ys => ys = bwU p len len) (fun pre => ∃ k, k ≤ len ∧ pre = bwU p len k) len w := fun l J Jx W hW _ _ hY h0 => by
  have hc' := (hW.cell (p := ⟨Bs, 0, none⟩) (show Bs < w.heap.size by omega)).trans hc
  obtain ⟨a, cap, rfl, rfl | ⟨b, off, rfl, hb, hcs⟩⟩ := hI.below (hW.mono hn₀)
  · exact (bw1_nil_in F n h8 hro l Bs cap a J W hc' h0).mono fun e W' ⟨he, hj⟩ => ⟨he, .inl ⟨_, rfl, hj⟩⟩
  · refine (bw1_in F n h8 hro hn l Bs n₀ b off len cap p hreach hb J Jx hY W hc' hBs hcs h0).mono ?_
    rintro e W' ⟨he, ⟨ys, rfl, hj⟩ | ⟨pre, ⟨k, hk, rfl⟩, hj⟩⟩
    · exact ⟨he, .inl ⟨_, rfl, hj⟩⟩
    · exact ⟨he, .inr ⟨_, ⟨k, hk, rfl⟩, hj⟩⟩
theorem four_facts {w W0 : World} {o0 o1 o2 o3 : Obj} (h : ((((w.alloc o0).alloc o1).alloc o2).alloc o3) = W0) : W0.heap.size = w.heap.size + 4 ∧ W0.heap[w.heap.size]? = some o0 ∧ W0.heap[w.heap.size + 1]? = some o1 ∧ W0.heap[w.heap.size + 1 + 1]? = some o2 ∧ W0.heap[w.heap.size + 1 + 1 + 1]? = some o3 ∧ Below w.heap.size w W0 := by
  have e : W0.heap = (((w.heap.push o0).push o1).push o2).push o3 := by rw [← h]; rfl
  have s1 : (w.heap.push o0).size = w.heap.size + 1 := Array.size_push _
  have s2 : ((w.heap.push o0).push o1).size = w.heap.size + 2 := by rw [Array.size_push, s1]
  have s3 : (((w.heap.push o0).push o1).push o2).size = w.heap.size + 3 := by rw [Array.size_push, s2]
  refine ⟨by rw [e, Array.size_push, s3], ?_, ?_, ?_, ?_, ?_⟩
  · rw [e, Array.getElem?_push, if_neg (by omega), Array.getElem?_push, if_neg (by omega), Array.getElem?_push, if_neg (by omega), Array.getElem?_push, if_pos rfl]
  · rw [e, Array.getElem?_push, if_neg (by omega), Array.getElem?_push, if_neg (by omega), Array.getElem?_push, if_pos (by omega)]
  · rw [e, Array.getElem?_push, if_neg (by omega), Array.getElem?_push, if_pos (by omega)]
  · rw [e, Array.getElem?_push, if_pos (by omega)]
  · rw [← h]
    exact ((((Below.refl _ w).alloc (Nat.le_refl _) _).alloc (by rw [World.size_alloc]; omega) _).alloc (by rw [World.size_alloc, World.size_alloc]; omega) _).alloc (by rw [World.size_alloc, World.size_alloc, World.size_alloc]; omega) _
theorem cell_of {W : World} {b o : Nat} {cs : Array Value} {ty : TypeId} {v : Value} (h : W.heap[b]? = some (.cells cs ty)) (hv : cs[o]? = some v) : W.cell? ⟨b, o, none⟩ = some v := by
  unfold World.cell?; simp only [h]; exact hv
theorem frozen_of {W : World} {b o : Nat} {cs : Array Value} {ty : TypeId} (h : W.heap[b]? = some (.cells cs ty)) : W.frozen? ⟨b, o, none⟩ = false := by
  unfold World.frozen?; simp only [h]; simp
/-- What the walk finds: the last write to a place. -/
def lastIn (p : Nat → AM.GPending) (i : Int) : Nat → Option AM.Str
  | 0 => none
  | k + 1 => if (p k).At = i then some (p k).Data else lastIn p i k
theorem last_skip {p : Nat → AM.GPending} {i : Int} {len : Nat} : ∀ {k : Nat}, k ≤ len → (∀ x ∈ bwU p len k, x.2.At ≠ i) → lastIn p i len = lastIn p i (len - k)
  | 0, _, _ => rfl
  | k + 1, hk, h => by
    rw [bwU_succ] at h
    rw [last_skip (k := k) (by omega) (fun x hx => h x (List.mem_append_left _ hx))]
    have h2 := h _ (List.mem_append_right _ (List.mem_singleton.2 rfl))
    rw [show len - k = (len - 1 - k) + 1 from by omega, lastIn, if_neg h2, show len - (k + 1) = len - 1 - k from by omega]
theorem last_none {p : Nat → AM.GPending} {i : Int} {len : Nat} (h : ∀ x ∈ bwU p len len, x.2.At ≠ i) : lastIn p i len = none := by
  rw [last_skip (Nat.le_refl _) h, Nat.sub_self]; rfl
theorem last_some {p : Nat → AM.GPending} {i : Int} {len k : Nat} {pre : List BWa} {x : BWa} (hk : k ≤ len) (e : pre ++ [x] = bwU p len k) (hx : x.2.At = i) (h : ∀ y ∈ pre, y.2.At ≠ i) : lastIn p i len = some x.2.Data := by
  cases k with
  | zero => simp [bwU] at e
  | succ k =>
    rw [bwU_succ] at e
    obtain ⟨rfl, e2⟩ := List.append_inj' e rfl
    simp only [List.cons.injEq, and_true] at e2
    subst e2
    rw [last_skip (k := k) (by omega) h, show len - k = (len - 1 - k) + 1 from by omega, lastIn, if_pos hx]
set_option maxRecDepth 100000 in
set_option maxHeartbeats 4000000 in
theorem read_in (F : Fence) (n : Nat) (h64 : F.fn 89) (h88 : F.fn 135) (h95 : F.fn 172) (hro : F.round = none) (hn : 4 ≤ n) (w : World) (sv cv bv kv : Value) (len : Nat) (p : Nat → AM.GPending) (i : Nat) (hreach : len * 8 ≤ 140737488351232) (hP : Pens w.heap.size w cv len p)
    (b2 o2 slen scap : Nat) (t : AM.Str) (hsv : sv = .slice (some ⟨b2, o2, none⟩) slen scap) (hi : i < slen) (hb2 : b2 < w.heap.size) (hs : w.cell? ⟨b2, o2 + i, none⟩ = some (.string ⟨t.toArray⟩)) :
    CallsIn F n Tryz.prog 89 #[.agg #[sv, cv, bv, kv], .int .i64 i] w fun e w' => e = .returned (.string ⟨((lastIn p i len).getD t).toArray⟩) ∧ Below w.heap.size w w' := by
  have h1 : 1 ≤ n := by omega
  obtain ⟨ca, ccap, rfl, hP'⟩ := hP
  refine callsIn_of_wp_marks Tryz.func89 rfl h64 ?_ hro
  simp only [Tryz.ntmps89, List.size_toArray, List.length_cons, List.length_nil, Nat.reduceAdd, Nat.reduceSub, Array.replicate_succ, Array.replicate_zero, List.push_toArray, List.append_toArray, List.nil_append, List.cons_append]
  gi_wp2_with (gi_at_call 135; refine (bw_in F (n - 1) h88 hro _ _ _ _).mono ?_; rintro e w' ⟨rfl, rfl⟩)
  obtain ⟨sv, hsv⟩ : ∃ sv, Value.slice (some ⟨b2, o2, none⟩) slen scap = sv := ⟨_, rfl⟩
  obtain ⟨cv, hcv⟩ : ∃ cv, Value.slice ca len ccap = cv := ⟨_, rfl⟩
  obtain ⟨W0, hW0⟩ : ∃ W0, ((((w.alloc (Obj.cells #[Value.slice (some ⟨b2, o2, none⟩) slen scap, Value.slice ca len ccap, bv, kv] 27)).alloc (Obj.cells #[Value.int IntKind.i64 i] 3)).alloc (Obj.cells #[Value.string ⟨#[]⟩] 9)).alloc (Obj.cells #[Value.slice ca len ccap] 24)) = W0 := ⟨_, rfl⟩
  rw [hW0]
  obtain ⟨hsz, e0, e1, e2, e3, hB0⟩ := four_facts hW0
  have c0 : W0.cell? ⟨w.heap.size, 0, none⟩ = some sv := by rw [← hsv]; exact cell_of e0 rfl
  have c1 : W0.cell? ⟨w.heap.size + 1, 0, none⟩ = some (.int .i64 i) := cell_of e1 rfl
  have c2 : W0.cell? ⟨w.heap.size + 1 + 1, 0, none⟩ = some (.string ⟨#[]⟩) := cell_of e2 rfl
  have c3 : W0.cell? ⟨w.heap.size + 1 + 1 + 1, 0, none⟩ = some cv := by rw [← hcv]; exact cell_of e3 rfl
  have f2 : W0.frozen? ⟨w.heap.size + 1 + 1, 0, none⟩ = false := frozen_of e2
  have hPW : Pens (w.heap.size + 4) W0 cv len p := by
    subst hcv
    exact (Pens.below hB0 ⟨ca, ccap, rfl, hP'⟩).up (by omega)
  refine wpIn_rangeFunc_ownH hro h1 (gf := 172) (lb := #[.pointer (some ⟨w.heap.size + 1 + 1 + 1, 0, none⟩)]) rfl h95 (enters_of Tryz.func172 (by kernel_rfl) rfl)
    (bw_stops F (n - 1) h95 hro (by omega) (w.heap.size + 1 + 1 + 1) (w.heap.size + 4) cv len p hreach W0 (by omega) (by omega) c3 hPW) belowK_t (belowK_b (by omega)) (Below.refl _ _) (fun _ => rfl)
    (fun pre W => (W.cell? ⟨w.heap.size, 0, none⟩ = some sv ∧ W.cell? ⟨w.heap.size + 1, 0, none⟩ = some (.int .i64 i) ∧ W.cell? ⟨w.heap.size + 1 + 1, 0, none⟩ = some (.string ⟨#[]⟩) ∧ W.frozen? ⟨w.heap.size + 1 + 1, 0, none⟩ = false ∧ ∀ x ∈ pre, x.2.At ≠ (i : Int)) ∧ Below w.heap.size W0 W)
    (fun c pre W => (c = .ret ∧ ∃ pre' x, pre = pre' ++ [x] ∧ x.2.At = (i : Int) ∧ (∀ y ∈ pre', y.2.At ≠ (i : Int)) ∧ W.cell? ⟨w.heap.size + 1 + 1, 0, none⟩ = some (.string ⟨x.2.Data.toArray⟩)) ∧ Below w.heap.size W0 W)
    (OwnFrom.and (Own.from (fun s A B row hs hg hr => ⟨cell_kept hs.1 hg hr, cell_kept hs.2.1 hg hr, cell_kept hs.2.2.1 hg hr, (frozen_kept hs.2.2.1 hg hr).trans hs.2.2.2.1, hs.2.2.2.2⟩) _) (ownFrom_below (by omega) (by omega)))
    (fun c => OwnFrom.and (Own.from (fun s A B row hs hg hr => by
      obtain ⟨q1, pre', x, q2, q3, q4, q5⟩ := hs
      exact ⟨q1, pre', x, q2, q3, q4, cell_kept q5 hg hr⟩) _) (ownFrom_below (by omega) (by omega)))
    ⟨⟨c0, c1, c2, f2, by simp⟩, Below.refl _ _⟩
    (fun x a' W => ∃ Bx, W0.heap.size ≤ Bx ∧ W.cell? ⟨Bx, 0, none⟩ = some (.int .i64 x.2.At) ∧ W.cell? ⟨Bx, 1, none⟩ = some (.string ⟨x.2.Data.toArray⟩) ∧ a' = { tmps := #[.agg #[sv, cv, bv, kv], .int .i64 i, .pointer (some ⟨w.heap.size, 0, none⟩), .pointer (some ⟨w.heap.size + 1, 0, none⟩), .pointer (some ⟨w.heap.size + 1 + 1, 0, none⟩), undef, .pointer (some ⟨Bx, 0, none⟩),
      .pointer (some ⟨w.heap.size, 1, none⟩), cv, .func (.func 172) #[] #[.pointer (some ⟨w.heap.size + 1 + 1 + 1, 0, none⟩)], .int .i64 x.1, .agg #[.int .i64 x.2.At, .string ⟨x.2.Data.toArray⟩], undef, undef, undef, undef, undef, undef, undef, undef, undef, undef, undef], defers := [] })
    (fun x a' => Own.from (fun s A B row hs hg hr => by
      obtain ⟨Bx, q1, q2, q3, q4⟩ := hs
      exact ⟨Bx, q1, cell_kept q2 hg hr, cell_kept q3 hg hr, q4⟩) _) ?assign ?body ?done ?stop
  case assign =>
    rintro l pre x W K ⟨⟨i0, i1, i2, i3, i4⟩, hB⟩ hK
    have hWs := hB.size
    gi_wp2
    exact hK _ _ ((KeepsOthers.alloc _ _).from _) ((Below.refl _ W).alloc (by omega) _) ⟨⟨cell_kept i0 (World.grownBy_alloc W _ none) (fun r e => by cases e), cell_kept i1 (World.grownBy_alloc W _ none) (fun r e => by cases e), cell_kept i2 (World.grownBy_alloc W _ none) (fun r e => by cases e), (frozen_kept i2 (World.grownBy_alloc W _ none) (fun r e => by cases e)).trans i3, i4⟩, hB.trans ((Below.refl _ W).alloc (by omega) _)⟩
      ⟨W.heap.size, hWs, cell_of (World.alloc_heap_new W _) rfl, cell_of (World.alloc_heap_new W _) rfl, rfl⟩
  case body =>
    rintro l pre x a' W hl ⟨r, hr⟩ ⟨⟨i0, i1, i2, i3, i4⟩, hB⟩ ⟨Bx, hBx, bx0, bx1, rfl⟩ hlt
    gi_wp2
    · have hx : x.2.At = (i : Int) := by first | assumption | exact eq_of_beq (by assumption)
      exact ⟨(KeepsOthers.setCell _ _ _).from _, ⟨rfl, pre, x, rfl, hx, i4, World.cell?_setCell_same' _ _ _ (by rw [i2]; rfl)⟩, hB.trans ((Below.refl _ W).setCell (p := ⟨w.heap.size + 1 + 1, 0, none⟩) (by show _ ≤ w.heap.size + 1 + 1; omega) _)⟩
    · have hx : ¬ x.2.At = (i : Int) := by first | assumption | exact fun e => by have h : (x.2.At == (i : Int)) = false := (by assumption); rw [e] at h; simp at h
      exact ⟨KeepsFrom.refl _ _, Below.refl _ _, ⟨i0, i1, i2, i3, fun y hy => by
        rcases List.mem_append.1 hy with hy | hy
        · exact i4 y hy
        · rw [List.mem_singleton.1 hy]; exact hx⟩, hB⟩
  case done =>
    rintro D ys W hD rfl ⟨⟨i0, i1, i2, i3, i4⟩, hB⟩ hK
    have hl := last_none i4
    subst hsv
    have hsW := ((hB0.trans hB).cell (p := ⟨b2, o2 + i, none⟩) hb2).trans hs
    gi_wp2
    have hK' := (KeepsOthers.setCell W ⟨w.heap.size + 1 + 1, 0, none⟩ (.string ⟨t.toArray⟩)).same D _ hK rfl
    refine ⟨by simp, .inl ⟨_, _, rfl, run_takeDeferred hK', ?_⟩⟩
    have hc4 : (W.setCell ⟨w.heap.size + 1 + 1, 0, none⟩ (.string ⟨t.toArray⟩)).cell? ⟨w.heap.size + 1 + 1, 0, none⟩ = some (.string ⟨t.toArray⟩) := World.cell?_setCell_same' _ _ _ (by rw [i2]; rfl)
    have hc5 := cell_kept hc4 (grownBy_putObj' _ D (.deferred none)) (fun r e => by cases e; exact ⟨_, hK', rfl⟩)
    refine ⟨.string ⟨t.toArray⟩, ?_, by rw [hl]; rfl, ((hB0.trans hB).setCell (p := ⟨w.heap.size + 1 + 1, 0, none⟩) (by show _ ≤ w.heap.size + 1 + 1; omega) _).trans (belowK_b (w := w) (Nat.le_refl _) _ D _ _ (by omega) hK' rfl rfl)⟩
    simp [results, Tryz.f89, go_sem, hc5]
  case stop =>
    rintro D c pre W hD ⟨k, hk, hpre⟩ ⟨⟨rfl, pre', x, q2, q3, q4, q5⟩, hB⟩ hK
    have hl := last_some hk (q2.symm.trans hpre) q3 q4
    gi_wp2
    refine ⟨by simp, .inl ⟨_, _, rfl, run_takeDeferred hK, ?_⟩⟩
    have hc5 := cell_kept q5 (grownBy_putObj' _ D (.deferred none)) (fun r e => by cases e; exact ⟨_, hK, rfl⟩)
    refine ⟨.string ⟨x.2.Data.toArray⟩, ?_, by rw [hl]; rfl, (hB0.trans hB).trans (belowK_b (w := w) (Nat.le_refl _) W D _ _ (by omega) hK rfl rfl)⟩
    simp [results, Tryz.f89, go_sem, hc5]
theorem DR_str_ex {w : World} {ok : Nat → Prop} {b o : Nat} {t : AM.Str} : (∃ v, w.cell? ⟨b, o, none⟩ = some v ∧ AM.DR w ok (.str t) v) = (w.cell? ⟨b, o, none⟩ = some (.string ⟨t.toArray⟩)) := by
  refine propext ⟨fun ⟨v, h1, h2⟩ => ?_, fun h => ⟨_, h, by rw [AM.DR]⟩⟩
  rw [AM.DR] at h2; rw [h1, h2]
theorem lastIn_W {C : List AM.GPending} {z : AM.GPending} {i : Int} {t : AM.Str} : ∀ {k : Nat}, k ≤ C.length → (lastIn (fun j => C.getD j z) i k).getD t = AM.lastW (C.take k) i t
  | 0, _ => rfl
  | k + 1, h => by
    have hk : k < C.length := by omega
    have e : C.getD k z = C[k] := by simp [hk]
    rw [lastIn]
    simp only [e]
    by_cases hc : C[k].At = i
    · rw [if_pos hc, AM.lastW_yes hk hc]; rfl
    · rw [if_neg hc, AM.lastW_no hk hc, lastIn_W (by omega)]
open Go.AM in
theorem c_read {d : GDisk} {i : Nat} (hi : i < d.Sectors.length) (hc : d.Cache.length ≤ 1000000) : Con Tryz.prog noMv 89 [d.av, AM.int (i : Nat)] [] (fun r h => r = .d (.str (lastW d.Cache i (d.Sectors.getD i []))) ∧ h = []) := by
  intro X β w us hX hd hd2 hr ha hG
  rw [GDisk.av, AL] at ha
  obtain ⟨u0, r0, rfl, ha0, ha⟩ := ha
  rw [AL] at ha
  obtain ⟨u1, r1, rfl, ha1, ha⟩ := ha
  rw [AL] at ha; subst ha
  rw [AR, DR] at ha1
  subst ha1
  rw [AR] at ha0
  obtain ⟨vs, rfl, ha0⟩ := ha0
  rw [AL] at ha0; obtain ⟨sv, q0, e0, hs, ha0⟩ := ha0
  rw [AL] at ha0; obtain ⟨cv, q1, rfl, hcv, ha0⟩ := ha0
  rw [AL] at ha0; obtain ⟨bv, q2, rfl, hbv, ha0⟩ := ha0
  rw [AL] at ha0; obtain ⟨kv, q3, rfl, hkv, ha0⟩ := ha0
  rw [AL] at ha0; subst ha0
  have e1 : vs = #[sv, cv, bv, kv] := by rw [← Array.toList_inj, e0]
  subst e1
  rw [AR, DR] at hs hcv
  obtain ⟨sa, scap, rfl, hs1, hs2⟩ := hs
  obtain ⟨ca, ccap, rfl, hc1, hc2⟩ := hcv
  have hβ : ∀ e, β e = none := fun e => by
    cases hb : β e with
    | none => rfl
    | some b => have := hd e b hb; simp [AM.get] at this
  have hβ2 : ∀ e j, β.hd e j = none := fun e j => by
    cases hb : β.hd e j with
    | none => rfl
    | some b => have := hd2 e j b hb; simp [AM.get] at this
  rw [List.length_map] at hs1 hc1
  rcases hs2 with hs2 | ⟨b2, o2, rfl, hok, hlt, hrows⟩
  · have := congrArg List.length hs2; rw [List.length_map] at this; simp only [List.length_nil] at this; omega
  have hrow := (DRows_get hrows i (strRow (d.Sectors.getD i [])) (by rw [List.getElem?_map, List.getElem?_eq_getElem hi]; simp [hi])).2
  rw [strRow, DRow, DR_str_ex] at hrow
  have hcell : w.cell? ⟨b2, o2 + i, none⟩ = some (.string ⟨(d.Sectors.getD i []).toArray⟩) := by simpa using hrow.1
  have hP : Pens w.heap.size w (.slice ca (d.Cache.map GPending.row).length ccap) d.Cache.length (fun j => d.Cache.getD j .zero) := by
    rw [List.length_map]
    refine ⟨ca, ccap, rfl, ?_⟩
    rcases hc2 with h | ⟨b, o, rfl, hok2, hlt2, hrows2⟩
    · left; have := congrArg List.length h; simpa using this
    · right
      refine ⟨b, o, rfl, hlt2, fun j hj => ?_⟩
      have h3 := (DRows_get hrows2 j (GPending.row (d.Cache.getD j .zero)) (by rw [List.getElem?_map, List.getElem?_eq_getElem hj]; simp [hj])).2
      rw [GPending.row, DRow, DRow, DR_str_ex] at h3
      obtain ⟨⟨v, h4, h5⟩, h6, _⟩ := h3
      rw [DR] at h5; subst h5
      exact ⟨h4, h6⟩
  have key := callsIn_wide.1 (read_in Fence.wide 8 trivial trivial trivial rfl (by omega) w _ _ bv kv d.Cache.length _ i (by omega) hP b2 o2 (d.Sectors.map strRow).length scap (d.Sectors.getD i []) rfl (by rw [List.length_map]; exact hi) hlt hcell)
  refine key.mono ?_
  rintro e w' ⟨rfl, hB⟩
  refine ⟨_, .d (.str (lastW d.Cache i (d.Sectors.getD i []))), [], β, rfl, ⟨rfl, rfl⟩, ?_, ?_, ?_, ?_, ?_, ?_, ?_⟩
  · rw [AR, DR, lastIn_W (Nat.le_refl _), List.take_length]
  · have hno : ∀ e b, β e = some b → False := fun e b h => by rw [hβ e] at h; cases h
    exact ⟨fun e e' b h => (hno e b h).elim, fun e b h => (hno e b h).elim, fun e b h => (hno e b h).elim, fun e j b h => (by rw [hβ2] at h; cases h), fun e j e' j' b h => (by rw [hβ2] at h; cases h), fun e j b h => (by rw [hβ2] at h; cases h), fun e ob h => (by simp [AM.get] at h)⟩
  · exact ⟨hB.os, hB.tape, hB.output, hB.size, fun b hb _ => hB.block b hb, fun b c ty fr h => ⟨c, ty, fr, (hB.block b (Array.getElem?_eq_some_iff.1 h).1).trans h, rfl⟩⟩
  · intro e b h; rw [hβ] at h; cases h
  · intro e j b h; rw [hβ2] at h; cases h
  · exact fun b h => .inr h
  · intro e _ _ _; rfl
end Go.Proofs.YtcloaaakhojjgaaGreat
