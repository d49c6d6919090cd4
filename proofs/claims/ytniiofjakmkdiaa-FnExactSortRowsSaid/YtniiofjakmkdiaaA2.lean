/- A layer over the calls (plain data, own blocks, code, contracts) and plain laws about what the functions compute (part 2). -/
import Derived.Test.YtniiofjakmkdiaaA1
set_option linter.unusedVariables false
set_option linter.unusedSimpArgs false
namespace Go.AM
abbrev IDp := Int × Int
section
variable {ns : List GExprNode}
theorem nodeW_congr {r r' : Int → W3} {i : Int} {x : GExprNode} (h : ∀ k, k < i → r k = r' k) (hb : (r (i - 1)).1 ≤ i - 1 ∨ (r (i - 1)).1 = 0) (hi : 0 ≤ i) : nodeW r i x = nodeW r' i x := by
  unfold nodeW
  rw [← h (i - 1) (by omega), ← h ((r (i - 1)).1 - 1) (by omega)]
theorem walkF_fuel : ∀ {f f' : Nat} {i : Int}, i + 1 < f → i + 1 < f' → walkF ns f i = walkF ns f' i
  | 0, f', i, h1, h2 => by rw [walkF_neg (by omega), walkF_neg (by omega)]
  | f, 0, i, h1, h2 => by rw [walkF_neg (by omega), walkF_neg (by omega)]
  | f + 1, f' + 1, i, h1, h2 => by
    by_cases hi : i < 0
    · rw [walkF_neg hi, walkF_neg hi]
    · rw [walkF, walkF, if_neg hi, if_neg hi]
      split
      · rfl
      · exact nodeW_congr (fun k hk => walkF_fuel (by omega) (by omega)) walkF_b.2.1 (by omega)
/-- The walk, with enough steps. -/
def T (ns : List GExprNode) (i : Int) : W3 := walkF ns (i + 2).toNat i
theorem T_of {f : Nat} {i : Int} (h : i + 1 < f) (hi : -1 ≤ i) : walkF ns f i = T ns i := walkF_fuel h (by omega)
theorem T_neg {i : Int} (h : i < 0) : T ns i = (0, 0, false) := walkF_neg h
theorem T_at {j : Nat} (h : j < ns.length) : T ns j = nodeW (T ns) j ns[j] := by
  unfold T
  rw [show ((j : Int) + 2).toNat = (j + 1) + 1 from by omega, walkF_at h]
  refine nodeW_congr (fun k hk => ?_) walkF_b.2.1 (by omega)
  by_cases hk0 : k < 0
  · rw [walkF_neg hk0]; exact (T_neg hk0).symm
  · exact T_of (by omega) (by omega)
/-- What stands on the stack: trees side by side. -/
inductive Segs (ns : List GExprNode) : List IDp → Nat → Prop
  | nil : Segs ns [] 0
  | snoc {S : List IDp} {a i : Nat} {d : Int} : Segs ns S a → T ns i = ((a : Int), d, true) → Segs ns (S ++ [((i : Int), d)]) (i + 1)
theorem Segs.zero {S : List IDp} (h : Segs ns S 0) : S = [] := by cases h; rfl
theorem Segs.top {S : List IDp} {k : Nat} (h : Segs ns S (k + 1)) : ∃ S0 a d, S = S0 ++ [((k : Int), d)] ∧ Segs ns S0 a ∧ T ns k = ((a : Int), d, true) := by
  cases h with
  | snoc h1 h2 => exact ⟨_, _, _, rfl, h1, h2⟩
theorem Segs.none {k : Nat} (h : Segs ns [] k) : k = 0 := by
  cases k with
  | zero => rfl
  | succ k => obtain ⟨S0, a, d, e, _⟩ := h.top; exact absurd e (by simp)
end
end Go.AM

namespace Go.AM
section
variable {S : List IDp} {x : GExprNode}
end
section
variable {ns : List GExprNode} {S : List IDp} {k : Nat}
end
def noneE (e : GExpr) : Bool := decide ((e.Nodes.length : Int) = 0)
section
variable {s : GStmt} (h1 : inR s.Table 1 3 = true) (h2 : (noneE s.Where || exprOK s.Where) = true)
include h1 h2
end
theorem sumBy_mem {α : Type} {f : α → Nat} : ∀ {xs : List α} {x : α}, x ∈ xs → f x ≤ sumBy f xs
  | y :: ys, x, h => by
    rw [sumBy]
    rcases List.mem_cons.1 h with rfl | h
    · omega
    · have := sumBy_mem (f := f) h; omega
theorem szL_mem {α : Type} {f : α → Nat} {xs : List α} {x : α} (h : x ∈ xs) : f x ≤ szL f xs := by
  have := sumBy_mem (f := f) h
  unfold szL; omega
end Go.AM

namespace Go.AM
section
variable {ns : List GExprNode} {f : Nat} {j : Nat} {out : List GIns}
def bitI (b : Bool) : Int := bif b then 1 else 0
theorem bitI_b {b : Bool} : 0 ≤ bitI b ∧ bitI b ≤ 1 := by cases b <;> decide
end
end Go.AM

namespace Go.AM
section
variable {l : List GIns} {k : Nat} {ds ds' : List Int} {x : GIns} {b n i : Int}
end
section
variable {α : Type} {q z : α} {n k : Nat}
end
def bA (a b : Int) : Int := wr .u64 ((BitVec.ofInt IntKind.u64.bits a &&& BitVec.ofInt IntKind.u64.bits b).toNat)
def sR (a : Int) : Int := a.fdiv (2 ^ (min (32 : Int).toNat IntKind.u64.bits))
def mU (a b : Int) : Int := wr .u64 (a * b)
def aU (a b : Int) : Int := wr .u64 (a + b)
def mul64a (m : Int) : Int :=
  let t6 := bA 1 4294967295; let t7 := sR 1; let t8 := bA m 4294967295; let t9 := sR m
  let t11 := aU (mU t7 t8) (sR (mU t6 t8)); let t12 := aU (bA t11 4294967295) (mU t6 t9)
  aU (aU (mU t7 t9) (sR t11)) (sR t12)
theorem mul64_c : ∀ m : Nat, m < 101 → mul64a m = 0 ∧ mU 1 m = m ∧ wr .u64 (m : Int) = m ∧ wr .i64 (m : Int) = m := by decide +kernel
theorem u64_of {m : Nat} (hm : m < 101) : AV.d (.int .u64 (wr .u64 (m : Int))) = .d (.int .u64 m) := by rw [(mul64_c m hm).2.2.1]
section
variable {n : Int} {k : Nat} {x : GIns} {ds : List Int}
end
section
variable {n b : Int} {k : Nat} {x : GIns} {ds ds' : List Int}
end
section
variable {x : GIns} {i n : Int}
end
end Go.AM

namespace Go.AM
def vI (n : Int) : GValue := ⟨1, n, []⟩
def cmpS (a b : Str) : Int := if a = b then 0 else if Op.bytesLess a b = true then -1 else 1
def cmpI (a b : Int) : Int := if a = b then 0 else if a < b then -1 else 1
def cmpV (a b : GValue) : Int := if a.Kind ≠ b.Kind then cmpI a.Kind b.Kind else if a.N ≠ b.N then cmpI a.N b.N else cmpS a.T b.T
def colF (r : GRow) (k : Int) : GValue := if k = 0 then vI r.Id else if k = 1 then r.N else r.Name
structure RV (v : GValue) : Prop where
  k : v.Kind = 0 ∨ v.Kind = 1 ∨ v.Kind = 2
  z : v.Kind = 0 → v = .zero
  n : -1000000000 ≤ v.N ∧ v.N ≤ 1000000000
  t : v.Kind = 1 → v.T = []
  l : v.T.length ≤ 1048576
theorem RV.zero : RV .zero := ⟨.inl rfl, fun _ => rfl, by decide, fun h => rfl, Nat.zero_le _⟩
theorem RV.vI {n : Int} (h : -1000000000 ≤ n ∧ n ≤ 1000000000) : RV (vI n) := ⟨.inr (.inl rfl), fun h => absurd h (show ¬ (1 : Int) = 0 from by decide), h, fun _ => rfl, Nat.zero_le _⟩
theorem RV.of {v : GValue} (h : valueOK v = true) : RV v := by
  by_cases h0 : v.Kind = 0
  · rw [valueOK_0 h0] at h
    simp only [Bool.and_eq_true, decide_eq_true_eq] at h
    have : v = .zero := GValue.eq_iff.2 ⟨h0, h.1, h.2⟩
    rw [this]; exact .zero
  · by_cases h1 : v.Kind = 1
    · rw [valueOK_1 h1] at h
      simp only [Bool.and_eq_true, decide_eq_true_eq, inR_iff] at h
      exact ⟨.inr (.inl h1), fun h => absurd h h0, h.1, fun _ => h.2, by rw [h.2]; exact Nat.zero_le _⟩
    · rw [valueOK_2 h0 h1] at h
      simp only [Bool.and_eq_true, decide_eq_true_eq] at h
      obtain ⟨⟨h2, h3⟩, h4⟩ := h
      unfold isWord at h4
      simp only [Bool.and_eq_true, decide_eq_true_eq] at h4
      refine ⟨.inr (.inr h2), fun h => absurd h h0, ?_, fun h => absurd h h1, by omega⟩
      show -1000000000 ≤ v.N ∧ v.N ≤ 1000000000
      omega
structure RR (r : GRow) : Prop where
  i : 0 ≤ r.Id ∧ r.Id ≤ 1000
  n : RV r.N
  m : RV r.Name
theorem RR.of {r : GRow} (h : rowOK r = true) : RR r := by
  unfold rowOK at h
  simp only [Bool.and_eq_true, inR_iff] at h
  exact ⟨h.1.1.1.1, .of h.1.1.1.2, .of h.1.1.2⟩
section
variable {ns : List GExprNode} {r : GRow} {f : Nat} {j : Nat}
end
theorem less_irr : ∀ (a : Str), Op.bytesLess a a = false
  | [] => rfl
  | a :: x => by rw [Op.bytesLess, less_irr x]; simp
theorem cmpS_lt {a b : Str} (h : Op.bytesLess a b = true) : cmpS a b = -1 := by
  unfold cmpS
  rw [if_neg (fun e => by rw [e, less_irr] at h; cases h), if_pos h]
theorem cmpS_gt {a b : Str} (h : (!(Op.bytesLess a b || decide (a = b))) = true) : cmpS a b = 1 := by
  have h := bT h
  rw [Bool.or_eq_false_iff] at h
  unfold cmpS
  rw [if_neg (of_decide_eq_false h.2), if_neg (by rw [h.1]; simp)]
theorem cmpS_eq {a b : Str} (h0 : Op.bytesLess a b = false) (h : (!(Op.bytesLess a b || decide (a = b))) = false) : cmpS a b = 0 := by
  have h := bF h
  rw [h0, Bool.false_or] at h
  unfold cmpS; rw [if_pos (of_decide_eq_true h)]
theorem cmpS_ne {a b : Str} (h : ¬ a = b) : cmpS a b = 2 * bitI (!(Op.bytesLess a b || decide (a = b))) - 1 := by
  unfold cmpS
  rw [if_neg h, decide_eq_false h, Bool.or_false]
  cases Op.bytesLess a b <;> rfl
theorem cmpI_ne {a b : Int} (h : ¬ a = b) : cmpI a b = 2 * bitI (decide (b < a)) - 1 := by
  unfold cmpI
  rw [if_neg h]
  by_cases h1 : a < b
  · rw [if_pos h1, decide_eq_false (by omega)]; rfl
  · rw [if_neg h1, decide_eq_true (by omega)]; rfl
def orF : List Int → Int
  | [] => 0
  | x :: xs => if x ≠ 0 then x else orF xs
theorem orF_hit {xs : List Int} {k : Nat} (h : k < xs.length) (hb : ∀ j, j < k → ∀ x, xs[j]? = some x → x = 0) (hx : ¬ xs[k] = 0) : orF xs = xs[k] := by
  induction xs generalizing k with
  | nil => exact absurd h (by simp)
  | cons y ys ih =>
    cases k with
    | zero => rw [orF, if_pos (by simpa using hx)]; rfl
    | succ k =>
      have := hb 0 (by omega) y rfl
      rw [orF, if_neg (by simp [this]), ih (k := k) (by simpa using h) (fun j hj x hx => hb (j + 1) (by omega) x (by simpa using hx)) (by simpa using hx)]
      rfl
theorem orF_none {xs : List Int} (hb : ∀ j, j < xs.length → ∀ x, xs[j]? = some x → x = 0) : orF xs = 0 := by
  induction xs with
  | nil => rfl
  | cons y ys ih =>
    have := hb 0 (by simp) y rfl
    rw [orF, if_neg (by simp [this]), ih (fun j hj x hx => hb (j + 1) (by simpa using hj) x (by simpa using hx))]
theorem cmpI_z {a b : Int} : cmpI a b = 0 ↔ a = b := by
  unfold cmpI
  constructor
  · intro h
    by_cases e : a = b
    · exact e
    · rw [if_neg e] at h; split at h <;> cases h
  · intro h; rw [if_pos h]
theorem cmpV_or {a b : GValue} : orF [cmpI a.Kind b.Kind, cmpI a.N b.N, cmpS a.T b.T] = cmpV a b := by
  unfold cmpV
  by_cases h : a.Kind = b.Kind
  · rw [orF, if_neg (by rw [cmpI_z.2 h]; simp), if_neg (by simpa using h)]
    by_cases h2 : a.N = b.N
    · rw [orF, if_neg (by rw [cmpI_z.2 h2]; simp), if_neg (by simpa using h2), orF, orF]
      split
      · rfl
      · rename_i h3; exact (Decidable.not_not.1 h3).symm
    · rw [orF, if_pos (fun e => h2 (cmpI_z.1 e)), if_pos h2]
  · rw [orF, if_pos (fun e => h (cmpI_z.1 e)), if_pos h]
section
variable {op a b n : Int}
end
theorem colF_at {r : GRow} {k : Int} (hk : 0 ≤ k ∧ k ≤ 2) : AV.agg ((([int 1, int r.Id, .d (.str []), int r.N.Kind, int r.N.N, .d (.str r.N.T), int r.Name.Kind, int r.Name.N, .d (.str r.Name.T)] : List AV).drop (k.toNat * 3)).take 3) = (colF r k).av := by
  rcases (show k = 0 ∨ k = 1 ∨ k = 2 from by omega) with rfl | rfl | rfl <;> rfl
end Go.AM

namespace Go.AM
section
variable {ns : List GExprNode} {f : Nat} {j : Nat} {b : Nat}
end
/-- A piece of code stands at a place. -/
def Seg (l : List GIns) (b : Nat) (c : List GIns) : Prop := ∃ pre post, l = pre ++ c ++ post ∧ pre.length = b
section
variable {l c c1 c2 : List GIns} {b : Nat} {x : GIns}
theorem Seg.app (h : Seg l b (c1 ++ c2)) : Seg l b c1 ∧ Seg l (b + c1.length) c2 := by
  obtain ⟨pre, post, e, hb⟩ := h
  exact ⟨⟨pre, c2 ++ post, by rw [e]; simp, hb⟩, ⟨pre ++ c1, post, by rw [e]; simp, by rw [List.length_append, hb]⟩⟩
theorem Seg.cons (h : Seg l b (x :: c)) : Seg l b [x] ∧ Seg l (b + 1) c := by
  have := Seg.app (c1 := [x]) (c2 := c) h
  simpa using this
theorem Seg.at (h : Seg l b [x]) : ∃ hb : b < l.length, l[b] = x := by
  obtain ⟨pre, post, e, hb⟩ := h
  have h2 : b < l.length := by rw [e, ← hb]; simp
  refine ⟨h2, ?_⟩
  have : l[b]? = some x := by rw [e, List.append_assoc, List.getElem?_append_right (by omega), hb, Nat.sub_self]; rfl
  rw [List.getElem?_eq_getElem h2] at this
  exact Option.some.inj this
theorem Seg.le (h : Seg l b c) : b + c.length ≤ l.length := by
  obtain ⟨pre, post, e, hb⟩ := h
  rw [e, ← hb]; simp
end
end Go.AM

namespace Go.AM
theorem oslE0 {e sz s s' l l' : Nat} (hs : s = s') (hl : l = l') : AV.osl e sz s l = .osl e sz s' l' := by rw [hs, hl]
section
variable {α : Type} {row : α → List D} {xs : List α} {x : α} {i : Nat}
def insA (xs : List α) (i : Nat) (x : α) : List α := xs.take i ++ x :: xs.drop i
theorem insA_len (h : i ≤ xs.length) : (insA xs i x).length = xs.length + 1 := by unfold insA; simp; omega
end
end Go.AM

namespace Go.AM
section
variable {s : Src} {out : List GExprNode} {d n : Nat}
end
theorem walkF_app {xs ys : List GExprNode} : ∀ {f : Nat} {i : Int}, i < xs.length → walkF (xs ++ ys) f i = walkF xs f i
  | 0, i, _ => rfl
  | f + 1, i, h => by
    rw [walkF, walkF]
    split
    · rfl
    · rename_i h0
      have e : (xs ++ ys)[i.toNat]? = xs[i.toNat]? := List.getElem?_append_left (by omega)
      rw [e]
      cases hx : xs[i.toNat]? with
      | none => rfl
      | some x =>
        dsimp only
        refine nodeW_congr (fun k hk => walkF_app (by omega)) (walkF_b (ns := xs ++ ys)).2.1 (by omega)
theorem T_app {xs ys : List GExprNode} {i : Int} (h : i < xs.length) : T (xs ++ ys) i = T xs i := walkF_app h
/-- The last node of a list heads a right part, from a place on, so deep at most. -/
def Wf (ns : List GExprNode) (a : Nat) (d : Nat) : Prop := ∃ dep : Int, 1 ≤ dep ∧ dep ≤ d ∧ T ns ((ns.length : Int) - 1) = ((a : Int), dep, true) ∧ a < ns.length
theorem last_at {ns : List GExprNode} {x : GExprNode} : T (ns ++ [x]) (((ns ++ [x]).length : Int) - 1) = nodeW (T (ns ++ [x])) (ns.length : Int) x := by
  have hj : ns.length < (ns ++ [x]).length := by simp
  rw [show (((ns ++ [x]).length : Int) - 1) = (ns.length : Int) from by simp, T_at hj]
  simp
theorem Wf.const {out : List GExprNode} {v : GValue} (hv : valueOK v = true) : Wf (out ++ [⟨1, 0, 0, 0, v⟩]) out.length 1 := by
  refine ⟨1, by omega, by omega, ?_, by simp⟩
  rw [last_at, nodeW_1 rfl]
  show ((out.length : Int), (1 : Int), ((decide ((0 : Int) = 0) && decide ((0 : Int) = 0)) && decide ((0 : Int) = 0)) && valueOK v) = _
  rw [hv]; rfl
theorem Wf.bin {ns ms : List GExprNode} {a d : Nat} {op : Int} (h : Wf ns a d) (hm : Wf ms ns.length d) (hp : ∃ e, ms = ns ++ e) (ho : 6 ≤ op ∧ op ≤ 13) : Wf (ms ++ [⟨op, (ns.length : Int) - 1, (ms.length : Int) - 1, 0, .zero⟩]) a (d + 1) := by
  obtain ⟨dep, h1, h2, h3, h4⟩ := h
  obtain ⟨dm, g1, g2, g3, g4⟩ := hm
  obtain ⟨e, rfl⟩ := hp
  have hr : inR op 3 5 = false := by
    cases hh : inR op 3 5 with
    | false => rfl
    | true => have := inR_iff.1 hh; omega
  have hmx := mxI_b (n := (d : Int)) (a := dep) (b := dm) ⟨by omega, h2⟩ ⟨by omega, g2⟩
  have hmx1 : 1 ≤ mxI dep dm := by unfold mxI; split <;> omega
  refine ⟨mxI dep dm + 1, by omega, by omega, ?_, by simp; omega⟩
  have e1 : T (ns ++ e ++ [⟨op, (ns.length : Int) - 1, ((ns ++ e).length : Int) - 1, 0, .zero⟩]) (((ns ++ e).length : Int) - 1) = (((ns.length : Nat) : Int), dm, true) := by rw [T_app (by omega)]; exact g3
  rw [last_at, nodeW_5 (show ¬ op = 1 from by omega) (show ¬ op = 2 from by omega) hr (inR_iff.2 ho) (by rw [e1]), e1]
  dsimp only
  have e2 : T (ns ++ e ++ [⟨op, (ns.length : Int) - 1, ((ns ++ e).length : Int) - 1, 0, .zero⟩]) ((ns.length : Int) - 1) = ((a : Int), dep, true) := by
    rw [List.append_assoc, T_app (by omega)]; exact h3
  rw [e2]
  dsimp only
  rw [decide_eq_true rfl, decide_eq_true rfl]; rfl
theorem Wf.mono {ns : List GExprNode} {a d d' : Nat} (h : Wf ns a d) (hd : d ≤ d') : Wf ns a d' := by
  obtain ⟨dep, h1, h2, h3, h4⟩ := h
  exact ⟨dep, h1, by omega, h3, h4⟩
end Go.AM

namespace Go.AM
def sortR : List GRow → Prop
  | [] => True
  | [_] => True
  | a :: b :: r => a.Id < b.Id ∧ sortR (b :: r)
section
variable {xs : List GRow} {r : GRow} {id t : Int} {c : GChange}
end
end Go.AM

namespace Go.AM
section
variable {α : Type}
/-- Where a value goes: behind the last of the first 'k' that it isn't ahead of. -/
def posI (lt : α → α → Bool) (x : α) (l : List α) : Nat → Nat
  | 0 => 0
  | k + 1 => match l[k]? with
    | none => posI lt x l k
    | some y => if lt x y = true then posI lt x l k else k + 1
variable {lt : α → α → Bool} {x : α} {l : List α}
theorem posI_le : ∀ {k : Nat}, posI lt x l k ≤ k
  | 0 => Nat.le_refl _
  | k + 1 => by
    rw [posI]; split
    · exact Nat.le_succ_of_le posI_le
    · split
      · exact Nat.le_succ_of_le posI_le
      · exact Nat.le_refl _
theorem posI_t {k : Nat} (hk : k < l.length) (h : lt x l[k] = true) : posI lt x l (k + 1) = posI lt x l k := by
  rw [posI, List.getElem?_eq_getElem hk]; dsimp only; rw [if_pos h]
theorem posI_f {k : Nat} (hk : k < l.length) (h : lt x l[k] = false) : posI lt x l (k + 1) = k + 1 := by
  rw [posI, List.getElem?_eq_getElem hk]; dsimp only; rw [if_neg (by rw [h]; simp)]
def insS (lt : α → α → Bool) (l : List α) (x : α) : List α := l.take (posI lt x l l.length) ++ x :: l.drop (posI lt x l l.length)
def sortS (lt : α → α → Bool) (l : List α) : List α := l.foldl (insS lt) []
theorem insS_len : (insS lt l x).length = l.length + 1 := by
  have := @posI_le α lt x l l.length
  unfold insS; simp; omega
theorem sortS_len : (sortS lt l).length = l.length := by
  unfold sortS
  suffices h : ∀ (l a : List α), (l.foldl (insS lt) a).length = a.length + l.length from by have := h l []; simpa using this
  intro l
  induction l with
  | nil => intro a; rfl
  | cons x l ih => intro a; rw [List.foldl_cons, ih, insS_len, List.length_cons]; omega
theorem sortS_take {k : Nat} (hk : k < l.length) : sortS lt (l.take (k + 1)) = insS lt (sortS lt (l.take k)) l[k] := by
  rw [take_succ hk]; unfold sortS; rw [List.foldl_append]; rfl
theorem insS_mem {y : α} : y ∈ insS lt l x ↔ y = x ∨ y ∈ l := by
  unfold insS
  rw [List.mem_append, List.mem_cons]
  constructor
  · rintro (h | h | h)
    · exact .inr (List.mem_of_mem_take h)
    · exact .inl h
    · exact .inr (List.mem_of_mem_drop h)
  · rintro (h | h)
    · exact .inr (.inl h)
    · rw [← List.take_append_drop (posI lt x l l.length) l] at h
      rcases List.mem_append.1 h with h | h
      · exact .inl h
      · exact .inr (.inr h)
theorem sortS_mem {y : α} : y ∈ sortS lt l ↔ y ∈ l := by
  unfold sortS
  suffices h : ∀ (l a : List α), y ∈ l.foldl (insS lt) a ↔ y ∈ a ∨ y ∈ l from by have := h l []; simpa using this
  intro l
  induction l with
  | nil => intro a; simp
  | cons x l ih =>
    intro a; rw [List.foldl_cons, ih, insS_mem, List.mem_cons]
    constructor
    · rintro ((h | h) | h)
      · exact .inr (.inl h)
      · exact .inl h
      · exact .inr (.inr h)
    · rintro (h | h | h)
      · exact .inl (.inr h)
      · exact .inl (.inl h)
      · exact .inr h
/-- None is ahead of the one in front of it. -/
def chain (lt : α → α → Bool) : List α → Prop
  | [] => True
  | [_] => True
  | a :: b :: r => lt b a = false ∧ chain lt (b :: r)
theorem chain_get : ∀ {l : List α}, chain lt l → ∀ i (h : i + 1 < l.length), lt l[i + 1] l[i] = false
  | a :: b :: r, hc, 0, h => hc.1
  | a :: b :: r, hc, i + 1, h => chain_get hc.2 i (by simpa using h)
  | [a], _, i, h => by simp at h
  | [], _, i, h => by simp at h
theorem chain_of : ∀ {l : List α}, (∀ i (h : i + 1 < l.length), lt l[i + 1] l[i] = false) → chain lt l
  | [], _ => trivial
  | [a], _ => trivial
  | a :: b :: r, h => ⟨h 0 (by simp), chain_of (fun i hi => h (i + 1) (by simpa using hi))⟩
theorem posI_right : ∀ {k : Nat}, k ≤ l.length → ∀ j, posI lt x l k ≤ j → (h : j < k) → (hl : j < l.length) → lt x l[j] = true
  | 0, _, j, _, h, _ => by omega
  | k + 1, hk, j, hj, h, hl => by
    cases hh : lt x (l[k]'(by omega)) with
    | true =>
      rw [posI_t (by omega) hh] at hj
      rcases Nat.lt_or_ge j k with h1 | h1
      · exact posI_right (by omega) j hj h1 hl
      · have : j = k := by omega
        subst this; exact hh
    | false => rw [posI_f (by omega) hh] at hj; omega
theorem posI_left : ∀ {k : Nat}, k ≤ l.length → (h : 0 < posI lt x l k) → (hl : posI lt x l k - 1 < l.length) → lt x l[posI lt x l k - 1] = false
  | 0, _, h, _ => by simp [posI] at h
  | k + 1, hk, h, hl => by
    cases hh : lt x (l[k]'(by omega)) with
    | true =>
      have e : posI lt x l (k + 1) = posI lt x l k := posI_t (by omega) hh
      have := posI_left (k := k) (by omega) (by omega) (by omega)
      simp only [e]; exact this
    | false =>
      have e : posI lt x l (k + 1) = k + 1 := posI_f (by omega) hh
      simp only [e]; exact hh
theorem insP_chain {p : Nat} (hle : p ≤ l.length) (g : ∀ i (h : i + 1 < l.length), lt l[i + 1] l[i] = false) (hL : ∀ i (h : i < l.length), i + 1 = p → lt x l[i] = false) (hR : ∀ h : p < l.length, lt l[p] x = false) : chain lt (l.take p ++ x :: l.drop p) := by
  refine chain_of fun i hi => ?_
  have ht : (l.take p).length = p := by rw [List.length_take]; omega
  have hi : i + 1 < l.length + 1 := by simp at hi; omega
  rcases Nat.lt_trichotomy (i + 1) p with h | h | h
  · rw [List.getElem_append_left (by omega), List.getElem_append_left (by omega), List.getElem_take, List.getElem_take]
    exact g i (by omega)
  · rw [List.getElem_append_right (by omega), List.getElem_append_left (by omega), List.getElem_take]
    simp only [ht, show i + 1 - p = 0 from by omega, List.getElem_cons_zero]
    exact hL i (by omega) h
  · rcases Nat.eq_or_lt_of_le (show p ≤ i by omega) with h2 | h2
    · subst h2
      rw [List.getElem_append_right (by omega), List.getElem_append_right (by omega)]
      simp only [ht, Nat.sub_self, List.getElem_cons_zero, show p + 1 - p = 0 + 1 from by omega, List.getElem_cons_succ, List.getElem_drop, Nat.add_zero]
      exact hR (by omega)
    · rw [List.getElem_append_right (by omega), List.getElem_append_right (by omega)]
      obtain ⟨d, rfl⟩ : ∃ d, i = p + 1 + d := ⟨i - (p + 1), by omega⟩
      simp only [ht, show p + 1 + d + 1 - p = d + 1 + 1 from by omega, show p + 1 + d - p = d + 1 from by omega, List.getElem_cons_succ, List.getElem_drop]
      have := g (p + d) (by omega)
      simpa only [show p + (d + 1) = p + d + 1 from by omega] using this
theorem insS_chain (hs : ∀ a b : α, lt a b = true → lt b a = false) (hc : chain lt l) : chain lt (insS lt l x) := by
  have hle := @posI_le α lt x l l.length
  refine insP_chain hle (chain_get hc) (fun i hi hp => ?_) (fun h => hs _ _ (posI_right (Nat.le_refl _) _ (Nat.le_refl _) h h))
  have := posI_left (lt := lt) (x := x) (Nat.le_refl l.length) (by omega) (by omega)
  simpa only [show posI lt x l l.length - 1 = i from by omega] using this
theorem sortS_chain (hs : ∀ a b : α, lt a b = true → lt b a = false) : chain lt (sortS lt l) := by
  unfold sortS
  suffices h : ∀ (l a : List α), chain lt a → chain lt (l.foldl (insS lt) a) from h l [] trivial
  intro l
  induction l with
  | nil => exact fun a h => h
  | cons x l ih => exact fun a h => ih _ (insS_chain hs h)
/-- A value on its way through what is sorted. -/
def dat (S : List α) (x : α) (rest : List α) (j : Nat) : List α := S.take j ++ x :: (S.drop j ++ rest)
theorem dat_len {S rest : List α} {j : Nat} (h : j ≤ S.length) : (dat S x rest j).length = S.length + 1 + rest.length := by unfold dat; simp; omega
theorem dat_0 {S rest : List α} : dat S x rest S.length = S ++ x :: rest := by unfold dat; simp
theorem dat_x {S rest : List α} {j : Nat} (h : j ≤ S.length) : (dat S x rest j)[j]? = some x := by
  unfold dat; rw [List.getElem?_append_right (by rw [List.length_take]; omega)]; simp [List.length_take, Nat.min_eq_left h]
theorem dat_y {S rest : List α} {j : Nat} (h : j + 1 ≤ S.length) : (dat S x rest (j + 1))[j]? = some (S[j]'(by omega)) := by
  unfold dat; rw [List.getElem?_append_left (by rw [List.length_take]; omega)]; simp [List.getElem?_take]
theorem dat_step {S rest : List α} {j : Nat} (h : j + 1 ≤ S.length) : ((dat S x rest (j + 1)).set (j + 1) (S[j]'(by omega))).set j x = dat S x rest j := by
  unfold dat
  have e1 : S.take (j + 1) = S.take j ++ [S[j]'(by omega)] := take_succ (by omega)
  have e2 : S.drop j = (S[j]'(by omega)) :: S.drop (j + 1) := List.drop_eq_getElem_cons (by omega)
  have ht : (S.take j).length = j := by rw [List.length_take]; omega
  rw [e1, e2, List.append_assoc, List.set_append_right _ _ (by omega), List.set_append_right _ _ (by omega), ht]
  rw [show j + 1 - j = 0 + 1 from by omega, Nat.sub_self]
  simp
  rw [e2]; rfl
theorem dat_end {S rest : List α} : dat S x rest (posI lt x S S.length) = insS lt S x ++ rest := by unfold dat insS; simp
end
theorem less_asym : ∀ {a b : Str}, Op.bytesLess a b = true → Op.bytesLess b a = false
  | _, [], h => by rw [Op.bytesLess] at h; cases h
  | [], b :: y, _ => by rw [Op.bytesLess]
  | a :: x, b :: y, h => by
    rw [Op.bytesLess] at h ⊢
    simp only [Bool.or_eq_true, decide_eq_true_eq, Bool.and_eq_true, beq_iff_eq, Bool.or_eq_false_iff, decide_eq_false_iff_not] at h ⊢
    rcases h with h | ⟨h, h1⟩
    · refine ⟨fun h2 => absurd (UInt8.lt_trans h h2) (UInt8.lt_irrefl _), ?_⟩
      cases hb : (b == a) with
      | false => rfl
      | true => rw [beq_iff_eq] at hb; subst hb; exact absurd h (UInt8.lt_irrefl _)
    · subst h; rw [less_asym h1]; exact ⟨UInt8.lt_irrefl _, by simp⟩
theorem less_tot : ∀ {a b : Str}, a ≠ b → Op.bytesLess a b = false → Op.bytesLess b a = true
  | [], [], h, _ => absurd rfl h
  | a :: x, [], _, _ => by rw [Op.bytesLess]
  | [], b :: y, _, h => by rw [Op.bytesLess] at h; cases h
  | a :: x, b :: y, hn, h => by
    rw [Op.bytesLess] at h ⊢
    simp only [Bool.or_eq_true, decide_eq_true_eq, Bool.and_eq_true, beq_iff_eq, Bool.or_eq_false_iff, decide_eq_false_iff_not] at h ⊢
    obtain ⟨h1, h2⟩ := h
    by_cases hab : a = b
    · subst hab
      right
      refine ⟨rfl, less_tot (fun e => hn (by rw [e])) ?_⟩
      simpa using h2
    · left
      have : a.toNat ≠ b.toNat := fun e => hab (UInt8.toNat_inj.1 e)
      rw [UInt8.lt_iff_toNat_lt] at h1 ⊢; omega
theorem cmpI_anti {a b : Int} : cmpI a b = - cmpI b a := by unfold cmpI; split <;> split <;> (try split) <;> (try split) <;> omega
theorem cmpS_anti {a b : Str} : cmpS a b = - cmpS b a := by
  unfold cmpS
  by_cases h : a = b
  · rw [if_pos h, if_pos h.symm]; rfl
  · rw [if_neg h, if_neg (Ne.symm h)]
    cases hl : Op.bytesLess a b with
    | true => rw [less_asym hl]; rfl
    | false => rw [less_tot h hl]; rfl
theorem cmpV_anti {a b : GValue} : cmpV a b = - cmpV b a := by
  unfold cmpV
  by_cases h : a.Kind = b.Kind
  · by_cases h2 : a.N = b.N
    · simp only [h, h2, ne_eq, not_true_eq_false, if_false]; exact cmpS_anti
    · have h3 : ¬ b.N = a.N := Ne.symm h2
      simp only [h, ne_eq, not_true_eq_false, if_false, h2, not_false_eq_true, if_true, h3]; exact cmpI_anti
  · have h3 : ¬ b.Kind = a.Kind := Ne.symm h
    simp only [ne_eq, h, h3, not_false_eq_true, if_true]; exact cmpI_anti
def cmpR (k : Int) (a b : GRow) : Int := orF [cmpV (colF a k) (colF b k), cmpI a.Id b.Id]
theorem cmpR_eq {k : Int} {a b : GRow} : cmpR k a b = if cmpV (colF a k) (colF b k) ≠ 0 then cmpV (colF a k) (colF b k) else cmpI a.Id b.Id := by
  unfold cmpR
  show (if _ then _ else if cmpI a.Id b.Id ≠ 0 then cmpI a.Id b.Id else 0) = _
  split
  · rfl
  · split
    · rfl
    · rename_i h; exact (Classical.not_not.1 h).symm
theorem cmpR_anti {k : Int} {a b : GRow} : cmpR k a b = - cmpR k b a := by
  rw [cmpR_eq, cmpR_eq]
  have h := @cmpV_anti (colF a k) (colF b k)
  split
  · rw [if_pos (by omega)]; exact h
  · rw [if_neg (by omega)]; exact cmpI_anti
def ltR (k : Int) (a b : GRow) : Bool := decide (cmpR k a b < 0)
theorem ltR_asym {k : Int} : ∀ a b : GRow, ltR k a b = true → ltR k b a = false := fun a b h => by
  unfold ltR at h ⊢
  have h := of_decide_eq_true h
  have := @cmpR_anti k a b
  exact decide_eq_false (by omega)
theorem cmpV_ids {a b : Int} : cmpV (vI a) (vI b) = cmpI a b := by
  unfold cmpV vI
  by_cases h : a = b
  · subst h; simp [cmpS, cmpI]
  · simp [h]
/-- Drawn rows. -/
structure RG (l : List GRow) (m : Int) : Prop where
  ln : (l.length : Int) ≤ m
  ok : ∀ r ∈ l, rowOK r = true
  up : ∀ i (h : i + 1 < l.length), l[i].Id < l[i + 1].Id
  id : ∀ r ∈ l, r.Id < m
theorem RG.app {l : List GRow} {m : Int} {r : GRow} (h : RG l m) (hr : rowOK r = true) (he : r.Id = m) : RG (l ++ [r]) (m + 1) := ⟨by simp; have := h.ln; omega, fun x hx => by
    rcases List.mem_append.1 hx with q | q
    · exact h.ok x q
    · rw [List.mem_singleton] at q; subst q; exact hr, fun i hi => by
    rw [List.length_append, List.length_singleton] at hi
    rcases Nat.lt_or_ge (i + 1) l.length with q | q
    · rw [List.getElem_append_left (by omega), List.getElem_append_left (by omega)]; exact h.up i q
    · have : i + 1 = l.length := by omega
      rw [List.getElem_append_left (by omega), List.getElem_append_right (by omega)]
      simp only [this, Nat.sub_self, List.getElem_singleton]
      have := h.id _ (List.getElem_mem (show i < l.length by omega)); omega, fun x hx => by
    rcases List.mem_append.1 hx with q | q
    · have := h.id x q; omega
    · rw [List.mem_singleton] at q; subst q; omega⟩
theorem RG.more {l : List GRow} {m : Int} (h : RG l m) : RG l (m + 1) := ⟨by have := h.ln; omega, h.ok, h.up, fun r hr => by have := h.id r hr; omega⟩
theorem RG.nil : RG [] 0 := ⟨by simp, fun _ h => (by cases h), fun i h => (by simp at h), fun _ h => (by cases h)⟩
end Go.AM

namespace Go.AM
theorem AL_app {X : Nat → Prop} {β : Names} {w : World} : ∀ {xs ys : List AV} {us vs : List Value}, AL X β w xs us → AL X β w ys vs → AL X β w (xs ++ ys) (us ++ vs)
  | [], ys, us, vs, h1, h2 => by rw [AL] at h1; subst h1; exact h2
  | x :: xs, ys, us, vs, h1, h2 => by
    rw [AL] at h1
    obtain ⟨v, r, rfl, h3, h4⟩ := h1
    rw [List.cons_append, List.cons_append, AL]
    exact ⟨v, _, rfl, h3, AL_app h4 h2⟩
theorem ax_callvq {C : Cx} {gs : List Gd} {K : St → Prop} {sl : List (Nat × AV)} {own : List (Nat × OB)} {d : Nat} {x : XA} {f : Nat} {args : List XA} {its : List XI} {vs args0 : List AV} {ds : List D} {r : AV} {P : Program} {mv : Nat → Bool} {v : Value}
    (hx : evA sl x = some (.d (.fn (.func f) ds))) (hb : hasBody C.P f = true) (ha : evL sl args = some vs) (hcon : Con P mv f args0 [] (fun r' h' => r' = r ∧ h' = [])) (hP : C.P = P) (hl : LAL own (vs ++ ds.map AV.d) args0) (hv : scVal r = some v)
    (h : AXI C true gs its ⟨(d, r) :: sl, own⟩ K) : AXI C true gs (.callv (some d) x args :: its) ⟨sl, own⟩ K := by
  intro ops W R lo i k hf rest a w S G H
  subst hP
  obtain ⟨m, h1, h2, h3, h4⟩ := fitIs_cons hf
  obtain ⟨o, y, as, ts, ho, hop, hg, hd, hfr, hy, hfx, rfl⟩ := callv_fit h1
  rw [range_split (by omega) h4, range_one, List.append_assoc, List.singleton_append]
  obtain ⟨β, S⟩ := S
  have hF := AR_of_fitA S hy hx
  rw [AR, DR] at hF
  obtain ⟨cv, hF, _⟩ := hF
  have e1 : as.map a.eval ++ cv = (as.toList.map a.eval ++ cv.toList).toArray := by simp
  refine R.callq rfl i _ a w o f (as.map a.eval ++ cv) v ho (wanted_of hg G) ?_ ?_
  · intro w' hw'
    have S' := S.ext hw'
    have hA := AL_of_fits S' hfx ha
    have hF' := AR_of_fitA S' hy hx
    rw [AR, DR] at hF'
    obtain ⟨cv', hF', hC⟩ := hF'
    have : cv' = cv := by rw [hF] at hF'; cases hF'; rfl
    subst this
    have hC := DL_AL (X := C.X) (β := β) hC
    refine ⟨by simp [execOp, hop, resolve, hF, Deferred.ofValue, invoke, callFunc_run hb], ?_⟩
    rw [e1]
    have hA' := LAL.al (X' := C.X) (β' := noN) S'.hr (fun b hb => ⟨hb.1, fun e he => by cases he⟩) (fun e b _ hb => ⟨S'.hr.notX e b hb, fun e he => by cases he⟩) hl (AL_app hA hC)
    refine (hcon C.X noN w' _ (fun b hb => by have := S'.xlt b hb; have := S'.fr.size; omega) (fun e b h => by cases h) ⟨fun e e' b h => (by cases h), fun e b h => (by cases h), fun e b h => (by cases h), fun e ob h => (by simp [get] at h)⟩ hA' (S'.gok.sub (fun b h => .inl h) (fun e b h => by cases h))).mono ?_
    rintro e w'' ⟨u, r', h', β', he, ⟨rfl, rfl⟩, hr, _, F, _⟩
    rw [(scVal_iff hv _ _ _ _).1 hr] at he
    exact ⟨he, hw'.trans ⟨F.os, F.tape, F.output, F.size, fun b hb => F.same b hb (fun e h => by cases h), F.drawn⟩⟩
  · rw [hd]
    exact h ops W R lo (i + 1) k h2 rest _ w ⟨β, S.put (dstFree_lt hfr d rfl) ((scVal_iff hv _ _ _ _).2 rfl)⟩ (G.put hfr) H
theorem datAt {α : Type} {row : α → List D} {l : List α} {j : Nat} {x : α} (h : l[j]? = some x) : (l.map row)[j]? = some (row x) := by rw [List.getElem?_map, h]; rfl
theorem sort_at {α : Type} {lt : α → α → Bool} {xs : List α} {k : Nat} (hk : k < xs.length) : sortS lt (xs.take k) ++ xs.drop k = dat (sortS lt (xs.take k)) xs[k] (xs.drop (k + 1)) k := by
  have e : (sortS lt (xs.take k)).length = k := by rw [sortS_len, List.length_take]; omega
  have := @dat_0 α xs[k] (sortS lt (xs.take k)) (xs.drop (k + 1))
  rw [e] at this
  rw [this, ← List.drop_eq_getElem_cons hk]
theorem sort_to {α : Type} {lt : α → α → Bool} {xs : List α} {k j : Nat} (hk : k < xs.length) (hj : posI lt xs[k] (sortS lt (xs.take k)) k = j) : dat (sortS lt (xs.take k)) xs[k] (xs.drop (k + 1)) j = sortS lt (xs.take (k + 1)) ++ xs.drop (k + 1) := by
  have e : (sortS lt (xs.take k)).length = k := by rw [sortS_len, List.length_take]; omega
  rw [sortS_take hk, ← dat_end, e, hj]
theorem sort_mem {α : Type} {lt : α → α → Bool} {xs : List α} {k j : Nat} {z : α} (hz : z ∈ xs) : (sortS lt (xs.take k)).getD j z ∈ xs := by
  rcases Nat.lt_or_ge j (sortS lt (xs.take k)).length with h | h
  · rw [show (sortS lt (xs.take k)).getD j z = (sortS lt (xs.take k))[j] from by simp [List.getD, h]]
    exact List.mem_of_mem_take (sortS_mem.1 (List.getElem_mem h))
  · rw [show (sortS lt (xs.take k)).getD j z = z from by simp [List.getD, h]]; exact hz
theorem sort_one {α : Type} {lt : α → α → Bool} {xs : List α} : sortS lt (xs.take 1) ++ xs.drop 1 = xs := by
  cases xs with
  | nil => rfl
  | cons x xs => simp [sortS, insS, posI]
theorem getD_in {α : Type} {l : List α} {j : Nat} {z : α} (h : j < l.length) : l.getD j z = l[j] := by simp [List.getD, h]
theorem dat_yD {α : Type} {S rest : List α} {x : α} {j : Nat} (h0 : 0 < j) (h : j ≤ S.length) : (dat S x rest j)[j - 1]? = some (S.getD (j - 1) x) := by
  obtain ⟨i, rfl⟩ : ∃ i, j = i + 1 := ⟨j - 1, by omega⟩
  rw [show i + 1 - 1 = i from rfl, dat_y h, getD_in (by omega)]
theorem lal_ds {own : List (Nat × OB)} : ∀ (ds : List D), LAL own (ds.map AV.d) (ds.map AV.d)
  | [] => .nil
  | x :: xs => .cons (.d x) (lal_ds xs)
theorem lal_two {own : List (Nat × OB)} {x y : AV} (hx : plain x = true) (hy : plain y = true) (ds : List D) : LAL own (x :: y :: ds.map AV.d) (x :: y :: ds.map AV.d) := .cons (la_id x hx) (.cons (la_id y hy) (lal_ds ds))
theorem app1p {α : Type} {row : α → List D} {xs : List α} {p : Nat} {y : α} {r : List D} (hl : (xs.take p).length = p) (h : r = row y := by rfl) : ((xs.take p).map row).take p ++ ([r].drop 0).take 1 = (xs.take p ++ [y]).map row := by
  subst h
  rw [List.take_of_length_le (l := (xs.take p).map row) (by rw [List.length_map]; omega)]; simp
theorem insA_app {α : Type} {row : α → List D} {xs : List α} {p i : Nat} {y : α} (h : p ≤ xs.length) (hi : xs.length = i := by omega) : (((xs.take p ++ [y]).map row).take (p + 1)) ++ ((xs.map row).drop p).take (i - p) = (insA xs p y).map row := by
  subst hi
  rw [List.take_of_length_le (l := (xs.take p ++ [y]).map row) (by simp; omega), List.take_of_length_le (l := (xs.map row).drop p) (by simp)]
  unfold insA; simp
theorem q_addB {C : Cx} {st : St} {x y : XA} {b : UInt8} (hx : evA st.sl x = some (int 0)) (hy : evA st.sl y = some (int b.toNat)) : QStep C st (.bin .add x y) (int b.toNat) :=
  q_as (q_ibin hx hy rfl) (by have := b.toNat_lt; rw [wi (by omega) (by omega)]; exact congrArg AM.int (by omega))
theorem bnd_u8 (b : UInt8) : ∃ m : Int, 0 ≤ m ∧ m ≤ 255 ∧ mkRes [int b.toNat] = int m := ⟨_, by omega, by have := b.toNat_lt; omega, rfl⟩
section
variable {α : Type}
def swpL (l : List α) (i j : Nat) : List α := match l[i]?, l[j]? with
  | some a, some b => (l.set i b).set j a
  | _, _ => l
theorem swpL_at {l : List α} {i j : Nat} (hi : i < l.length) (hj : j < l.length) : swpL l i j = (l.set i l[j]).set j l[i] := by
  unfold swpL; rw [List.getElem?_eq_getElem hi, List.getElem?_eq_getElem hj]
theorem swpL_len {l : List α} {i j : Nat} : (swpL l i j).length = l.length := by unfold swpL; split <;> simp
def revK (l : List α) : Nat → List α
  | 0 => l
  | i + 1 => swpL (revK l i) i (l.length - 1 - i)
theorem revK_len {l : List α} : ∀ {i : Nat}, (revK l i).length = l.length
  | 0 => rfl
  | i + 1 => by rw [revK, swpL_len, revK_len]
theorem revK_get {l : List α} : ∀ {i : Nat}, 2 * i ≤ l.length → ∀ k (hk : k < l.length), (revK l i)[k]? = if k < i ∨ l.length - 1 - k < i then l[l.length - 1 - k]? else l[k]?
  | 0, _, k, hk => by rw [if_neg (by omega)]; rfl
  | i + 1, h, k, hk => by
    have ih := revK_get (l := l) (i := i) (by omega)
    have hl := @revK_len α l i
    have e1 := ih i (by omega)
    have e2 := ih (l.length - 1 - i) (by omega)
    rw [if_neg (by omega), List.getElem?_eq_getElem (show i < (revK l i).length by omega)] at e1
    rw [if_neg (by omega), List.getElem?_eq_getElem (show l.length - 1 - i < (revK l i).length by omega)] at e2
    rw [revK, swpL_at (by omega) (by omega), List.getElem?_set, List.getElem?_set]
    by_cases h1 : l.length - 1 - i = k
    · rw [if_pos h1, if_pos (by rw [List.length_set]; omega), e1, if_pos (by omega)]; congr 1; omega
    · rw [if_neg h1]
      by_cases h2 : i = k
      · rw [if_pos h2, if_pos (by omega), e2, if_pos (by omega)]; congr 1; omega
      · rw [if_neg h2, ih k hk]
        by_cases h3 : k < i ∨ l.length - 1 - k < i
        · rw [if_pos h3, if_pos (by omega)]
        · rw [if_neg h3, if_neg (by omega)]
theorem revK_all {l : List α} {i : Nat} (h : 2 * i ≤ l.length) (h2 : l.length ≤ 2 * i + 1) : revK l i = l.reverse := by
  apply List.ext_getElem?
  intro k
  rcases Nat.lt_or_ge k l.length with hk | hk
  · rw [revK_get h k hk, List.getElem?_reverse hk]
    split
    · rfl
    · congr 1; omega
  · rw [List.getElem?_eq_none (by rw [revK_len]; exact hk), List.getElem?_eq_none (by simpa using hk)]
end
def srtF (xs : List GRow) (k : Int) (down : Bool) : List GRow := if down = true then (sortS (ltR k) xs).reverse else sortS (ltR k) xs
theorem srtF_len {xs : List GRow} {k : Int} {down : Bool} : (srtF xs k down).length = xs.length := by unfold srtF; split <;> simp [sortS_len]
theorem ltR_of {k : Int} {a b : GRow} (h : cmpV (colF b k) (colF a k) ≠ 0) : ltR k a b = decide (0 < cmpV (colF b k) (colF a k)) := by
  unfold ltR; rw [cmpR_anti, cmpR_eq, if_pos h]; exact decide_eq_decide.2 (by omega)
theorem ltR_of0 {k : Int} {a b : GRow} (h : cmpV (colF b k) (colF a k) = 0) : ltR k a b = decide (0 < cmpV (vI b.Id) (vI a.Id)) := by
  unfold ltR; rw [cmpR_anti, cmpR_eq, if_neg (by omega), cmpV_ids]; exact decide_eq_decide.2 (by omega)
theorem getD_row {xs : List GRow} {k : Nat} (h : k < xs.length) : xs.getD k .zero = xs[k] := getD_in h
theorem mapAtD {xs : List GRow} {k : Nat} (h : k < xs.length) : (xs.map GRow.row)[k]? = some (GRow.row (xs.getD k .zero)) := by rw [getD_row h]; exact mapAt h
end Go.AM

set_option linter.unusedVariables false
namespace Go.AM
structure GC {α : Type} (c : α → α → Int) : Prop where
  anti : ∀ a b, c a b = - c b a
  le : ∀ a b d, c a b ≤ 0 → c b d ≤ 0 → c a d ≤ 0
theorem GC.lt {α : Type} {c : α → α → Int} (h : GC c) {a b d : α} (h1 : c a b < 0) (h2 : c b d ≤ 0) : c a d < 0 := by
  rcases Int.lt_or_le (c a d) 0 with q | q
  · exact q
  · have h3 := h.anti a d
    have h4 := h.le b d a h2 (by omega)
    have h5 := h.anti a b
    omega
theorem GC.lt' {α : Type} {c : α → α → Int} (h : GC c) {a b d : α} (h1 : c a b ≤ 0) (h2 : c b d < 0) : c a d < 0 := by
  rcases Int.lt_or_le (c a d) 0 with q | q
  · exact q
  · have h3 := h.anti a d
    have h4 := h.le d a b (by omega) h1
    have h5 := h.anti b d
    omega
theorem GC.lex {α : Type} {c1 c2 : α → α → Int} (h1 : GC c1) (h2 : GC c2) : GC (fun a b => if c1 a b ≠ 0 then c1 a b else c2 a b) where
  anti := fun a b => by
    have e := h1.anti a b
    show (if c1 a b ≠ 0 then c1 a b else c2 a b) = - (if c1 b a ≠ 0 then c1 b a else c2 b a)
    split
    · rw [if_pos (by omega)]; exact e
    · rw [if_neg (by omega)]; exact h2.anti a b
  le := fun a b d p q => by
    revert p q
    show (if c1 a b ≠ 0 then c1 a b else c2 a b) ≤ 0 → (if c1 b d ≠ 0 then c1 b d else c2 b d) ≤ 0 → (if c1 a d ≠ 0 then c1 a d else c2 a d) ≤ 0
    intro p q
    split at p
    · split at q
      · have := h1.lt (a := a) (b := b) (d := d) (by omega) (by omega)
        rw [if_pos (by omega)]; omega
      · have := h1.lt (a := a) (b := b) (d := d) (by omega) (by omega)
        rw [if_pos (by omega)]; omega
    · split at q
      · have := h1.lt' (a := a) (b := b) (d := d) (by omega) (by omega)
        rw [if_pos (by omega)]; omega
      · have g1 := h1.le a b d (by omega) (by omega)
        have g2 := h1.le d b a (by have := h1.anti d b; omega) (by have := h1.anti b a; omega)
        have g3 := h1.anti a d
        rw [if_neg (by omega)]
        exact h2.le a b d p q
theorem GC.map {α β : Type} {c : α → α → Int} (f : β → α) (h : GC c) : GC (fun a b => c (f a) (f b)) := ⟨fun a b => h.anti _ _, fun a b d => h.le _ _ _⟩
theorem gc_I : GC cmpI := ⟨fun _ _ => cmpI_anti, fun a b d h1 h2 => by unfold cmpI at *; split at h1 <;> (try split at h1) <;> split at h2 <;> (try split at h2) <;> split <;> (try split) <;> omega⟩
theorem less_trans : ∀ {a b d : Str}, Op.bytesLess a b = true → Op.bytesLess b d = true → Op.bytesLess a d = true
  | [], [], _, h, _ => by rw [Op.bytesLess] at h; cases h
  | [], _ :: _, [], _, h => by rw [Op.bytesLess] at h; cases h
  | [], _ :: _, _ :: _, _, _ => by rw [Op.bytesLess]
  | _ :: _, [], _, h, _ => by rw [Op.bytesLess] at h; cases h
  | _ :: _, _ :: _, [], _, h => by rw [Op.bytesLess] at h; cases h
  | a :: x, b :: y, d :: z, h1, h2 => by
    rw [Op.bytesLess] at h1 h2 ⊢
    simp only [Bool.or_eq_true, decide_eq_true_eq, Bool.and_eq_true, beq_iff_eq] at h1 h2 ⊢
    rcases h1 with h1 | ⟨rfl, h1⟩
    · rcases h2 with h2 | ⟨rfl, h2⟩
      · left; rw [UInt8.lt_iff_toNat_lt] at *; omega
      · exact .inl h1
    · rcases h2 with h2 | ⟨rfl, h2⟩
      · exact .inl h2
      · exact .inr ⟨rfl, less_trans h1 h2⟩
theorem cmpS_le {a b : Str} : cmpS a b ≤ 0 ↔ Op.bytesLess a b = true ∨ a = b := by
  unfold cmpS
  constructor
  · intro h
    split at h
    · rename_i hl; exact .inr hl
    · split at h
      · rename_i hl; exact .inl hl
      · omega
  · rintro (h | rfl)
    · split
      · omega
      · omega
    · rw [if_pos rfl]; omega
theorem gc_S : GC cmpS := ⟨fun _ _ => cmpS_anti, fun a b d h1 h2 => by
  rw [cmpS_le] at *
  rcases h1 with h1 | rfl
  · rcases h2 with h2 | rfl
    · exact .inl (less_trans h1 h2)
    · exact .inl h1
  · exact h2⟩
theorem gc_V : GC cmpV := by
  have h := (gc_I.map GValue.Kind).lex ((gc_I.map GValue.N).lex (gc_S.map GValue.T))
  have e : (fun a b : GValue => if cmpI a.Kind b.Kind ≠ 0 then cmpI a.Kind b.Kind else (if cmpI a.N b.N ≠ 0 then cmpI a.N b.N else cmpS a.T b.T)) = cmpV := by
    funext a b
    have z : ∀ x y : Int, cmpI x y ≠ 0 ↔ x ≠ y := fun x y => by unfold cmpI; split <;> (try split) <;> omega
    unfold cmpV
    simp only [z]
  rw [← e]; exact h
theorem gc_R (k : Int) : GC (cmpR k) := by
  have h := (gc_V.map (fun r : GRow => colF r k)).lex (gc_I.map GRow.Id)
  have e : (fun a b : GRow => if cmpV (colF a k) (colF b k) ≠ 0 then cmpV (colF a k) (colF b k) else cmpI a.Id b.Id) = cmpR k := by
    funext a b; rw [cmpR_eq]
  rw [← e]; exact h
theorem cmpR_id {k : Int} {a b : GRow} (h : cmpR k a b = 0) : a.Id = b.Id := by
  rw [cmpR_eq] at h
  split at h
  · omega
  · unfold cmpI at h; split at h <;> (try split at h) <;> omega
def ndId (l : List GRow) : Prop := ∀ a ∈ l, ∀ b ∈ l, a.Id = b.Id → a = b
theorem sorted_one {c : GRow → GRow → Int} (hc : GC c) : ∀ {l l' : List GRow}, l.Perm l' → (∀ a ∈ l, ∀ b ∈ l, c a b = 0 → a = b) → l.Pairwise (fun a b => c a b ≤ 0) → l'.Pairwise (fun a b => c a b ≤ 0) → l = l'
  | [], l', hp, _, _, _ => (List.nil_perm.1 hp).symm
  | a :: l, [], hp, _, _, _ => absurd (List.perm_nil.1 hp) (by simp)
  | a :: l, b :: l', hp, hz, h1, h2 => by
    have hab : a = b := by
      have ha : a ∈ b :: l' := hp.subset List.mem_cons_self
      have hb : b ∈ a :: l := hp.symm.subset List.mem_cons_self
      rcases List.mem_cons.1 ha with rfl | ha
      · rfl
      · rcases List.mem_cons.1 hb with rfl | hb
        · rfl
        · have p := (List.pairwise_cons.1 h2).1 a ha
          have q := (List.pairwise_cons.1 h1).1 b hb
          have := hc.anti a b
          exact hz a List.mem_cons_self b (List.mem_cons_of_mem _ hb) (by omega)
    subst hab
    rw [sorted_one hc (List.Perm.cons_inv hp) (fun x hx y hy => hz x (List.mem_cons_of_mem _ hx) y (List.mem_cons_of_mem _ hy)) (List.pairwise_cons.1 h1).2 (List.pairwise_cons.1 h2).2]
theorem insS_perm {α : Type} {lt : α → α → Bool} {l : List α} {x : α} : (insS lt l x).Perm (x :: l) := by
  unfold insS
  refine List.perm_middle.trans ?_
  rw [List.take_append_drop]
theorem sortS_perm {α : Type} {lt : α → α → Bool} {l : List α} : (sortS lt l).Perm l := by
  unfold sortS
  suffices h : ∀ (l a : List α), (l.foldl (insS lt) a).Perm (l ++ a) from by simpa using h l []
  intro l
  induction l with
  | nil => intro a; exact List.Perm.refl _
  | cons x l ih =>
    intro a
    refine (ih _).trans ?_
    refine (List.Perm.append_left l insS_perm).trans ?_
    exact List.perm_middle
theorem chain_pw {α : Type} {lt : α → α → Bool} (ht : ∀ a b d : α, lt b a = false → lt d b = false → lt d a = false) : ∀ {l : List α}, chain lt l → l.Pairwise (fun a b => lt b a = false) := by
  intro l hc
  have hg := chain_get hc
  rw [List.pairwise_iff_getElem]
  intro i j hi hj hij
  obtain ⟨n, rfl⟩ : ∃ n, j = i + 1 + n := ⟨j - (i + 1), by omega⟩
  clear hij
  induction n with
  | zero => exact hg i hj
  | succ n ih => exact ht _ _ _ (ih (by omega)) (hg (i + 1 + n) hj)
def ltD (k : Int) (down : Bool) (a b : GRow) : Bool := if down = true then ltR k b a else ltR k a b
theorem ltR_iff {k : Int} {a b : GRow} : ltR k a b = false ↔ 0 ≤ cmpR k a b := by
  unfold ltR; rw [decide_eq_false_iff_not]; omega
theorem ltR_ntrans {k : Int} (a b d : GRow) (h1 : ltR k b a = false) (h2 : ltR k d b = false) : ltR k d a = false := by
  rw [ltR_iff] at *
  have e1 := (gc_R k).anti a b
  have e2 := (gc_R k).anti b d
  have e3 := (gc_R k).anti a d
  have := (gc_R k).le a b d (by omega) (by omega)
  omega
theorem ltD_asym {k : Int} {down : Bool} (a b : GRow) (h : ltD k down a b = true) : ltD k down b a = false := by
  unfold ltD at *
  split at h
  · rename_i hd; rw [if_pos hd]; exact ltR_asym _ _ h
  · rename_i hd; rw [if_neg hd]; exact ltR_asym _ _ h
theorem ltD_ntrans {k : Int} {down : Bool} (a b d : GRow) (h1 : ltD k down b a = false) (h2 : ltD k down d b = false) : ltD k down d a = false := by
  unfold ltD at *
  split at h1
  · rename_i hd
    rw [if_pos hd] at h2 ⊢
    exact ltR_ntrans _ _ _ h2 h1
  · rename_i hd
    rw [if_neg hd] at h2 ⊢
    exact ltR_ntrans _ _ _ h1 h2
theorem sortR_pw {k : Int} {l : List GRow} : (sortS (ltR k) l).Pairwise (fun a b => cmpR k a b ≤ 0) := by
  refine (chain_pw ltR_ntrans (sortS_chain ltR_asym)).imp (fun h => ?_)
  rename_i a b
  rw [ltR_iff] at h
  have := (gc_R k).anti a b
  omega
theorem nd0 {k : Int} {l : List GRow} (h : ndId l) : ∀ a ∈ l, ∀ b ∈ l, cmpR k a b = 0 → a = b := fun a ha b hb e => h a ha b hb (cmpR_id e)
/-- A sorted permutation is what insertion gives. -/
theorem sort_uniq {k : Int} {l l' : List GRow} (h : ndId l) (hp : l'.Perm l) (hs : l'.Pairwise (fun a b => ltR k b a = false)) : l' = sortS (ltR k) l := by
  refine sorted_one (gc_R k) (hp.trans sortS_perm.symm) (fun a ha b hb e => nd0 h a (hp.subset ha) b (hp.subset hb) e) (hs.imp fun h => ?_) sortR_pw
  rename_i a b
  rw [ltR_iff] at h
  have := (gc_R k).anti a b
  omega
/-- From the last one on. -/
theorem sort_down {k : Int} {l : List GRow} (h : ndId l) : sortS (ltD k true) l = (sortS (ltR k) l).reverse := by
  have e : (sortS (ltD k true) l).reverse = sortS (ltR k) l := by
    refine sort_uniq h ((List.reverse_perm _).trans sortS_perm) ?_
    rw [List.pairwise_reverse]
    exact (chain_pw ltD_ntrans (sortS_chain (ltD_asym (k := k) (down := true)))).imp (fun h => by
      unfold ltD at h; rw [if_pos rfl] at h; exact h)
  rw [← e, List.reverse_reverse]
theorem sortD_srt {k : Int} {down : Bool} {l : List GRow} (h : ndId l) : sortS (ltD k down) l = srtF l k down := by
  unfold srtF
  cases down with
  | true => rw [if_pos rfl]; exact sort_down h
  | false => rw [if_neg (by simp)]; congr 1
theorem nd_rise {l : List GRow} (h : ∀ i (h : i + 1 < l.length), l[i].Id < l[i + 1].Id) : ndId l := by
  have pw : l.Pairwise (fun a b => a.Id < b.Id) := by
    rw [List.pairwise_iff_getElem]
    intro i j hi hj hij
    obtain ⟨n, rfl⟩ : ∃ n, j = i + 1 + n := ⟨j - (i + 1), by omega⟩
    clear hij
    induction n with
    | zero => exact h i hj
    | succ n ih => exact Int.lt_trans (ih (by omega)) (h (i + 1 + n) hj)
  intro a ha b hb e
  obtain ⟨i, hi, rfl⟩ := List.getElem_of_mem ha
  obtain ⟨j, hj, rfl⟩ := List.getElem_of_mem hb
  rw [List.pairwise_iff_getElem] at pw
  rcases Nat.lt_trichotomy i j with q | rfl | q
  · have := pw i j hi hj q; omega
  · rfl
  · have := pw j i hj hi q; omega
theorem ltD_1 {k : Int} {down : Bool} {a b : GRow} (h : cmpV (colF b k) (colF a k) = 0) (hd : down = true) : ltD k down a b = decide (0 < - cmpV (vI b.Id) (vI a.Id)) := by
  subst hd; unfold ltD; rw [if_pos rfl]; unfold ltR; rw [cmpR_eq, if_neg (by omega), cmpV_ids]; exact decide_eq_decide.2 (by omega)
theorem ltD_2 {k : Int} {down : Bool} {a b : GRow} (h : cmpV (colF b k) (colF a k) = 0) (hd : down = false) : ltD k down a b = decide (0 < cmpV (vI b.Id) (vI a.Id)) := by
  subst hd; unfold ltD; rw [if_neg (by simp)]; exact ltR_of0 h
theorem ltD_3 {k : Int} {down : Bool} {a b : GRow} (h : cmpV (colF b k) (colF a k) ≠ 0) (hd : down = true) : ltD k down a b = decide (0 < - cmpV (colF b k) (colF a k)) := by
  subst hd; unfold ltD; rw [if_pos rfl]; unfold ltR; rw [cmpR_eq, if_pos h]; exact decide_eq_decide.2 (by omega)
theorem ltD_4 {k : Int} {down : Bool} {a b : GRow} (h : cmpV (colF b k) (colF a k) ≠ 0) (hd : down = false) : ltD k down a b = decide (0 < cmpV (colF b k) (colF a k)) := by
  subst hd; unfold ltD; rw [if_neg (by simp)]; exact ltR_of h
theorem cmpV_le1 {a b : GValue} : -1 ≤ cmpV a b ∧ cmpV a b ≤ 1 := by
  unfold cmpV cmpI cmpS
  repeat' split
  all_goals omega
def goodK (l : List GRow) (k : Nat) : Prop := ∀ i, i < k → rowOK (l.getD i .zero) = true ∧ (0 < i → (l.getD (i - 1) .zero).Id < (l.getD i .zero).Id)
instance {l : List GRow} {k : Nat} : Decidable (goodK l k) := by unfold goodK; exact inferInstance
def goodRows (l : List GRow) : Bool := decide (goodK l l.length)
theorem goodK_0 {l : List GRow} : goodK l 0 := fun i h => by omega
theorem goodK_succ {l : List GRow} {k : Nat} (hk : k < l.length) (h : goodK l k) (h1 : rowOK l[k] = true) (h2 : 0 < k → (l.getD (k - 1) .zero).Id < l[k].Id) : goodK l (k + 1) := by
  intro i hi
  rcases Nat.lt_or_ge i k with q | q
  · exact h i q
  · obtain rfl : i = k := by omega
    rw [getD_row hk]; exact ⟨h1, h2⟩
theorem good_t {l : List GRow} (h : goodK l l.length) : goodRows l = true := by unfold goodRows; exact decide_eq_true h
theorem good_f {l : List GRow} {k : Nat} (hk : k < l.length) (h : rowOK l[k] = false ∨ 0 < k ∧ l[k].Id ≤ (l.getD (k - 1) .zero).Id) : goodRows l = false := by
  unfold goodRows
  refine decide_eq_false (fun g => ?_)
  have := g k hk
  rw [getD_row hk] at this
  rcases h with h | ⟨h1, h2⟩
  · rw [h] at this; cases this.1
  · have := this.2 h1; omega
theorem good_nd {l : List GRow} (h : goodRows l = true) : ndId l := by
  unfold goodRows at h
  have g := of_decide_eq_true h
  refine nd_rise (fun i hi => ?_)
  have := (g (i + 1) hi).2 (by omega)
  rw [getD_row hi, show i + 1 - 1 = i from rfl, getD_row (by omega)] at this
  exact this
/-- Rows by a column. -/
def srtRF (l : List GRow) (c : Int) (down : Bool) : List GRow × Int :=
  if 4096 < l.length then ([], 2) else if 100 < l.length then ([], 6) else if goodRows l ≠ true then ([], 1) else if inR c 0 2 ≠ true then ([], 4) else (srtF l c down, 0)
theorem srtR_1 {l : List GRow} {c : Int} {down : Bool} (h : 4096 < l.length) : srtRF l c down = ([], 2) := by unfold srtRF; rw [if_pos h]
theorem srtR_2 {l : List GRow} {c : Int} {down : Bool} (h : ¬ 4096 < l.length) (h2 : 100 < l.length) : srtRF l c down = ([], 6) := by unfold srtRF; rw [if_neg h, if_pos h2]
theorem srtR_3 {l : List GRow} {c : Int} {down : Bool} (h2 : ¬ 100 < l.length) (h3 : goodRows l = false) : srtRF l c down = ([], 1) := by unfold srtRF; rw [if_neg (by omega), if_neg h2, if_pos (by simp [h3])]
theorem srtR_4 {l : List GRow} {c : Int} {down : Bool} (h2 : ¬ 100 < l.length) (h3 : goodRows l = true) (h4 : inR c 0 2 = false) : srtRF l c down = ([], 4) := by unfold srtRF; rw [if_neg (by omega), if_neg h2, if_neg (not_not_intro h3), if_pos (by simp [h4])]
theorem srtR_5 {l : List GRow} {c : Int} {down : Bool} (h2 : ¬ 100 < l.length) (h3 : goodRows l = true) (h4 : inR c 0 2 = true) : srtRF l c down = (srtF l c down, 0) := by unfold srtRF; rw [if_neg (by omega), if_neg h2, if_neg (not_not_intro h3), if_neg (not_not_intro h4)]
theorem srtR_len {l : List GRow} {c : Int} {down : Bool} : (srtRF l c down).1.length ≤ l.length := by
  unfold srtRF
  repeat' split
  all_goals simp [srtF_len]
theorem rows_sz {l : List GRow} {n : Nat} (h : szL GRow.sz l ≤ n) : l.length ≤ n ∧ ∀ x ∈ l, x.N.T.length ≤ n ∧ x.Name.T.length ≤ n := by
  have h1 := @szL_len _ GRow.sz l
  refine ⟨by omega, fun x hx => ?_⟩
  have h2 := szL_mem (f := GRow.sz) hx
  have h3 : GRow.sz x = x.N.T.length + x.Name.T.length := rfl
  omega
end Go.AM
