/- A layer over the calls (plain data, own blocks, code, contracts) and plain laws about what the functions compute (part 2). -/
import Derived.Test.YthdafcdhnjapnaaGreatDoorA1
import Derived.Lib.ItoaNum
import Derived.Lib.Atoi
import Derived.Lib.Bytealg
import Derived.Lib.LaidTab
set_option linter.unusedVariables false
set_option linter.unusedSimpArgs false
namespace Go.AM
structure Src where
  code : Str
  pos : Int
  seed : Int
abbrev Src.box (s : Src) : OB := .box [.d (.sl 1 (s.code.map byteRow)), int s.pos, int s.seed]
abbrev Src.h (e : Nat) (s : Src) : List (Nat × OB) := [(e, s.box)]
structure Src.ok (s : Src) (n : Nat) : Prop where
  pos : 0 ≤ s.pos ∧ s.pos + n ≤ 1000000000
  seed : 0 ≤ s.seed ∧ s.seed < 2147483648
  len : s.code.length ≤ 1048576
theorem Src.ok.mono {s : Src} {n m : Nat} (h : s.ok n) (hm : m ≤ n) : s.ok m := ⟨by have := h.pos; omega, h.seed, h.len⟩
def srcOf (code : Str) : Src := ⟨code, 0, (code.length : Int) % 1000⟩
theorem srcOf_ok {code : Str} (h : code.length ≤ 1048576) : (srcOf code).ok 1000000000 := ⟨by simp [srcOf], by unfold srcOf; dsimp only; omega, h⟩
def byteF (s : Src) : Int × Src :=
  if s.pos + 1 ≤ s.code.length then ((s.code.getD s.pos.toNat 0).toNat, ⟨s.code, s.pos + 1, (s.seed * 31 + (s.code.getD s.pos.toNat 0).toNat + 7) % 2147483648⟩)
  else if 3000 < s.pos + 1 then (0, ⟨s.code, s.pos + 1, s.seed⟩)
  else ((s.seed * 1103515245 + 12345) % 2147483648 / 65536 % 256, ⟨s.code, s.pos + 1, (s.seed * 1103515245 + 12345) % 2147483648⟩)
theorem byteF_1 {s : Src} (h : s.pos + 1 ≤ s.code.length) : byteF s = (((s.code.getD s.pos.toNat 0).toNat : Int), ⟨s.code, s.pos + 1, (s.seed * 31 + (s.code.getD s.pos.toNat 0).toNat + 7) % 2147483648⟩) := by unfold byteF; rw [if_pos h]
theorem byteF_2 {s : Src} (h : ¬ s.pos + 1 ≤ s.code.length) (h1 : 3000 < s.pos + 1) : byteF s = (0, ⟨s.code, s.pos + 1, s.seed⟩) := by unfold byteF; rw [if_neg h, if_pos h1]
theorem byteF_3 {s : Src} (h : ¬ s.pos + 1 ≤ s.code.length) (h1 : ¬ 3000 < s.pos + 1) : byteF s = ((s.seed * 1103515245 + 12345) % 2147483648 / 65536 % 256, ⟨s.code, s.pos + 1, (s.seed * 1103515245 + 12345) % 2147483648⟩) := by unfold byteF; rw [if_neg h, if_neg h1]
theorem byteF_ok {s : Src} {n : Nat} (h : s.ok (n + 1)) : (byteF s).2.ok n ∧ 0 ≤ (byteF s).1 ∧ (byteF s).1 < 256 := by
  have h1 := h.pos
  have h2 := h.seed
  have h3 := h.len
  have h4 := (s.code.getD s.pos.toNat 0).toNat_lt
  unfold byteF
  split
  · exact ⟨⟨by dsimp only; omega, by dsimp only; omega, h3⟩, by dsimp only; omega, by dsimp only; omega⟩
  · split
    · exact ⟨⟨by dsimp only; omega, h2, h3⟩, by dsimp only; omega, by dsimp only; omega⟩
    · exact ⟨⟨by dsimp only; omega, by dsimp only; omega, h3⟩, by dsimp only; omega, by dsimp only; omega⟩
def nextF (s : Src) (n : Int) : Int × Src :=
  if n ≤ 1 then (0, s) else if n ≤ 256 then ((byteF s).1 % n, (byteF s).2)
  else (((byteF s).1 * 65536 + (byteF (byteF s).2).1 * 256 + (byteF (byteF (byteF s).2).2).1) % n, (byteF (byteF (byteF s).2).2).2)
theorem nextF_1 {s : Src} {n : Int} (h : n ≤ 1) : nextF s n = (0, s) := by unfold nextF; rw [if_pos h]
theorem nextF_2 {s : Src} {n : Int} (h : ¬ n ≤ 1) (h1 : n ≤ 256) : nextF s n = ((byteF s).1 % n, (byteF s).2) := by unfold nextF; rw [if_neg h, if_pos h1]
theorem nextF_3 {s : Src} {n : Int} (h : ¬ n ≤ 1) (h1 : ¬ n ≤ 256) : nextF s n = (((byteF s).1 * 65536 + (byteF (byteF s).2).1 * 256 + (byteF (byteF (byteF s).2).2).1) % n, (byteF (byteF (byteF s).2).2).2) := by unfold nextF; rw [if_neg h, if_neg h1]
theorem nextF_ok {s : Src} {n : Int} {k : Nat} (h : s.ok (k + 3)) : (nextF s n).2.ok k ∧ 0 ≤ (nextF s n).1 ∧ (1 ≤ n → (nextF s n).1 < n) := by
  unfold nextF
  split
  · exact ⟨h.mono (by omega), by dsimp only; omega, fun _ => by dsimp only; omega⟩
  · rename_i h1
    split
    · obtain ⟨h2, h3, h4⟩ := byteF_ok (n := k) (h.mono (by omega))
      exact ⟨h2, Int.emod_nonneg _ (by omega), fun _ => Int.emod_lt_of_pos _ (by omega)⟩
    · obtain ⟨h2, h3, h4⟩ := byteF_ok (n := k + 2) h
      obtain ⟨h5, h6, h7⟩ := byteF_ok (n := k + 1) h2
      obtain ⟨h8, h9, h10⟩ := byteF_ok (n := k) h5
      exact ⟨h8, Int.emod_nonneg _ (by omega), fun _ => Int.emod_lt_of_pos _ (by omega)⟩
def chanceF (s : Src) (n : Int) : Bool × Src := (decide ((nextF s n).1 = n - 1), (nextF s n).2)
theorem getD_at {l : Str} {i : Nat} (h : i < l.length) : l.getD i 0 = l[i] := by simp [List.getD, h]
end Go.AM

namespace Go.AM
def badCh (b : UInt8) : Bool := !inR (b.toNat : Int) 97 122
def isWord (s : Str) : Bool := !s.any badCh && decide ((s.length : Int) ≤ 10)
def valueOK (v : GValue) : Bool := if v.Kind = 0 then decide (v.N = 0) && decide (v.T = []) else if v.Kind = 1 then inR v.N (-1000000000) 1000000000 && decide (v.T = []) else decide (v.Kind = 2) && decide (v.N = 0) && isWord v.T
theorem valueOK_0 {v : GValue} (h : v.Kind = 0) : valueOK v = (decide (v.N = 0) && decide (v.T = [])) := by unfold valueOK; rw [if_pos h]
theorem valueOK_1 {v : GValue} (h : v.Kind = 1) : valueOK v = (inR v.N (-1000000000) 1000000000 && decide (v.T = [])) := by unfold valueOK; rw [if_neg (by omega), if_pos h]
theorem valueOK_2 {v : GValue} (h : ¬ v.Kind = 0) (h1 : ¬ v.Kind = 1) : valueOK v = (decide (v.Kind = 2) && decide (v.N = 0) && isWord v.T) := by unfold valueOK; rw [if_neg h, if_neg h1]
def rowOK (r : GRow) : Bool := (((inR r.Id 0 1000 && valueOK r.N) && valueOK r.Name) && !decide (r.N.Kind = 2)) && !decide (r.Name.Kind = 1)
theorem rowOK_i {r : GRow} : ((((inR r.Id 0 1000 && valueOK r.N) && !decide (r.N.Kind = 2)) && valueOK r.Name) && !decide (r.Name.Kind = 1)) = rowOK r := by
  unfold rowOK
  cases inR r.Id 0 1000 <;> cases valueOK r.N <;> cases valueOK r.Name <;> cases decide (r.N.Kind = 2) <;> rfl
end Go.AM

namespace Go.AM
def zeroV (v : GValue) : Bool := decide (v.Kind = 0) && (decide (v.N = 0) && (decide (v.T = []) && true))
def mxI (a b : Int) : Int := if b > a then b else a
theorem mxI_b {a b n : Int} (h1 : 0 ≤ a ∧ a ≤ n) (h2 : 0 ≤ b ∧ b ≤ n) : 0 ≤ mxI a b ∧ mxI a b ≤ n := by unfold mxI; split <;> omega
abbrev W3 := Int × Int × Bool
def nodeW (rec : Int → W3) (i : Int) (x : GExprNode) : W3 :=
  if x.Op = 1 then (i, 1, ((decide (x.A = 0) && decide (x.B = 0)) && decide (x.Column = 0)) && valueOK x.V)
  else if x.Op = 2 then (i, 1, ((decide (x.A = 0) && decide (x.B = 0)) && inR x.Column 0 2) && zeroV x.V)
  else if inR x.Op 3 5 = true then ((rec (i - 1)).1, (rec (i - 1)).2.1 + 1, ((((rec (i - 1)).2.2 && decide (x.A = i - 1)) && decide (x.B = 0)) && decide (x.Column = 0)) && zeroV x.V)
  else if inR x.Op 6 13 = true then
    (if (rec (i - 1)).2.2 = false then (0, 0, false)
     else ((rec ((rec (i - 1)).1 - 1)).1, mxI (rec ((rec (i - 1)).1 - 1)).2.1 (rec (i - 1)).2.1 + 1,
       ((((rec ((rec (i - 1)).1 - 1)).2.2 && decide (x.A = (rec (i - 1)).1 - 1)) && decide (x.B = i - 1)) && decide (x.Column = 0)) && zeroV x.V))
  else (0, 0, false)
def walkF (ns : List GExprNode) : Nat → Int → W3
  | 0, _ => (0, 0, false)
  | f + 1, i => if i < 0 then (0, 0, false) else match ns[i.toNat]? with
    | none => (0, 0, false)
    | some x => nodeW (walkF ns f) i x
section
variable {ns : List GExprNode} {f : Nat} {i : Int} {j : Nat} {x : GExprNode} {rec : Int → W3}
theorem nodeW_1 (h : x.Op = 1) : nodeW rec i x = (i, 1, ((decide (x.A = 0) && decide (x.B = 0)) && decide (x.Column = 0)) && valueOK x.V) := by unfold nodeW; rw [if_pos h]
theorem nodeW_2 (h : ¬ x.Op = 1) (h1 : x.Op = 2) : nodeW rec i x = (i, 1, ((decide (x.A = 0) && decide (x.B = 0)) && inR x.Column 0 2) && zeroV x.V) := by unfold nodeW; rw [if_neg h, if_pos h1]
theorem nodeW_3 (h : ¬ x.Op = 1) (h1 : ¬ x.Op = 2) (h2 : inR x.Op 3 5 = true) : nodeW rec i x = ((rec (i - 1)).1, (rec (i - 1)).2.1 + 1, ((((rec (i - 1)).2.2 && decide (x.A = i - 1)) && decide (x.B = 0)) && decide (x.Column = 0)) && zeroV x.V) := by
  unfold nodeW; rw [if_neg h, if_neg h1, if_pos h2]
theorem nodeW_4 (h : ¬ x.Op = 1) (h1 : ¬ x.Op = 2) (h2 : inR x.Op 3 5 = false) (h3 : inR x.Op 6 13 = true) (h4 : (rec (i - 1)).2.2 = false) : nodeW rec i x = (0, 0, false) := by
  unfold nodeW; rw [if_neg h, if_neg h1, if_neg (by rw [h2]; simp), if_pos h3, if_pos h4]
theorem nodeW_5 (h : ¬ x.Op = 1) (h1 : ¬ x.Op = 2) (h2 : inR x.Op 3 5 = false) (h3 : inR x.Op 6 13 = true) (h4 : (rec (i - 1)).2.2 = true) : nodeW rec i x = ((rec ((rec (i - 1)).1 - 1)).1, mxI (rec ((rec (i - 1)).1 - 1)).2.1 (rec (i - 1)).2.1 + 1,
       ((((rec ((rec (i - 1)).1 - 1)).2.2 && decide (x.A = (rec (i - 1)).1 - 1)) && decide (x.B = i - 1)) && decide (x.Column = 0)) && zeroV x.V) := by
  unfold nodeW; rw [if_neg h, if_neg h1, if_neg (by rw [h2]; simp), if_pos h3, if_neg (by rw [h4]; simp)]
theorem nodeW_6 (h : ¬ x.Op = 1) (h1 : ¬ x.Op = 2) (h2 : inR x.Op 3 5 = false) (h3 : inR x.Op 6 13 = false) : nodeW rec i x = (0, 0, false) := by
  unfold nodeW; rw [if_neg h, if_neg h1, if_neg (by rw [h2]; simp), if_neg (by rw [h3]; simp)]
theorem walkF_neg (h : i < 0) : walkF ns f i = (0, 0, false) := by cases f with | zero => rfl | succ f => rw [walkF, if_pos h]
theorem walkF_at (h : j < ns.length) : walkF ns (f + 1) (j : Int) = nodeW (walkF ns f) j ns[j] := by
  rw [walkF, if_neg (by omega), show ((j : Int)).toNat = j from by omega, List.getElem?_eq_getElem h]
theorem nodeW_b {n : Int} (hi : 0 ≤ i) (h : ∀ k, 0 ≤ (rec k).1 ∧ ((rec k).1 ≤ k ∨ (rec k).1 = 0) ∧ 0 ≤ (rec k).2.1 ∧ (rec k).2.1 ≤ n) : 0 ≤ (nodeW rec i x).1 ∧ ((nodeW rec i x).1 ≤ i ∨ (nodeW rec i x).1 = 0) ∧ 0 ≤ (nodeW rec i x).2.1 ∧ (nodeW rec i x).2.1 ≤ n + 1 := by
  have a := h (i - 1)
  have b := h ((rec (i - 1)).1 - 1)
  have c := mxI_b (n := n) (a := (rec ((rec (i - 1)).1 - 1)).2.1) (b := (rec (i - 1)).2.1) ⟨b.2.2.1, b.2.2.2⟩ ⟨a.2.2.1, a.2.2.2⟩
  unfold nodeW
  split
  · dsimp only; omega
  · split
    · dsimp only; omega
    · split
      · dsimp only; omega
      · split
        · split
          · dsimp only; omega
          · dsimp only; omega
        · dsimp only; omega
theorem walkF_b : ∀ {f : Nat} {i : Int}, 0 ≤ (walkF ns f i).1 ∧ ((walkF ns f i).1 ≤ i ∨ (walkF ns f i).1 = 0) ∧ 0 ≤ (walkF ns f i).2.1 ∧ (walkF ns f i).2.1 ≤ f
  | 0, i => by simp [walkF]
  | f + 1, i => by
    rw [walkF]
    split
    · simp; omega
    · split
      · simp; omega
      · rename_i x _
        have := @nodeW_b i x (walkF ns f) f (by omega) (fun k => walkF_b)
        omega
end
def exprOK (e : GExpr) : Bool := if inR (e.Nodes.length : Int) 1 40 = false then false else
  ((walkF e.Nodes (e.Nodes.length + 1) ((e.Nodes.length : Int) - 1)).2.2 && decide ((walkF e.Nodes (e.Nodes.length + 1) ((e.Nodes.length : Int) - 1)).1 = 0)) && decide ((walkF e.Nodes (e.Nodes.length + 1) ((e.Nodes.length : Int) - 1)).2.1 ≤ 12)
theorem exprOK_0 {e : GExpr} (h : inR (e.Nodes.length : Int) 1 40 = false) : exprOK e = false := by unfold exprOK; rw [if_pos h]
theorem exprOK_1 {e : GExpr} (h : inR (e.Nodes.length : Int) 1 40 = true) : exprOK e = (((walkF e.Nodes (e.Nodes.length + 1) ((e.Nodes.length : Int) - 1)).2.2 && decide ((walkF e.Nodes (e.Nodes.length + 1) ((e.Nodes.length : Int) - 1)).1 = 0)) && decide ((walkF e.Nodes (e.Nodes.length + 1) ((e.Nodes.length : Int) - 1)).2.1 ≤ 12)) := by
  unfold exprOK; rw [if_neg (by rw [h]; simp)]
theorem inR_iff {n lo hi : Int} : inR n lo hi = true ↔ lo ≤ n ∧ n ≤ hi := by unfold inR; simp
end Go.AM

namespace Go.AM
abbrev IDp := Int × Int
def prow (p : IDp) : List D := [.int .i64 p.1, .int .i64 p.2]
def popF (S : List IDp) (a : Int) : Int × Bool × List IDp := match S.getLast? with
  | none => (0, false, S)
  | some p => if p.1 = a then (p.2, true, S.dropLast) else (0, false, S)
def okD (S : List IDp) (x : GExprNode) : Bool × Int × List IDp :=
  if x.Op = 1 then (((decide (x.A = 0) && decide (x.B = 0)) && decide (x.Column = 0)) && valueOK x.V, 0, S)
  else if x.Op = 2 then (((decide (x.A = 0) && decide (x.B = 0)) && inR x.Column 0 2) && zeroV x.V, 0, S)
  else if inR x.Op 3 5 = true then ((((popF S x.A).2.1 && decide (x.B = 0)) && decide (x.Column = 0)) && zeroV x.V, (popF S x.A).1, (popF S x.A).2.2)
  else if inR x.Op 6 13 = true then
    ((((popF S x.B).2.1 && (popF (popF S x.B).2.2 x.A).2.1) && decide (x.Column = 0)) && zeroV x.V, mxI (popF (popF S x.B).2.2 x.A).1 (popF S x.B).1, (popF (popF S x.B).2.2 x.A).2.2)
  else (false, 0, S)
def stepD (S : List IDp) (i : Int) (x : GExprNode) : Option (List IDp) := if (okD S x).1 = false then none else some ((okD S x).2.2 ++ [(i, (okD S x).2.1 + 1)])
def scanD (ns : List GExprNode) : Nat → Option (List IDp)
  | 0 => some []
  | k + 1 => match scanD ns k with
    | none => none
    | some S => match ns[k]? with
      | none => none
      | some x => stepD S k x
def depthF (ns : List GExprNode) : Int := match scanD ns ns.length with
  | none => 0
  | some S => if S.length = 1 then (S.getD 0 (0, 0)).2 else 0
theorem popF_top {S : List IDp} {p : IDp} : popF (S ++ [p]) p.1 = (p.2, true, S) := by unfold popF; simp
theorem popF_ok {S : List IDp} {a : Int} (h : (popF S a).2.1 = true) : ∃ S0 d, S = S0 ++ [(a, d)] := by
  rcases List.eq_nil_or_concat S with rfl | ⟨S0, p, rfl⟩
  · simp [popF] at h
  · unfold popF at h
    simp only [List.concat_eq_append, List.getLast?_append, List.getLast?_singleton, Option.some_or] at h
    by_cases hp : p.1 = a
    · exact ⟨S0, p.2, by rw [List.concat_eq_append, ← hp]⟩
    · rw [if_neg hp] at h; cases h
section
variable {ns : List GExprNode}
theorem nodeW_congr {r r' : Int → W3} {i : Int} {x : GExprNode} (h : ∀ k, k < i → r k = r' k) (hb : (r (i - 1)).1 ≤ i - 1 ∨ (r (i - 1)).1 = 0) (hi : 0 ≤ i) : nodeW r i x = nodeW r' i x := by
  unfold nodeW
  rw [← h (i - 1) (by omega), ← h ((r (i - 1)).1 - 1) (by omega)]
theorem walkF_fuel : ∀ {f f' : Nat} {i : Int}, i + 1 < f → i + 1 < f' → walkF ns f i = walkF ns f' i
  | 0, f', i, h1, h2 => by rw [walkF_neg (by omega), walkF_neg (by omega)]
  | f, 0, i, h1, h2 => by rw [walkF_neg (by omega), walkF_neg (by omega)]
  | f + 1, f' + 1, i, h1, h2 => by
    by_cases hi : i < 0
    · rw [walkF_neg hi, walkF_neg hi]
    · rw [walkF, walkF, if_neg hi, if_neg hi]
      split
      · rfl
      · exact nodeW_congr (fun k hk => walkF_fuel (by omega) (by omega)) walkF_b.2.1 (by omega)
/-- The walk, with enough steps. -/
def T (ns : List GExprNode) (i : Int) : W3 := walkF ns (i + 2).toNat i
theorem T_of {f : Nat} {i : Int} (h : i + 1 < f) (hi : -1 ≤ i) : walkF ns f i = T ns i := walkF_fuel h (by omega)
theorem T_neg {i : Int} (h : i < 0) : T ns i = (0, 0, false) := walkF_neg h
theorem T_at {j : Nat} (h : j < ns.length) : T ns j = nodeW (T ns) j ns[j] := by
  unfold T
  rw [show ((j : Int) + 2).toNat = (j + 1) + 1 from by omega, walkF_at h]
  refine nodeW_congr (fun k hk => ?_) walkF_b.2.1 (by omega)
  by_cases hk0 : k < 0
  · rw [walkF_neg hk0]; exact (T_neg hk0).symm
  · exact T_of (by omega) (by omega)
theorem T_b {i : Int} : 0 ≤ (T ns i).1 ∧ ((T ns i).1 ≤ i ∨ (T ns i).1 = 0) := ⟨walkF_b.1, walkF_b.2.1⟩
theorem T_d : ∀ {f : Nat} {i : Int}, (walkF ns f i).2.2 = true → 1 ≤ (walkF ns f i).2.1
  | 0, i, h => by simp [walkF] at h
  | f + 1, i, h => by
    rw [walkF] at h ⊢
    split at h
    · cases h
    · rename_i hi
      rw [if_neg hi]
      split at h
      · cases h
      · rename_i x hx
        have b1 := @walkF_b ns f (i - 1)
        have b2 := @walkF_b ns f ((walkF ns f (i - 1)).1 - 1)
        have c := mxI_b (n := f) (a := (walkF ns f ((walkF ns f (i - 1)).1 - 1)).2.1) (b := (walkF ns f (i - 1)).2.1) ⟨b2.2.2.1, b2.2.2.2⟩ ⟨b1.2.2.1, b1.2.2.2⟩
        unfold nodeW at h ⊢
        split
        · simp
        · split
          · simp
          · split
            · dsimp only; omega
            · split
              · split
                · rename_i h1 h2 h3 h4 h5
                  rw [if_neg h1, if_neg h2, if_neg h3, if_pos h4, if_pos h5] at h; cases h
                · dsimp only; omega
              · rename_i h1 h2 h3 h4
                rw [if_neg h1, if_neg h2, if_neg h3, if_neg h4] at h; cases h
/-- What stands on the stack: trees side by side. -/
inductive Segs (ns : List GExprNode) : List IDp → Nat → Prop
  | nil : Segs ns [] 0
  | snoc {S : List IDp} {a i : Nat} {d : Int} : Segs ns S a → T ns i = ((a : Int), d, true) → Segs ns (S ++ [((i : Int), d)]) (i + 1)
theorem Segs.zero {S : List IDp} (h : Segs ns S 0) : S = [] := by cases h; rfl
theorem Segs.top {S : List IDp} {k : Nat} (h : Segs ns S (k + 1)) : ∃ S0 a d, S = S0 ++ [((k : Int), d)] ∧ Segs ns S0 a ∧ T ns k = ((a : Int), d, true) := by
  cases h with
  | snoc h1 h2 => exact ⟨_, _, _, rfl, h1, h2⟩
theorem Segs.none {k : Nat} (h : Segs ns [] k) : k = 0 := by
  cases k with
  | zero => rfl
  | succ k => obtain ⟨S0, a, d, e, _⟩ := h.top; exact absurd e (by simp)
theorem Segs.concat {S0 : List IDp} {p : IDp} {k : Nat} (h : Segs ns (S0 ++ [p]) k) : ∃ i a : Nat, k = i + 1 ∧ p.1 = i ∧ Segs ns S0 a ∧ T ns i = ((a : Int), p.2, true) := by
  cases k with
  | zero => exact absurd h.zero (by simp)
  | succ k =>
    obtain ⟨S1, a, d, e, h1, h2⟩ := h.top
    have e2 := List.append_inj' e rfl
    simp only [List.cons.injEq, and_true] at e2
    obtain ⟨rfl, rfl⟩ := e2
    exact ⟨k, a, rfl, rfl, h1, h2⟩
theorem step_sound {S S' : List IDp} {k : Nat} (hk : k < ns.length) (h : Segs ns S k) (hs : stepD S k ns[k] = some S') : Segs ns S' (k + 1) := by
  unfold stepD at hs
  split at hs
  · cases hs
  · rename_i ho
    have ho : (okD S ns[k]).1 = true := by cases hh : (okD S ns[k]).1 with | true => rfl | false => exact absurd hh ho
    simp only [Option.some.injEq] at hs
    subst hs
    have ht := T_at (ns := ns) hk
    unfold okD at ho ⊢
    split
    · rename_i h1
      rw [if_pos h1] at ho
      dsimp only at ho
      rw [nodeW_1 h1, ho] at ht
      exact .snoc h ht
    · rename_i h1
      rw [if_neg h1] at ho
      split
      · rename_i h2
        rw [if_pos h2] at ho
        dsimp only at ho
        rw [nodeW_2 h1 h2, ho] at ht
        exact .snoc h ht
      · rename_i h2
        rw [if_neg h2] at ho
        split
        · rename_i h3
          rw [if_pos h3] at ho
          dsimp only at ho ⊢
          simp only [Bool.and_eq_true, decide_eq_true_eq] at ho
          obtain ⟨⟨⟨o1, o2⟩, o3⟩, o4⟩ := ho
          obtain ⟨S0, d, rfl⟩ := popF_ok o1
          obtain ⟨i, a, rfl, e1, g1, g2⟩ := h.concat
          have hA : ns[i + 1].A = i := e1
          rw [nodeW_3 h1 h2 h3, show (((i + 1 : Nat) : Int) - 1) = i from by omega, g2] at ht
          rw [show popF (S0 ++ [(ns[i + 1].A, d)]) ns[i + 1].A = (d, true, S0) from popF_top]
          simp only [hA, o2, o3, o4, decide_true, Bool.and_true] at ht
          exact .snoc g1 ht
        · rename_i h3
          have h3 : inR ns[k].Op 3 5 = false := by cases hh : inR ns[k].Op 3 5 with | false => rfl | true => exact absurd hh h3
          rw [if_neg (by rw [h3]; simp)] at ho
          split
          · rename_i h4
            rw [if_pos h4] at ho
            dsimp only at ho ⊢
            simp only [Bool.and_eq_true, decide_eq_true_eq] at ho
            obtain ⟨⟨⟨o1, o5⟩, o3⟩, o4⟩ := ho
            obtain ⟨S0, d, rfl⟩ := popF_ok o1
            obtain ⟨i, a, rfl, e1, g1, g2⟩ := h.concat
            have hB : ns[i + 1].B = i := e1
            rw [show popF (S0 ++ [(ns[i + 1].B, d)]) ns[i + 1].B = (d, true, S0) from popF_top] at o5 ⊢
            dsimp only at o5 ⊢
            obtain ⟨S1, d2, rfl⟩ := popF_ok o5
            obtain ⟨i2, a2, rfl, e2, g3, g4⟩ := g1.concat
            have hA : ns[i + 1].A = i2 := e2
            rw [show popF (S1 ++ [(ns[i + 1].A, d2)]) ns[i + 1].A = (d2, true, S1) from popF_top]
            rw [nodeW_5 h1 h2 h3 h4 (by rw [show (((i + 1 : Nat) : Int) - 1) = i from by omega, g2])] at ht
            rw [show (((i + 1 : Nat) : Int) - 1) = i from by omega, g2] at ht
            dsimp only at ht
            rw [show (((i2 + 1 : Nat) : Int) - 1) = i2 from by omega, g4] at ht
            simp only [hA, hB, o3, o4, decide_true, Bool.and_true] at ht
            exact .snoc g3 ht
          · rename_i h4
            rw [if_neg h4] at ho; cases ho
theorem step_full {S : List IDp} {k : Nat} (hk : k < ns.length) (h : Segs ns S k) (ht : (T ns k).2.2 = true) : ∃ S', stepD S k ns[k] = some S' := by
  have key : (okD S ns[k]).1 = true := by
    rw [T_at hk] at ht
    unfold okD
    split
    · rename_i h1; rw [nodeW_1 h1] at ht; exact ht
    · rename_i h1
      split
      · rename_i h2; rw [nodeW_2 h1 h2] at ht; exact ht
      · rename_i h2
        split
        · rename_i h3
          rw [nodeW_3 h1 h2 h3] at ht
          simp only [Bool.and_eq_true, decide_eq_true_eq] at ht ⊢
          obtain ⟨⟨⟨⟨o1, o0⟩, o2⟩, o3⟩, o4⟩ := ht
          cases k with
          | zero => rw [T_neg (by omega)] at o1; cases o1
          | succ k =>
            obtain ⟨S0, a, d, rfl, g1, g2⟩ := h.top
            have : ns[k + 1].A = k := by omega
            rw [this, show popF (S0 ++ [((k : Int), d)]) (k : Int) = (d, true, S0) from popF_top]
            exact ⟨⟨⟨rfl, o2⟩, o3⟩, o4⟩
        · rename_i h3
          have h3 : inR ns[k].Op 3 5 = false := by cases hh : inR ns[k].Op 3 5 with | false => rfl | true => exact absurd hh h3
          split
          · rename_i h4
            cases hr : (T ns ((k : Int) - 1)).2.2 with
            | false => rw [nodeW_4 h1 h2 h3 h4 hr] at ht; cases ht
            | true =>
              rw [nodeW_5 h1 h2 h3 h4 hr] at ht
              simp only [Bool.and_eq_true, decide_eq_true_eq] at ht ⊢
              obtain ⟨⟨⟨⟨o1, o0⟩, o2⟩, o3⟩, o4⟩ := ht
              cases k with
              | zero => rw [T_neg (by omega)] at hr; cases hr
              | succ k =>
                obtain ⟨S0, a, d, rfl, g1, g2⟩ := h.top
                rw [show (((k + 1 : Nat) : Int) - 1) = k from by omega, g2] at o0 o1
                dsimp only at o0 o1
                cases a with
                | zero => rw [T_neg (by omega)] at o1; cases o1
                | succ a =>
                  obtain ⟨S1, a2, d2, rfl, g3, g4⟩ := g1.top
                  have hB : ns[k + 1].B = k := by omega
                  have hA : ns[k + 1].A = a := by omega
                  rw [hA, hB, show popF (S1 ++ [((a : Int), d2)] ++ [((k : Int), d)]) (k : Int) = (d, true, S1 ++ [((a : Int), d2)]) from popF_top]
                  dsimp only
                  rw [show popF (S1 ++ [((a : Int), d2)]) (a : Int) = (d2, true, S1) from popF_top]
                  exact ⟨⟨⟨rfl, rfl⟩, o3⟩, o4⟩
          · rename_i h4
            have h4 : inR ns[k].Op 6 13 = false := by cases hh : inR ns[k].Op 6 13 with | false => rfl | true => exact absurd hh h4
            rw [nodeW_6 h1 h2 h3 h4] at ht; cases ht
  unfold stepD
  rw [if_neg (by rw [key]; simp)]
  exact ⟨_, rfl⟩
theorem scan_sound : ∀ {k : Nat} {S : List IDp}, k ≤ ns.length → scanD ns k = some S → Segs ns S k
  | 0, S, _, h => by simp only [scanD, Option.some.injEq] at h; subst h; exact .nil
  | k + 1, S, hk, h => by
    rw [scanD] at h
    split at h
    · cases h
    · rename_i S0 h0
      rw [List.getElem?_eq_getElem (by omega)] at h
      exact step_sound (by omega) (scan_sound (by omega) h0) h
theorem scan_full : ∀ {k : Nat}, k ≤ ns.length → (∀ j : Nat, j < k → (T ns j).2.2 = true) → ∃ S, scanD ns k = some S
  | 0, _, _ => ⟨[], rfl⟩
  | k + 1, hk, h => by
    obtain ⟨S, hS⟩ := scan_full (k := k) (by omega) (fun j hj => h j (by omega))
    obtain ⟨S', h'⟩ := step_full (by omega) (scan_sound (by omega) hS) (h k (by omega))
    exact ⟨S', by rw [scanD, hS, List.getElem?_eq_getElem (by omega)]; exact h'⟩
/-- All that a tree spans is right. -/
theorem T_span : ∀ (n : Nat) (i : Nat), i < n → i < ns.length → (T ns i).2.2 = true → ∀ j : Nat, (T ns i).1 ≤ j → j ≤ i → (T ns j).2.2 = true
  | 0, i, h, _, _, _, _, _ => by omega
  | n + 1, i, hn, hi, ht, j, h1, h2 => by
    by_cases hji : j = i
    · subst hji; exact ht
    · have ht0 := ht
      rw [T_at hi] at ht h1
      by_cases o1 : ns[i].Op = 1
      · rw [nodeW_1 o1] at h1; dsimp only at h1; omega
      · by_cases o2 : ns[i].Op = 2
        · rw [nodeW_2 o1 o2] at h1; dsimp only at h1; omega
        · cases o3 : inR ns[i].Op 3 5 with
          | true =>
            rw [nodeW_3 o1 o2 o3] at h1 ht
            simp only [Bool.and_eq_true] at ht
            dsimp only at h1
            rw [show ((i : Int) - 1) = ((i - 1 : Nat) : Int) from by omega] at h1 ht
            exact T_span n (i - 1) (by omega) (by omega) ht.1.1.1.1 j h1 (by omega)
          | false =>
            cases o4 : inR ns[i].Op 6 13 with
            | false => rw [nodeW_6 o1 o2 o3 o4] at ht; cases ht
            | true =>
              cases o5 : (T ns ((i : Int) - 1)).2.2 with
              | false => rw [nodeW_4 o1 o2 o3 o4 o5] at ht; cases ht
              | true =>
                rw [nodeW_5 o1 o2 o3 o4 o5] at h1 ht
                simp only [Bool.and_eq_true] at ht
                dsimp only at h1
                have b := @T_b ns ((i : Int) - 1)
                rw [show ((i : Int) - 1) = ((i - 1 : Nat) : Int) from by omega] at h1 ht o5 b
                by_cases hj : (T ns ((i - 1 : Nat) : Int)).1 ≤ j
                · exact T_span n (i - 1) (by omega) (by omega) o5 j hj (by omega)
                · have ho := ht.1.1.1.1
                  have hp : 0 ≤ (T ns ((i - 1 : Nat) : Int)).1 - 1 := by omega
                  obtain ⟨m, hm⟩ : ∃ m : Nat, (T ns ((i - 1 : Nat) : Int)).1 - 1 = (m : Int) := ⟨((T ns ((i - 1 : Nat) : Int)).1 - 1).toNat, by omega⟩
                  rw [hm] at h1 ho
                  exact T_span n m (by omega) (by omega) ho j h1 (by omega)
theorem depth_ok (hl : 1 ≤ ns.length) : inR (depthF ns) 1 12 = (((T ns ((ns.length : Int) - 1)).2.2 && decide ((T ns ((ns.length : Int) - 1)).1 = 0)) && decide ((T ns ((ns.length : Int) - 1)).2.1 ≤ 12)) := by
  rw [Bool.eq_iff_iff, inR_iff]
  simp only [Bool.and_eq_true, decide_eq_true_eq]
  obtain ⟨m, hm⟩ : ∃ m, ns.length = m + 1 := ⟨ns.length - 1, by omega⟩
  have hi : ((ns.length : Int) - 1) = (m : Int) := by omega
  rw [hi]
  constructor
  · intro h
    unfold depthF at h
    split at h
    · omega
    · rename_i S hS
      have g := scan_sound (Nat.le_refl _) hS
      rw [hm] at g
      obtain ⟨S0, a, d, rfl, g1, g2⟩ := g.top
      split at h
      · rename_i hl1
        have : S0 = [] := List.eq_nil_of_length_eq_zero (by simp only [List.length_append, List.length_singleton] at hl1; omega)
        subst this
        have ha : a = 0 := g1.none
        subst ha
        rw [g2]
        simp at h
        exact ⟨⟨rfl, rfl⟩, h.2⟩
      · omega
  · rintro ⟨⟨h1, h2⟩, h3⟩
    obtain ⟨S, hS⟩ := scan_full (ns := ns) (Nat.le_refl _) (fun j hj => T_span (m + 1) m (by omega) (by omega) h1 j (by omega) (by omega))
    have g := scan_sound (Nat.le_refl _) hS
    rw [hm] at g
    obtain ⟨S0, a, d, rfl, g1, g2⟩ := g.top
    have ha : a = 0 := by rw [g2] at h2; dsimp only at h2; omega
    subst ha
    have := g1.zero
    subst this
    unfold depthF
    rw [hS]
    have hd := T_d (ns := ns) h1
    change 1 ≤ (T ns m).2.1 at hd
    rw [g2] at hd h3
    simp
    exact ⟨hd, h3⟩
theorem exprOK_i {e : GExpr} : (inR (e.Nodes.length : Int) 1 40 && inR (depthF e.Nodes) 1 12) = exprOK e := by
  cases h : inR (e.Nodes.length : Int) 1 40 with
  | false => rw [exprOK_0 h]; rfl
  | true =>
    have := inR_iff.1 h
    rw [exprOK_1 h, Bool.true_and, depth_ok (by omega), T_of (by omega) (by omega)]
end
end Go.AM

namespace Go.AM
theorem popF_no {S : List IDp} {a : Int} (h : (S.length : Int) - 1 < 0 ∨ ¬ (S.getD (S.length - 1) (0, 0)).1 = a) : popF S a = (0, false, S) := by
  rcases List.eq_nil_or_concat S with rfl | ⟨S0, p, rfl⟩
  · rfl
  · rw [List.concat_eq_append] at h ⊢
    unfold popF
    simp only [List.length_append, List.length_singleton] at h
    rcases h with h | h
    · omega
    · have : ¬ p.1 = a := by simpa [List.getD] using h
      simp [this]
theorem popF_yes {S : List IDp} {a : Int} (h : ¬ (S.length : Int) - 1 < 0) (h1 : (S.getD (S.length - 1) (0, 0)).1 = a) : popF S a = ((S.getD (S.length - 1) (0, 0)).2, true, S.dropLast) := by
  rcases List.eq_nil_or_concat S with rfl | ⟨S0, p, rfl⟩
  · simp at h
  · rw [List.concat_eq_append] at h h1 ⊢
    have e : (S0 ++ [p]).getD ((S0 ++ [p]).length - 1) (0, 0) = p := by simp [List.getD]
    rw [e] at h1 ⊢
    unfold popF
    simp [h1]
theorem top_row {S : List IDp} {rs : List (List D)} (hrs : rs.take S.length = S.map prow) (h : ¬ (S.length : Int) - 1 < 0) : rs[((S.length : Int) - 1).toNat]? = some (prow (S.getD (S.length - 1) (0, 0))) := by
  have e : ((S.length : Int) - 1).toNat = S.length - 1 := by omega
  have h1 : (rs.take S.length)[S.length - 1]? = (S.map prow)[S.length - 1]? := by rw [hrs]
  rw [List.getElem?_take, if_pos (by omega), List.getElem?_map, List.getElem?_eq_getElem (by omega : S.length - 1 < S.length)] at h1
  rw [e, h1]
  simp [List.getD, show S.length - 1 < S.length from by omega]
theorem popF_len {S : List IDp} {a : Int} : (popF S a).2.2.length ≤ S.length := by
  unfold popF; split
  · exact Nat.le_refl _
  · split
    · dsimp only; rw [List.length_dropLast]; omega
    · exact Nat.le_refl _
theorem popF_rs {S : List IDp} {a : Int} {rs : List (List D)} (hrs : rs.take S.length = S.map prow) : rs.take (popF S a).2.2.length = (popF S a).2.2.map prow := by
  unfold popF; split
  · exact hrs
  · split
    · dsimp only
      have : (rs.take S.length).take S.dropLast.length = (S.map prow).take S.dropLast.length := by rw [hrs]
      rw [List.take_take, List.length_dropLast, Nat.min_eq_left (by omega), ← List.map_take] at this
      rw [List.length_dropLast, this, List.dropLast_eq_take]
    · exact hrs
section
variable {S : List IDp} {x : GExprNode}
theorem okD_1 (h : x.Op = 1) : okD S x = (((decide (x.A = 0) && decide (x.B = 0)) && decide (x.Column = 0)) && valueOK x.V, 0, S) := by unfold okD; rw [if_pos h]
theorem okD_2 (h : ¬ x.Op = 1) (h1 : x.Op = 2) : okD S x = (((decide (x.A = 0) && decide (x.B = 0)) && inR x.Column 0 2) && zeroV x.V, 0, S) := by unfold okD; rw [if_neg h, if_pos h1]
theorem okD_3 (h : ¬ x.Op = 1) (h1 : ¬ x.Op = 2) (h2 : inR x.Op 3 5 = true) : okD S x = ((((popF S x.A).2.1 && decide (x.B = 0)) && decide (x.Column = 0)) && zeroV x.V, (popF S x.A).1, (popF S x.A).2.2) := by unfold okD; rw [if_neg h, if_neg h1, if_pos h2]
theorem okD_4 (h : ¬ x.Op = 1) (h1 : ¬ x.Op = 2) (h2 : inR x.Op 3 5 = false) (h3 : inR x.Op 6 13 = true) : okD S x = ((((popF S x.B).2.1 && (popF (popF S x.B).2.2 x.A).2.1) && decide (x.Column = 0)) && zeroV x.V, mxI (popF (popF S x.B).2.2 x.A).1 (popF S x.B).1, (popF (popF S x.B).2.2 x.A).2.2) := by
  unfold okD; rw [if_neg h, if_neg h1, if_neg (by rw [h2]; simp), if_pos h3]
theorem okD_5 (h : ¬ x.Op = 1) (h1 : ¬ x.Op = 2) (h2 : inR x.Op 3 5 = false) (h3 : inR x.Op 6 13 = false) : okD S x = (false, 0, S) := by
  unfold okD; rw [if_neg h, if_neg h1, if_neg (by rw [h2]; simp), if_neg (by rw [h3]; simp)]
end
section
variable {ns : List GExprNode} {S : List IDp} {k : Nat}
theorem scan_none : ∀ {m : Nat}, k ≤ m → scanD ns k = none → scanD ns m = none
  | 0, hk, h => by have : k = 0 := by omega
                   subst this; exact h
  | m + 1, hk, h => by
    by_cases e : k = m + 1
    · subst e; exact h
    · rw [scanD, scan_none (by omega) h]
theorem scan_next (hk : k < ns.length) (h : scanD ns k = some S) : scanD ns (k + 1) = stepD S k ns[k] := by rw [scanD, h, List.getElem?_eq_getElem hk]
theorem stepD_f {x : GExprNode} (h : (okD S x).1 = false) : stepD S k x = none := by unfold stepD; rw [if_pos h]
theorem stepD_t {x : GExprNode} (h : (okD S x).1 = true) : stepD S k x = some ((okD S x).2.2 ++ [((k : Int), (okD S x).2.1 + 1)]) := by unfold stepD; rw [if_neg (by rw [h]; simp)]
theorem depthF_none (hk : k ≤ ns.length) (h : scanD ns k = none) : depthF ns = 0 := by unfold depthF; rw [scan_none hk h]
theorem depthF_no (h : scanD ns ns.length = some S) (h1 : ¬ (S.length : Int) = 1) : depthF ns = 0 := by unfold depthF; rw [h]; dsimp only; rw [if_neg (by omega)]
theorem depthF_yes (h : scanD ns ns.length = some S) (h1 : (S.length : Int) = 1) : depthF ns = (S.getD 0 (0, 0)).2 := by unfold depthF; rw [h]; dsimp only; rw [if_pos (by omega)]
/-- Depths are small. -/
def lowS (S : List IDp) (n : Int) : Prop := ∀ p ∈ S, 0 ≤ p.2 ∧ p.2 ≤ n
theorem popF_low {a n : Int} (hn : 0 ≤ n) (h : lowS S n) : 0 ≤ (popF S a).1 ∧ (popF S a).1 ≤ n ∧ lowS (popF S a).2.2 n := by
  unfold popF; split
  · exact ⟨Int.le_refl _, hn, h⟩
  · rename_i p hp
    split
    · have := h p (List.mem_of_getLast? hp)
      exact ⟨this.1, this.2, fun q hq => h q ((List.dropLast_sublist _).subset hq)⟩
    · exact ⟨Int.le_refl _, hn, h⟩
theorem okD_low {x : GExprNode} {n : Int} (hn : 0 ≤ n) (h : lowS S n) : 0 ≤ (okD S x).2.1 ∧ (okD S x).2.1 ≤ n ∧ lowS (okD S x).2.2 n ∧ (okD S x).2.2.length ≤ S.length := by
  have a := popF_low (a := x.A) hn h
  have b := popF_low (a := x.B) hn h
  have c := popF_low (a := x.A) hn b.2.2
  have d := mxI_b ⟨c.1, c.2.1⟩ ⟨b.1, b.2.1⟩
  have e1 := @popF_len S x.A
  have e2 := @popF_len S x.B
  have e3 := @popF_len (popF S x.B).2.2 x.A
  unfold okD
  split
  · exact ⟨Int.le_refl _, hn, h, Nat.le_refl _⟩
  · split
    · exact ⟨Int.le_refl _, hn, h, Nat.le_refl _⟩
    · split
      · exact ⟨a.1, a.2.1, a.2.2, e1⟩
      · split
        · exact ⟨d.1, d.2, c.2.2, by dsimp only; omega⟩
        · exact ⟨Int.le_refl _, hn, h, Nat.le_refl _⟩
theorem okD_rs {x : GExprNode} {rs : List (List D)} (hrs : rs.take S.length = S.map prow) : rs.take (okD S x).2.2.length = (okD S x).2.2.map prow := by
  unfold okD
  split
  · exact hrs
  · split
    · exact hrs
    · split
      · exact popF_rs hrs
      · split
        · exact popF_rs (popF_rs hrs)
        · exact hrs
theorem lowS_app {d n : Int} {i : Int} (h : lowS S n) (hd : 0 ≤ d ∧ d ≤ n) : lowS (S ++ [(i, d + 1)]) (n + 1) := fun p hp => by
  rcases List.mem_append.1 hp with hp | hp
  · have := h p hp; omega
  · rw [List.mem_singleton] at hp; subst hp; dsimp only; omega
end
theorem stk_le {S : List IDp} {rs : List (List D)} (h : rs.take S.length = S.map prow) : S.length ≤ rs.length := by
  have := congrArg List.length h
  rw [List.length_take, List.length_map] at this
  omega
theorem stk_len {α : Type} {X : Option (List IDp)} {S : List IDp} {p : IDp} {x : α} (_ : X = some (S ++ [p])) : S.length + [x].length = (S ++ [p]).length := by simp
theorem stk_app {X : Option (List IDp)} {S : List IDp} {p : IDp} {rs : List (List D)} (_ : X = some (S ++ [p])) (h : rs.take S.length = S.map prow) : rs.take S.length ++ [prow p] = (S ++ [p]).map prow := by rw [h, List.map_append]; rfl
theorem stk_inv {X : Option (List IDp)} {S : List IDp} {p : IDp} (_ : X = some (S ++ [p])) : ((S ++ [p]).map prow).take (S ++ [p]).length = (S ++ [p]).map prow := List.take_of_length_le (by simp)
theorem row0 {S : List IDp} {rs : List (List D)} (h : rs.take S.length = S.map prow) (h1 : (S.length : Int) = 1) : rs[(0 : Int).toNat]? = some (prow (S.getD 0 (0, 0))) := by
  have h2 : (rs.take S.length)[0]? = (S.map prow)[0]? := by rw [h]
  rw [List.getElem?_take, if_pos (by omega), List.getElem?_map, List.getElem?_eq_getElem (by omega : 0 < S.length)] at h2
  show rs[0]? = _
  rw [h2]
  simp [List.getD, show 0 < S.length from by omega]
def zeroR (r : GRow) : Bool := decide (r.Id = 0) && (decide (r.N.Kind = 0) && (decide (r.N.N = 0) && (decide (r.N.T = []) && (decide (r.Name.Kind = 0) && (decide (r.Name.N = 0) && (decide (r.Name.T = []) && true))))))
def noneE (e : GExpr) : Bool := decide ((e.Nodes.length : Int) = 0)
def sBad0 (s : GStmt) : Bool := (!inR s.Kind 1 4 || !inR s.Table 1 3) || (!noneE s.Where && (decide (s.Kind = 2) || !exprOK s.Where))
def sBad1 (s : GStmt) : Bool := (!decide (s.Kind = 2) && !zeroR s.Row) || (decide (s.Kind = 2) && !rowOK s.Row)
def sBad3 (s : GStmt) : Bool := !inR s.Column 1 2 || !exprOK s.Set
def sBad4 (s : GStmt) : Bool := !decide (s.Column = 0) || !noneE s.Set
def sTail (s : GStmt) : Bool := bif !decide (s.Kind = 1) then decide (s.Order = 0) && !s.Down else inR s.Order 0 2
def stmtOK (s : GStmt) : Bool := bif sBad0 s then false else bif sBad1 s then false else bif decide (s.Kind = 3) then (bif sBad3 s then false else sTail s) else (bif sBad4 s then false else sTail s)
theorem inR_f {n lo hi : Int} (h : ¬ (lo ≤ n ∧ n ≤ hi)) : inR n lo hi = false := by
  cases hh : inR n lo hi with
  | false => rfl
  | true => exact absurd (inR_iff.1 hh) h
theorem stmt_bad {s : GStmt} (h : inR s.Table 1 3 = false ∨ (noneE s.Where || exprOK s.Where) = false) : stmtOK s = false := by
  have : sBad0 s = true := by
    unfold sBad0
    rcases h with h | h
    · rw [h]; simp
    · rw [Bool.or_eq_false_iff] at h; rw [h.1, h.2]; simp
  unfold stmtOK; rw [this]; rfl
section
variable {s : GStmt} (h1 : inR s.Table 1 3 = true) (h2 : (noneE s.Where || exprOK s.Where) = true)
include h1 h2
theorem stmt_1 (h : s.Kind = 1) : (((zeroR s.Row && decide (s.Column = 0)) && noneE s.Set) && inR s.Order 0 2) = stmtOK s := by
  unfold stmtOK sBad0 sBad1 sBad3 sBad4 sTail
  rw [h, h1, show inR 1 1 4 = true from rfl, show decide ((1 : Int) = 2) = false from rfl, show decide ((1 : Int) = 3) = false from rfl, show decide ((1 : Int) = 1) = true from rfl]
  cases zeroR s.Row <;> cases decide (s.Column = 0) <;> cases noneE s.Set <;> cases inR s.Order 0 2 <;> cases hw : noneE s.Where <;> cases hx : exprOK s.Where <;> simp_all
theorem stmt_2 (h : s.Kind = 2) : ((((rowOK s.Row && decide (s.Column = 0)) && noneE s.Set) && noneE s.Where) && !(!decide (s.Order = 0) || s.Down)) = stmtOK s := by
  unfold stmtOK sBad0 sBad1 sBad3 sBad4 sTail
  rw [h, h1, show inR 2 1 4 = true from rfl, show decide ((2 : Int) = 2) = true from rfl, show decide ((2 : Int) = 3) = false from rfl, show decide ((2 : Int) = 1) = false from rfl]
  cases rowOK s.Row <;> cases decide (s.Column = 0) <;> cases noneE s.Set <;> cases decide (s.Order = 0) <;> cases s.Down <;> cases hw : noneE s.Where <;> cases hx : exprOK s.Where <;> simp_all
theorem stmt_3 (h : s.Kind = 3) : (((zeroR s.Row && inR s.Column 1 2) && exprOK s.Set) && !(!decide (s.Order = 0) || s.Down)) = stmtOK s := by
  unfold stmtOK sBad0 sBad1 sBad3 sBad4 sTail
  rw [h, h1, show inR 3 1 4 = true from rfl, show decide ((3 : Int) = 2) = false from rfl, show decide ((3 : Int) = 3) = true from rfl, show decide ((3 : Int) = 1) = false from rfl]
  cases zeroR s.Row <;> cases inR s.Column 1 2 <;> cases exprOK s.Set <;> cases decide (s.Order = 0) <;> cases s.Down <;> cases hw : noneE s.Where <;> cases hx : exprOK s.Where <;> simp_all
theorem stmt_4 (h : ¬ s.Kind = 1) (h' : ¬ s.Kind = 2) (h'' : ¬ s.Kind = 3) : (((((decide (s.Kind = 4) && zeroR s.Row) && decide (s.Column = 0)) && noneE s.Set)) && !(!decide (s.Order = 0) || s.Down)) = stmtOK s := by
  unfold stmtOK sBad0 sBad1 sBad3 sBad4 sTail
  rw [h1, decide_eq_false h, decide_eq_false h', decide_eq_false h'']
  by_cases h4 : s.Kind = 4
  · rw [h4, show inR 4 1 4 = true from rfl, show decide ((4 : Int) = 4) = true from rfl]
    cases zeroR s.Row <;> cases decide (s.Column = 0) <;> cases noneE s.Set <;> cases decide (s.Order = 0) <;> cases s.Down <;> cases hw : noneE s.Where <;> cases hx : exprOK s.Where <;> simp_all
  · rw [inR_f (show ¬ (1 ≤ s.Kind ∧ s.Kind ≤ 4) from by omega), decide_eq_false h4]; rfl
end
end Go.AM

namespace Go.AM
section
variable {ns : List GExprNode} {f : Nat} {j : Nat} {out : List GIns}
/-- What a right node asks of its children. -/
theorem T_un (hj : j < ns.length) (ht : (T ns j).2.2 = true) (h : ¬ ns[j].Op = 1) (h1 : ¬ ns[j].Op = 2) : (ns[j].Op ≤ 5 → inR ns[j].Op 3 5 = true ∧ ns[j].A = (j : Int) - 1 ∧ (T ns ((j : Int) - 1)).2.2 = true ∧ (T ns j).1 = (T ns ((j : Int) - 1)).1) ∧
    (¬ ns[j].Op ≤ 5 → inR ns[j].Op 3 5 = false ∧ ns[j].B = (j : Int) - 1 ∧ (T ns ((j : Int) - 1)).2.2 = true ∧ ns[j].A = (T ns ((j : Int) - 1)).1 - 1 ∧ (T ns ns[j].A).2.2 = true ∧ (T ns j).1 = (T ns ns[j].A).1) := by
  have e := T_at hj
  rw [e] at ht ⊢
  cases h2 : inR ns[j].Op 3 5 with
  | true =>
    have := inR_iff.1 h2
    rw [nodeW_3 h h1 h2] at ht ⊢
    simp only [Bool.and_eq_true, decide_eq_true_eq] at ht
    exact ⟨fun _ => ⟨rfl, ht.1.1.1.2, ht.1.1.1.1, rfl⟩, fun hh => by omega⟩
  | false =>
    cases h3 : inR ns[j].Op 6 13 with
    | false => rw [nodeW_6 h h1 h2 h3] at ht; cases ht
    | true =>
      have := inR_iff.1 h3
      cases h4 : (T ns ((j : Int) - 1)).2.2 with
      | false => rw [nodeW_4 h h1 h2 h3 h4] at ht; cases ht
      | true =>
        rw [nodeW_5 h h1 h2 h3 h4] at ht ⊢
        simp only [Bool.and_eq_true, decide_eq_true_eq] at ht
        obtain ⟨⟨⟨⟨o1, o2⟩, o3⟩, o4⟩, o5⟩ := ht
        exact ⟨fun hh => by omega, fun _ => ⟨rfl, o3, rfl, o2, by rw [o2]; exact o1, by rw [o2]⟩⟩
theorem T_nn {i : Int} (h : (T ns i).2.2 = true) : 0 ≤ i := by
  rcases Int.lt_or_le i 0 with h1 | h1
  · rw [T_neg h1] at h; cases h
  · exact h1
theorem T_kids (hj : j < ns.length) (ht : (T ns j).2.2 = true) (h : ¬ ns[j].Op = 1) (h1 : ¬ ns[j].Op = 2) : (0 ≤ ns[j].A ∧ ns[j].A < j ∧ (T ns ns[j].A).2.2 = true ∧ (T ns j).1 = (T ns ns[j].A).1) ∧ (¬ ns[j].Op ≤ 5 → 0 ≤ ns[j].B ∧ ns[j].B < j ∧ (T ns ns[j].B).2.2 = true ∧ (T ns ns[j].B).1 = ns[j].A + 1 ∧ ns[j].B = (j : Int) - 1) := by
  obtain ⟨u, v⟩ := T_un hj ht h h1
  by_cases h2 : ns[j].Op ≤ 5
  · obtain ⟨_, u1, u2, u3⟩ := u h2
    have := T_nn u2
    rw [u1]
    exact ⟨⟨this, by omega, u2, u3⟩, fun hh => absurd h2 hh⟩
  · obtain ⟨_, v1, v2, v3, v4, v5⟩ := v h2
    have n1 := T_nn v2
    have n2 := T_nn v4
    have b := @T_b ns ((j : Int) - 1)
    rw [v1]
    exact ⟨⟨n2, by omega, v4, v5⟩, fun _ => ⟨n1, by omega, v2, by omega, rfl⟩⟩
end
theorem exprOK_T {e : GExpr} (h : exprOK e = true) : (1 ≤ e.Nodes.length ∧ e.Nodes.length ≤ 40) ∧ (T e.Nodes ((e.Nodes.length : Int) - 1)).2.2 = true ∧ (T e.Nodes ((e.Nodes.length : Int) - 1)).1 = 0 := by
  cases h0 : inR (e.Nodes.length : Int) 1 40 with
  | false => rw [exprOK_0 h0] at h; cases h
  | true =>
    have := inR_iff.1 h0
    rw [exprOK_1 h0, T_of (by omega) (by omega)] at h
    simp only [Bool.and_eq_true, decide_eq_true_eq] at h
    exact ⟨by omega, h.1.1, h.1.2⟩
theorem comp_hyps {e : GExpr} (h : exprOK e = true) : 0 ≤ (e.Nodes.length : Int) - 1 ∧ (e.Nodes.length : Int) - 1 < ((e.Nodes.length + 1 : Nat) : Int) ∧ (e.Nodes.length : Int) - 1 < e.Nodes.length ∧ (T e.Nodes ((e.Nodes.length : Int) - 1)).2.2 = true ∧ ((([] : List GIns).length : Nat) : Int) + 2 * ((e.Nodes.length : Int) - 1 - (T e.Nodes ((e.Nodes.length : Int) - 1)).1 + 1) ≤ 1000000 := by
  obtain ⟨h1, h2, h3⟩ := exprOK_T h
  exact ⟨by omega, by omega, by omega, h2, by rw [h3]; simp; omega⟩
end Go.AM

namespace Go.AM
section
variable {l : List GIns} {k : Nat} {ds ds' : List Int} {x : GIns} {b n i : Int}
end
section
variable {α : Type} {q z : α} {n k : Nat}
end
theorem dAt {ds : List Int} {k : Nat} (h : k < ds.length) : (ds.map intRow)[k]? = some (intRow (ds.getD k 0)) := by
  rw [mapAt h]; simp [List.getD_eq_getElem?_getD, h]
section
variable {n : Int} {k : Nat} {x : GIns} {ds : List Int}
end
section
variable {n b : Int} {k : Nat} {x : GIns} {ds ds' : List Int}
end
section
variable {x : GIns} {i n : Int}
end
end Go.AM

namespace Go.AM
def vI (n : Int) : GValue := ⟨1, n, []⟩
def isO (v : GValue) : Bool := decide (v.Kind = 1) && !decide (v.N = 0)
structure RV (v : GValue) : Prop where
  k : v.Kind = 0 ∨ v.Kind = 1 ∨ v.Kind = 2
  z : v.Kind = 0 → v = .zero
  n : -1000000000 ≤ v.N ∧ v.N ≤ 1000000000
  t : v.Kind = 1 → v.T = []
  l : v.T.length ≤ 1048576
theorem RV.zero : RV .zero := ⟨.inl rfl, fun _ => rfl, by decide, fun h => rfl, Nat.zero_le _⟩
theorem RV.vI {n : Int} (h : -1000000000 ≤ n ∧ n ≤ 1000000000) : RV (vI n) := ⟨.inr (.inl rfl), fun h => absurd h (show ¬ (1 : Int) = 0 from by decide), h, fun _ => rfl, Nat.zero_le _⟩
theorem RV.of {v : GValue} (h : valueOK v = true) : RV v := by
  by_cases h0 : v.Kind = 0
  · rw [valueOK_0 h0] at h
    simp only [Bool.and_eq_true, decide_eq_true_eq] at h
    have : v = .zero := GValue.eq_iff.2 ⟨h0, h.1, h.2⟩
    rw [this]; exact .zero
  · by_cases h1 : v.Kind = 1
    · rw [valueOK_1 h1] at h
      simp only [Bool.and_eq_true, decide_eq_true_eq, inR_iff] at h
      exact ⟨.inr (.inl h1), fun h => absurd h h0, h.1, fun _ => h.2, by rw [h.2]; exact Nat.zero_le _⟩
    · rw [valueOK_2 h0 h1] at h
      simp only [Bool.and_eq_true, decide_eq_true_eq] at h
      obtain ⟨⟨h2, h3⟩, h4⟩ := h
      unfold isWord at h4
      simp only [Bool.and_eq_true, decide_eq_true_eq] at h4
      refine ⟨.inr (.inr h2), fun h => absurd h h0, ?_, fun h => absurd h h1, by omega⟩
      show -1000000000 ≤ v.N ∧ v.N ≤ 1000000000
      omega
structure RR (r : GRow) : Prop where
  i : 0 ≤ r.Id ∧ r.Id ≤ 1000
  n : RV r.N
  m : RV r.Name
theorem RR.of {r : GRow} (h : rowOK r = true) : RR r := by
  unfold rowOK at h
  simp only [Bool.and_eq_true, inR_iff] at h
  exact ⟨h.1.1.1.1, .of h.1.1.1.2, .of h.1.1.2⟩
theorem nodeW_V {rec : Int → W3} {i : Int} {x : GExprNode} (h : (nodeW rec i x).2.2 = true) : RV x.V ∧ (x.Op = 2 → 0 ≤ x.Column ∧ x.Column ≤ 2) := by
  unfold nodeW at h
  have hz : ∀ {v : GValue}, zeroV v = true → RV v := fun {v} hv => by
    unfold zeroV at hv
    simp only [Bool.and_eq_true, decide_eq_true_eq, and_true] at hv
    have : v = .zero := GValue.eq_iff.2 hv
    rw [this]; exact .zero
  split at h
  · rename_i h1
    simp only [Bool.and_eq_true] at h
    exact ⟨.of h.2, fun e => by omega⟩
  · split at h
    · simp only [Bool.and_eq_true] at h
      exact ⟨hz h.2, fun _ => inR_iff.1 h.1.2⟩
    · rename_i h2
      split at h
      · simp only [Bool.and_eq_true] at h
        exact ⟨hz h.2, fun e => absurd e h2⟩
      · split at h
        · split at h
          · cases h
          · simp only [Bool.and_eq_true] at h
            exact ⟨hz h.2, fun e => absurd e h2⟩
        · cases h
theorem T_V {ns : List GExprNode} {j : Nat} (hj : j < ns.length) (ht : (T ns (j : Int)).2.2 = true) : RV ns[j].V ∧ (ns[j].Op = 2 → 0 ≤ ns[j].Column ∧ ns[j].Column ≤ 2) := by
  rw [T_at hj] at ht
  exact nodeW_V ht
section
variable {ns : List GExprNode} {r : GRow} {f : Nat} {j : Nat}
end
section
variable {op a b n : Int}
end
end Go.AM

namespace Go.AM
section
variable {ns : List GExprNode} {f : Nat} {j : Nat} {b : Nat}
end
/-- A piece of code stands at a place. -/
def Seg (l : List GIns) (b : Nat) (c : List GIns) : Prop := ∃ pre post, l = pre ++ c ++ post ∧ pre.length = b
section
variable {l c c1 c2 : List GIns} {b : Nat} {x : GIns}
theorem Seg.app (h : Seg l b (c1 ++ c2)) : Seg l b c1 ∧ Seg l (b + c1.length) c2 := by
  obtain ⟨pre, post, e, hb⟩ := h
  exact ⟨⟨pre, c2 ++ post, by rw [e]; simp, hb⟩, ⟨pre ++ c1, post, by rw [e]; simp, by rw [List.length_append, hb]⟩⟩
theorem Seg.cons (h : Seg l b (x :: c)) : Seg l b [x] ∧ Seg l (b + 1) c := by
  have := Seg.app (c1 := [x]) (c2 := c) h
  simpa using this
theorem Seg.at (h : Seg l b [x]) : ∃ hb : b < l.length, l[b] = x := by
  obtain ⟨pre, post, e, hb⟩ := h
  have h2 : b < l.length := by rw [e, ← hb]; simp
  refine ⟨h2, ?_⟩
  have : l[b]? = some x := by rw [e, List.append_assoc, List.getElem?_append_right (by omega), hb, Nat.sub_self]; rfl
  rw [List.getElem?_eq_getElem h2] at this
  exact Option.some.inj this
theorem Seg.le (h : Seg l b c) : b + c.length ≤ l.length := by
  obtain ⟨pre, post, e, hb⟩ := h
  rw [e, ← hb]; simp
end
end Go.AM

namespace Go.AM
section
variable {l : List GIns} {ds : List Int} {k t : Nat} {x : GIns} {d b : Int}
end
section
variable {ns : List GExprNode} {j : Nat}
theorem T_1 (hj : j < ns.length) (ht : (T ns j).2.2 = true) (h : ns[j].Op = 1) : valueOK ns[j].V = true := by
  rw [T_at hj, nodeW_1 h] at ht
  simp only [Bool.and_eq_true] at ht
  exact ht.2
theorem T_op (hj : j < ns.length) (ht : (T ns j).2.2 = true) (h : ¬ ns[j].Op = 1) (h1 : ¬ ns[j].Op = 2) (h2 : ¬ ns[j].Op ≤ 5) : 6 ≤ ns[j].Op ∧ ns[j].Op ≤ 13 := by
  rw [T_at hj] at ht
  cases h3 : inR ns[j].Op 3 5 with
  | true => have := inR_iff.1 h3; omega
  | false =>
    cases h4 : inR ns[j].Op 6 13 with
    | true => exact inR_iff.1 h4
    | false => rw [nodeW_6 h h1 h3 h4] at ht; cases ht
end
end Go.AM

namespace Go.AM
def pickF (s : Src) (ts : List Str) : Str × Src := (ts.getD (nextF s ts.length).1.toNat [], (nextF s ts.length).2)
theorem pickF_ok {s : Src} {ts : List Str} {n : Nat} (h : s.ok (n + 3)) (ht : 1 ≤ ts.length) : (pickF s ts).2.ok n ∧ (pickF s ts).1 ∈ ts := by
  obtain ⟨h1, h2, h3⟩ := nextF_ok (n := ts.length) (k := n) h
  have h3 := h3 (by omega)
  refine ⟨h1, ?_⟩
  have hk : (nextF s ts.length).1.toNat < ts.length := by omega
  have : (pickF s ts).1 = ts[(nextF s ts.length).1.toNat] := by unfold pickF; simp [List.getD_eq_getElem?_getD, hk]
  rw [this]; exact List.getElem_mem hk
theorem strAt {ts : List Str} {k : Nat} (h : k < ts.length) : (ts.map strRow)[k]? = some (strRow (ts.getD k [])) := by
  rw [mapAt h]; simp [List.getD_eq_getElem?_getD, h]
def vTexts : List Str := [[], [97], [97, 98], [97, 98, 99], [98], [122, 122]]
def nTexts : List Str := [[97], [98], [110, 97, 109, 101]]
def vNums (s : Src) : List Int := [(nextF s 20).1 - 5, (nextF (nextF s 20).2 20).1, 1000000000, -1000000000]
def vSrc (s : Src) : Src := (nextF (nextF s 20).2 20).2
def valueF (s : Src) : GValue × Src :=
  if (nextF s 4).1 = 0 then (.zero, (nextF s 4).2)
  else if (nextF s 4).1 = 1 then (⟨2, 0, (pickF (nextF s 4).2 vTexts).1⟩, (pickF (nextF s 4).2 vTexts).2)
  else (vI ((vNums (nextF s 4).2).getD ((nextF (vSrc (nextF s 4).2) 8).1 / 2).toNat 0), (nextF (vSrc (nextF s 4).2) 8).2)
theorem vNums_ok {s : Src} {n : Nat} (h : s.ok (n + 9)) : (vSrc s).ok (n + 3) ∧ ∀ k, k < 4 → -1000000000 ≤ (vNums s).getD k 0 ∧ (vNums s).getD k 0 ≤ 1000000000 := by
  obtain ⟨h1, h2, h3⟩ := nextF_ok (n := 20) (k := n + 6) (h.mono (by omega))
  obtain ⟨h4, h5, h6⟩ := nextF_ok (n := 20) (k := n + 3) (h1.mono (by omega))
  have h3 := h3 (by omega)
  have h6 := h6 (by omega)
  refine ⟨h4, fun k hk => ?_⟩
  unfold vNums
  match k, hk with
  | 0, _ => show -1000000000 ≤ (nextF s 20).1 - 5 ∧ (nextF s 20).1 - 5 ≤ 1000000000; omega
  | 1, _ => show -1000000000 ≤ (nextF (nextF s 20).2 20).1 ∧ (nextF (nextF s 20).2 20).1 ≤ 1000000000; omega
  | 2, _ => show (-1000000000 : Int) ≤ 1000000000 ∧ (1000000000 : Int) ≤ 1000000000; omega
  | 3, _ => show (-1000000000 : Int) ≤ -1000000000 ∧ (-1000000000 : Int) ≤ 1000000000; omega
theorem vTexts_ok {t : Str} (h : t ∈ vTexts) : isWord t = true := by
  have : ∀ t ∈ vTexts, isWord t = true := by decide
  exact this t h
theorem nTexts_ok {t : Str} (h : t ∈ nTexts) : isWord t = true := by
  have : ∀ t ∈ nTexts, isWord t = true := by decide
  exact this t h
theorem vOK_text {t : Str} (h : isWord t = true) : valueOK ⟨2, 0, t⟩ = true := by
  rw [valueOK_2 (show ¬ (2 : Int) = 0 from by decide) (show ¬ (2 : Int) = 1 from by decide)]
  show (decide ((2 : Int) = 2) && decide ((0 : Int) = 0) && isWord t) = true
  rw [h]; rfl
theorem vOK_int {n : Int} (h : -1000000000 ≤ n ∧ n ≤ 1000000000) : valueOK (vI n) = true := by
  rw [valueOK_1 (v := vI n) rfl]
  show (inR n (-1000000000) 1000000000 && decide (([] : Str) = [])) = true
  rw [inR_iff.2 h]; rfl
theorem valueF_ok {s : Src} {n : Nat} (h : s.ok (n + 12)) : (valueF s).2.ok n ∧ valueOK (valueF s).1 = true := by
  obtain ⟨h1, h2, h3⟩ := nextF_ok (n := 4) (k := n + 9) (h.mono (by omega))
  unfold valueF
  split
  · exact ⟨h1.mono (by omega), rfl⟩
  · split
    · obtain ⟨h4, h5⟩ := pickF_ok (ts := vTexts) (n := n) (h1.mono (by omega)) (by decide)
      exact ⟨h4, vOK_text (vTexts_ok h5)⟩
    · obtain ⟨h4, h5⟩ := vNums_ok (n := n) h1
      obtain ⟨h6, h7, h8⟩ := nextF_ok (n := 8) (k := n) h4
      have h8 := h8 (by omega)
      exact ⟨h6, vOK_int (h5 _ (by omega))⟩
def rowN (v : GValue) (s : Src) : GValue × Src := if v.Kind = 2 then (vI (nextF s 9).1, (nextF s 9).2) else (v, s)
def rowM (v : GValue) (s : Src) : GValue × Src := if v.Kind = 1 then (⟨2, 0, (pickF s nTexts).1⟩, (pickF s nTexts).2) else (v, s)
def rowS0 (s : Src) : Src := (valueF (valueF (nextF s 6).2).2).2
def rowS1 (s : Src) : Src := (rowN (valueF (nextF s 6).2).1 (rowS0 s)).2
def rowF (s : Src) : GRow × Src :=
  (⟨(nextF s 6).1, (rowN (valueF (nextF s 6).2).1 (rowS0 s)).1, (rowM (valueF (valueF (nextF s 6).2).2).1 (rowS1 s)).1⟩, (rowM (valueF (valueF (nextF s 6).2).2).1 (rowS1 s)).2)
theorem rowN_ok {v : GValue} {s : Src} {n : Nat} (hv : valueOK v = true) (h : s.ok (n + 3)) : (rowN v s).2.ok n ∧ valueOK (rowN v s).1 = true ∧ ¬ (rowN v s).1.Kind = 2 := by
  unfold rowN
  split
  · obtain ⟨h1, h2, h3⟩ := nextF_ok (n := 9) (k := n) h
    have h3 := h3 (by omega)
    exact ⟨h1, vOK_int (by omega), by show ¬ (1 : Int) = 2; decide⟩
  · rename_i hk; exact ⟨h.mono (by omega), hv, hk⟩
theorem rowM_ok {v : GValue} {s : Src} {n : Nat} (hv : valueOK v = true) (h : s.ok (n + 3)) : (rowM v s).2.ok n ∧ valueOK (rowM v s).1 = true ∧ ¬ (rowM v s).1.Kind = 1 := by
  unfold rowM
  split
  · obtain ⟨h1, h2⟩ := pickF_ok (ts := nTexts) (n := n) h (by decide)
    exact ⟨h1, vOK_text (nTexts_ok h2), by show ¬ (2 : Int) = 1; decide⟩
  · rename_i hk; exact ⟨h.mono (by omega), hv, hk⟩
theorem rowF_ok {s : Src} {n : Nat} (h : s.ok (n + 33)) : (rowF s).2.ok n ∧ rowOK (rowF s).1 = true := by
  obtain ⟨h1, h2, h3⟩ := nextF_ok (n := 6) (k := n + 30) (h.mono (by omega))
  have h3 := h3 (by omega)
  obtain ⟨h4, h5⟩ := valueF_ok (n := n + 18) h1
  obtain ⟨h6, h7⟩ := valueF_ok (n := n + 6) h4
  obtain ⟨h8, h9, h10⟩ := rowN_ok (s := rowS0 s) (n := n + 3) h5 h6
  obtain ⟨h11, h12, h13⟩ := rowM_ok (s := rowS1 s) (n := n) h7 h8
  refine ⟨h11, ?_⟩
  unfold rowF rowOK
  dsimp only
  rw [inR_iff.2 (by omega : 0 ≤ (nextF s 6).1 ∧ (nextF s 6).1 ≤ 1000), h9, h12, decide_eq_false h10, decide_eq_false h13]; rfl
def leafF (s : Src) (out : List GExprNode) : List GExprNode × Src :=
  if (chanceF s 2).1 = true then (out ++ [⟨2, 0, 0, (nextF (chanceF s 2).2 3).1, .zero⟩], (nextF (chanceF s 2).2 3).2)
  else (out ++ [⟨1, 0, 0, 0, (valueF (chanceF s 2).2).1⟩], (valueF (chanceF s 2).2).2)
theorem leafF_1 {s : Src} {out : List GExprNode} (h : (chanceF s 2).1 = true) : leafF s out = (out ++ [⟨2, 0, 0, (nextF (chanceF s 2).2 3).1, .zero⟩], (nextF (chanceF s 2).2 3).2) := by unfold leafF; rw [if_pos h]
theorem leafF_2 {s : Src} {out : List GExprNode} (h : (chanceF s 2).1 = false) : leafF s out = (out ++ [⟨1, 0, 0, 0, (valueF (chanceF s 2).2).1⟩], (valueF (chanceF s 2).2).2) := by unfold leafF; rw [if_neg (by rw [h]; simp)]
def uS (s : Src) : Src := (chanceF (chanceF s 3).2 4).2
def unE (p : List GExprNode × Src) : List GExprNode × Src := (p.1 ++ [⟨3 + (nextF p.2 3).1, (p.1.length : Int) - 1, 0, 0, .zero⟩], (nextF p.2 3).2)
def biE (a : Int) (p : List GExprNode × Src) : List GExprNode × Src := (p.1 ++ [⟨6 + (nextF p.2 8).1, a, (p.1.length : Int) - 1, 0, .zero⟩], (nextF p.2 8).2)
def nodeF : Nat → Src → List GExprNode → List GExprNode × Src
  | 0, s, out => leafF s out
  | d + 1, s, out => if (chanceF s 3).1 = true then leafF (chanceF s 3).2 out
    else if (chanceF (chanceF s 3).2 4).1 = true then unE (nodeF d (uS s) out)
    else biE (((nodeF d (uS s) out).1.length : Int) - 1) (nodeF d (nodeF d (uS s) out).2 (nodeF d (uS s) out).1)
section
variable {s : Src} {out : List GExprNode} {d n : Nat}
theorem nodeF_0 (h : d = 0) : nodeF d s out = leafF s out := by subst h; rfl
theorem nodeF_1 (h : ¬ d = 0) (h1 : (chanceF s 3).1 = true) : nodeF d s out = leafF (chanceF s 3).2 out := by
  obtain ⟨k, rfl⟩ : ∃ k, d = k + 1 := ⟨d - 1, by omega⟩
  rw [nodeF, if_pos h1]
theorem nodeF_2 (h1 : (chanceF s 3).1 = false) (h2 : (chanceF (chanceF s 3).2 4).1 = true) : nodeF (d + 1) s out = unE (nodeF d (uS s) out) := by
  rw [nodeF, if_neg (by rw [h1]; simp), if_pos h2]
theorem nodeF_3 (h1 : (chanceF s 3).1 = false) (h2 : (chanceF (chanceF s 3).2 4).1 = false) : nodeF (d + 1) s out = biE (((nodeF d (uS s) out).1.length : Int) - 1) (nodeF d (nodeF d (uS s) out).2 (nodeF d (uS s) out).1) := by
  rw [nodeF, if_neg (by rw [h1]; simp), if_neg (by rw [h2]; simp)]
end
def bud : Nat → Nat
  | 0 => 21
  | d + 1 => 2 * bud d + 9
def szB : Nat → Nat
  | 0 => 1
  | d + 1 => 2 * szB d + 1
theorem bud_le (d : Nat) : 21 ≤ bud d := by induction d with | zero => exact Nat.le_refl _ | succ d ih => rw [bud]; omega
theorem szB_le (d : Nat) : 1 ≤ szB d := by induction d with | zero => exact Nat.le_refl _ | succ d ih => rw [szB]; omega
theorem chanceF_ok {s : Src} {m : Int} {n : Nat} (h : s.ok (n + 3)) : (chanceF s m).2.ok n := (nextF_ok (n := m) (k := n) h).1
theorem leafF_ok {s : Src} {out : List GExprNode} {n : Nat} (h : s.ok (n + 15)) : (leafF s out).2.ok n ∧ (leafF s out).1.length = out.length + 1 := by
  have h1 := chanceF_ok (m := 2) (n := n + 12) (h.mono (by omega))
  unfold leafF
  split
  · exact ⟨(nextF_ok (n := 3) (k := n) (h1.mono (by omega))).1, by simp⟩
  · exact ⟨(valueF_ok (n := n) h1).1, by simp⟩
theorem nodeF_ok : ∀ {d : Nat} {s : Src} {out : List GExprNode} {n : Nat}, s.ok (n + bud d) → (nodeF d s out).2.ok n ∧ out.length + 1 ≤ (nodeF d s out).1.length ∧ (nodeF d s out).1.length ≤ out.length + szB d
  | 0, s, out, n, h => by
    have := leafF_ok (out := out) (n := n) (h.mono (by rw [bud]; omega))
    refine ⟨this.1, ?_, ?_⟩
    · rw [nodeF]; omega
    · rw [nodeF, szB]; omega
  | d + 1, s, out, n, h => by
    have hb := bud_le d
    have hz := szB_le d
    rw [bud] at h
    have h1 := chanceF_ok (m := 3) (n := n + (2 * bud d + 6)) (h.mono (by omega))
    have h2 := chanceF_ok (m := 4) (n := n + (2 * bud d + 3)) (h1.mono (by omega))
    rw [szB]
    cases c1 : (chanceF s 3).1 with
    | true =>
      rw [nodeF, if_pos c1]
      have := leafF_ok (out := out) (n := n) (h1.mono (by omega))
      exact ⟨this.1, by omega, by omega⟩
    | false =>
      obtain ⟨a1, a2, a3⟩ := nodeF_ok (d := d) (s := uS s) (out := out) (n := n + (bud d + 3)) (h2.mono (by omega))
      cases c2 : (chanceF (chanceF s 3).2 4).1 with
      | true =>
        rw [nodeF_2 c1 c2]
        unfold unE
        refine ⟨(nextF_ok (n := 3) (k := n) (a1.mono (by omega))).1, ?_, ?_⟩
        · simp only [List.length_append, List.length_cons, List.length_nil]; omega
        · simp only [List.length_append, List.length_cons, List.length_nil]; omega
      | false =>
        rw [nodeF_3 c1 c2]
        obtain ⟨b1, b2, b3⟩ := nodeF_ok (d := d) (s := (nodeF d (uS s) out).2) (out := (nodeF d (uS s) out).1) (n := n + 3) (a1.mono (by omega))
        unfold biE
        refine ⟨(nextF_ok (n := 8) (k := n) b1).1, ?_, ?_⟩
        · simp only [List.length_append, List.length_cons, List.length_nil]; omega
        · simp only [List.length_append, List.length_cons, List.length_nil]; omega
theorem walkF_app {xs ys : List GExprNode} : ∀ {f : Nat} {i : Int}, i < xs.length → walkF (xs ++ ys) f i = walkF xs f i
  | 0, i, _ => rfl
  | f + 1, i, h => by
    rw [walkF, walkF]
    split
    · rfl
    · rename_i h0
      have e : (xs ++ ys)[i.toNat]? = xs[i.toNat]? := List.getElem?_append_left (by omega)
      rw [e]
      cases hx : xs[i.toNat]? with
      | none => rfl
      | some x =>
        dsimp only
        refine nodeW_congr (fun k hk => walkF_app (by omega)) (walkF_b (ns := xs ++ ys)).2.1 (by omega)
theorem T_app {xs ys : List GExprNode} {i : Int} (h : i < xs.length) : T (xs ++ ys) i = T xs i := walkF_app h
/-- The last node of a list heads a right part, from a place on, so deep at most. -/
def Wf (ns : List GExprNode) (a : Nat) (d : Nat) : Prop := ∃ dep : Int, 1 ≤ dep ∧ dep ≤ d ∧ T ns ((ns.length : Int) - 1) = ((a : Int), dep, true) ∧ a < ns.length
theorem last_at {ns : List GExprNode} {x : GExprNode} : T (ns ++ [x]) (((ns ++ [x]).length : Int) - 1) = nodeW (T (ns ++ [x])) (ns.length : Int) x := by
  have hj : ns.length < (ns ++ [x]).length := by simp
  rw [show (((ns ++ [x]).length : Int) - 1) = (ns.length : Int) from by simp, T_at hj]
  simp
theorem Wf.const {out : List GExprNode} {v : GValue} (hv : valueOK v = true) : Wf (out ++ [⟨1, 0, 0, 0, v⟩]) out.length 1 := by
  refine ⟨1, by omega, by omega, ?_, by simp⟩
  rw [last_at, nodeW_1 rfl]
  show ((out.length : Int), (1 : Int), ((decide ((0 : Int) = 0) && decide ((0 : Int) = 0)) && decide ((0 : Int) = 0)) && valueOK v) = _
  rw [hv]; rfl
theorem Wf.col {out : List GExprNode} {c : Int} (hc : 0 ≤ c ∧ c ≤ 2) : Wf (out ++ [⟨2, 0, 0, c, .zero⟩]) out.length 1 := by
  refine ⟨1, by omega, by omega, ?_, by simp⟩
  rw [last_at, nodeW_2 (show ¬ (2 : Int) = 1 from by decide) rfl]
  show ((out.length : Int), (1 : Int), ((decide ((0 : Int) = 0) && decide ((0 : Int) = 0)) && inR c 0 2) && zeroV .zero) = _
  rw [inR_iff.2 hc]; rfl
theorem Wf.un {ns : List GExprNode} {a d : Nat} {op : Int} (h : Wf ns a d) (ho : 3 ≤ op ∧ op ≤ 5) : Wf (ns ++ [⟨op, (ns.length : Int) - 1, 0, 0, .zero⟩]) a (d + 1) := by
  obtain ⟨dep, h1, h2, h3, h4⟩ := h
  refine ⟨dep + 1, by omega, by omega, ?_, by simp; omega⟩
  rw [last_at, nodeW_3 (show ¬ op = 1 from by omega) (show ¬ op = 2 from by omega) (inR_iff.2 ho), T_app (by omega), h3]
  show ((a : Int), dep + 1, (((true && decide ((ns.length : Int) - 1 = (ns.length : Int) - 1)) && decide ((0 : Int) = 0)) && decide ((0 : Int) = 0)) && zeroV .zero) = _
  rw [decide_eq_true rfl]; rfl
theorem Wf.bin {ns ms : List GExprNode} {a d : Nat} {op : Int} (h : Wf ns a d) (hm : Wf ms ns.length d) (hp : ∃ e, ms = ns ++ e) (ho : 6 ≤ op ∧ op ≤ 13) : Wf (ms ++ [⟨op, (ns.length : Int) - 1, (ms.length : Int) - 1, 0, .zero⟩]) a (d + 1) := by
  obtain ⟨dep, h1, h2, h3, h4⟩ := h
  obtain ⟨dm, g1, g2, g3, g4⟩ := hm
  obtain ⟨e, rfl⟩ := hp
  have hr : inR op 3 5 = false := by
    cases hh : inR op 3 5 with
    | false => rfl
    | true => have := inR_iff.1 hh; omega
  have hmx := mxI_b (n := (d : Int)) (a := dep) (b := dm) ⟨by omega, h2⟩ ⟨by omega, g2⟩
  have hmx1 : 1 ≤ mxI dep dm := by unfold mxI; split <;> omega
  refine ⟨mxI dep dm + 1, by omega, by omega, ?_, by simp; omega⟩
  have e1 : T (ns ++ e ++ [⟨op, (ns.length : Int) - 1, ((ns ++ e).length : Int) - 1, 0, .zero⟩]) (((ns ++ e).length : Int) - 1) = (((ns.length : Nat) : Int), dm, true) := by rw [T_app (by omega)]; exact g3
  rw [last_at, nodeW_5 (show ¬ op = 1 from by omega) (show ¬ op = 2 from by omega) hr (inR_iff.2 ho) (by rw [e1]), e1]
  dsimp only
  have e2 : T (ns ++ e ++ [⟨op, (ns.length : Int) - 1, ((ns ++ e).length : Int) - 1, 0, .zero⟩]) ((ns.length : Int) - 1) = ((a : Int), dep, true) := by
    rw [List.append_assoc, T_app (by omega)]; exact h3
  rw [e2]
  dsimp only
  rw [decide_eq_true rfl, decide_eq_true rfl]; rfl
theorem nodeF_pre : ∀ {d : Nat} {s : Src} {out : List GExprNode}, ∃ e, (nodeF d s out).1 = out ++ e
  | 0, s, out => by rw [nodeF]; unfold leafF; split <;> exact ⟨_, rfl⟩
  | d + 1, s, out => by
    obtain ⟨e, he⟩ := nodeF_pre (d := d) (s := uS s) (out := out)
    obtain ⟨e2, he2⟩ := nodeF_pre (d := d) (s := (nodeF d (uS s) out).2) (out := (nodeF d (uS s) out).1)
    rw [nodeF]
    split
    · unfold leafF; split <;> exact ⟨_, rfl⟩
    · split
      · unfold unE; exact ⟨e ++ [_], by dsimp only; rw [he, List.append_assoc]⟩
      · unfold biE; exact ⟨e ++ (e2 ++ [_]), by dsimp only; rw [he2, he, List.append_assoc, List.append_assoc]⟩
theorem leafF_wf {s : Src} {out : List GExprNode} (h : s.ok 15) : Wf (leafF s out).1 out.length 1 := by
  have h1 := chanceF_ok (m := 2) (n := 12) h
  unfold leafF
  split
  · obtain ⟨a, b, c⟩ := nextF_ok (n := 3) (k := 9) h1
    have c := c (by omega)
    exact .col (by omega)
  · exact .const (valueF_ok (n := 0) h1).2
theorem Wf.mono {ns : List GExprNode} {a d d' : Nat} (h : Wf ns a d) (hd : d ≤ d') : Wf ns a d' := by
  obtain ⟨dep, h1, h2, h3, h4⟩ := h
  exact ⟨dep, h1, by omega, h3, h4⟩
theorem nodeF_wf : ∀ {d : Nat} {s : Src} {out : List GExprNode}, s.ok (bud d) → Wf (nodeF d s out).1 out.length (d + 1)
  | 0, s, out, h => leafF_wf (h.mono (by rw [bud]; omega))
  | d + 1, s, out, h => by
    have hb := bud_le d
    rw [bud] at h
    have h1 := chanceF_ok (m := 3) (n := 2 * bud d + 6) h
    have h2 := chanceF_ok (m := 4) (n := 2 * bud d + 3) h1
    cases c1 : (chanceF s 3).1 with
    | true => rw [nodeF, if_pos c1]; exact (leafF_wf (h1.mono (by omega))).mono (by omega)
    | false =>
      obtain ⟨a1, a2, a3⟩ := nodeF_ok (d := d) (s := uS s) (out := out) (n := bud d + 3) (h2.mono (by omega))
      have w1 := nodeF_wf (d := d) (s := uS s) (out := out) (h2.mono (by omega))
      cases c2 : (chanceF (chanceF s 3).2 4).1 with
      | true =>
        rw [nodeF_2 c1 c2]
        obtain ⟨x1, x2, x3⟩ := nextF_ok (s := (nodeF d (uS s) out).2) (n := 3) (k := bud d) a1
        have x3 := x3 (by omega)
        exact w1.un (by omega)
      | false =>
        rw [nodeF_3 c1 c2]
        obtain ⟨b1, b2, b3⟩ := nodeF_ok (d := d) (s := (nodeF d (uS s) out).2) (out := (nodeF d (uS s) out).1) (n := 3) (a1.mono (by omega))
        have w2 := nodeF_wf (d := d) (s := (nodeF d (uS s) out).2) (out := (nodeF d (uS s) out).1) (a1.mono (by omega))
        obtain ⟨x1, x2, x3⟩ := nextF_ok (s := (nodeF d (nodeF d (uS s) out).2 (nodeF d (uS s) out).1).2) (n := 8) (k := 0) b1
        have x3 := x3 (by omega)
        exact w1.bin w2 nodeF_pre (by omega)
def exD (s : Src) : Nat := (1 + (nextF s 4).1).toNat
def exprG (s : Src) : List GExprNode × Src := nodeF (exD s) (nextF s 4).2 []
theorem exD_ok {s : Src} {n : Nat} (h : s.ok (n + 3)) : (nextF s 4).2.ok n ∧ ((exD s : Nat) : Int) = 1 + (nextF s 4).1 ∧ 1 ≤ exD s ∧ exD s ≤ 4 := by
  obtain ⟨a, b, c⟩ := nextF_ok (n := 4) (k := n) h
  have c := c (by omega)
  unfold exD
  exact ⟨a, by omega, by omega, by omega⟩
theorem bud4 {d : Nat} (h : d ≤ 4) : bud d ≤ 471 ∧ szB d ≤ 31 := by
  have : ∀ d, d < 5 → bud d ≤ 471 ∧ szB d ≤ 31 := by decide
  exact this d (by omega)
theorem exprG_ok {s : Src} (h : s.ok 1000) : exprOK ⟨(exprG s).1⟩ = true := by
  obtain ⟨h1, h2, h3, h4⟩ := exD_ok (n := 997) h
  have hb := bud4 h4
  obtain ⟨dep, w1, w2, w3, w4⟩ := nodeF_wf (d := exD s) (s := (nextF s 4).2) (out := []) (h1.mono (by omega))
  obtain ⟨a1, a2, a3⟩ := nodeF_ok (d := exD s) (s := (nextF s 4).2) (out := []) (n := 0) (h1.mono (by omega))
  have hn : (exprG s).1 = (nodeF (exD s) (nextF s 4).2 []).1 := rfl
  rw [← hn] at w3 w4 a2 a3
  generalize (exprG s).1 = ns at *
  simp only [List.length_nil] at a2 a3 w3
  rw [exprOK_1 (inR_iff.2 (by dsimp only; omega))]
  dsimp only
  rw [T_of (show ((ns.length : Int) - 1) + 1 < ((ns.length + 1 : Nat) : Int) from by omega) (by omega), w3]
  dsimp only
  rw [decide_eq_true (show dep ≤ 12 from by omega)]; rfl
theorem expr_ok_sz {e : GExpr} (h : exprOK e = true) : e.Nodes.length ≤ 1048576 ∧ ∀ x ∈ e.Nodes, x.V.T.length ≤ 1048576 := by
  obtain ⟨h1, h2, h3⟩ := exprOK_T h
  refine ⟨by omega, fun x hx => ?_⟩
  obtain ⟨k, hk, rfl⟩ := List.mem_iff_getElem.1 hx
  have ht := T_span (ns := e.Nodes) e.Nodes.length (e.Nodes.length - 1) (by omega) (by omega) (by rw [show ((e.Nodes.length - 1 : Nat) : Int) = (e.Nodes.length : Int) - 1 from by omega]; exact h2) k (by
    rw [show ((e.Nodes.length - 1 : Nat) : Int) = (e.Nodes.length : Int) - 1 from by omega, h3]; omega) (by omega)
  exact (T_V hk ht).1.l
end Go.AM

namespace Go.AM
section
variable {α : Type}
variable {lt : α → α → Bool} {x : α} {l : List α}
end
/-- Drawn rows. -/
structure RG (l : List GRow) (m : Int) : Prop where
  ln : (l.length : Int) ≤ m
  ok : ∀ r ∈ l, rowOK r = true
  up : ∀ i (h : i + 1 < l.length), l[i].Id < l[i + 1].Id
  id : ∀ r ∈ l, r.Id < m
theorem RG.app {l : List GRow} {m : Int} {r : GRow} (h : RG l m) (hr : rowOK r = true) (he : r.Id = m) : RG (l ++ [r]) (m + 1) := ⟨by simp; have := h.ln; omega, fun x hx => by
    rcases List.mem_append.1 hx with q | q
    · exact h.ok x q
    · rw [List.mem_singleton] at q; subst q; exact hr, fun i hi => by
    rw [List.length_append, List.length_singleton] at hi
    rcases Nat.lt_or_ge (i + 1) l.length with q | q
    · rw [List.getElem_append_left (by omega), List.getElem_append_left (by omega)]; exact h.up i q
    · have : i + 1 = l.length := by omega
      rw [List.getElem_append_left (by omega), List.getElem_append_right (by omega)]
      simp only [this, Nat.sub_self, List.getElem_singleton]
      have := h.id _ (List.getElem_mem (show i < l.length by omega)); omega, fun x hx => by
    rcases List.mem_append.1 hx with q | q
    · have := h.id x q; omega
    · rw [List.mem_singleton] at q; subst q; omega⟩
theorem RG.more {l : List GRow} {m : Int} (h : RG l m) : RG l (m + 1) := ⟨by have := h.ln; omega, h.ok, h.up, fun r hr => by have := h.id r hr; omega⟩
theorem RG.nil : RG [] 0 := ⟨by simp, fun _ h => (by cases h), fun i h => (by simp at h), fun _ h => (by cases h)⟩
end Go.AM

set_option linter.unusedVariables false
namespace Go.AM
structure GC {α : Type} (c : α → α → Int) : Prop where
  anti : ∀ a b, c a b = - c b a
  le : ∀ a b d, c a b ≤ 0 → c b d ≤ 0 → c a d ≤ 0
theorem GC.lt {α : Type} {c : α → α → Int} (h : GC c) {a b d : α} (h1 : c a b < 0) (h2 : c b d ≤ 0) : c a d < 0 := by
  rcases Int.lt_or_le (c a d) 0 with q | q
  · exact q
  · have h3 := h.anti a d
    have h4 := h.le b d a h2 (by omega)
    have h5 := h.anti a b
    omega
theorem GC.lt' {α : Type} {c : α → α → Int} (h : GC c) {a b d : α} (h1 : c a b ≤ 0) (h2 : c b d < 0) : c a d < 0 := by
  rcases Int.lt_or_le (c a d) 0 with q | q
  · exact q
  · have h3 := h.anti a d
    have h4 := h.le d a b (by omega) h1
    have h5 := h.anti b d
    omega
theorem GC.lex {α : Type} {c1 c2 : α → α → Int} (h1 : GC c1) (h2 : GC c2) : GC (fun a b => if c1 a b ≠ 0 then c1 a b else c2 a b) where
  anti := fun a b => by
    have e := h1.anti a b
    show (if c1 a b ≠ 0 then c1 a b else c2 a b) = - (if c1 b a ≠ 0 then c1 b a else c2 b a)
    split
    · rw [if_pos (by omega)]; exact e
    · rw [if_neg (by omega)]; exact h2.anti a b
  le := fun a b d p q => by
    revert p q
    show (if c1 a b ≠ 0 then c1 a b else c2 a b) ≤ 0 → (if c1 b d ≠ 0 then c1 b d else c2 b d) ≤ 0 → (if c1 a d ≠ 0 then c1 a d else c2 a d) ≤ 0
    intro p q
    split at p
    · split at q
      · have := h1.lt (a := a) (b := b) (d := d) (by omega) (by omega)
        rw [if_pos (by omega)]; omega
      · have := h1.lt (a := a) (b := b) (d := d) (by omega) (by omega)
        rw [if_pos (by omega)]; omega
    · split at q
      · have := h1.lt' (a := a) (b := b) (d := d) (by omega) (by omega)
        rw [if_pos (by omega)]; omega
      · have g1 := h1.le a b d (by omega) (by omega)
        have g2 := h1.le d b a (by have := h1.anti d b; omega) (by have := h1.anti b a; omega)
        have g3 := h1.anti a d
        rw [if_neg (by omega)]
        exact h2.le a b d p q
theorem GC.map {α β : Type} {c : α → α → Int} (f : β → α) (h : GC c) : GC (fun a b => c (f a) (f b)) := ⟨fun a b => h.anti _ _, fun a b d => h.le _ _ _⟩
def goodK (l : List GRow) (k : Nat) : Prop := ∀ i, i < k → rowOK (l.getD i .zero) = true ∧ (0 < i → (l.getD (i - 1) .zero).Id < (l.getD i .zero).Id)
instance {l : List GRow} {k : Nat} : Decidable (goodK l k) := by unfold goodK; exact inferInstance
end Go.AM

namespace Go.AM
/-- How deep the reference's digits go. -/
def dgM (f : Nat) (n : Int) : Prop := 0 < f ∧ f ≤ 18 ∧ (0 ≤ n → n < 10 ^ f) ∧ (n < 0 → 1 < f ∧ -n < 10 ^ (f - 1))
theorem p10_le {f : Nat} (h : f ≤ 18) : (10 : Int) ^ f ≤ 1000000000000000000 := by
  have h1 : (10 : Nat) ^ f ≤ 10 ^ 18 := Nat.pow_le_pow_right (by decide) h
  have h2 : ((10 : Int) ^ f) = ((10 ^ f : Nat) : Int) := by simp
  rw [h2]; omega
theorem dgM_b {f : Nat} {n : Int} (h : dgM f n) : -1000000000000000000 < n ∧ n < 1000000000000000000 := by
  obtain ⟨h1, h2, h3, h4⟩ := h
  have a := p10_le h2
  have b := p10_le (show f - 1 ≤ 18 by omega)
  by_cases hn : 0 ≤ n
  · have := h3 hn; omega
  · have := (h4 (by omega)).2; omega
theorem dgM_neg {f : Nat} {n : Int} (h : dgM (f + 1) n) (hn : n < 0) : dgM f (-n) := by
  obtain ⟨h1, h2, h3, h4⟩ := h
  obtain ⟨h5, h6⟩ := h4 hn
  exact ⟨by omega, by omega, fun _ => h6, fun q => by omega⟩
theorem dgM_div {f : Nat} {n : Int} (h : dgM (f + 1) n) (hn : ¬ n < 10) : dgM f (n / 10) := by
  obtain ⟨h1, h2, h3, h4⟩ := h
  have h5 := h3 (by omega)
  rw [Int.pow_succ] at h5
  refine ⟨?_, by omega, fun _ => by omega, fun q => by omega⟩
  rcases Nat.eq_zero_or_pos f with rfl | q
  · simp at h5; omega
  · exact q
theorem dgM_small {n : Int} (h : -1000000000 ≤ n ∧ n ≤ 1000000000) : dgM 11 n := by
  have h1 : (10 : Int) ^ 11 = 100000000000 := by decide
  have h2 : (10 : Int) ^ (11 - 1) = 10000000000 := by decide
  exact ⟨by decide, by decide, fun _ => by rw [h1]; omega, fun _ => ⟨by decide, by rw [h2]; omega⟩⟩
open Lib in
theorem itoa_neg {n : Int} (h : n < 0) : itoa n = 45 :: itoa (-n) := by
  unfold itoa
  rw [if_pos h, if_neg (by omega)]
  congr 2
  omega
open Lib in
theorem itoa_one {n : Int} (h0 : ¬ n < 0) (h : n < 10) : itoa n = [UInt8.ofNat (48 + n.toNat)] := by
  unfold itoa
  rw [if_neg h0]
  rw [decDigits, dif_pos (by omega)]
open Lib in
theorem itoa_more {n : Int} (h : ¬ n < 10) : itoa n = itoa (n / 10) ++ [UInt8.ofNat (48 + (n % 10).toNat)] := by
  unfold itoa
  rw [if_neg (by omega), if_neg (by omega)]
  conv => lhs; rw [decDigits]
  rw [dif_neg (by omega)]
  congr 3
  · omega
  · omega
open Lib in
theorem itoa_len {f : Nat} : ∀ {n : Int}, dgM f n → (itoa n).length ≤ f := by
  induction f with
  | zero => intro n h; exact absurd h.1 (by decide)
  | succ f ih =>
    intro n h
    by_cases h0 : n < 0
    · rw [itoa_neg h0, List.length_cons]
      have := ih (dgM_neg h h0); omega
    · by_cases h1 : n < 10
      · rw [itoa_one h0 h1]; simp
      · rw [itoa_more h1, List.length_append]
        have := ih (dgM_div h h1)
        simp; omega
/-- A value as a text. -/
def vtextF (v : GValue) : Str := if v.Kind = 0 then [110, 117, 108, 108] else if v.Kind = 1 then Lib.itoa v.N else (39 :: v.T) ++ [39]
theorem vtext_0 {v : GValue} (h : v.Kind = 0) : vtextF v = [110, 117, 108, 108] := by unfold vtextF; rw [if_pos h]
theorem vtext_1 {v : GValue} (h : v.Kind = 1) : vtextF v = Lib.itoa v.N := by unfold vtextF; rw [if_neg (by omega), if_pos h]
theorem vtext_2 {v : GValue} (h : ¬ v.Kind = 0) (h1 : ¬ v.Kind = 1) : vtextF v = (39 :: v.T) ++ [39] := by unfold vtextF; rw [if_neg h, if_neg h1]
theorem vOK_n {v : GValue} (h : valueOK v = true) (h1 : v.Kind = 1) : -1000000000 ≤ v.N ∧ v.N ≤ 1000000000 := by
  rw [valueOK_1 h1, Bool.and_eq_true] at h
  exact inR_iff.1 h.1
theorem vtext_len {v : GValue} (h : valueOK v = true) (hl : v.T.length ≤ 1048576) : (vtextF v).length ≤ v.T.length + 11 := by
  unfold vtextF
  split
  · simp
  · split
    · have := itoa_len (dgM_small (vOK_n h (by assumption))); omega
    · simp
theorem vOK_t {v : GValue} (h : valueOK v = true) : v.T.length ≤ 10 := by
  unfold valueOK at h
  split at h
  · simp only [Bool.and_eq_true, decide_eq_true_eq] at h
    rw [h.2]; simp
  · split at h
    · simp only [Bool.and_eq_true, decide_eq_true_eq] at h
      rw [h.2]; simp
    · simp only [Bool.and_eq_true, decide_eq_true_eq] at h
      have h2 := h.2
      unfold isWord at h2
      simp only [Bool.and_eq_true, decide_eq_true_eq] at h2
      omega
theorem vtext_le {v : GValue} (h : valueOK v = true) : (vtextF v).length ≤ 21 := by
  have h1 := vOK_t h
  have := vtext_len h (by omega)
  omega
/-- A row, an answer as a text. -/
def rtextF (r : GRow) : Str := vtextF (vI r.Id) ++ [32] ++ vtextF r.N ++ [32] ++ vtextF r.Name
theorem rtext_vI {n : Int} : vtextF (vI n) = Lib.itoa n := vtext_1 rfl
theorem rowOK_p {r : GRow} (h : rowOK r = true) : (0 ≤ r.Id ∧ r.Id ≤ 1000) ∧ valueOK r.N = true ∧ valueOK r.Name = true := by
  unfold rowOK at h
  simp only [Bool.and_eq_true] at h
  exact ⟨inR_iff.1 h.1.1.1.1, h.1.1.1.2, h.1.1.2⟩
theorem rtext_le {r : GRow} (h : rowOK r = true) : (rtextF r).length ≤ 65 := by
  obtain ⟨h1, h2, h3⟩ := rowOK_p h
  have a := vtext_le (vOK_int (n := r.Id) (by omega))
  have b := vtext_le h2
  have c := vtext_le h3
  unfold rtextF
  simp only [List.length_append, List.length_singleton]
  omega
end Go.AM

namespace Go.AM
theorem DRow_strs {w : World} {ok : Nat → Prop} {g : Nat} {c : Array Value} {ty : TypeId} {fr : Nat × Nat} (h : w.heap[g]? = some (.cells c ty fr)) : ∀ {ts : List Str} {o : Nat}, (∀ i t, ts[i]? = some t → c[o + i]? = some (.string ⟨t.toArray⟩)) → DRow w ok (ts.map D.str) g o
  | [], _, _ => by rw [List.map_nil, DRow]; trivial
  | t :: ts, o, hi => by
    rw [List.map_cons, DRow]
    refine ⟨⟨.string ⟨t.toArray⟩, ?_, by rw [DR]⟩, DRow_strs h (fun i u hu => by have := hi (i + 1) u (by simpa using hu); rwa [show o + (i + 1) = o + 1 + i from by omega] at this)⟩
    have := hi 0 t rfl
    unfold World.cell?
    simp only [h]
    simpa using this
section
variable {C : Cx} {st : St}
theorem q_iadrG {m g : Nat} {i : XA} {k : IntKind} {n : Int} {nm : String} {cs : Array Value} (ts : List Str) (hm : (nm, fun x => x = cs) ∈ gtab) (hgn : C.P.globalNamed nm = some g) (hcs : cs = (ts.map fun t => Value.string ⟨t.toArray⟩).toArray) (hi : evA st.sl i = some (.d (.int k n)))
    (h0 : 0 ≤ n) (hr : n < m) : QStep C st (.iadrA 1 m (.g g) i) (.d (.ip ((ts.drop n.toNat).map D.str))) := by
  intro op hf ac w β S
  obtain ⟨g1, g2, cs', ty, fr, rfl, g3⟩ := S.gok _ hm g hgn
  simp only [fits] at hf
  split at hf
  · rename_i t y j ho
    simp only [Bool.and_eq_true] at hf
    obtain ⟨⟨h1, h2⟩, h3⟩ := hf
    have h3 := AR_of_fitA S h3 hi
    rw [AR, DR] at h3
    have hy : y = .global g := by
      cases y with
      | global a => exact congrArg Operand.global (Nat.eq_of_beq_eq_true h2)
      | _ => cases h2
    split at h1
    · rename_i l el hu
      simp only [Bool.and_eq_true] at h1
      have := Nat.eq_of_beq_eq_true h1.1
      subst this
      have he : ac.eval y = .pointer (some ⟨g, 0, none⟩) := by rw [hy]; rfl
      refine ⟨.pointer (some ⟨g, 0 + n.toNat * 1, none⟩), ?_, fun w' _ => ?_⟩
      · rw [AR, DR]
        refine ⟨g, _, rfl, .inr ⟨⟨g1, g2⟩, ?_⟩⟩
        refine DRow_strs g3 (fun q t hq => ?_)
        rw [hcs]
        rw [List.getElem?_drop] at hq
        simp only [List.getElem?_toArray, List.getElem?_map]
        rw [show 0 + n.toNat * 1 + q = n.toNat + q from by omega, hq]; rfl
      · simp [execOp, ho, he, h3, Instr.indexAt, asIntOf, run_underlying hu, Instr.sureAddr, h0, hr, szIs_some h1.2, add_spot]
    · cases h1
  · cases hf
end
end Go.AM

namespace Go.AM
section
variable {C : Cx} {st : St}
theorem q_mkbf {f : Nat} {bs : List XA} {vs : List AV} (h : evL st.sl bs = some vs) : QStep C st (.mkbf f bs) (.bfn f vs) := by
  intro op hf ac w β S
  simp only [fits] at hf
  split at hf
  · rename_i g first cs ho
    simp only [Bool.and_eq_true] at hf
    obtain ⟨⟨h1, h2⟩, h3⟩ := hf
    have h4 := AL_of_fits S h3 h
    have h1 := Nat.eq_of_beq_eq_true h1
    subst h1
    have h2 : cs = #[] := by simpa using h2
    subst h2
    refine ⟨.func (.func f) (first.map ac.eval) #[], ?_, fun w' _ => ?_⟩
    · rw [AR]; exact ⟨_, rfl, by simpa using h4⟩
    · simp [execOp, ho, Instr.makeFunc]
  · cases hf
theorem fitK_nili {v : Value} (h : fitK v .nili = true) : v = .nilIface := by
  cases v <;> first | rfl | (simp [fitK] at h; done)
theorem fitA_nili {o : Operand} (h : fitA o (.k .nili) = true) : o = .const .nilIface := by
  cases o with
  | const v => exact congrArg _ (fitK_nili h)
  | _ => simp [fitA] at h
theorem run_eqi {P : Program} {w : World} {t : TypeId} {op : BinOp} {neg : Bool} (h : ∃ ms, P.underlying t = some (.interface ms)) (ho : op = if neg then BinOp.neq else BinOp.eql) {v : Value} {b : Bool} (hv : (v = .nilIface ∧ b = true) ∨ ((∃ te pe, v = .iface te pe) ∧ b = false)) :
    (binOp op t v .nilIface).run P w = .ok (.bool (bif neg then !b else b)) w := by
  obtain ⟨ms, h⟩ := h
  have e : ∀ d, (Op.equalIn (d + 1) t v .nilIface).run P w = .ok b w := by
    intro d
    rcases hv with ⟨rfl, rfl⟩ | ⟨⟨te, pe, rfl⟩, rfl⟩ <;> simp [Op.equalIn, run_underlying h]
  subst ho
  rcases hv with ⟨rfl, rfl⟩ | ⟨⟨te, pe, rfl⟩, rfl⟩ <;> cases neg <;> simp [binOp, Op.equal, Op.maxDepth, e 9999]
theorem q_eqi {neg : Bool} {x : XA} {v : Value} {b : Bool} (hx : evA st.sl x = some (.raw v)) (hv : (v = .nilIface ∧ b = true) ∨ ((∃ te pe, v = .iface te pe) ∧ b = false)) : QStep C st (.eqi neg x) (.d (.bool (bif neg then !b else b))) := by
  intro o hf a w β S
  simp only [fits] at hf
  split at hf
  · rename_i op' t p z t' hop
    simp only [Bool.and_eq_true, decide_eq_true_eq] at hf
    obtain ⟨⟨⟨h1, h2⟩, h3⟩, h4⟩ := hf
    have h3 := AR_of_fitA S h3 hx
    rw [AR] at h3
    have h5 := h4
    have h4 : AR C.X β w (.raw .nilIface) (a.eval z) := AR_of_fitA S h4 rfl
    rw [AR] at h4
    have hu : ∃ ms, C.P.underlying t = some (.interface ms) := by
      revert h2
      cases C.P.underlying t with
      | none => intro h; cases h
      | some k => cases k <;> intro h <;> first | (cases h; done) | exact ⟨_, rfl⟩
    refine ⟨_, by rw [AR, DR], fun w' _ => ?_⟩
    have e := run_eqi (w := w') hu h1 hv
    have hz := fitA_nili h5
    have g : (eqGuard op' t p z v .nilIface).run C.P w' = .ok () w' := by
      rw [hz]
      unfold eqGuard
      rcases hv with ⟨rfl, _⟩ | ⟨⟨te, pe, rfl⟩, _⟩ <;> split <;> simp
    simp [execOp, hop, h3, h4, e, g]
  · cases hf
theorem q_slcG {n g : Nat} {nm : String} {cs : Array Value} (ts : List Str) (hm : (nm, fun x => x = cs) ∈ gtab) (hgn : C.P.globalNamed nm = some g) (hcs : cs = (ts.map fun t => Value.string ⟨t.toArray⟩).toArray) (hn : ts.length = n) :
    QStep C st (.slcA 1 n (.g g)) (.d (.sl 1 (ts.map strRow))) := by
  intro op hf ac w β S
  obtain ⟨g1, g2, cs', ty, fr, rfl, g3⟩ := S.gok _ hm g hgn
  simp only [fits] at hf
  split at hf
  · rename_i t y l h m ho
    simp only [Bool.and_eq_true, Option.isNone_iff_eq_none] at hf
    obtain ⟨⟨⟨⟨h1, h2⟩, rfl⟩, rfl⟩, rfl⟩ := hf
    have hy : y = .global g := by
      cases y with
      | global a => exact congrArg Operand.global (Nat.eq_of_beq_eq_true h2)
      | _ => cases h2
    split at h1
    · rename_i q e hu
      simp only [Bool.and_eq_true] at h1
      have := Nat.eq_of_beq_eq_true h1.1
      subst this
      have he : ac.eval y = .pointer (some ⟨g, 0, none⟩) := by rw [hy]; rfl
      refine ⟨.slice (some ⟨g, 0, none⟩) q q, ?_, fun w' _ => ?_⟩
      · rw [AR, DR]
        refine ⟨_, q, by rw [List.length_map, hn], by rw [List.length_map, hn]; exact Nat.le_refl _, ?_⟩
        cases ts with
        | nil => exact .inl rfl
        | cons t0 ts0 =>
          refine .inr ⟨g, 0, rfl, ⟨g1, g2⟩, (Array.getElem?_eq_some_iff.1 g3).1, ?_⟩
          have : ∀ (l : List Str) (o : Nat), (∀ i t, l[i]? = some t → cs'[o + i]? = some (.string ⟨t.toArray⟩)) → DRows w (okf C.X β) 1 (l.map strRow) g o := by
            intro l
            induction l with
            | nil => intro o _; rw [List.map_nil, DRows]; trivial
            | cons t l ih =>
              intro o hi
              rw [List.map_cons, DRows]
              refine ⟨rfl, ?_, ih (o + 1) (fun i u hu => by have := hi (i + 1) u (by simpa using hu); rwa [show o + (i + 1) = o + 1 + i from by omega] at this)⟩
              exact DRow_strs (ts := [t]) g3 (fun i u hu => by
                cases i with
                | zero => exact hi 0 u (by simpa using hu)
                | succ i => simp at hu)
          refine this _ 0 (fun i t ht => ?_)
          rw [hcs]
          simp only [Nat.zero_add, List.getElem?_toArray, List.getElem?_map, ht]; rfl
      · have hsz := h1.2
        simp [execOp, ho, he, Instr.sliceAt, Instr.sliceBounds, Instr.sureAddr, run_underlying hu, szIs_some hsz]
        first | done | (by_cases h0 : q = 0 <;> simp [h0, Addr.add])
    · cases h1
  · cases hf
theorem ax_callb {gs : List Gd} {K : St → Prop} {d : Option Nat} {x : XA} {f : Nat} {args : List XA} {its : List XI} {vs bs : List AV} (hx : evA st.sl x = some (.bfn f bs)) (hb : hasBody C.P f = true) (ha : evL st.sl args = some vs)
    (h : VCall C st f (bs ++ vs) (fun r st' => AXI C false gs its (putR d r st') K)) :
    AXI C false gs (.callv d x args :: its) st K := by
  intro ops W R lo i k hf rest a w S G H
  obtain ⟨Q, hW⟩ := R.eff rfl
  subst hW
  obtain ⟨m, h1, h2, h3, h4⟩ := fitIs_cons hf
  obtain ⟨o, y, as, ts, ho, hop, hg, hd, hfr, hy, hfx, rfl⟩ := callv_fit h1
  rw [range_split (by omega) h4, range_one, List.append_assoc, List.singleton_append]
  refine wpOps_cons ho (wanted_of hg G) ?_
  obtain ⟨β, S⟩ := S
  have hA := AL_of_fits S hfx ha
  have hF := AR_of_fitA S hy hx
  rw [AR] at hF
  obtain ⟨cv, hF, hC⟩ := hF
  have hrun : (execOp a.eval o).run C.P w = .ok (.enter f (cv ++ as.map a.eval)) w := by
    simp [execOp, hop, resolve, hF, Deferred.ofValue, invoke, callFunc_run hb]
  unfold Oper.wp
  rw [hrun, Oper.upon_enter]
  have hA2 : ∀ {xs ys : List AV} {us vs : List Value}, AL C.X β w xs us → AL C.X β w ys vs → AL C.X β w (xs ++ ys) (us ++ vs) := by
    intro xs
    induction xs with
    | nil => intro ys us vs h1 h2; rw [AL] at h1; subst h1; exact h2
    | cons x xs ih =>
      intro ys us vs h1 h2
      rw [AL] at h1
      obtain ⟨v, r, rfl, h3, h4⟩ := h1
      rw [List.cons_append, List.cons_append, AL]
      exact ⟨v, _, rfl, h3, ih h4 h2⟩
  have e1 : cv ++ as.map a.eval = (cv.toList ++ as.toList.map a.eval).toArray := by simp
  rw [e1]
  refine (h a w β _ S (hA2 hC hA)).mono ?_
  rintro e w' ⟨v, r, st', β', rfl, hK, S', hv⟩
  rw [hd]
  exact hK ops _ R lo (i + 1) k h2 rest _ w' ⟨β', S'.putR (dstFree_lt hfr) hv⟩ (G.put hfr) (fun st' a' w' _ => H st' a' w' (fun h => by cases h))
end
end Go.AM

namespace Go.AM
def colsL : List Str := [[105, 100], [110], [110, 97, 109, 101]]
def sgnsL : List Str := [[43], [45], [42], [47], [61], [60], [97, 110, 100], [111, 114]]
def sgn14 : List Str := [[], [], [], [], [], [], [43], [45], [42], [47], [61], [60], [97, 110, 100], [111, 114]]
theorem gtab_cols : ("loop.example/g00332/impl.columnWords", fun x : Array Value => x = (colsL.map fun t => Value.string ⟨t.toArray⟩).toArray) ∈ gtab := List.mem_cons_of_mem _ List.mem_cons_self
theorem gtab_sgns : ("loop.example/g00332/impl.binarySigns", fun x : Array Value => x = (sgnsL.map fun t => Value.string ⟨t.toArray⟩).toArray) ∈ gtab := List.mem_cons_of_mem _ (List.mem_cons_of_mem _ List.mem_cons_self)
def colT (c : Int) : Str := colsL.getD c.toNat []
def sgnT (op : Int) : Str := sgnsL.getD (op - 6).toNat []
theorem drop_getD {l : List Str} {k : Nat} (h : k < l.length) : (l.drop k).map D.str = .str (l.getD k []) :: ((l.drop (k + 1)).map D.str) := by
  rw [List.drop_eq_getElem_cons h, List.map_cons, List.getD_eq_getElem?_getD, List.getElem?_eq_getElem h]; rfl
theorem col_drop {c : Int} (h : 0 ≤ c ∧ c ≤ 2) : (colsL.drop c.toNat).map D.str = .str (colT c) :: ((colsL.drop (c.toNat + 1)).map D.str) := drop_getD (by show c.toNat < 3; omega)
theorem sgn_drop {op : Int} (h : 6 ≤ op ∧ op ≤ 13) : (sgnsL.drop (op - 6).toNat).map D.str = .str (sgnT op) :: ((sgnsL.drop ((op - 6).toNat + 1)).map D.str) := drop_getD (by show (op - 6).toNat < 8; omega)
theorem colT_len {c : Int} (h : 0 ≤ c ∧ c ≤ 2) : (colT c).length ≤ 4 := by
  rcases (by omega : c = 0 ∨ c = 1 ∨ c = 2) with rfl | rfl | rfl <;> decide
theorem sgnT_len {c : Int} (h : 6 ≤ c ∧ c ≤ 13) : (sgnT c).length ≤ 3 := by
  rcases (by omega : c = 6 ∨ c = 7 ∨ c = 8 ∨ c = 9 ∨ c = 10 ∨ c = 11 ∨ c = 12 ∨ c = 13) with rfl | rfl | rfl | rfl | rfl | rfl | rfl | rfl <;> decide
theorem sgn14_at {c : Int} (h : 6 ≤ c ∧ c ≤ 13) : (sgn14.map strRow)[c.toNat]? = some (strRow (sgnT c)) := by
  rcases (by omega : c = 6 ∨ c = 7 ∨ c = 8 ∨ c = 9 ∨ c = 10 ∨ c = 11 ∨ c = 12 ∨ c = 13) with rfl | rfl | rfl | rfl | rfl | rfl | rfl | rfl <;> rfl
theorem cols_at {c : Int} (h : 0 ≤ c ∧ c ≤ 2) : (colsL.map strRow)[c.toNat]? = some (strRow (colT c)) := by
  rcases (by omega : c = 0 ∨ c = 1 ∨ c = 2) with rfl | rfl | rfl <;> rfl
/-- A node as a text. -/
def etF (ns : List GExprNode) : Nat → Int → Str
  | 0, _ => []
  | f + 1, i => match ns[i.toNat]? with
    | none => []
    | some x => if x.Op = 1 then vtextF x.V else if x.Op = 2 then colT x.Column
      else if x.Op = 3 then ([40, 110, 111, 116, 32] ++ etF ns f x.A) ++ [41]
      else if x.Op = 4 then ([40] ++ etF ns f x.A) ++ [32, 105, 115, 32, 110, 117, 108, 108, 41]
      else if x.Op = 5 then ([40, 45, 32, 40] ++ etF ns f x.A) ++ [41, 41]
      else ((((([40] ++ etF ns f x.A) ++ [32]) ++ sgnT x.Op) ++ [32]) ++ etF ns f x.B) ++ [41]
section
variable {ns : List GExprNode} {f j : Nat}
theorem etF_at (hj : j < ns.length) : etF ns (f + 1) (j : Int) = if ns[j].Op = 1 then vtextF ns[j].V else if ns[j].Op = 2 then colT ns[j].Column
      else if ns[j].Op = 3 then ([40, 110, 111, 116, 32] ++ etF ns f ns[j].A) ++ [41]
      else if ns[j].Op = 4 then ([40] ++ etF ns f ns[j].A) ++ [32, 105, 115, 32, 110, 117, 108, 108, 41]
      else if ns[j].Op = 5 then ([40, 45, 32, 40] ++ etF ns f ns[j].A) ++ [41, 41]
      else ((((([40] ++ etF ns f ns[j].A) ++ [32]) ++ sgnT ns[j].Op) ++ [32]) ++ etF ns f ns[j].B) ++ [41] := by
  rw [etF, Int.toNat_natCast, List.getElem?_eq_getElem hj]
theorem etF_1 (hj : j < ns.length) (h : ns[j].Op = 1) : etF ns (f + 1) (j : Int) = vtextF ns[j].V := by rw [etF_at hj, if_pos h]
theorem etF_2 (hj : j < ns.length) (h : ns[j].Op = 2) : etF ns (f + 1) (j : Int) = colT ns[j].Column := by rw [etF_at hj, if_neg (by omega), if_pos h]
theorem etF_3 (hj : j < ns.length) (h : ns[j].Op = 3) : etF ns (f + 1) (j : Int) = ([40, 110, 111, 116, 32] ++ etF ns f ns[j].A) ++ [41] := by rw [etF_at hj, if_neg (by omega), if_neg (by omega), if_pos h]
theorem etF_4 (hj : j < ns.length) (h : ns[j].Op = 4) : etF ns (f + 1) (j : Int) = ([40] ++ etF ns f ns[j].A) ++ [32, 105, 115, 32, 110, 117, 108, 108, 41] := by rw [etF_at hj, if_neg (by omega), if_neg (by omega), if_neg (by omega), if_pos h]
theorem etF_5 (hj : j < ns.length) (h : ns[j].Op = 5) : etF ns (f + 1) (j : Int) = ([40, 45, 32, 40] ++ etF ns f ns[j].A) ++ [41, 41] := by rw [etF_at hj, if_neg (by omega), if_neg (by omega), if_neg (by omega), if_neg (by omega), if_pos h]
theorem etF_6 (hj : j < ns.length) (h1 : ¬ ns[j].Op = 1) (h2 : ¬ ns[j].Op = 2) (h3 : ¬ ns[j].Op = 3) (h4 : ¬ ns[j].Op = 4) (h5 : ¬ ns[j].Op = 5) : etF ns (f + 1) (j : Int) = ((((([40] ++ etF ns f ns[j].A) ++ [32]) ++ sgnT ns[j].Op) ++ [32]) ++ etF ns f ns[j].B) ++ [41] := by
  rw [etF_at hj, if_neg h1, if_neg h2, if_neg h3, if_neg h4, if_neg h5]
theorem op_un (hj : j < ns.length) (ht : (T ns j).2.2 = true) (h1 : ¬ ns[j].Op = 1) (h2 : ¬ ns[j].Op = 2) (h3 : ¬ ns[j].Op = 3) (h4 : ¬ ns[j].Op = 4) (h5 : ¬ ns[j].Op = 5) : 6 ≤ ns[j].Op ∧ ns[j].Op ≤ 13 :=
  T_op hj ht h1 h2 (fun hh => by have := inR_iff.1 ((T_un hj ht h1 h2).1 hh).1; omega)
theorem etF_len : ∀ {f : Nat} {i : Int}, 0 ≤ i → i < f → i < ns.length → (T ns i).2.2 = true → (etF ns f i).length + 20 ≤ 40 * 2 ^ f
  | 0, i, h, h1, _, _ => by omega
  | f + 1, i, h, h1, h2, ht => by
    obtain ⟨j, rfl⟩ : ∃ j : Nat, i = (j : Int) := ⟨i.toNat, by omega⟩
    have hj : j < ns.length := by omega
    have hp : 2 ^ (f + 1) = 2 * 2 ^ f := by rw [Nat.pow_succ]; omega
    have hq : 1 ≤ 2 ^ f := Nat.one_le_two_pow
    by_cases g1 : ns[j].Op = 1
    · rw [etF_1 hj g1]
      have := vtext_le (T_1 hj ht g1)
      omega
    by_cases g2 : ns[j].Op = 2
    · rw [etF_2 hj g2]
      have := colT_len ((T_V hj ht).2 g2)
      omega
    obtain ⟨⟨hA0, hA1, hAt, hAs⟩, hB⟩ := T_kids hj ht g1 g2
    have la := etF_len (f := f) hA0 (by omega) (by omega) hAt
    by_cases g3 : ns[j].Op = 3
    · rw [etF_3 hj g3]; simp only [List.length_append, List.length_cons, List.length_nil]; omega
    by_cases g4 : ns[j].Op = 4
    · rw [etF_4 hj g4]; simp only [List.length_append, List.length_cons, List.length_nil]; omega
    by_cases g5 : ns[j].Op = 5
    · rw [etF_5 hj g5]; simp only [List.length_append, List.length_cons, List.length_nil]; omega
    have ho := op_un hj ht g1 g2 g3 g4 g5
    obtain ⟨hB0, hB1, hBt, hBs⟩ := hB (by omega)
    have lb := etF_len (f := f) hB0 (by omega) (by omega) hBt
    have ls := sgnT_len ho
    rw [etF_6 hj g1 g2 g3 g4 g5]; simp only [List.length_append, List.length_cons, List.length_nil]; omega
theorem etF_le {f : Nat} {i : Int} (h0 : 0 ≤ i) (h1 : i < f) (h2 : i < ns.length) (ht : (T ns i).2.2 = true) (hf : f ≤ 41) : (etF ns f i).length ≤ 100000000000000 := by
  have := etF_len h0 h1 h2 ht
  have h3 : 2 ^ f ≤ 2 ^ 41 := Nat.pow_le_pow_right (by decide) hf
  have h4 : (2 : Nat) ^ 41 = 2199023255552 := by decide
  omega
end
def exT (e : GExpr) : Str := etF e.Nodes (e.Nodes.length + 1) ((e.Nodes.length : Int) - 1)
theorem exprOK_n {e : GExpr} (h : exprOK e = true) : 1 ≤ e.Nodes.length ∧ e.Nodes.length ≤ 40 := by
  cases hr : inR (e.Nodes.length : Int) 1 40 with
  | false => rw [exprOK_0 hr] at h; cases h
  | true => have := inR_iff.1 hr; omega
theorem exT_le {e : GExpr} (h : exprOK e = true) : (exT e).length ≤ 100000000000000 := by
  have hn := exprOK_n h
  obtain ⟨h0, h1, h2, h3, _⟩ := comp_hyps h
  exact etF_le h0 h1 h2 h3 (by omega)
end Go.AM

namespace Go.AM
theorem noneE_n {e : GExpr} (h : noneE e = true) : e.Nodes.length = 0 := by
  have := of_decide_eq_true h; omega
theorem stOK_p {s : GStmt} (h : stmtOK s = true) : (1 ≤ s.Kind ∧ s.Kind ≤ 4) ∧ (1 ≤ s.Table ∧ s.Table ≤ 3) ∧ (noneE s.Where = false → exprOK s.Where = true) ∧ (s.Kind = 2 → rowOK s.Row = true ∧ noneE s.Where = true) ∧
    (s.Kind = 3 → (1 ≤ s.Column ∧ s.Column ≤ 2) ∧ exprOK s.Set = true) ∧ (0 ≤ s.Order ∧ s.Order ≤ 2) ∧ (¬ s.Kind = 1 → s.Order = 0 ∧ s.Down = false) ∧ (s.Kind = 2 ∨ zeroR s.Row = true) ∧ (s.Kind = 3 ∨ (s.Column = 0 ∧ noneE s.Set = true)) := by
  unfold stmtOK at h
  have h0 : sBad0 s = false := by
    cases hh : sBad0 s with
    | false => rfl
    | true => rw [hh] at h; cases h
  rw [h0, cond_false] at h
  have h1 : sBad1 s = false := by
    cases hh : sBad1 s with
    | false => rfl
    | true => rw [hh] at h; cases h
  rw [h1, cond_false] at h
  unfold sBad0 at h0
  unfold sBad1 at h1
  simp only [Bool.or_eq_false_iff, Bool.and_eq_false_iff, Bool.not_eq_false'] at h0 h1
  obtain ⟨⟨a1, a2⟩, a3⟩ := h0
  have b1 := inR_iff.1 a1
  have b2 := inR_iff.1 a2
  have hT : sTail s = true ∧ (s.Kind = 3 → (1 ≤ s.Column ∧ s.Column ≤ 2) ∧ exprOK s.Set = true) ∧ (s.Kind = 3 ∨ (s.Column = 0 ∧ noneE s.Set = true)) := by
    by_cases hk : s.Kind = 3
    · rw [decide_eq_true hk, cond_true] at h
      have h3 : sBad3 s = false := by
        cases hh : sBad3 s with
        | false => rfl
        | true => rw [hh] at h; cases h
      rw [h3, cond_false] at h
      unfold sBad3 at h3
      simp only [Bool.or_eq_false_iff, Bool.not_eq_false'] at h3
      exact ⟨h, fun _ => ⟨inR_iff.1 h3.1, h3.2⟩, .inl hk⟩
    · rw [decide_eq_false hk, cond_false] at h
      have h3 : sBad4 s = false := by
        cases hh : sBad4 s with
        | false => rfl
        | true => rw [hh] at h; cases h
      rw [h3, cond_false] at h
      unfold sBad4 at h3
      simp only [Bool.or_eq_false_iff, Bool.not_eq_false', decide_eq_true_eq] at h3
      exact ⟨h, fun h => absurd h hk, .inr h3⟩
  obtain ⟨hT, hS, hN⟩ := hT
  have hO : (0 ≤ s.Order ∧ s.Order ≤ 2) ∧ (¬ s.Kind = 1 → s.Order = 0 ∧ s.Down = false) := by
    unfold sTail at hT
    by_cases hk : s.Kind = 1
    · rw [decide_eq_true hk] at hT
      exact ⟨inR_iff.1 hT, fun h => absurd hk h⟩
    · rw [decide_eq_false hk] at hT
      simp at hT
      exact ⟨by omega, fun _ => ⟨hT.1, hT.2⟩⟩
  refine ⟨b1, b2, ?_, ?_, hS, hO.1, hO.2, ?_, hN⟩
  · intro hn
    rcases a3 with a3 | ⟨_, a3⟩
    · rw [hn] at a3; cases a3
    · exact a3
  · intro hk
    refine ⟨?_, ?_⟩
    · rcases h1.2 with h1 | h1
      · rw [decide_eq_true hk] at h1; cases h1
      · exact h1
    · rcases a3 with a3 | ⟨a3, _⟩
      · exact a3
      · rw [decide_eq_true hk] at a3; cases a3
  · rcases h1.1 with h1 | h1
    · exact .inl (of_decide_eq_true h1)
    · exact .inr h1
def selL : List Str := [[], [115, 101, 108, 101, 99, 116], [105, 110, 115, 101, 114, 116], [117, 112, 100, 97, 116, 101], [100, 101, 108, 101, 116, 101]]
def selT (k : Int) : Str := selL.getD k.toNat []
theorem selT_at {c : Int} (h : 1 ≤ c ∧ c ≤ 4) : (selL.map strRow)[c.toNat]? = some (strRow (selT c)) := by
  rcases (by omega : c = 1 ∨ c = 2 ∨ c = 3 ∨ c = 4) with rfl | rfl | rfl | rfl <;> rfl
theorem selT_len {c : Int} (h : 1 ≤ c ∧ c ≤ 4) : (selT c).length ≤ 6 := by
  rcases (by omega : c = 1 ∨ c = 2 ∨ c = 3 ∨ c = 4) with rfl | rfl | rfl | rfl <;> decide
/-- A statement as a text: its parts behind one another. -/
def sxA (s : GStmt) : Str := (selT s.Kind ++ [32]) ++ Lib.itoa s.Table
def sxB (s : GStmt) (a : Str) : Str := if s.Kind = 2 then a ++ ((((([32] ++ Lib.itoa s.Row.Id) ++ [32]) ++ vtextF s.Row.N) ++ [32]) ++ vtextF s.Row.Name) else a
def sxC (s : GStmt) (a : Str) : Str := if s.Kind = 3 then a ++ ((([32, 115, 101, 116, 32] ++ colT s.Column) ++ [32, 61, 32]) ++ exT s.Set) else a
def sxW (s : GStmt) (a : Str) : Str := if noneE s.Where = false then a ++ ([32, 119, 104, 101, 114, 101, 32] ++ exT s.Where) else a
def sxO (s : GStmt) (a : Str) : Str := if ¬ s.Order = 0 ∨ s.Down = true then a ++ ([32, 111, 114, 100, 101, 114, 32] ++ colT s.Order) else a
def sxD (s : GStmt) (a : Str) : Str := if s.Down = true then a ++ [32, 100, 101, 115, 99] else a
def stT (s : GStmt) : Str := sxD s (sxO s (sxW s (sxC s (sxB s (sxA s)))))
section
variable {s : GStmt}
theorem sxB_t (h : s.Kind = 2) {a : Str} : sxB s a = a ++ ((((([32] ++ Lib.itoa s.Row.Id) ++ [32]) ++ vtextF s.Row.N) ++ [32]) ++ vtextF s.Row.Name) := if_pos h
theorem sxB_f (h : ¬ s.Kind = 2) {a : Str} : sxB s a = a := if_neg h
theorem sxC_t (h : s.Kind = 3) {a : Str} : sxC s a = a ++ ((([32, 115, 101, 116, 32] ++ colT s.Column) ++ [32, 61, 32]) ++ exT s.Set) := if_pos h
theorem sxC_f (h : ¬ s.Kind = 3) {a : Str} : sxC s a = a := if_neg h
theorem sxW_t (h : noneE s.Where = false) {a : Str} : sxW s a = a ++ ([32, 119, 104, 101, 114, 101, 32] ++ exT s.Where) := if_pos h
theorem sxW_f (h : noneE s.Where = true) {a : Str} : sxW s a = a := if_neg (by rw [h]; decide)
theorem sxO_t (h : ¬ s.Order = 0 ∨ s.Down = true) {a : Str} : sxO s a = a ++ ([32, 111, 114, 100, 101, 114, 32] ++ colT s.Order) := if_pos h
theorem sxO_f (h : s.Order = 0 ∧ s.Down = false) {a : Str} : sxO s a = a := if_neg (by rw [h.1, h.2]; simp)
theorem sxD_t (h : s.Down = true) {a : Str} : sxD s a = a ++ [32, 100, 101, 115, 99] := if_pos h
theorem sxD_f (h : s.Down = false) {a : Str} : sxD s a = a := if_neg (by rw [h]; decide)
theorem stT_1 (h : s.Kind = 1) : stT s = sxD s (sxO s (sxW s ([115, 101, 108, 101, 99, 116, 32] ++ vtextF (vI s.Table)))) := by
  unfold stT sxA
  rw [sxB_f (by omega), sxC_f (by omega), h, rtext_vI]; rfl
theorem stT_3 (h : s.Kind = 3) : stT s = sxD s (sxO s (sxW s (((((([117, 112, 100, 97, 116, 101, 32] ++ vtextF (vI s.Table)) ++ [32, 115, 101, 116, 32]) ++ colT s.Column) ++ [32, 61, 32]) ++ exT s.Set)))) := by
  unfold stT sxA
  rw [sxB_f (by omega), sxC_t (by omega), h, rtext_vI]
  congr 3
  simp only [List.append_assoc]; rfl
theorem stT_4 (h : s.Kind = 4) : stT s = sxD s (sxO s (sxW s ([100, 101, 108, 101, 116, 101, 32] ++ vtextF (vI s.Table)))) := by
  unfold stT sxA
  rw [sxB_f (by omega), sxC_f (by omega), h, rtext_vI]; rfl
theorem stT_2 (hs : stmtOK s = true) (h : s.Kind = 2) : stT s = ((([105, 110, 115, 101, 114, 116, 32] ++ vtextF (vI s.Table)) ++ [32]) ++ rtextF s.Row) := by
  obtain ⟨_, _, _, h2, _, _, h3, _⟩ := stOK_p hs
  have := h3 (by omega)
  unfold stT sxA
  rw [sxC_f (by omega), sxW_f (h2 h).2, sxO_f this, sxD_f this.2, sxB_t h, h, rtext_vI]
  unfold rtextF
  rw [rtext_vI]
  simp only [List.append_assoc]; rfl
end
theorem so_f {s : GStmt} (hk1 : ¬ s.Kind = 1 → s.Order = 0 ∧ s.Down = false) (hor : 0 ≤ s.Order ∧ s.Order ≤ 2) (h : ¬ s.Kind = 1 ∨ ¬ s.Order > 0 ∧ s.Down = false) : s.Order = 0 ∧ s.Down = false := by
  rcases h with h | h
  · exact hk1 h
  · exact ⟨by omega, h.2⟩
def stTF (s : GStmt) : Str × Int := if stmtOK s = true then (stT s, 0) else ([], 1)
theorem stT_t {s : GStmt} (h : stmtOK s = true) : stTF s = (stT s, 0) := by unfold stTF; rw [if_pos h]
theorem stT_f {s : GStmt} (h : stmtOK s = false) : stTF s = ([], 1) := by unfold stTF; rw [if_neg (by simp [h])]
end Go.AM

namespace Go.AM
structure PS where
  tk : List Str
  ns : List GExprNode
  op : Nat
def okT (t : Str) : Prop := 1 ≤ t.length ∧ t.length ≤ 18 ∧ (t.head? = some 39 → 2 ≤ t.length)
structure PS.ok (s : PS) : Prop where
  t : ∀ t ∈ s.tk, okT t
  n : s.tk.length ≤ 500
  m : s.ns.length ≤ 40
  o : s.op ≤ 48
def nd (o a b : Int) : GExprNode := ⟨o, a, b, 0, GValue.zero⟩
def isP (tk ts : List Str) : Bool := decide (ts.length ≤ tk.length) && decide (tk.take ts.length = ts)
def dpP (s : PS) (n : Nat) : PS := ⟨s.tk.drop n, s.ns, s.op⟩
def skP (s : PS) (ts : List Str) : PS := if isP s.tk ts = true then dpP s ts.length else s
def ndP (s : PS) (n : GExprNode) : Option (PS × Int) := if s.ns.length < 40 then some (⟨s.tk, s.ns ++ [n], s.op⟩, (s.ns.length : Int)) else none
def rdF (t : Str) : Int × Bool := match Lib.atoi t with
  | some n => (n, decide (Lib.itoa n = t))
  | none => (0, false)
def dgP : List Str → Int × Bool
  | [] => (0, false)
  | t :: _ => ((rdF t).1, (rdF t).2 && inR (rdF t).1 (-1000000000) 1000000000)
def wiP (R : PS → Option (PS × Int)) (s : PS) : Option (PS × Int) :=
  if s.op < 48 then (match R ⟨s.tk, s.ns, s.op + 1⟩ with
    | some (s', k) => some (⟨s'.tk, s'.ns, s'.op - 1⟩, k)
    | none => none) else none
def pkL : List Int → Int × PS → Int × PS
  | [], a => a
  | o :: r, a => pkL r (if a.1 = 0 ∧ isP a.2.tk [sgnT o] = true then (o, dpP a.2 1) else a)
def joL (R : PS → Option (PS × Int)) (ops : List Int) : Nat → PS → Int → Option (PS × Int)
  | 0, _, _ => none
  | f + 1, s, l => if (pkL ops (0, s)).1 = 0 then some ((pkL ops (0, s)).2, l) else match R (pkL ops (0, s)).2 with
    | none => none
    | some (s2, r) => match ndP s2 (nd (pkL ops (0, s)).1 l r) with
      | none => none
      | some (s3, k) => joL R ops f s3 k
def joP (R : PS → Option (PS × Int)) (ops : List Int) (f : Nat) (s : PS) : Option (PS × Int) := match R s with
  | none => none
  | some (s1, l) => joL R ops f s1 l
def noP (N C : PS → Option (PS × Int)) (s : PS) : Option (PS × Int) :=
  if isP s.tk [[110, 111, 116]] = true then (match wiP N (dpP s 1) with
    | none => none
    | some (s1, k) => ndP s1 (nd 3 k 0)) else C s
def cmP (S : PS → Option (PS × Int)) (s : PS) : Option (PS × Int) := match S s with
  | none => none
  | some (s1, l) =>
    if isP s1.tk [[61]] = true then (match S (dpP s1 1) with
      | none => none
      | some (s2, r) => ndP s2 (nd 10 l r))
    else if isP s1.tk [[60]] = true then (match S (dpP s1 1) with
      | none => none
      | some (s2, r) => ndP s2 (nd 11 l r))
    else if isP s1.tk [[105, 115], [110, 117, 108, 108]] = true then ndP (dpP s1 2) (nd 4 l 0)
    else some (s1, l)
def ahP (A Q : PS → Option (PS × Int)) (s : PS) : Option (PS × Int) :=
  if isP s.tk [[45]] = true then
    (if (dgP (dpP s 1).tk).2 = true ∧ ¬ (dgP (dpP s 1).tk).1 = 0 then ndP (dpP (dpP s 1) 1) ⟨1, 0, 0, 0, vI (-(dgP (dpP s 1).tk).1)⟩
    else match wiP A (dpP s 1) with
      | none => none
      | some (s1, k) => ndP s1 (nd 5 k 0))
  else Q s
/-- A value, if the next token is one; and whether it is. -/
def vaP (s : PS) : (GValue × Bool) × PS :=
  if (dgP s.tk).2 = true then ((vI (dgP s.tk).1, true), dpP s 1)
  else if isP s.tk [[110, 117, 108, 108]] = true then ((GValue.zero, true), dpP s 1)
  else match s.tk with
    | [] => ((GValue.zero, false), s)
    | t :: _ => if t.head? = some 39 ∧ valueOK ⟨2, 0, (t.drop 1).take (t.length - 2)⟩ = true then ((⟨2, 0, (t.drop 1).take (t.length - 2)⟩, true), dpP s 1) else ((GValue.zero, false), s)
def colP (t : Str) : Int := if t = [105, 100] then 0 else if t = [110] then 1 else if t = [110, 97, 109, 101] then 2 else -1
theorem colP_idx (t : Str) : idxOf (fun s => eqb t s) colsL 0 = colP t := by
  have e : ∀ s : Str, eqb t s = decide (t = s) := fun s => by
    rw [Bool.eq_iff_iff, eqb_iff]; simp
  simp only [colsL, idxOf, e]
  unfold colP
  by_cases h1 : t = [105, 100]
  · simp [h1]
  by_cases h2 : t = [110]
  · simp [h2]
  by_cases h3 : t = [110, 97, 109, 101]
  · simp [h3]
  · simp [h1, h2, h3]
def prP (O : PS → Option (PS × Int)) (s : PS) : Option (PS × Int) :=
  if isP s.tk [[40]] = true then (match wiP O (dpP s 1) with
    | none => none
    | some (s1, k) => if isP s1.tk [[41]] = true then some (dpP s1 1, k) else none)
  else if (vaP s).1.2 = true then ndP (vaP s).2 ⟨1, 0, 0, 0, (vaP s).1.1⟩
  else match s.tk with
    | [] => none
    | t :: _ => if colP t < 0 then none else ndP (dpP s 1) ⟨2, 0, 0, colP t, GValue.zero⟩
/-- Reading from a level on: 0 or, 1 and, 2 not, 3 compare, 4 sum, 5 product, 6 ahead, 7 primary. -/
def prs : Nat → Nat → PS → Option (PS × Int)
  | 0, _, _ => none
  | f + 1, 0, s => joP (prs f 1) [13] f s
  | f + 1, 1, s => joP (prs f 2) [12] f s
  | f + 1, 2, s => noP (prs f 2) (prs f 3) s
  | f + 1, 3, s => cmP (prs f 4) s
  | f + 1, 4, s => joP (prs f 5) [6, 7] f s
  | f + 1, 5, s => joP (prs f 6) [8, 9] f s
  | f + 1, 6, s => ahP (prs f 6) (prs f 7) s
  | f + 1, 7, s => prP (prs f 0) s
  | _ + 1, _ + 8, _ => none
theorem sR_take {α : Type} {row : α → List D} {l : List α} {a : Int} {n : Nat} (h : a.toNat = n) : AV.d (.sl 1 (((l.map row).drop (0 : Int).toNat).take (a.toNat - (0 : Int).toNat))) = .d (.sl 1 ((l.take n).map row)) := by
  rw [h]; simp [List.map_take]
theorem sR_drop {α : Type} {row : α → List D} {l : List α} {a : Int} {n : Nat} (h : a.toNat = n) : AV.d (.sl 1 (((l.map row).drop a.toNat).take (((l.map row).length : Int).toNat - a.toNat))) = .d (.sl 1 ((l.drop n).map row)) := by
  rw [h, Int.toNat_natCast, List.take_of_length_le (by simp), List.map_drop]
theorem int_ge_dec {a b : Nat} : decide ((a : Int) ≥ (b : Int)) = decide (b ≤ a) := by
  by_cases h : b ≤ a
  · rw [decide_eq_true h, decide_eq_true (by omega)]
  · rw [decide_eq_false h, decide_eq_false (by omega)]
theorem eqto_step {xs ys : List Str} {k : Nat} (hx : k < xs.length) (hy : k < ys.length) (hb : ∀ i, i < k → xs[i]? = ys[i]?) (h : xs[k] = ys[k]) : ∀ i, i < k + 1 → xs[i]? = ys[i]? := fun i hi => by
  rcases (by omega : i < k ∨ i = k) with h1 | rfl
  · exact hb i h1
  · rw [List.getElem?_eq_getElem hx, List.getElem?_eq_getElem hy, h]
theorem eqto_end {xs ys : List Str} {k : Nat} (hl : xs.length = ys.length) (hk : k = xs.length) (hb : ∀ i, i < k → xs[i]? = ys[i]?) : xs = ys := by
  refine List.ext_getElem? fun i => ?_
  by_cases hi : i < k
  · exact hb i hi
  · rw [List.getElem?_eq_none (by omega), List.getElem?_eq_none (by omega)]
theorem eqn_step {xs ys : List GExprNode} {k : Nat} (hx : k < xs.length) (hy : k < ys.length) (hb : ∀ i, i < k → xs[i]? = ys[i]?) (h : xs[k] = ys[k]) : ∀ i, i < k + 1 → xs[i]? = ys[i]? := fun i hi => by
  rcases (by omega : i < k ∨ i = k) with h1 | rfl
  · exact hb i h1
  · rw [List.getElem?_eq_getElem hx, List.getElem?_eq_getElem hy, h]
theorem eqn_end {xs ys : List GExprNode} {k : Nat} (hl : xs.length = ys.length) (hk : k = xs.length) (hb : ∀ i, i < k → xs[i]? = ys[i]?) : xs = ys := by
  refine List.ext_getElem? fun i => ?_
  by_cases hi : i < k
  · exact hb i hi
  · rw [List.getElem?_eq_none (by omega), List.getElem?_eq_none (by omega)]
theorem eqn_no {xs ys : List GExprNode} {k : Nat} (hx : k < xs.length) (hy : k < ys.length) (e : xs = ys) (h : ¬ eqb xs[k] ys[k] = true) : False := by
  subst e; exact h (eqb_iff.2 rfl)
theorem isP_le {tk ts : List Str} (h : isP tk ts = true) : ts.length ≤ tk.length := by
  unfold isP at h
  rw [Bool.and_eq_true] at h
  exact of_decide_eq_true h.1
theorem skP_t {s : PS} {ts : List Str} (h : isP s.tk ts = true) : skP s ts = dpP s ts.length := by unfold skP; rw [if_pos h]
theorem skP_f {s : PS} {ts : List Str} (h : isP s.tk ts = false) : skP s ts = s := by unfold skP; rw [if_neg (by rw [h]; decide)]
theorem ndP_some {s s' : PS} {n : GExprNode} {k : Int} (h : ndP s n = some (s', k)) : s.ns.length < 40 ∧ s' = ⟨s.tk, s.ns ++ [n], s.op⟩ ∧ k = (s.ns.length : Int) := by
  unfold ndP at h
  split at h
  · rename_i hn
    cases h
    exact ⟨hn, rfl, rfl⟩
  · cases h
theorem PS.ok.dp {s : PS} (h : s.ok) (n : Nat) : (dpP s n).ok := ⟨fun t ht => h.t t (List.mem_of_mem_drop ht), by
  show (s.tk.drop n).length ≤ 500
  rw [List.length_drop]; have := h.n; omega, h.m, h.o⟩
theorem PS.ok.nd {s s' : PS} {n : GExprNode} {k : Int} (h : s.ok) (hn : ndP s n = some (s', k)) : s'.ok := by
  obtain ⟨h1, rfl, _⟩ := ndP_some hn
  exact ⟨h.t, h.n, by show (s.ns ++ [n]).length ≤ 40; simp; omega, h.o⟩
end Go.AM
namespace Go.AM
/-- A reader: what a function does that reads from the parser's state. -/
def RC (P : Program) (F : Nat) (R : PS → Option (PS × Int)) : Prop := ∀ (s s' : PS) (k : Int), s.ok → R s = some (s', k) →
  Con P (fun e => Nat.beq e 1001) F [.ptr 1000 0] [(1000, .box [.d (.sl 1 (s.tk.map strRow)), .osl 1001 7 0 s.ns.length, int (s.op : Int)]), (1001, .rows 7 (s.ns.map GExprNode.row))]
    (fun r h => r = int k ∧ h = [(1000, .box [.d (.sl 1 (s'.tk.map strRow)), .osl 1001 7 0 s'.ns.length, int (s'.op : Int)]), (1001, .rows 7 (s'.ns.map GExprNode.row))])
def RO (R : PS → Option (PS × Int)) : Prop := ∀ (s s' : PS) (k : Int), s.ok → R s = some (s', k) → s'.ok ∧ s'.op = s.op
theorem wiP_some {R : PS → Option (PS × Int)} {s s' : PS} {k : Int} (h : wiP R s = some (s', k)) : s.op < 48 ∧ ∃ s1, R ⟨s.tk, s.ns, s.op + 1⟩ = some (s1, k) ∧ s' = ⟨s1.tk, s1.ns, s1.op - 1⟩ := by
  unfold wiP at h
  split at h
  · rename_i ho
    split at h
    · rename_i s1 k1 h1
      cases h
      exact ⟨ho, s1, h1, rfl⟩
    · cases h
  · cases h
theorem RO.wi {R : PS → Option (PS × Int)} (hR : RO R) : RO (wiP R) := by
  intro s s' k hs h
  obtain ⟨ho, s1, h1, rfl⟩ := wiP_some h
  obtain ⟨h2, h3⟩ := hR ⟨s.tk, s.ns, s.op + 1⟩ s1 k ⟨hs.t, hs.n, hs.m, ho⟩ h1
  have h3 : s1.op = s.op + 1 := h3
  exact ⟨⟨h2.t, h2.n, h2.m, by show s1.op - 1 ≤ 48; omega⟩, by show s1.op - 1 = s.op; omega⟩
theorem ndP_op {s s' : PS} {n : GExprNode} {k : Int} (h : ndP s n = some (s', k)) : s'.op = s.op := by
  obtain ⟨_, rfl, _⟩ := ndP_some h; rfl
theorem pkL_ok : ∀ {ops : List Int} {a : Int × PS}, a.2.ok → (pkL ops a).2.ok ∧ (pkL ops a).2.op = a.2.op
  | [], a, h => ⟨h, rfl⟩
  | o :: r, a, h => by
    rw [pkL]
    split
    · exact pkL_ok (ops := r) (a := (o, dpP a.2 1)) (h.dp 1)
    · exact pkL_ok h
theorem pkL_step {ops : List Int} {j : Nat} {a : Int} {q : PS} (hj : j < ops.length) : pkL (ops.drop j) (a, q) = pkL (ops.drop (j + 1)) (if a = 0 ∧ isP q.tk [sgnT ops[j]] = true then (ops[j], dpP q 1) else (a, q)) := by
  rw [List.drop_eq_getElem_cons hj, pkL]
theorem pkL_hit {ops : List Int} {j : Nat} {a : Int} {q c : PS} (hj : j < ops.length) (h : pkL (ops.drop j) (a, q) = pkL ops (0, c)) (ha : a = 0) (hi : isP q.tk [sgnT ops[j]] = true) : pkL (ops.drop (j + 1)) (ops[j], dpP q 1) = pkL ops (0, c) := by
  rw [pkL_step hj, if_pos ⟨ha, hi⟩] at h; exact h
theorem pkL_miss {ops : List Int} {j : Nat} {a : Int} {q c : PS} (hj : j < ops.length) (h : pkL (ops.drop j) (a, q) = pkL ops (0, c)) (hi : ¬ (a = 0 ∧ isP q.tk [sgnT ops[j]] = true)) : pkL (ops.drop (j + 1)) (a, q) = pkL ops (0, c) := by
  rw [pkL_step hj, if_neg hi] at h; exact h
theorem pkL_end {ops : List Int} {j : Nat} {a : Int} {q c : PS} (hj : j = ops.length) (h : pkL (ops.drop j) (a, q) = pkL ops (0, c)) : pkL ops (0, c) = (a, q) := by
  rw [hj, List.drop_length, pkL] at h; exact h.symm
section
variable {R : PS → Option (PS × Int)} {ops : List Int}
theorem joP_some {f : Nat} {s s' : PS} {k : Int} (h : joP R ops f s = some (s', k)) : ∃ s1 l, R s = some (s1, l) ∧ joL R ops f s1 l = some (s', k) := by
  unfold joP at h
  split at h
  · cases h
  · rename_i s1 l h1; exact ⟨s1, l, h1, h⟩
theorem joL_pos {f : Nat} {s s' : PS} {l k : Int} (h : joL R ops f s l = some (s', k)) : ∃ g, f = g + 1 := by
  cases f with
  | zero => cases h
  | succ g => exact ⟨g, rfl⟩
theorem joL_stop {f : Nat} {s s' q : PS} {l k a : Int} (h : joL R ops (f + 1) s l = some (s', k)) (hp : pkL ops (0, s) = (a, q)) (ha : a = 0) : q = s' ∧ l = k := by
  rw [joL, hp] at h
  simp only [ha, if_true, Option.some.injEq, Prod.mk.injEq] at h
  exact h
theorem joL_more {f : Nat} {s s' q : PS} {l k a : Int} (h : joL R ops (f + 1) s l = some (s', k)) (hp : pkL ops (0, s) = (a, q)) (ha : ¬ a = 0) : ∃ s2 r s3 k3, R q = some (s2, r) ∧ ndP s2 (nd a l r) = some (s3, k3) ∧ joL R ops f s3 k3 = some (s', k) := by
  rw [joL, hp] at h
  simp only [ha, if_false] at h
  split at h
  · cases h
  · rename_i s2 r h2
    split at h
    · cases h
    · rename_i s3 k3 h3
      exact ⟨s2, r, s3, k3, h2, h3, h⟩
theorem RO.joL (hR : RO R) : ∀ {f : Nat} {s s' : PS} {l k : Int}, s.ok → joL R ops f s l = some (s', k) → s'.ok ∧ s'.op = s.op
  | 0, _, _, _, _, _, h => by cases h
  | f + 1, s, s', l, k, hs, h => by
    have hq := pkL_ok (ops := ops) (a := (0, s)) hs
    by_cases ha : (pkL ops (0, s)).1 = 0
    · obtain ⟨h1, _⟩ := joL_stop h rfl ha
      rw [← h1]; exact hq
    · obtain ⟨s2, r, s3, k3, h1, h2, h3⟩ := joL_more h rfl ha
      obtain ⟨g1, g2⟩ := hR _ _ _ hq.1 h1
      obtain ⟨g3, g4⟩ := RO.joL hR (g1.nd h2) h3
      exact ⟨g3, by rw [g4, ndP_op h2, g2, hq.2]⟩
theorem RO.jo (hR : RO R) {f : Nat} : RO (joP R ops f) := by
  intro s s' k hs h
  obtain ⟨s1, l, h1, h2⟩ := joP_some h
  obtain ⟨g1, g2⟩ := hR _ _ _ hs h1
  obtain ⟨g3, g4⟩ := hR.joL g1 h2
  exact ⟨g3, g4.trans g2⟩
end
section
variable {N C S A Q O : PS → Option (PS × Int)} {s s' : PS} {k : Int}
theorem noP_t (h : noP N C s = some (s', k)) (hi : isP s.tk [[110, 111, 116]] = true) : ∃ s1 l, wiP N (dpP s 1) = some (s1, l) ∧ ndP s1 (nd 3 l 0) = some (s', k) := by
  unfold noP at h
  rw [if_pos hi] at h
  split at h
  · cases h
  · rename_i s1 l h1; exact ⟨s1, l, h1, h⟩
theorem noP_f (h : noP N C s = some (s', k)) (hi : isP s.tk [[110, 111, 116]] = false) : C s = some (s', k) := by
  unfold noP at h
  rwa [if_neg (by rw [hi]; decide)] at h
theorem RO.no (hN : RO N) (hC : RO C) : RO (noP N C) := by
  intro s s' k hs h
  cases hi : isP s.tk [[110, 111, 116]] with
  | true =>
    obtain ⟨s1, l, h1, h2⟩ := noP_t h hi
    obtain ⟨g1, g2⟩ := hN.wi _ _ _ (hs.dp 1) h1
    exact ⟨g1.nd h2, (ndP_op h2).trans g2⟩
  | false => exact hC _ _ _ hs (noP_f h hi)
theorem cmP_some (h : cmP S s = some (s', k)) : ∃ s1 l, S s = some (s1, l) ∧
    (if isP s1.tk [[61]] = true then (match S (dpP s1 1) with
      | none => none
      | some (s2, r) => ndP s2 (nd 10 l r))
    else if isP s1.tk [[60]] = true then (match S (dpP s1 1) with
      | none => none
      | some (s2, r) => ndP s2 (nd 11 l r))
    else if isP s1.tk [[105, 115], [110, 117, 108, 108]] = true then ndP (dpP s1 2) (nd 4 l 0)
    else some (s1, l)) = some (s', k) := by
  unfold cmP at h
  split at h
  · cases h
  · rename_i s1 l h1; exact ⟨s1, l, h1, h⟩
theorem cm_two {o l : Int} {s1 : PS} (h : (match S (dpP s1 1) with
      | none => none
      | some (s2, r) => ndP s2 (nd o l r)) = some (s', k)) : ∃ s2 r, S (dpP s1 1) = some (s2, r) ∧ ndP s2 (nd o l r) = some (s', k) := by
  split at h
  · cases h
  · rename_i s2 r h1; exact ⟨s2, r, h1, h⟩
theorem RO.cm (hS : RO S) : RO (cmP S) := by
  intro s s' k hs h
  obtain ⟨s1, l, h1, h2⟩ := cmP_some h
  obtain ⟨g1, g2⟩ := hS _ _ _ hs h1
  split at h2
  · obtain ⟨s2, r, h3, h4⟩ := cm_two h2
    obtain ⟨g3, g4⟩ := hS _ _ _ (g1.dp 1) h3
    exact ⟨g3.nd h4, by rw [ndP_op h4, g4]; exact g2⟩
  · split at h2
    · obtain ⟨s2, r, h3, h4⟩ := cm_two h2
      obtain ⟨g3, g4⟩ := hS _ _ _ (g1.dp 1) h3
      exact ⟨g3.nd h4, by rw [ndP_op h4, g4]; exact g2⟩
    · split at h2
      · exact ⟨(g1.dp 2).nd h2, by rw [ndP_op h2]; exact g2⟩
      · cases h2; exact ⟨g1, g2⟩
theorem ahP_f (h : ahP A Q s = some (s', k)) (hi : isP s.tk [[45]] = false) : Q s = some (s', k) := by
  unfold ahP at h
  rwa [if_neg (by rw [hi]; decide)] at h
theorem ahP_n (h : ahP A Q s = some (s', k)) (hi : isP s.tk [[45]] = true) (hd : (dgP (dpP s 1).tk).2 = true ∧ ¬ (dgP (dpP s 1).tk).1 = 0) : ndP (dpP (dpP s 1) 1) ⟨1, 0, 0, 0, vI (-(dgP (dpP s 1).tk).1)⟩ = some (s', k) := by
  unfold ahP at h
  rwa [if_pos hi, if_pos hd] at h
theorem ahP_w (h : ahP A Q s = some (s', k)) (hi : isP s.tk [[45]] = true) (hd : ¬ ((dgP (dpP s 1).tk).2 = true ∧ ¬ (dgP (dpP s 1).tk).1 = 0)) : ∃ s1 l, wiP A (dpP s 1) = some (s1, l) ∧ ndP s1 (nd 5 l 0) = some (s', k) := by
  unfold ahP at h
  rw [if_pos hi, if_neg hd] at h
  split at h
  · cases h
  · rename_i s1 l h1; exact ⟨s1, l, h1, h⟩
theorem RO.ah (hA : RO A) (hQ : RO Q) : RO (ahP A Q) := by
  intro s s' k hs h
  cases hi : isP s.tk [[45]] with
  | false => exact hQ _ _ _ hs (ahP_f h hi)
  | true =>
    by_cases hd : (dgP (dpP s 1).tk).2 = true ∧ ¬ (dgP (dpP s 1).tk).1 = 0
    · have h2 := ahP_n h hi hd
      exact ⟨((hs.dp 1).dp 1).nd h2, by rw [ndP_op h2]; rfl⟩
    · obtain ⟨s1, l, h1, h2⟩ := ahP_w h hi hd
      obtain ⟨g1, g2⟩ := hA.wi _ _ _ (hs.dp 1) h1
      exact ⟨g1.nd h2, (ndP_op h2).trans g2⟩
theorem vaP_ok (hs : s.ok) : (vaP s).2.ok ∧ (vaP s).2.op = s.op := by
  unfold vaP
  split
  · exact ⟨hs.dp 1, rfl⟩
  · split
    · exact ⟨hs.dp 1, rfl⟩
    · split
      · exact ⟨hs, rfl⟩
      · split
        · exact ⟨hs.dp 1, rfl⟩
        · exact ⟨hs, rfl⟩
theorem prP_b (h : prP O s = some (s', k)) (hi : isP s.tk [[40]] = true) : ∃ s1, wiP O (dpP s 1) = some (s1, k) ∧ isP s1.tk [[41]] = true ∧ s' = dpP s1 1 := by
  unfold prP at h
  rw [if_pos hi] at h
  split at h
  · cases h
  · rename_i s1 l h1
    split at h
    · rename_i h2; cases h; exact ⟨s1, h1, h2, rfl⟩
    · cases h
theorem prP_v (h : prP O s = some (s', k)) (hi : isP s.tk [[40]] = false) (hv : (vaP s).1.2 = true) : ndP (vaP s).2 ⟨1, 0, 0, 0, (vaP s).1.1⟩ = some (s', k) := by
  unfold prP at h
  rwa [if_neg (by rw [hi]; decide), if_pos hv] at h
theorem prP_c (h : prP O s = some (s', k)) (hi : isP s.tk [[40]] = false) (hv : (vaP s).1.2 = false) : ∃ t r, s.tk = t :: r ∧ 0 ≤ colP t ∧ ndP (dpP s 1) ⟨2, 0, 0, colP t, GValue.zero⟩ = some (s', k) := by
  unfold prP at h
  rw [if_neg (by rw [hi]; decide), if_neg (by rw [hv]; decide)] at h
  split at h
  · cases h
  · rename_i t r ht
    split at h
    · cases h
    · exact ⟨t, r, ht, by omega, h⟩
theorem vaP_no (hv : (vaP s).1.2 = false) : (vaP s).2 = s := by
  unfold vaP at hv ⊢
  split
  · rename_i h1; rw [if_pos h1] at hv; cases hv
  · rename_i h1
    rw [if_neg h1] at hv
    split
    · rename_i h2; rw [if_pos h2] at hv; cases hv
    · rename_i h2
      rw [if_neg h2] at hv
      split
      · rfl
      · rename_i t r ht
        split
        · rename_i h3
          rw [ht] at hv
          simp only [h3, and_self, if_true] at hv
          cases hv
        · rfl
theorem RO.pr (hO : RO O) : RO (prP O) := by
  intro s s' k hs h
  cases hi : isP s.tk [[40]] with
  | true =>
    obtain ⟨s1, h1, _, rfl⟩ := prP_b h hi
    obtain ⟨g1, g2⟩ := hO.wi _ _ _ (hs.dp 1) h1
    exact ⟨g1.dp 1, g2⟩
  | false =>
    cases hv : (vaP s).1.2 with
    | true =>
      have h2 := prP_v h hi hv
      obtain ⟨g1, g2⟩ := vaP_ok hs
      exact ⟨g1.nd h2, (ndP_op h2).trans g2⟩
    | false =>
      obtain ⟨t, r, _, _, h2⟩ := prP_c h hi hv
      exact ⟨(hs.dp 1).nd h2, by rw [ndP_op h2]; rfl⟩
end
theorem prs_ro : ∀ (f l : Nat), RO (prs f l)
  | 0, _ => fun _ _ _ _ h => by cases h
  | f + 1, 0 => (prs_ro f 1).jo
  | f + 1, 1 => (prs_ro f 2).jo
  | f + 1, 2 => (prs_ro f 2).no (prs_ro f 3)
  | f + 1, 3 => (prs_ro f 4).cm
  | f + 1, 4 => (prs_ro f 5).jo
  | f + 1, 5 => (prs_ro f 6).jo
  | f + 1, 6 => (prs_ro f 6).ah (prs_ro f 7)
  | f + 1, 7 => (prs_ro f 0).pr
  | _ + 1, _ + 8 => fun _ _ _ _ h => by cases h
end Go.AM
namespace Go.AM
theorem decFrom_bd : ∀ {l : List UInt8} {acc n : Nat}, Lib.decFrom acc l = some n → n < (acc + 1) * 10 ^ l.length
  | [], acc, n, h => by
    simp only [Lib.decFrom, Option.some.injEq] at h
    subst h; simp
  | b :: r, acc, n, h => by
    rw [Lib.decFrom] at h
    split at h
    · rename_i d hd
      have hd9 : d ≤ 9 := by
        unfold Lib.digitVal at hd
        split at hd
        · rename_i hb; cases hd; omega
        · cases hd
      have h2 := decFrom_bd h
      have h3 : (acc * 10 + d + 1) * 10 ^ r.length ≤ ((acc + 1) * 10) * 10 ^ r.length := Nat.mul_le_mul_right _ (by omega)
      rw [List.length_cons, Nat.pow_succ, Nat.mul_comm (10 ^ r.length) 10, ← Nat.mul_assoc]
      omega
    · cases h
theorem decNat_bd {l : List UInt8} {n : Nat} (hl : l.length ≤ 18) (h : Lib.decNat l = some n) : n < 1000000000000000000 := by
  unfold Lib.decNat at h
  split at h
  · cases h
  · have h1 := decFrom_bd h
    have h2 : (10 : Nat) ^ l.length ≤ 10 ^ 18 := Nat.pow_le_pow_right (by decide) hl
    omega
theorem atoi_bd {t : Str} (hl : t.length ≤ 18) : -1000000000000000000 < (Lib.atoi t).getD 0 ∧ (Lib.atoi t).getD 0 < 1000000000000000000 := by
  cases h : Lib.atoi t with
  | none => exact ⟨by decide, by decide⟩
  | some n =>
    rw [Option.getD_some]
    cases t with
    | nil => cases h
    | cons b r =>
      have hr : r.length ≤ 18 := by have : (b :: r).length = r.length + 1 := rfl; omega
      simp only [Lib.atoi] at h
      split at h
      · cases hd : Lib.decNat r with
        | none => rw [hd] at h; cases h
        | some m => rw [hd] at h; cases h; dsimp only; have := decNat_bd hr hd; omega
      · split at h
        · cases hd : Lib.decNat r with
          | none => rw [hd] at h; cases h
          | some m => rw [hd] at h; cases h; dsimp only; have := decNat_bd hr hd; omega
        · cases hd : Lib.decNat (b :: r) with
          | none => rw [hd] at h; cases h
          | some m => rw [hd] at h; cases h; dsimp only; have := decNat_bd hl hd; omega
theorem rdF_1 {t : Str} : (Lib.atoi t).getD 0 = (rdF t).1 := by
  unfold rdF
  cases Lib.atoi t <;> rfl
theorem rdF_2 {t : Str} : ((Lib.atoi t).isSome && decide (Lib.itoa ((Lib.atoi t).getD 0) = t)) = (rdF t).2 := by
  unfold rdF
  cases Lib.atoi t <;> simp
theorem p18 : ((10 : Int) ^ 18) = 1000000000000000000 := by decide
theorem itoa_len18 {n : Int} (h : -1000000000000000000 < n ∧ n < 1000000000000000000) : (Lib.itoa n).length ≤ 1000 := by
  by_cases h0 : 0 ≤ n
  · have := itoa_len (f := 18) (n := n) ⟨by decide, by decide, fun _ => (by rw [p18]; omega), fun h => by omega⟩
    omega
  · rw [itoa_neg (by omega)]
    have := itoa_len (f := 18) (n := -n) ⟨by decide, by decide, fun _ => (by rw [p18]; omega), fun h => by omega⟩
    rw [List.length_cons]; omega
theorem dgP_cons {t : Str} {r : List Str} : dgP (t :: r) = ((rdF t).1, (rdF t).2 && inR (rdF t).1 (-1000000000) 1000000000) := rfl
def trimM (t : Str) : Str := if t.take 1 = [45] then t.drop 1 else t
theorem trimM_le {t : Str} : (trimM t).length ≤ t.length := by
  unfold trimM
  split
  · rw [List.length_drop]; omega
  · exact Nat.le_refl _
theorem sT_take {l : Str} {a : Int} {n : Nat} (h : a.toNat = n) : AV.d (.str ((l.drop (0 : Int).toNat).take (a.toNat - (0 : Int).toNat))) = .d (.str (l.take n)) := by
  rw [h]; simp
theorem sT_drop {l : Str} {a : Int} {n : Nat} (h : a.toNat = n) : AV.d (.str ((l.drop a.toNat).take ((l.length : Int).toNat - a.toNat))) = .d (.str (l.drop n)) := by
  rw [h, Int.toNat_natCast, List.take_of_length_le (by simp)]
theorem sT_mid {l : Str} {a b : Int} {n m : Nat} (h : a.toNat = n) (h2 : b.toNat - n = m) : AV.d (.str ((l.drop a.toNat).take (b.toNat - a.toNat))) = .d (.str ((l.drop n).take m)) := by
  rw [h, h2]
theorem take1_len {t : Str} (h : t.take 1 = [45]) : 1 ≤ t.length := by
  cases t with
  | nil => cases h
  | cons a r => rw [List.length_cons]; omega
theorem hasp_eq {t : Str} : (decide ((t.length : Int) ≥ ((([45] : Str).length : Nat) : Int)) && decide (t.take 1 = [45])) = decide (t.take 1 = [45]) := by
  by_cases h : t.take 1 = [45]
  · have := take1_len h
    rw [decide_eq_true h, decide_eq_true (by show (t.length : Int) ≥ 1; omega)]; rfl
  · rw [decide_eq_false h, Bool.and_false]
theorem eqi_of {v : Value} {b : Bool} (h : (v = .nilIface ∧ b = true) ∨ ((∃ te pe, v = .iface te pe) ∧ b = false)) : (v = .nilIface ∧ b = true) ∨ ((∃ te pe, v = .iface te pe) ∧ b = false) := h
theorem dg_cons {tk : List Str} (h : (dgP tk).2 = true) : ∃ t r, tk = t :: r := by
  cases tk with
  | nil => cases h
  | cons t r => exact ⟨t, r, rfl⟩
theorem hd_row {tk : List Str} (h : 0 < tk.length) : (tk.map strRow)[0]? = some (strRow (tk.headD [])) := by
  cases tk with
  | nil => cases h
  | cons t r => rfl
theorem hd_mem {tk : List Str} (h : 0 < tk.length) : tk.headD [] ∈ tk := by
  cases tk with
  | nil => cases h
  | cons t r => exact List.mem_cons_self
theorem dg_bd {tk : List Str} (h : (dgP tk).2 = true) : -1000000000 ≤ (dgP tk).1 ∧ (dgP tk).1 ≤ 1000000000 := by
  cases tk with
  | nil => cases h
  | cons t r =>
    rw [dgP_cons] at h ⊢
    rw [Bool.and_eq_true] at h
    exact inR_iff.1 h.2
theorem hd_get {l : Str} (h : 0 < l.length) : AV.d (.int .u8 (l[0].toNat : Int)) = .d (.int .u8 ((l.headD 0).toNat : Int)) := by
  cases l with
  | nil => cases h
  | cons a r => rfl
theorem hd_39 {t : Str} (h : 0 < t.length) : ((t.headD 0).toNat : Int) = 39 ↔ t.head? = some 39 := by
  cases t with
  | nil => cases h
  | cons a r =>
    show ((a.toNat : Int) = 39) ↔ (some a = some 39)
    constructor
    · intro h
      have : a.toNat = 39 := by omega
      rw [show a = 39 from UInt8.toNat_inj.1 this]
    · intro h
      cases h; rfl
section
variable {s : PS}
theorem vaP_1 (h : (dgP s.tk).2 = true) : vaP s = ((vI (dgP s.tk).1, true), dpP s 1) := by unfold vaP; rw [if_pos h]
theorem vaP_2 (h : (dgP s.tk).2 = false) (h1 : isP s.tk [[110, 117, 108, 108]] = true) : vaP s = ((GValue.zero, true), dpP s 1) := by unfold vaP; rw [if_neg (by rw [h]; decide), if_pos h1]
theorem vaP_3 {t : Str} {r : List Str} (h : (dgP s.tk).2 = false) (h1 : isP s.tk [[110, 117, 108, 108]] = false) (ht : s.tk = t :: r) (hq : t.head? = some 39) (hv : valueOK ⟨2, 0, (t.drop 1).take (t.length - 2)⟩ = true) : vaP s = ((⟨2, 0, (t.drop 1).take (t.length - 2)⟩, true), dpP s 1) := by
  unfold vaP; rw [if_neg (by rw [h]; decide), if_neg (by rw [h1]; decide), ht]; simp only [hq, hv, and_self, if_true]
theorem vaP_4 {t : Str} {r : List Str} (h : (dgP s.tk).2 = false) (h1 : isP s.tk [[110, 117, 108, 108]] = false) (ht : s.tk = t :: r) (hv : valueOK ⟨2, 0, (t.drop 1).take (t.length - 2)⟩ = false) : vaP s = ((GValue.zero, false), s) := by
  unfold vaP; rw [if_neg (by rw [h]; decide), if_neg (by rw [h1]; decide), ht]; simp only [hv, Bool.false_eq_true, and_false, if_false]
theorem vaP_5 (hs : s.ok) (h : (dgP s.tk).2 = false) (h1 : isP s.tk [[110, 117, 108, 108]] = false) (h2 : ¬ (s.tk.length : Int) > 0 ∨ ¬ (((s.tk.headD []).headD 0).toNat : Int) = 39) : vaP s = ((GValue.zero, false), s) := by
  unfold vaP; rw [if_neg (by rw [h]; decide), if_neg (by rw [h1]; decide)]
  split
  · rfl
  · rename_i t r ht
    have okt := hs.t t (by rw [ht]; exact List.mem_cons_self)
    rcases h2 with h2 | h2
    · rw [ht] at h2; simp at h2
    · rw [ht] at h2
      have h2 : ¬ ((t.headD 0).toNat : Int) = 39 := h2
      rw [if_neg (fun e => h2 ((hd_39 okt.1).2 e.1))]
end
end Go.AM

namespace Go.AM
def letB (b : UInt8) : Bool := inR (b.toNat : Int) 97 122
def digB (b : UInt8) : Bool := decide (48 ≤ b.toNat) && decide (b.toNat ≤ 57)
def wordB (b : UInt8) : Bool := letB b || digB b
def wn (p : UInt8 → Bool) : Str → Nat
  | [] => 0
  | b :: r => if p b = true then wn p r + 1 else 0
def sgB (c : UInt8) : Bool := (((((((decide (c = 40) || decide (c = 41)) || decide (c = 43)) || decide (c = 45)) || decide (c = 42)) || decide (c = 47)) || decide (c = 61)) || decide (c = 60)) || decide (c = 44)
def tokF : Str → Nat
  | [] => 0
  | c :: r => if letB c = true then wn wordB r + 1 else if digB c = true then wn digB r + 1
    else if c = 39 then (if r[wn letB r]? = some 39 then wn letB r + 2 else 0) else if sgB c = true then 1 else 0
def lexF : Nat → Str → Option (List Str)
  | 0, _ => none
  | _ + 1, [] => some []
  | f + 1, c :: r => if c = 32 then lexF f r else if tokF (c :: r) = 0 then none else match lexF f ((c :: r).drop (tokF (c :: r))) with
    | none => none
    | some ts => some ((c :: r).take (tokF (c :: r)) :: ts)
theorem wn_le {p : UInt8 → Bool} : ∀ {l : Str}, wn p l ≤ l.length
  | [] => Nat.le_refl _
  | b :: r => by
    rw [wn, List.length_cons]
    split
    · have := wn_le (p := p) (l := r); omega
    · omega
theorem tokF_le {t : Str} : tokF t ≤ t.length := by
  cases t with
  | nil => exact Nat.le_refl _
  | cons c r =>
    have h1 := wn_le (p := wordB) (l := r)
    have h2 := wn_le (p := digB) (l := r)
    have h3 := wn_le (p := letB) (l := r)
    rw [tokF, List.length_cons]
    split
    · omega
    · split
      · omega
      · split
        · split
          · rename_i hq
            have := (List.getElem?_eq_some_iff.1 hq).1
            omega
          · omega
        · split <;> omega
section
variable {p : UInt8 → Bool} {t : Str} {m : Nat}
theorem wn_yes (hm : m < t.length) (h : p (t.getD m 0) = true) : wn p (t.drop m) = wn p (t.drop (m + 1)) + 1 := by
  have e : t.getD m 0 = t[m] := by simp [hm]
  rw [List.drop_eq_getElem_cons hm, wn, if_pos (by rw [← e]; exact h)]
theorem wn_no (h : ¬ m < t.length ∨ p (t.getD m 0) = false) : wn p (t.drop m) = 0 := by
  by_cases hm : m < t.length
  · have e : t.getD m 0 = t[m] := by simp [hm]
    have h := h.resolve_left (fun g => g hm)
    rw [List.drop_eq_getElem_cons hm, wn, if_neg (by rw [← e, h]; decide)]
  · rw [List.drop_of_length_le (by omega)]; rfl
theorem wn_noI (h : ¬ (m : Int) < (t.length : Int) ∨ p (t.getD m 0) = false) : wn p (t.drop m) = 0 := wn_no (h.imp (fun g e => g (by omega)) id)
theorem wn_noW (h : ¬ (m : Int) < (t.length : Int) ∨ (letB (t.getD m 0) = false ∧ digB (t.getD m 0) = false)) : wn wordB (t.drop m) = 0 := wn_no (h.imp (fun g e => g (by omega)) (fun g => by unfold wordB; rw [Bool.or_eq_false_iff]; exact g))
theorem word_yes {b : UInt8} (h : letB b = true ∨ digB b = true) : wordB b = true := by unfold wordB; rw [Bool.or_eq_true]; exact h
theorem getD_get (hm : m < t.length) : AV.d (.int .u8 (t[m].toNat : Int)) = .d (.int .u8 ((t.getD m 0).toNat : Int)) := by
  have e : t.getD m 0 = t[m] := by simp [hm]
  rw [e]
theorem digB_eq {b : UInt8} : (decide ((b.toNat : Int) ≥ 48) && decide ((b.toNat : Int) ≤ 57)) = digB b := by
  unfold digB
  congr 1
  · exact decide_eq_decide.2 (by omega)
  · exact decide_eq_decide.2 (by omega)
theorem u8_int {b : UInt8} {n : Nat} (hn : n < 256) : ((b.toNat : Int) = (n : Int)) ↔ b = UInt8.ofNat n := by
  constructor
  · intro h
    exact UInt8.toNat_inj.1 (by rw [UInt8.toNat_ofNat']; omega)
  · intro h
    rw [h, UInt8.toNat_ofNat']; omega
theorem idxB (c : UInt8) : decide (0 ≤ Lib.indexByte [40, 41, 43, 45, 42, 47, 61, 60, 44] c) = sgB c := by
  have h : ∀ n : Fin 256, decide (0 ≤ Lib.indexByte [40, 41, 43, 45, 42, 47, 61, 60, 44] (UInt8.ofNat n.1)) = sgB (UInt8.ofNat n.1) := by decide +kernel
  have := h ⟨c.toNat, UInt8.toNat_lt c⟩
  rwa [UInt8.ofNat_toNat] at this
end
section
variable {c : UInt8} {r : Str}
theorem tok_1 (h : letB c = true) : tokF (c :: r) = wn wordB r + 1 := by rw [tokF, if_pos h]
theorem tok_2 (h0 : letB c = false) (h : digB c = true) : tokF (c :: r) = wn digB r + 1 := by rw [tokF, if_neg (by rw [h0]; decide), if_pos h]
theorem tok_3 (h0 : letB c = false) (h1 : digB c = false) (h : c = 39) (hq : r[wn letB r]? = some 39) : tokF (c :: r) = wn letB r + 2 := by
  rw [tokF, if_neg (by rw [h0]; decide), if_neg (by rw [h1]; decide), if_pos h, if_pos hq]
theorem tok_4 (h0 : letB c = false) (h1 : digB c = false) (h : c = 39) (hq : ¬ r[wn letB r]? = some 39) : tokF (c :: r) = 0 := by
  rw [tokF, if_neg (by rw [h0]; decide), if_neg (by rw [h1]; decide), if_pos h, if_neg hq]
theorem tok_5 (h0 : letB c = false) (h1 : digB c = false) (h : ¬ c = 39) (hq : sgB c = true) : tokF (c :: r) = 1 := by
  rw [tokF, if_neg (by rw [h0]; decide), if_neg (by rw [h1]; decide), if_neg h, if_pos hq]
theorem tok_6 (h0 : letB c = false) (h1 : digB c = false) (h : ¬ c = 39) (hq : sgB c = false) : tokF (c :: r) = 0 := by
  rw [tokF, if_neg (by rw [h0]; decide), if_neg (by rw [h1]; decide), if_neg h, if_neg (by rw [hq]; decide)]
end
section
variable {f : Nat} {c : UInt8} {r : Str} {ts : List Str}
theorem lexF_pos {t : Str} (h : lexF f t = some ts) : ∃ g, f = g + 1 := by
  cases f with
  | zero => cases h
  | succ g => exact ⟨g, rfl⟩
theorem lexF_sp (h : lexF (f + 1) (c :: r) = some ts) (hc : c = 32) : lexF f r = some ts := by
  rwa [lexF, if_pos hc] at h
theorem lexF_tok (h : lexF (f + 1) (c :: r) = some ts) (hc : ¬ c = 32) : ¬ tokF (c :: r) = 0 ∧ ∃ ts', lexF f ((c :: r).drop (tokF (c :: r))) = some ts' ∧ ts = (c :: r).take (tokF (c :: r)) :: ts' := by
  rw [lexF, if_neg hc] at h
  split at h
  · cases h
  · rename_i h0
    split at h
    · cases h
    · rename_i ts' h1
      cases h
      exact ⟨h0, ts', h1, rfl⟩
theorem lexF_nil (h : lexF (f + 1) [] = some ts) : ts = [] := by
  rw [lexF] at h; cases h; rfl
end
theorem q39_get {t : Str} {c : UInt8} {r : Str} {m : Nat} (ht : t = c :: r) (hm : m = wn letB r + 1) : r[wn letB r]? = if m < t.length then some (t.getD m 0) else none := by
  subst hm ht
  by_cases h : wn letB r < r.length
  · rw [if_pos (by rw [List.length_cons]; omega), List.getElem?_eq_getElem h]; simp [h]
  · rw [if_neg (by rw [List.length_cons]; omega), List.getElem?_eq_none (by omega)]
theorem q39_no {t : Str} {c : UInt8} {r : Str} {m : Nat} (ht : t = c :: r) (hm : m = wn letB r + 1) (h : (m : Int) = (t.length : Int) ∨ ¬ ((t.getD m 0).toNat : Int) = 39) : ¬ r[wn letB r]? = some 39 := by
  rw [q39_get ht hm]
  intro e
  split at e
  · rename_i hl
    rcases h with h | h
    · omega
    · cases e.symm ▸ (rfl : some (t.getD m 0) = some (t.getD m 0))
      have e := Option.some.inj e
      exact h (by rw [e]; rfl)
  · cases e
theorem q39_yes {t : Str} {c : UInt8} {r : Str} {m : Nat} (ht : t = c :: r) (hm : m = wn letB r + 1) (hl : m < t.length) (h : ((t.getD m 0).toNat : Int) = 39) : r[wn letB r]? = some 39 := by
  rw [q39_get ht hm, if_pos hl]
  exact congrArg some ((u8_int (n := 39) (by decide)).1 h)
end Go.AM
namespace Go.AM
end Go.AM

namespace Go.AM
open Go.Lib (decDigits)
theorem dd_small {u : Nat} (h : u < 10) : decDigits u = [UInt8.ofNat (48 + u)] := by rw [decDigits, dif_pos h]
theorem dd_big {u : Nat} (h : ¬ u < 10) : decDigits u = decDigits (u / 10) ++ [UInt8.ofNat (48 + u % 10)] := by rw [decDigits, dif_neg h]
theorem dig_nat {d : Nat} (h : d < 10) : (UInt8.ofNat (48 + d)).toNat = 48 + d := by rw [UInt8.toNat_ofNat']; omega
theorem dig_digB {d : Nat} (h : d < 10) : digB (UInt8.ofNat (48 + d)) = true := by unfold digB; rw [dig_nat h]; simp; omega
theorem dd_all : ∀ (u : Nat), ∀ b ∈ decDigits u, digB b = true := by
  intro u
  induction u using Nat.strongRecOn with
  | ind u ih =>
    intro b hb
    by_cases h : u < 10
    · rw [dd_small h, List.mem_singleton] at hb
      rw [hb]; exact dig_digB h
    · rw [dd_big h, List.mem_append, List.mem_singleton] at hb
      rcases hb with hb | hb
      · exact ih (u / 10) (by omega) b hb
      · rw [hb]; exact dig_digB (Nat.mod_lt _ (by decide))
theorem dd_ne (u : Nat) : decDigits u ≠ [] := by
  by_cases h : u < 10
  · rw [dd_small h]; simp
  · rw [dd_big h]; simp
theorem decFrom_snoc : ∀ {l : List UInt8} {acc n : Nat} {b : UInt8} {d : Nat}, Lib.decFrom acc l = some n → Lib.digitVal b = some d → Lib.decFrom acc (l ++ [b]) = some (n * 10 + d)
  | [], acc, n, b, d, h, hd => by
    simp only [Lib.decFrom, Option.some.injEq] at h
    subst h
    simp [Lib.decFrom, hd]
  | a :: r, acc, n, b, d, h, hd => by
    rw [List.cons_append]
    rw [Lib.decFrom] at h ⊢
    cases ha : Lib.digitVal a with
    | none => rw [ha] at h; cases h
    | some x => rw [ha] at h; exact decFrom_snoc h hd
theorem dig_val {d : Nat} (h : d < 10) : Lib.digitVal (UInt8.ofNat (48 + d)) = some d := by
  unfold Lib.digitVal
  rw [dig_nat h, if_pos (by omega)]
  congr 1; omega
theorem decFrom_dd : ∀ (u : Nat), Lib.decFrom 0 (decDigits u) = some u := by
  intro u
  induction u using Nat.strongRecOn with
  | ind u ih =>
    by_cases h : u < 10
    · rw [dd_small h, Lib.decFrom, dig_val h]
      show Lib.decFrom (0 * 10 + u) [] = some u
      rw [Lib.decFrom]; congr 1; omega
    · rw [dd_big h, decFrom_snoc (ih (u / 10) (by omega)) (dig_val (Nat.mod_lt _ (by decide)))]
      congr 1; omega
theorem atoi_dd (u : Nat) : Lib.atoi (decDigits u) = some (u : Int) := by
  have h1 := decFrom_dd u
  have h2 := dd_all u
  cases hd : decDigits u with
  | nil => exact absurd hd (dd_ne u)
  | cons b r =>
    rw [hd] at h1 h2
    have hb := h2 b List.mem_cons_self
    have h45 : (b == 45) = false := by
      cases he : (b == 45) with
      | false => rfl
      | true => rw [beq_iff_eq.1 he] at hb; exact absurd hb (by decide)
    have h43 : (b == 43) = false := by
      cases he : (b == 43) with
      | false => rfl
      | true => rw [beq_iff_eq.1 he] at hb; exact absurd hb (by decide)
    simp only [Lib.atoi, h45, h43, Bool.false_eq_true, if_false, Lib.decNat, List.isEmpty_cons]
    rw [h1]; rfl
theorem itoa_nn {n : Int} (h : 0 ≤ n) : Lib.itoa n = decDigits n.toNat := by unfold Lib.itoa; rw [if_neg (by omega)]
theorem rdF_dd (u : Nat) : rdF (decDigits u) = ((u : Int), true) := by
  unfold rdF
  rw [atoi_dd]
  show ((u : Int), decide (Lib.itoa (u : Int) = decDigits u)) = _
  rw [itoa_nn (by omega), Int.toNat_natCast, decide_eq_true rfl]
theorem dd_len {u : Nat} (h : u ≤ 1000000000) : (decDigits u).length ≤ 11 := by
  have := itoa_len (dgM_small (n := (u : Int)) (by omega))
  rwa [itoa_nn (by omega), Int.toNat_natCast] at this
/-- What begins with no digit and no sign is no number. -/
theorem rdF_no {b : UInt8} {r : Str} (h : digB b = false) (h1 : b ≠ 45) (h2 : b ≠ 43) : rdF (b :: r) = (0, false) := by
  have hd : Lib.digitVal b = none := by
    unfold Lib.digitVal
    unfold digB at h
    rw [if_neg (fun e => by simp [e.1, e.2] at h)]
  unfold rdF
  have : Lib.atoi (b :: r) = none := by
    simp only [Lib.atoi, beq_eq_false_iff_ne.2 h1, beq_eq_false_iff_ne.2 h2, Bool.false_eq_true, if_false, Lib.decNat, List.isEmpty_cons, Lib.decFrom, hd]
    rfl
  rw [this]
def tkV (v : GValue) : List Str := if v.Kind = 0 then [[110, 117, 108, 108]] else if v.Kind = 1 then (if v.N < 0 then [[45], decDigits v.N.natAbs] else [decDigits v.N.toNat]) else [(39 :: v.T) ++ [39]]
def tkE (ns : List GExprNode) : Nat → Int → List Str
  | 0, _ => []
  | f + 1, i => match ns[i.toNat]? with
    | none => []
    | some x => if x.Op = 1 then tkV x.V else if x.Op = 2 then [colT x.Column]
      else if x.Op = 3 then [40] :: [110, 111, 116] :: (tkE ns f x.A ++ [[41]])
      else if x.Op = 4 then [40] :: (tkE ns f x.A ++ [[105, 115], [110, 117, 108, 108], [41]])
      else if x.Op = 5 then [40] :: [45] :: [40] :: (tkE ns f x.A ++ [[41], [41]])
      else [40] :: (tkE ns f x.A ++ sgnT x.Op :: (tkE ns f x.B ++ [[41]]))
section
variable {ns : List GExprNode} {f j : Nat}
theorem tkE_at (hj : j < ns.length) : tkE ns (f + 1) (j : Int) = if ns[j].Op = 1 then tkV ns[j].V else if ns[j].Op = 2 then [colT ns[j].Column]
      else if ns[j].Op = 3 then [40] :: [110, 111, 116] :: (tkE ns f ns[j].A ++ [[41]])
      else if ns[j].Op = 4 then [40] :: (tkE ns f ns[j].A ++ [[105, 115], [110, 117, 108, 108], [41]])
      else if ns[j].Op = 5 then [40] :: [45] :: [40] :: (tkE ns f ns[j].A ++ [[41], [41]])
      else [40] :: (tkE ns f ns[j].A ++ sgnT ns[j].Op :: (tkE ns f ns[j].B ++ [[41]])) := by
  rw [tkE, Int.toNat_natCast, List.getElem?_eq_getElem hj]
/-- What a right node is. -/
theorem zeroV_is {v : GValue} (h : zeroV v = true) : v = GValue.zero := by
  unfold zeroV at h
  simp only [Bool.and_eq_true, decide_eq_true_eq, and_true] at h
  exact GValue.ext1 h.1 h.2.1 h.2.2
inductive Shp (ns : List GExprNode) (j : Nat) (hj : j < ns.length) : Prop
  | con (h : ns[j].Op = 1) (e : ns[j] = ⟨1, 0, 0, 0, ns[j].V⟩) (v : valueOK ns[j].V = true) (fr : (T ns j).1 = j)
  | col (h : ns[j].Op = 2) (e : ns[j] = ⟨2, 0, 0, ns[j].Column, GValue.zero⟩) (c : 0 ≤ ns[j].Column ∧ ns[j].Column ≤ 2) (fr : (T ns j).1 = j)
  | un (a : Nat) (o : Int) (h : ns[j].Op = o) (ho : 3 ≤ o ∧ o ≤ 5) (hA : ns[j].A = (a : Int)) (ha : a + 1 = j) (e : ns[j] = nd o a 0) (t : (T ns a).2.2 = true) (fr : (T ns j).1 = (T ns a).1) (d : (T ns j).2.1 = (T ns a).2.1 + 1)
  | bi (a b : Nat) (o : Int) (h : ns[j].Op = o) (ho : 6 ≤ o ∧ o ≤ 13) (hA : ns[j].A = (a : Int)) (hB : ns[j].B = (b : Int)) (hab : a < b) (hb : b + 1 = j) (e : ns[j] = nd o a b) (ta : (T ns a).2.2 = true) (tb : (T ns b).2.2 = true) (fr : (T ns j).1 = (T ns a).1) (fb : (T ns b).1 = (a : Int) + 1)
      (da : (T ns a).2.1 + 1 ≤ (T ns j).2.1) (db : (T ns b).2.1 + 1 ≤ (T ns j).2.1)
theorem mxI_l {a b : Int} : a ≤ mxI a b ∧ b ≤ mxI a b := by unfold mxI; split <;> omega
theorem T_shp (hj : j < ns.length) (ht : (T ns j).2.2 = true) : Shp ns j hj := by
  have e := T_at hj
  rw [e] at ht
  by_cases h1 : ns[j].Op = 1
  · rw [nodeW_1 h1] at ht e
    simp only [Bool.and_eq_true, decide_eq_true_eq] at ht
    obtain ⟨⟨⟨a1, a2⟩, a3⟩, a4⟩ := ht
    exact .con h1 (GExprNode.ext1 h1 a1 a2 a3 rfl) a4 (by rw [e])
  by_cases h2 : ns[j].Op = 2
  · rw [nodeW_2 h1 h2] at ht e
    simp only [Bool.and_eq_true, decide_eq_true_eq] at ht
    obtain ⟨⟨⟨a1, a2⟩, a3⟩, a4⟩ := ht
    exact .col h2 (GExprNode.ext1 h2 a1 a2 rfl (zeroV_is a4)) (inR_iff.1 a3) (by rw [e])
  cases h3 : inR ns[j].Op 3 5 with
  | true =>
    have h3' := inR_iff.1 h3
    rw [nodeW_3 h1 h2 h3] at ht e
    simp only [Bool.and_eq_true, decide_eq_true_eq] at ht
    obtain ⟨⟨⟨⟨a1, a2⟩, a3⟩, a4⟩, a5⟩ := ht
    have hn := T_nn a1
    have hc : ((j - 1 : Nat) : Int) = (j : Int) - 1 := by omega
    exact .un (j - 1) ns[j].Op rfl h3' (by rw [a2, hc]) (by omega) (GExprNode.ext1 rfl (by rw [a2, ← hc]; rfl) a3 a4 (zeroV_is a5)) (by rw [hc]; exact a1) (by rw [e, hc]) (by rw [e, hc])
  | false =>
    cases h4 : inR ns[j].Op 6 13 with
    | false => rw [nodeW_6 h1 h2 h3 h4] at ht; cases ht
    | true =>
      have h4' := inR_iff.1 h4
      cases h5 : (T ns ((j : Int) - 1)).2.2 with
      | false => rw [nodeW_4 h1 h2 h3 h4 h5] at ht; cases ht
      | true =>
        rw [nodeW_5 h1 h2 h3 h4 h5] at ht e
        simp only [Bool.and_eq_true, decide_eq_true_eq] at ht
        obtain ⟨⟨⟨⟨o1, o2⟩, o3⟩, o4⟩, o5⟩ := ht
        have n1 := T_nn h5
        have n2 := T_nn o1
        have bb := @T_b ns ((j : Int) - 1)
        obtain ⟨a, ha⟩ : ∃ a : Nat, (a : Int) = (T ns ((j : Int) - 1)).1 - 1 := ⟨((T ns ((j : Int) - 1)).1 - 1).toNat, by omega⟩
        have hc : ((j - 1 : Nat) : Int) = (j : Int) - 1 := by omega
        rw [← ha] at o1 o2 e
        have hm := @mxI_l (T ns (a : Int)).2.1 (T ns ((j : Int) - 1)).2.1
        exact .bi a (j - 1) ns[j].Op rfl h4' o2 (by rw [o3, hc]) (by omega) (by omega) (GExprNode.ext1 rfl o2 (by rw [o3, ← hc]; rfl) o4 (zeroV_is o5)) o1 (by rw [hc]; exact h5) (by rw [e]) (by rw [hc]; omega) (by rw [e]; dsimp only; omega) (by rw [e, hc]; dsimp only; omega)
end
end Go.AM
namespace Go.AM
open Go.Lib (decDigits)
def LexR (t : Str) (ts : List Str) : Prop := ∃ f, lexF f t = some ts
def bdr (r : Str) : Prop := ∀ c, r.head? = some c → wordB c = false
theorem LexR.nil : LexR [] [] := ⟨1, rfl⟩
theorem LexR.sp {r : Str} {ts : List Str} (h : LexR r ts) : LexR (32 :: r) ts := by
  obtain ⟨f, h⟩ := h
  exact ⟨f + 1, by rw [lexF, if_pos rfl]; exact h⟩
theorem LexR.tok {c : UInt8} {r t rest : Str} {rs : List Str} (hc : ¬ c = 32) (ht : c :: r = t ++ rest) (hn : tokF (c :: r) = t.length) (h0 : t ≠ []) (h : LexR rest rs) : LexR (c :: r) (t :: rs) := by
  obtain ⟨f, h⟩ := h
  refine ⟨f + 1, ?_⟩
  have hl : 0 < t.length := List.length_pos_iff.2 h0
  rw [lexF, if_neg hc, if_neg (by omega), hn]
  rw [show (c :: r).drop t.length = rest from by rw [ht, List.drop_left], h, show (c :: r).take t.length = t from by rw [ht, List.take_left]]
theorem LexR.sign {c : UInt8} {r : Str} {ts : List Str} (hs : sgB c = true) (h0 : letB c = false) (h1 : digB c = false) (h2 : ¬ c = 39) (h3 : ¬ c = 32) (h : LexR r ts) : LexR (c :: r) ([c] :: ts) :=
  .tok (t := [c]) h3 rfl (tok_5 h0 h1 h2 hs) (by simp) h
theorem wn_all {p : UInt8 → Bool} : ∀ {w rest : Str}, (∀ b ∈ w, p b = true) → (∀ c, rest.head? = some c → p c = false) → wn p (w ++ rest) = w.length
  | [], rest, _, hr => by
    cases rest with
    | nil => rfl
    | cons c r => rw [List.nil_append, wn, if_neg (by rw [hr c rfl]; decide)]; rfl
  | b :: w, rest, hw, hr => by
    rw [List.cons_append, wn, if_pos (hw b List.mem_cons_self), wn_all (fun x hx => hw x (List.mem_cons_of_mem _ hx)) hr, List.length_cons]
theorem let_ne {c : UInt8} (h : letB c = true) : ¬ c = 32 := fun e => by rw [e] at h; exact absurd h (by decide)
theorem dig_ne {c : UInt8} (h : digB c = true) : ¬ c = 32 := fun e => by rw [e] at h; exact absurd h (by decide)
theorem dig_let {c : UInt8} (h : digB c = true) : letB c = false := by
  unfold digB at h
  rw [Bool.and_eq_true, decide_eq_true_eq, decide_eq_true_eq] at h
  cases hl : letB c with
  | false => rfl
  | true => have := inR_iff.1 hl; omega
theorem LexR.word {c : UInt8} {w rest : Str} {rs : List Str} (hc : letB c = true) (hw : ∀ b ∈ w, wordB b = true) (hb : bdr rest) (h : LexR rest rs) : LexR ((c :: w) ++ rest) ((c :: w) :: rs) :=
  .tok (c := c) (r := w ++ rest) (t := c :: w) (let_ne hc) rfl (by rw [tok_1 hc, wn_all hw hb]; rfl) (by simp) h
theorem word_dig {c : UInt8} (h : wordB c = false) : digB c = false := by
  unfold wordB at h; rw [Bool.or_eq_false_iff] at h; exact h.2
theorem LexR.num {u : Nat} {rest : Str} {rs : List Str} (hb : bdr rest) (h : LexR rest rs) : LexR (decDigits u ++ rest) (decDigits u :: rs) := by
  have ha := dd_all u
  cases hd : decDigits u with
  | nil => exact absurd hd (dd_ne u)
  | cons c w =>
    rw [hd] at ha
    have hc := ha c List.mem_cons_self
    exact .tok (c := c) (r := w ++ rest) (t := c :: w) (dig_ne hc) rfl (by rw [tok_2 (dig_let hc) hc, wn_all (fun b hb => ha b (List.mem_cons_of_mem _ hb)) (fun x hx => word_dig (hb x hx))]; rfl) (by simp) h
theorem LexR.quote {w rest : Str} {rs : List Str} (hw : ∀ b ∈ w, letB b = true) (h : LexR rest rs) : LexR (39 :: (w ++ 39 :: rest)) ((39 :: w ++ [39]) :: rs) := by
  have hn : wn letB (w ++ 39 :: rest) = w.length := wn_all hw (fun c hc => by cases hc; decide)
  refine .tok (c := 39) (r := w ++ 39 :: rest) (t := 39 :: w ++ [39]) (by decide) (by simp) ?_ (by simp) h
  rw [tok_3 (by decide) (by decide) rfl (by rw [hn]; simp), hn]; simp
theorem LexR.par1 {r : Str} {ts : List Str} (h : LexR r ts) : LexR (40 :: r) ([40] :: ts) := .sign (by decide) (by decide) (by decide) (by decide) (by decide) h
theorem LexR.par2 {r : Str} {ts : List Str} (h : LexR r ts) : LexR (41 :: r) ([41] :: ts) := .sign (by decide) (by decide) (by decide) (by decide) (by decide) h
theorem LexR.minus {r : Str} {ts : List Str} (h : LexR r ts) : LexR (45 :: r) ([45] :: ts) := .sign (by decide) (by decide) (by decide) (by decide) (by decide) h
theorem bdr_cons {c : UInt8} {r : Str} (h : wordB c = false) : bdr (c :: r) := fun x hx => by cases hx; exact h
theorem bdr_nil : bdr [] := fun _ h => by cases h
theorem isWord_let {t : Str} (h : isWord t = true) : (∀ b ∈ t, letB b = true) ∧ t.length ≤ 10 := by
  unfold isWord at h
  rw [Bool.and_eq_true] at h
  refine ⟨fun b hb => ?_, by have := of_decide_eq_true h.2; omega⟩
  have h1 := h.1
  rw [Bool.not_eq_true', List.any_eq_false] at h1
  have := h1 b hb
  unfold badCh at this
  unfold letB
  cases hh : inR (b.toNat : Int) 97 122 with
  | true => rfl
  | false => rw [hh] at this; exact absurd rfl this
theorem vOK_2 {v : GValue} (h : valueOK v = true) (h0 : ¬ v.Kind = 0) (h1 : ¬ v.Kind = 1) : v.Kind = 2 ∧ v.N = 0 ∧ isWord v.T = true := by
  rw [valueOK_2 h0 h1] at h
  simp only [Bool.and_eq_true, decide_eq_true_eq] at h
  exact ⟨h.1.1, h.1.2, h.2⟩
theorem LexR.val {v : GValue} {rest : Str} {rs : List Str} (hv : valueOK v = true) (hb : bdr rest) (h : LexR rest rs) : LexR (vtextF v ++ rest) (tkV v ++ rs) := by
  unfold tkV
  by_cases h0 : v.Kind = 0
  · rw [vtext_0 h0, if_pos h0]
    exact .word (c := 110) (w := [117, 108, 108]) (by decide) (by decide) hb h
  by_cases h1 : v.Kind = 1
  · rw [vtext_1 h1, if_neg h0, if_pos h1]
    by_cases hn : v.N < 0
    · rw [if_pos hn]
      unfold Lib.itoa
      rw [if_pos hn]
      exact .minus (.num hb h)
    · rw [if_neg hn, itoa_nn (by omega)]
      exact .num hb h
  · rw [vtext_2 h0 h1, if_neg h0, if_neg h1]
    have := (LexR.quote (isWord_let (vOK_2 hv h0 h1).2.2).1 h)
    simpa using this
theorem LexR.colw {c : Int} {rest : Str} {rs : List Str} (hc : 0 ≤ c ∧ c ≤ 2) (hb : bdr rest) (h : LexR rest rs) : LexR (colT c ++ rest) (colT c :: rs) := by
  rcases (by omega : c = 0 ∨ c = 1 ∨ c = 2) with rfl | rfl | rfl
  · exact .word (c := 105) (w := [100]) (by decide) (by decide) hb h
  · exact .word (c := 110) (w := []) (by decide) (by decide) hb h
  · exact .word (c := 110) (w := [97, 109, 101]) (by decide) (by decide) hb h
theorem LexR.sgn {o : Int} {rest : Str} {rs : List Str} (ho : 6 ≤ o ∧ o ≤ 13) (h : LexR rest rs) : LexR (sgnT o ++ 32 :: rest) (sgnT o :: rs) := by
  rcases (by omega : o = 6 ∨ o = 7 ∨ o = 8 ∨ o = 9 ∨ o = 10 ∨ o = 11 ∨ o = 12 ∨ o = 13) with rfl | rfl | rfl | rfl | rfl | rfl | rfl | rfl
  · exact .sign (by decide) (by decide) (by decide) (by decide) (by decide) h.sp
  · exact .sign (by decide) (by decide) (by decide) (by decide) (by decide) h.sp
  · exact .sign (by decide) (by decide) (by decide) (by decide) (by decide) h.sp
  · exact .sign (by decide) (by decide) (by decide) (by decide) (by decide) h.sp
  · exact .sign (by decide) (by decide) (by decide) (by decide) (by decide) h.sp
  · exact .sign (by decide) (by decide) (by decide) (by decide) (by decide) h.sp
  · exact .word (c := 97) (w := [110, 100]) (by decide) (by decide) (bdr_cons (by decide)) h.sp
  · exact .word (c := 111) (w := [114]) (by decide) (by decide) (bdr_cons (by decide)) h.sp
section
variable {ns : List GExprNode}
theorem etF_un {f j a : Nat} {o : Int} {hj : j < ns.length} (h : ns[j].Op = o) (hA : ns[j].A = (a : Int)) : (o = 3 → etF ns (f + 1) (j : Int) = ([40, 110, 111, 116, 32] ++ etF ns f a) ++ [41]) ∧
    (o = 4 → etF ns (f + 1) (j : Int) = ([40] ++ etF ns f a) ++ [32, 105, 115, 32, 110, 117, 108, 108, 41]) ∧ (o = 5 → etF ns (f + 1) (j : Int) = ([40, 45, 32, 40] ++ etF ns f a) ++ [41, 41]) :=
  ⟨fun e => by rw [etF_3 hj (h.trans e), hA], fun e => by rw [etF_4 hj (h.trans e), hA], fun e => by rw [etF_5 hj (h.trans e), hA]⟩
theorem etF_bi {f j a b : Nat} {o : Int} {hj : j < ns.length} (h : ns[j].Op = o) (ho : 6 ≤ o) (hA : ns[j].A = (a : Int)) (hB : ns[j].B = (b : Int)) : etF ns (f + 1) (j : Int) = ((((([40] ++ etF ns f a) ++ [32]) ++ sgnT o) ++ [32]) ++ etF ns f b) ++ [41] := by
  rw [etF_6 hj (by omega) (by omega) (by omega) (by omega) (by omega), hA, hB, h]
theorem tkE_un {f j a : Nat} {o : Int} {hj : j < ns.length} (h : ns[j].Op = o) (hA : ns[j].A = (a : Int)) : (o = 3 → tkE ns (f + 1) (j : Int) = [40] :: [110, 111, 116] :: (tkE ns f a ++ [[41]])) ∧
    (o = 4 → tkE ns (f + 1) (j : Int) = [40] :: (tkE ns f a ++ [[105, 115], [110, 117, 108, 108], [41]])) ∧ (o = 5 → tkE ns (f + 1) (j : Int) = [40] :: [45] :: [40] :: (tkE ns f a ++ [[41], [41]])) := by
  refine ⟨fun e => ?_, fun e => ?_, fun e => ?_⟩ <;> rw [tkE_at hj, hA, h, e] <;> rfl
theorem tkE_bi {f j a b : Nat} {o : Int} {hj : j < ns.length} (h : ns[j].Op = o) (ho : 6 ≤ o) (hA : ns[j].A = (a : Int)) (hB : ns[j].B = (b : Int)) : tkE ns (f + 1) (j : Int) = [40] :: (tkE ns f a ++ sgnT o :: (tkE ns f b ++ [[41]])) := by
  rw [tkE_at hj, hA, hB, h, if_neg (by omega), if_neg (by omega), if_neg (by omega), if_neg (by omega), if_neg (by omega)]
theorem lex_E : ∀ {f j : Nat}, j < f → (hj : j < ns.length) → (T ns j).2.2 = true → ∀ {rest : Str} {rs : List Str}, bdr rest → LexR rest rs → LexR (etF ns f (j : Int) ++ rest) (tkE ns f (j : Int) ++ rs)
  | 0, j, h, _, _, _, _, _, _ => by omega
  | f + 1, j, h, hj, ht, rest, rs, hb, hr => by
    cases T_shp hj ht with
    | con o e v fr =>
      rw [etF_1 hj o, tkE_at hj, if_pos o]
      exact .val v hb hr
    | col o e c fr =>
      rw [etF_2 hj o, tkE_at hj, if_neg (by omega), if_pos o]
      exact .colw c hb hr
    | un a o ho h3 hA ha e t fr d =>
      have ih := fun {rest : Str} {rs : List Str} (hb : bdr rest) (hr : LexR rest rs) => lex_E (f := f) (j := a) (by omega) (by omega) t hb hr
      obtain ⟨e3, e4, e5⟩ := etF_un (f := f) (hj := hj) ho hA
      obtain ⟨k3, k4, k5⟩ := tkE_un (f := f) (hj := hj) ho hA
      rcases (by omega : o = 3 ∨ o = 4 ∨ o = 5) with h | h | h
      · rw [e3 h, k3 h]
        have := LexR.par1 (LexR.word (c := 110) (w := [111, 116]) (by decide) (by decide) (bdr_cons (c := 32) (by decide)) (LexR.sp (ih (bdr_cons (c := 41) (by decide)) (LexR.par2 hr))))
        simpa using this
      · rw [e4 h, k4 h]
        have := LexR.par1 (ih (bdr_cons (c := 32) (by decide)) (LexR.sp (LexR.word (c := 105) (w := [115]) (by decide) (by decide) (bdr_cons (c := 32) (by decide)) (LexR.sp (LexR.word (c := 110) (w := [117, 108, 108]) (by decide) (by decide) (bdr_cons (c := 41) (by decide)) (LexR.par2 hr))))))
        simpa using this
      · rw [e5 h, k5 h]
        have := LexR.par1 (LexR.minus (LexR.sp (LexR.par1 (ih (bdr_cons (c := 41) (by decide)) (LexR.par2 (LexR.par2 hr))))))
        simpa using this
    | bi a b o ho h6 hA hB hab hbj e ta tb fr fb da db =>
      have iha := fun {rest : Str} {rs : List Str} (hb : bdr rest) (hr : LexR rest rs) => lex_E (f := f) (j := a) (by omega) (by omega) ta hb hr
      have ihb := fun {rest : Str} {rs : List Str} (hb : bdr rest) (hr : LexR rest rs) => lex_E (f := f) (j := b) (by omega) (by omega) tb hb hr
      rw [etF_bi (hj := hj) ho h6.1 hA hB, tkE_bi (hj := hj) ho h6.1 hA hB]
      have := LexR.par1 (iha (bdr_cons (c := 32) (by decide)) (LexR.sp (LexR.sgn h6 (ihb (bdr_cons (c := 41) (by decide)) (LexR.par2 hr)))))
      simpa using this
theorem lexF_fuel : ∀ {f : Nat} {t : Str} {ts : List Str}, lexF f t = some ts → ∀ {g : Nat}, t.length < g → lexF g t = some ts
  | 0, _, _, h, _, _ => by cases h
  | f + 1, [], ts, h, g, hg => by
    obtain ⟨g, rfl⟩ : ∃ k, g = k + 1 := ⟨g - 1, by have : ([] : Str).length = 0 := rfl; omega⟩
    rw [lexF] at h ⊢; exact h
  | f + 1, c :: r, ts, h, g, hg => by
    rw [List.length_cons] at hg
    obtain ⟨g, rfl⟩ : ∃ k, g = k + 1 := ⟨g - 1, by omega⟩
    by_cases hc : c = 32
    · rw [lexF, if_pos hc]
      exact lexF_fuel (lexF_sp h hc) (by omega)
    · obtain ⟨h0, ts', h1, rfl⟩ := lexF_tok h hc
      rw [lexF, if_neg hc, if_neg h0, lexF_fuel h1 (by rw [List.length_drop, List.length_cons]; omega)]
end
end Go.AM
namespace Go.AM
open Go.Lib (decDigits)
theorem okT_of {t : Str} (h : 1 ≤ t.length ∧ t.length ≤ 18) (h1 : t.head? ≠ some 39 ∨ 2 ≤ t.length) : okT t := ⟨h.1, h.2, fun e => h1.resolve_left (fun g => g e)⟩
theorem dd_ok {u : Nat} (h : u ≤ 1000000000) : okT (decDigits u) := by
  have hl := dd_len h
  have ha := dd_all u
  cases hd : decDigits u with
  | nil => exact absurd hd (dd_ne u)
  | cons c w =>
    rw [hd] at hl ha
    refine okT_of ⟨by rw [List.length_cons]; omega, by omega⟩ (.inl (fun e => ?_))
    have hc := ha c List.mem_cons_self
    rw [List.head?_cons, Option.some.injEq] at e
    rw [e] at hc; exact absurd hc (by decide)
theorem tkV_ok {v : GValue} (hv : valueOK v = true) : (∀ t ∈ tkV v, okT t) ∧ (tkV v).length ≤ 2 := by
  unfold tkV
  by_cases h0 : v.Kind = 0
  · rw [if_pos h0]
    exact ⟨fun t ht => by rw [List.mem_singleton] at ht; rw [ht]; exact okT_of (by decide) (.inl (by decide)), by simp⟩
  by_cases h1 : v.Kind = 1
  · rw [if_neg h0, if_pos h1]
    have hn := vOK_n hv h1
    by_cases h2 : v.N < 0
    · rw [if_pos h2]
      refine ⟨fun t ht => ?_, by simp⟩
      rw [List.mem_cons, List.mem_singleton] at ht
      rcases ht with rfl | rfl
      · exact okT_of (by decide) (.inl (by decide))
      · exact dd_ok (by omega)
    · rw [if_neg h2]
      exact ⟨fun t ht => by rw [List.mem_singleton] at ht; rw [ht]; exact dd_ok (by omega), by simp⟩
  · rw [if_neg h0, if_neg h1]
    have hw := (isWord_let (vOK_2 hv h0 h1).2.2).2
    exact ⟨fun t ht => by rw [List.mem_singleton] at ht; rw [ht]; exact okT_of ⟨by simp, by simp; omega⟩ (.inr (by simp)), by simp⟩
theorem sgn_ok {o : Int} (h : 6 ≤ o ∧ o ≤ 13) : okT (sgnT o) := by
  rcases (by omega : o = 6 ∨ o = 7 ∨ o = 8 ∨ o = 9 ∨ o = 10 ∨ o = 11 ∨ o = 12 ∨ o = 13) with rfl | rfl | rfl | rfl | rfl | rfl | rfl | rfl <;> exact okT_of (by decide) (.inl (by decide))
theorem col_ok {c : Int} (h : 0 ≤ c ∧ c ≤ 2) : okT (colT c) := by
  rcases (by omega : c = 0 ∨ c = 1 ∨ c = 2) with rfl | rfl | rfl <;> exact okT_of (by decide) (.inl (by decide))
section
variable {ns : List GExprNode}
theorem tkE_ok : ∀ {f j : Nat}, j < f → (hj : j < ns.length) → (T ns j).2.2 = true → (∀ t ∈ tkE ns f (j : Int), okT t) ∧ ((tkE ns f (j : Int)).length : Int) ≤ 5 * ((j : Int) - (T ns j).1 + 1) ∧ ((etF ns f (j : Int)).length : Int) ≤ 25 * ((j : Int) - (T ns j).1 + 1)
  | 0, j, h, _, _ => by omega
  | f + 1, j, h, hj, ht => by
    have hbb := @T_b ns (j : Int)
    cases T_shp hj ht with
    | con o e v fr =>
      rw [etF_1 hj o, tkE_at hj, if_pos o, fr]
      have h1 := tkV_ok v
      have h2 := vtext_le v
      exact ⟨h1.1, by omega, by omega⟩
    | col o e c fr =>
      rw [etF_2 hj o, tkE_at hj, if_neg (by omega), if_pos o, fr]
      have h2 := colT_len c
      exact ⟨fun t ht => by rw [List.mem_singleton] at ht; rw [ht]; exact col_ok c, by simp, by omega⟩
    | un a o ho h3 hA ha e t fr d =>
      obtain ⟨i1, i2, i3⟩ := tkE_ok (f := f) (j := a) (by omega) (by omega) t
      obtain ⟨e3, e4, e5⟩ := etF_un (f := f) (hj := hj) ho hA
      obtain ⟨k3, k4, k5⟩ := tkE_un (f := f) (hj := hj) ho hA
      rw [fr]
      rcases (by omega : o = 3 ∨ o = 4 ∨ o = 5) with h | h | h
      · rw [e3 h, k3 h]
        refine ⟨fun t ht => ?_, by simp only [List.length_cons, List.length_append, List.length_nil]; omega, by simp only [List.length_cons, List.length_append, List.length_nil]; omega⟩
        simp only [List.mem_cons, List.mem_append, List.not_mem_nil, or_false] at ht
        rcases ht with rfl | rfl | ht | rfl
        · exact okT_of (by decide) (.inl (by decide))
        · exact okT_of (by decide) (.inl (by decide))
        · exact i1 t ht
        · exact okT_of (by decide) (.inl (by decide))
      · rw [e4 h, k4 h]
        refine ⟨fun t ht => ?_, by simp only [List.length_cons, List.length_append, List.length_nil]; omega, by simp only [List.length_cons, List.length_append, List.length_nil]; omega⟩
        simp only [List.mem_cons, List.mem_append, List.not_mem_nil, or_false] at ht
        rcases ht with rfl | ht | rfl | rfl | rfl
        · exact okT_of (by decide) (.inl (by decide))
        · exact i1 t ht
        · exact okT_of (by decide) (.inl (by decide))
        · exact okT_of (by decide) (.inl (by decide))
        · exact okT_of (by decide) (.inl (by decide))
      · rw [e5 h, k5 h]
        refine ⟨fun t ht => ?_, by simp only [List.length_cons, List.length_append, List.length_nil]; omega, by simp only [List.length_cons, List.length_append, List.length_nil]; omega⟩
        simp only [List.mem_cons, List.mem_append, List.not_mem_nil, or_false] at ht
        rcases ht with rfl | rfl | rfl | ht | rfl | rfl
        · exact okT_of (by decide) (.inl (by decide))
        · exact okT_of (by decide) (.inl (by decide))
        · exact okT_of (by decide) (.inl (by decide))
        · exact i1 t ht
        · exact okT_of (by decide) (.inl (by decide))
        · exact okT_of (by decide) (.inl (by decide))
    | bi a b o ho h6 hA hB hab hbj e ta tb fr fb da db =>
      obtain ⟨i1, i2, i3⟩ := tkE_ok (f := f) (j := a) (by omega) (by omega) ta
      obtain ⟨l1, l2, l3⟩ := tkE_ok (f := f) (j := b) (by omega) (by omega) tb
      have hs := sgnT_len h6
      rw [etF_bi (hj := hj) ho h6.1 hA hB, tkE_bi (hj := hj) ho h6.1 hA hB, fr]
      refine ⟨fun t ht => ?_, by simp only [List.length_cons, List.length_append, List.length_nil]; omega, by simp only [List.length_cons, List.length_append, List.length_nil]; omega⟩
      simp only [List.mem_cons, List.mem_append, List.not_mem_nil, or_false] at ht
      rcases ht with rfl | ht | rfl | ht | rfl
      · exact okT_of (by decide) (.inl (by decide))
      · exact i1 t ht
      · exact sgn_ok h6
      · exact l1 t ht
      · exact okT_of (by decide) (.inl (by decide))
end
theorem isP_nil {t : Str} {ts : List Str} : isP [] (t :: ts) = false := by
  unfold isP
  rw [decide_eq_false (by simp), Bool.false_and]
theorem isP_one {w t : Str} {r : List Str} : isP (w :: r) [t] = decide (w = t) := by
  unfold isP
  rw [decide_eq_true (by simp), Bool.true_and]
  exact decide_eq_decide.2 (by simp)
theorem isP_two {w t u : Str} {r : List Str} (h : ¬ w = t) : isP (w :: r) [t, u] = false := by
  unfold isP
  rw [Bool.and_eq_false_iff]
  refine .inr (decide_eq_false (fun e => ?_))
  have e : w :: r.take 1 = [t, u] := e
  exact h (List.cons.inj e).1
/-- No sign that joins stands next. -/
structure Stp (l : Nat) (tk : List Str) : Prop where
  mul : l ≤ 5 → isP tk [sgnT 8] = false ∧ isP tk [sgnT 9] = false
  add : l ≤ 4 → isP tk [sgnT 6] = false ∧ isP tk [sgnT 7] = false
  cmp : l ≤ 3 → isP tk [[61]] = false ∧ isP tk [[60]] = false ∧ isP tk [[105, 115], [110, 117, 108, 108]] = false
  and_ : l ≤ 1 → isP tk [sgnT 12] = false
  or_ : l ≤ 0 → isP tk [sgnT 13] = false
theorem Stp.nil {l : Nat} : Stp l [] := ⟨fun _ => ⟨isP_nil, isP_nil⟩, fun _ => ⟨isP_nil, isP_nil⟩, fun _ => ⟨isP_nil, isP_nil, isP_nil⟩, fun _ => isP_nil, fun _ => isP_nil⟩
theorem Stp.par {l : Nat} {r : List Str} : Stp l ([41] :: r) := by
  refine ⟨fun _ => ⟨?_, ?_⟩, fun _ => ⟨?_, ?_⟩, fun _ => ⟨?_, ?_, isP_two (by decide)⟩, fun _ => ?_, fun _ => ?_⟩ <;> rw [isP_one] <;> decide
theorem Stp.mono {l m : Nat} {tk : List Str} (h : Stp l tk) (hm : l ≤ m) : Stp m tk := ⟨fun g => h.mul (by omega), fun g => h.add (by omega), fun g => h.cmp (by omega), fun g => h.and_ (by omega), fun g => h.or_ (by omega)⟩
/-- A reading that goes through, whatever the fuel from b on. -/
def Rd (b l : Nat) (s s' : PS) (k : Int) : Prop := ∀ F, b ≤ F → prs F l s = some (s', k)
theorem pk_no2 {o p : Int} {s : PS} (h : isP s.tk [sgnT o] = false) (h1 : isP s.tk [sgnT p] = false) : pkL [o, p] (0, s) = (0, s) := by
  rw [pkL, if_neg (fun e => by rw [h] at e; exact absurd e.2 (by decide)), pkL, if_neg (fun e => by rw [h1] at e; exact absurd e.2 (by decide)), pkL]
theorem pk_no1 {o : Int} {s : PS} (h : isP s.tk [sgnT o] = false) : pkL [o] (0, s) = (0, s) := by
  rw [pkL, if_neg (fun e => by rw [h] at e; exact absurd e.2 (by decide)), pkL]
theorem jo_stop {R : PS → Option (PS × Int)} {ops : List Int} {f : Nat} {s s1 : PS} {l : Int} (hR : R s = some (s1, l)) (hp : pkL ops (0, s1) = (0, s1)) : joP R ops (f + 1) s = some (s1, l) := by
  unfold joP
  rw [hR]
  show joL R ops (f + 1) s1 l = _
  rw [joL, hp, if_pos rfl]
theorem jo_one {R : PS → Option (PS × Int)} {ops : List Int} {f : Nat} {s s1 q s2 s3 : PS} {l o r k : Int} (hR : R s = some (s1, l)) (hp : pkL ops (0, s1) = (o, q)) (ho : ¬ o = 0) (hR2 : R q = some (s2, r)) (hn : ndP s2 (nd o l r) = some (s3, k)) (hp3 : pkL ops (0, s3) = (0, s3)) : joP R ops (f + 2) s = some (s3, k) := by
  unfold joP
  rw [hR]
  show joL R ops (f + 2) s1 l = _
  rw [joL, hp, if_neg ho, hR2]
  show (match ndP s2 (nd o l r) with
    | none => none
    | some (s3, k) => joL R ops (f + 1) s3 k) = _
  rw [hn]
  show joL R ops (f + 1) s3 k = _
  rw [joL, hp3, if_pos rfl]
section
variable {b : Nat} {s s' : PS} {k : Int}
theorem up5 (h : Rd b 6 s s' k) (hs : Stp 5 s'.tk) : Rd (b + 3) 5 s s' k := fun F hF => by
  obtain ⟨F, rfl⟩ : ∃ g, F = g + 2 := ⟨F - 2, by omega⟩
  exact jo_stop (h (F + 1) (by omega)) (pk_no2 (hs.mul (by omega)).1 (hs.mul (by omega)).2)
theorem up4 (h : Rd b 5 s s' k) (hs : Stp 4 s'.tk) : Rd (b + 3) 4 s s' k := fun F hF => by
  obtain ⟨F, rfl⟩ : ∃ g, F = g + 2 := ⟨F - 2, by omega⟩
  exact jo_stop (h (F + 1) (by omega)) (pk_no2 (hs.add (by omega)).1 (hs.add (by omega)).2)
theorem up3 (h : Rd b 4 s s' k) (hs : Stp 3 s'.tk) : Rd (b + 3) 3 s s' k := fun F hF => by
  obtain ⟨F, rfl⟩ : ∃ g, F = g + 1 := ⟨F - 1, by omega⟩
  obtain ⟨h1, h2, h3⟩ := hs.cmp (by omega)
  show cmP (prs F 4) s = _
  unfold cmP
  rw [h F (by omega)]
  show (if isP s'.tk [[61]] = true then _ else _) = _
  rw [if_neg (by rw [h1]; decide), if_neg (by rw [h2]; decide), if_neg (by rw [h3]; decide)]
theorem up2 (h : Rd b 3 s s' k) (hn : isP s.tk [[110, 111, 116]] = false) : Rd (b + 3) 2 s s' k := fun F hF => by
  obtain ⟨F, rfl⟩ : ∃ g, F = g + 1 := ⟨F - 1, by omega⟩
  show noP (prs F 2) (prs F 3) s = _
  unfold noP
  rw [if_neg (by rw [hn]; decide)]
  exact h F (by omega)
theorem up1 (h : Rd b 2 s s' k) (hs : Stp 1 s'.tk) : Rd (b + 3) 1 s s' k := fun F hF => by
  obtain ⟨F, rfl⟩ : ∃ g, F = g + 2 := ⟨F - 2, by omega⟩
  exact jo_stop (h (F + 1) (by omega)) (pk_no1 (hs.and_ (by omega)))
theorem up0 (h : Rd b 1 s s' k) (hs : Stp 0 s'.tk) : Rd (b + 3) 0 s s' k := fun F hF => by
  obtain ⟨F, rfl⟩ : ∃ g, F = g + 2 := ⟨F - 2, by omega⟩
  exact jo_stop (h (F + 1) (by omega)) (pk_no1 (hs.or_ (by omega)))
theorem up63 (h : Rd b 6 s s' k) (hs : Stp 3 s'.tk) : Rd (b + 9) 3 s s' k := up3 (up4 (up5 h (hs.mono (by omega))) (hs.mono (by omega))) hs
theorem up62 (h : Rd b 6 s s' k) (hn : isP s.tk [[110, 111, 116]] = false) (hs : Stp 3 s'.tk) : Rd (b + 12) 2 s s' k := up2 (up63 h hs) hn
theorem up30 (h : Rd b 3 s s' k) (hn : isP s.tk [[110, 111, 116]] = false) (hs : Stp 0 s'.tk) : Rd (b + 9) 0 s s' k := up0 (up1 (up2 h hn) (hs.mono (by omega))) hs
theorem up60 (h : Rd b 6 s s' k) (hn : isP s.tk [[110, 111, 116]] = false) (hs : Stp 0 s'.tk) : Rd (b + 18) 0 s s' k := up30 (up63 h (hs.mono (by omega))) hn hs
end
end Go.AM
namespace Go.AM
open Go.Lib (decDigits)
section
variable {b op : Nat} {tk rest : List Str} {ns ns' : List GExprNode} {k : Int}
theorem rd_par (h : Rd b 0 ⟨tk, ns, op + 1⟩ ⟨[41] :: rest, ns', op + 1⟩ k) (ho : op < 48) : Rd (b + 2) 6 ⟨[40] :: tk, ns, op⟩ ⟨rest, ns', op⟩ k := fun F hF => by
  obtain ⟨F, rfl⟩ : ∃ g, F = g + 2 := ⟨F - 2, by omega⟩
  show ahP (prs (F + 1) 6) (prs (F + 1) 7) _ = _
  unfold ahP
  rw [if_neg (by show ¬ isP ([40] :: tk) [[45]] = true; rw [isP_one]; decide)]
  show prP (prs F 0) _ = _
  unfold prP
  rw [if_pos (by show isP ([40] :: tk) [[40]] = true; rw [isP_one]; decide)]
  have hw : wiP (prs F 0) (dpP ⟨[40] :: tk, ns, op⟩ 1) = some (⟨[41] :: rest, ns', op⟩, k) := by
    unfold wiP
    show (if op < 48 then (match prs F 0 ⟨tk, ns, op + 1⟩ with
      | some (s', k) => some ((⟨s'.tk, s'.ns, s'.op - 1⟩ : PS), k)
      | none => none) else none) = _
    rw [if_pos ho, h F (by omega)]; rfl
  rw [hw]
  show (if isP ([41] :: rest) [[41]] = true then _ else _) = _
  rw [if_pos (by rw [isP_one]; decide)]; rfl
theorem rd_not (h : Rd b 2 ⟨tk, ns, op + 1⟩ ⟨rest, ns', op + 1⟩ k) (ho : op < 48) {s3 : PS} {k3 : Int} (hn : ndP ⟨rest, ns', op⟩ (nd 3 k 0) = some (s3, k3)) : Rd (b + 1) 2 ⟨[110, 111, 116] :: tk, ns, op⟩ s3 k3 := fun F hF => by
  obtain ⟨F, rfl⟩ : ∃ g, F = g + 1 := ⟨F - 1, by omega⟩
  show noP (prs F 2) (prs F 3) _ = _
  unfold noP
  rw [if_pos (by show isP ([110, 111, 116] :: tk) [[110, 111, 116]] = true; rw [isP_one]; decide)]
  have hw : wiP (prs F 2) (dpP ⟨[110, 111, 116] :: tk, ns, op⟩ 1) = some (⟨rest, ns', op⟩, k) := by
    unfold wiP
    show (if op < 48 then (match prs F 2 ⟨tk, ns, op + 1⟩ with
      | some (s', k) => some ((⟨s'.tk, s'.ns, s'.op - 1⟩ : PS), k)
      | none => none) else none) = _
    rw [if_pos ho, h F (by omega)]; rfl
  rw [hw]; exact hn
theorem rd_neg (h : Rd b 6 ⟨tk, ns, op + 1⟩ ⟨rest, ns', op + 1⟩ k) (ho : op < 48) (hd : (dgP tk).2 = false) {s3 : PS} {k3 : Int} (hn : ndP ⟨rest, ns', op⟩ (nd 5 k 0) = some (s3, k3)) : Rd (b + 1) 6 ⟨[45] :: tk, ns, op⟩ s3 k3 := fun F hF => by
  obtain ⟨F, rfl⟩ : ∃ g, F = g + 1 := ⟨F - 1, by omega⟩
  show ahP (prs F 6) (prs F 7) _ = _
  unfold ahP
  rw [if_pos (by show isP ([45] :: tk) [[45]] = true; rw [isP_one]; decide), if_neg (fun e => by
    have e1 : (dgP tk).2 = true := e.1
    rw [hd] at e1; cases e1)]
  have hw : wiP (prs F 6) (dpP ⟨[45] :: tk, ns, op⟩ 1) = some (⟨rest, ns', op⟩, k) := by
    unfold wiP
    show (if op < 48 then (match prs F 6 ⟨tk, ns, op + 1⟩ with
      | some (s', k) => some ((⟨s'.tk, s'.ns, s'.op - 1⟩ : PS), k)
      | none => none) else none) = _
    rw [if_pos ho, h F (by omega)]; rfl
  rw [hw]; exact hn
theorem rd_isn {s s1 s3 : PS} {k3 : Int} (h : Rd b 4 s s1 k) (ht : s1.tk = [105, 115] :: [110, 117, 108, 108] :: rest) (hn : ndP ⟨rest, s1.ns, s1.op⟩ (nd 4 k 0) = some (s3, k3)) : Rd (b + 1) 3 s s3 k3 := fun F hF => by
  obtain ⟨F, rfl⟩ : ∃ g, F = g + 1 := ⟨F - 1, by omega⟩
  show cmP (prs F 4) s = _
  unfold cmP
  rw [h F (by omega)]
  show (if isP s1.tk [[61]] = true then _ else if isP s1.tk [[60]] = true then _ else if isP s1.tk [[105, 115], [110, 117, 108, 108]] = true then ndP (dpP s1 2) (nd 4 k 0) else _) = _
  rw [if_neg (by rw [ht, isP_one]; decide), if_neg (by rw [ht, isP_one]; decide), if_pos (by rw [ht]; unfold isP; simp)]
  rw [show dpP s1 2 = ⟨rest, s1.ns, s1.op⟩ from by unfold dpP; rw [ht]; rfl]
  exact hn
theorem rd_cmp {s s1 s2 s3 : PS} {k2 k3 o : Int} (h : Rd b 4 s s1 k) (ho : o = 10 ∨ o = 11) (ht : s1.tk = sgnT o :: rest) (h2 : Rd b 4 ⟨rest, s1.ns, s1.op⟩ s2 k2) (hn : ndP s2 (nd o k k2) = some (s3, k3)) : Rd (b + 1) 3 s s3 k3 := fun F hF => by
  obtain ⟨F, rfl⟩ : ∃ g, F = g + 1 := ⟨F - 1, by omega⟩
  show cmP (prs F 4) s = _
  unfold cmP
  rw [h F (by omega)]
  have hd : dpP s1 1 = ⟨rest, s1.ns, s1.op⟩ := by unfold dpP; rw [ht]; rfl
  show (if isP s1.tk [[61]] = true then (match prs F 4 (dpP s1 1) with
      | none => none
      | some (s2, r) => ndP s2 (nd 10 k r)) else if isP s1.tk [[60]] = true then (match prs F 4 (dpP s1 1) with
      | none => none
      | some (s2, r) => ndP s2 (nd 11 k r)) else _) = _
  rw [hd, h2 F (by omega)]
  rcases ho with rfl | rfl
  · rw [if_pos (by rw [ht, isP_one]; decide)]; exact hn
  · rw [if_neg (by rw [ht, isP_one]; decide), if_pos (by rw [ht, isP_one]; decide)]; exact hn
/-- Two parts joined by a sign of a level of 'joins'. -/
theorem rd_join {s s1 s2 s3 : PS} {k2 k3 o : Int} {l l' : Nat} {ops : List Int} (hl : ∀ F s, prs (F + 1) l s = joP (prs F l') ops F s) (h : Rd b l' s s1 k) (ho : ¬ o = 0) (hp : pkL ops (0, s1) = (o, ⟨rest, s1.ns, s1.op⟩)) (h2 : Rd b l' ⟨rest, s1.ns, s1.op⟩ s2 k2) (hn : ndP s2 (nd o k k2) = some (s3, k3)) (hp3 : pkL ops (0, s3) = (0, s3)) : Rd (b + 3) l s s3 k3 := fun F hF => by
  obtain ⟨F, rfl⟩ : ∃ g, F = g + 3 := ⟨F - 3, by omega⟩
  rw [hl]
  exact jo_one (h (F + 2) (by omega)) hp ho (h2 (F + 2) (by omega)) hn hp3
end
section
variable {ns : List GExprNode}
theorem nd_take {tk : List Str} {op j : Nat} (hj : j < ns.length) (hn : ns.length ≤ 40) : ndP ⟨tk, ns.take j, op⟩ ns[j] = some (⟨tk, ns.take (j + 1), op⟩, (j : Int)) := by
  unfold ndP
  have hl : (ns.take j).length = j := by simp; omega
  rw [if_pos (by show (ns.take j).length < 40; omega)]
  show some ((⟨tk, ns.take j ++ [ns[j]], op⟩ : PS), ((ns.take j).length : Int)) = _
  rw [hl, List.take_append_getElem hj]
theorem isP_lit {w t : Str} {r : List Str} (h : w ≠ t) : isP (w :: r) [t] = false := by rw [isP_one]; exact decide_eq_false h
theorem dd_neq {u : Nat} {c : UInt8} {t : Str} (h : digB c = false) : decDigits u ≠ c :: t := fun e => by
  have := dd_all u c (by rw [e]; exact List.mem_cons_self)
  rw [h] at this; cases this
/-- A value is read back. -/
theorem rd_val {v : GValue} (hv : valueOK v = true) {rest : List Str} {op : Nat} {ms : List GExprNode} {s3 : PS} {k3 : Int} (hn : ndP ⟨rest, ms, op⟩ ⟨1, 0, 0, 0, v⟩ = some (s3, k3)) : Rd 2 6 ⟨tkV v ++ rest, ms, op⟩ s3 k3 := fun F hF => by
  obtain ⟨F, rfl⟩ : ∃ g, F = g + 2 := ⟨F - 2, by omega⟩
  show ahP (prs (F + 1) 6) (prs (F + 1) 7) _ = _
  unfold tkV
  by_cases h0 : v.Kind = 0
  · rw [if_pos h0, List.singleton_append]
    have e : v = GValue.zero := by
      rw [valueOK_0 h0, Bool.and_eq_true, decide_eq_true_eq, decide_eq_true_eq] at hv
      exact GValue.ext1 h0 hv.1 hv.2
    unfold ahP
    rw [if_neg (by show ¬ isP ([110, 117, 108, 108] :: rest) [[45]] = true; rw [isP_one]; decide)]
    show prP (prs F 0) _ = _
    unfold prP
    rw [if_neg (by show ¬ isP ([110, 117, 108, 108] :: rest) [[40]] = true; rw [isP_one]; decide)]
    have hd : (dgP ([110, 117, 108, 108] :: rest)).2 = false := by rw [dgP_cons, rdF_no (by decide) (by decide) (by decide)]; rfl
    rw [vaP_2 (s := ⟨[110, 117, 108, 108] :: rest, ms, op⟩) hd (by rw [isP_one]; decide)]
    rw [if_pos rfl, ← e]; exact hn
  by_cases h1 : v.Kind = 1
  · rw [if_neg h0, if_pos h1]
    have hb := vOK_n hv h1
    have e : ∀ n : Int, n = v.N → vI n = v := fun n hn => by
      rw [valueOK_1 h1, Bool.and_eq_true, decide_eq_true_eq] at hv
      exact GValue.ext1 h1.symm hn hv.2.symm
    by_cases h2 : v.N < 0
    · rw [if_pos h2]
      have hdg : dgP (decDigits v.N.natAbs :: rest) = ((v.N.natAbs : Int), true) := by
        rw [dgP_cons, rdF_dd]
        dsimp only
        rw [inR_iff.2 (by omega)]; rfl
      unfold ahP
      rw [if_pos (by show isP ([45] :: decDigits v.N.natAbs :: rest) [[45]] = true; rw [isP_one]; decide)]
      show (if (dgP (decDigits v.N.natAbs :: rest)).2 = true ∧ ¬ (dgP (decDigits v.N.natAbs :: rest)).1 = 0 then ndP ⟨rest, ms, op⟩ ⟨1, 0, 0, 0, vI (-(dgP (decDigits v.N.natAbs :: rest)).1)⟩ else _) = _
      rw [hdg, if_pos ⟨rfl, by dsimp only; omega⟩]
      dsimp only
      rw [e _ (by omega)]; exact hn
    · rw [if_neg h2, List.singleton_append]
      have hdg : dgP (decDigits v.N.toNat :: rest) = ((v.N.toNat : Int), true) := by
        rw [dgP_cons, rdF_dd]
        dsimp only
        rw [inR_iff.2 (by omega)]; rfl
      unfold ahP
      rw [if_neg (by show ¬ isP (decDigits v.N.toNat :: rest) [[45]] = true; rw [isP_lit (dd_neq (by decide))]; decide)]
      show prP (prs F 0) _ = _
      unfold prP
      rw [if_neg (by show ¬ isP (decDigits v.N.toNat :: rest) [[40]] = true; rw [isP_lit (dd_neq (by decide))]; decide)]
      rw [vaP_1 (s := ⟨decDigits v.N.toNat :: rest, ms, op⟩) (by show (dgP (decDigits v.N.toNat :: rest)).2 = true; rw [hdg])]
      rw [if_pos rfl]
      show ndP ⟨rest, ms, op⟩ ⟨1, 0, 0, 0, vI (dgP (decDigits v.N.toNat :: rest)).1⟩ = _
      rw [hdg]
      dsimp only
      rw [e _ (by omega)]; exact hn
  · rw [if_neg h0, if_neg h1, List.singleton_append]
    obtain ⟨g1, g2, g3⟩ := vOK_2 hv h0 h1
    have e : (⟨2, 0, v.T⟩ : GValue) = v := GValue.ext1 g1.symm g2.symm rfl
    unfold ahP
    rw [if_neg (by show ¬ isP ((39 :: v.T ++ [39]) :: rest) [[45]] = true; rw [isP_lit (fun e => by cases e)]; decide)]
    show prP (prs F 0) _ = _
    unfold prP
    rw [if_neg (by show ¬ isP ((39 :: v.T ++ [39]) :: rest) [[40]] = true; rw [isP_lit (fun e => by cases e)]; decide)]
    have hd : (dgP ((39 :: v.T ++ [39]) :: rest)).2 = false := by rw [dgP_cons, List.cons_append, rdF_no (by decide) (by decide) (by decide)]; rfl
    have hT : ((39 :: v.T ++ [39]).drop 1).take ((39 :: v.T ++ [39]).length - 2) = v.T := by simp
    rw [vaP_3 (s := ⟨(39 :: v.T ++ [39]) :: rest, ms, op⟩) (t := 39 :: v.T ++ [39]) (r := rest) hd (isP_lit (fun e => by cases e)) rfl rfl (by rw [hT, e]; exact hv), hT, e]
    rw [if_pos rfl]; exact hn
theorem colP_at {c : Int} (h : 0 ≤ c ∧ c ≤ 2) : colP (colT c) = c := by
  rcases (by omega : c = 0 ∨ c = 1 ∨ c = 2) with rfl | rfl | rfl <;> decide
theorem rd_col {c : Int} (hc : 0 ≤ c ∧ c ≤ 2) {rest : List Str} {op : Nat} {ms : List GExprNode} {s3 : PS} {k3 : Int} (hn : ndP ⟨rest, ms, op⟩ ⟨2, 0, 0, c, GValue.zero⟩ = some (s3, k3)) : Rd 2 6 ⟨colT c :: rest, ms, op⟩ s3 k3 := fun F hF => by
  obtain ⟨F, rfl⟩ : ∃ g, F = g + 2 := ⟨F - 2, by omega⟩
  have hcp := colP_at hc
  have hh : colT c ≠ [45] ∧ colT c ≠ [40] ∧ colT c ≠ [110, 117, 108, 108] ∧ ∃ x y, colT c = x :: y ∧ digB x = false ∧ x ≠ 45 ∧ x ≠ 43 ∧ x ≠ 39 := by
    rcases (by omega : c = 0 ∨ c = 1 ∨ c = 2) with rfl | rfl | rfl
    · exact ⟨by decide, by decide, by decide, _, _, rfl, by decide, by decide, by decide, by decide⟩
    · exact ⟨by decide, by decide, by decide, _, _, rfl, by decide, by decide, by decide, by decide⟩
    · exact ⟨by decide, by decide, by decide, _, _, rfl, by decide, by decide, by decide, by decide⟩
  obtain ⟨n1, n2, n3, x, y, hxy, d1, d2, d3, d4⟩ := hh
  show ahP (prs (F + 1) 6) (prs (F + 1) 7) _ = _
  unfold ahP
  rw [if_neg (by show ¬ isP (colT c :: rest) [[45]] = true; rw [isP_lit n1]; decide)]
  show prP (prs F 0) _ = _
  unfold prP
  rw [if_neg (by show ¬ isP (colT c :: rest) [[40]] = true; rw [isP_lit n2]; decide)]
  have hv : (vaP ⟨colT c :: rest, ms, op⟩).1.2 = false := by
    unfold vaP
    rw [if_neg (by show ¬ (dgP (colT c :: rest)).2 = true; rw [dgP_cons, hxy, rdF_no d1 d2 d3]; decide), if_neg (by show ¬ isP (colT c :: rest) _ = true; rw [isP_lit n3]; decide)]
    show (if (colT c).head? = some 39 ∧ _ then _ else _ : (GValue × Bool) × PS).1.2 = false
    rw [if_neg (fun e => by rw [hxy] at e; exact d4 (Option.some.inj e.1))]
  rw [if_neg (by rw [hv]; decide)]
  show (if colP (colT c) < 0 then none else ndP ⟨rest, ms, op⟩ ⟨2, 0, 0, colP (colT c), GValue.zero⟩) = _
  rw [hcp, if_neg (by omega)]; exact hn
end
end Go.AM
namespace Go.AM
open Go.Lib (decDigits)
section
variable {ns : List GExprNode}
/-- What an expression's tokens begin with. -/
theorem first_E {f j : Nat} (h : j < f) (hj : j < ns.length) (ht : (T ns j).2.2 = true) (rest : List Str) : ∃ w r, tkE ns f (j : Int) ++ rest = w :: r ∧ w ≠ [110, 111, 116] := by
  cases f with
  | zero => omega
  | succ f =>
    cases T_shp hj ht with
    | con o e v fr =>
      rw [tkE_at hj, if_pos o]
      unfold tkV
      by_cases h0 : ns[j].V.Kind = 0
      · rw [if_pos h0]; exact ⟨_, _, rfl, by decide⟩
      by_cases h1 : ns[j].V.Kind = 1
      · rw [if_neg h0, if_pos h1]
        split
        · exact ⟨_, _, rfl, by decide⟩
        · exact ⟨_, _, rfl, dd_neq (by decide)⟩
      · rw [if_neg h0, if_neg h1]; exact ⟨_, _, rfl, fun e => by cases e⟩
    | col o e c fr =>
      rw [tkE_at hj, if_neg (by omega), if_pos o]
      refine ⟨_, _, rfl, ?_⟩
      rcases (by omega : ns[j].Column = 0 ∨ ns[j].Column = 1 ∨ ns[j].Column = 2) with h | h | h <;> rw [h] <;> decide
    | un a o ho h3 hA ha e t fr d =>
      obtain ⟨k3, k4, k5⟩ := tkE_un (f := f) (hj := hj) ho hA
      rcases (by omega : o = 3 ∨ o = 4 ∨ o = 5) with h | h | h
      · rw [k3 h]; exact ⟨_, _, rfl, by decide⟩
      · rw [k4 h]; exact ⟨_, _, rfl, by decide⟩
      · rw [k5 h]; exact ⟨_, _, rfl, by decide⟩
    | bi a b o ho h6 hA hB hab hbj e ta tb fr fb da db =>
      rw [tkE_bi (hj := hj) ho h6.1 hA hB]; exact ⟨_, _, rfl, by decide⟩
theorem notnot {f j : Nat} (h : j < f) (hj : j < ns.length) (ht : (T ns j).2.2 = true) (rest : List Str) : isP (tkE ns f (j : Int) ++ rest) [[110, 111, 116]] = false := by
  obtain ⟨w, r, e, hw⟩ := first_E h hj ht rest
  rw [e]; exact isP_lit hw
theorem T_d1 {j : Nat} (ht : (T ns j).2.2 = true) : 1 ≤ (T ns j).2.1 := T_d ht
theorem pk_1 {o : Int} {s : PS} {rest : List Str} (h : s.tk = sgnT o :: rest) : pkL [o] (0, s) = (o, ⟨rest, s.ns, s.op⟩) := by
  rw [pkL, if_pos ⟨rfl, by show isP s.tk _ = true; rw [h, isP_one, decide_eq_true rfl]⟩, pkL]
  unfold dpP; rw [h]; rfl
theorem pk_2a {o p : Int} {s : PS} {rest : List Str} (ho : ¬ o = 0) (h : s.tk = sgnT o :: rest) : pkL [o, p] (0, s) = (o, ⟨rest, s.ns, s.op⟩) := by
  rw [pkL, if_pos ⟨rfl, by show isP s.tk _ = true; rw [h, isP_one, decide_eq_true rfl]⟩, pkL, if_neg (fun e => ho e.1), pkL]
  unfold dpP; rw [h]; rfl
theorem pk_2b {o p : Int} {s : PS} {rest : List Str} (hop : sgnT o ≠ sgnT p) (h : s.tk = sgnT o :: rest) : pkL [p, o] (0, s) = (o, ⟨rest, s.ns, s.op⟩) := by
  rw [pkL, if_neg (fun e => by
    have e2 : isP s.tk [sgnT p] = true := e.2
    rw [h, isP_lit hop] at e2; cases e2)]
  exact pk_1 h
theorem stp_sgn {o : Int} {l : Nat} {r : List Str} (h : (l = 4 ∧ (o = 6 ∨ o = 7)) ∨ (l = 3 ∧ (o = 12 ∨ o = 13)) ∨ (l = 4 ∧ (o = 10 ∨ o = 11)) ∨ (l = 5 ∧ (o = 6 ∨ o = 7)) ∨ (l = 1 ∧ o = 13)) : (l = 4 → ¬ (o = 6 ∨ o = 7) → Stp 4 (sgnT o :: r)) ∧ (l = 5 → Stp 5 (sgnT o :: r)) ∧ (l = 3 → Stp 3 (sgnT o :: r)) ∧ (l = 1 → Stp 1 (sgnT o :: r)) := by
  have key : ∀ o : Int, 6 ≤ o ∧ o ≤ 13 → ∀ p, p ≠ sgnT o → isP (sgnT o :: r) [p] = false := fun o _ p hp => isP_lit hp.symm
  have two : ∀ o : Int, sgnT o ≠ [105, 115] → isP (sgnT o :: r) [[105, 115], [110, 117, 108, 108]] = false := fun o ho => isP_two ho
  refine ⟨fun e1 e2 => ?_, fun e1 => ?_, fun e1 => ?_, fun e1 => ?_⟩
  · have : o = 10 ∨ o = 11 := by omega
    rcases this with rfl | rfl <;> exact ⟨fun _ => ⟨key _ (by decide) _ (by decide), key _ (by decide) _ (by decide)⟩, fun _ => ⟨key _ (by decide) _ (by decide), key _ (by decide) _ (by decide)⟩, fun g => by omega, fun g => by omega, fun g => by omega⟩
  · have : o = 6 ∨ o = 7 := by omega
    rcases this with rfl | rfl <;> exact ⟨fun _ => ⟨key _ (by decide) _ (by decide), key _ (by decide) _ (by decide)⟩, fun g => by omega, fun g => by omega, fun g => by omega, fun g => by omega⟩
  · have : o = 12 ∨ o = 13 := by omega
    rcases this with rfl | rfl <;> exact ⟨fun _ => ⟨key _ (by decide) _ (by decide), key _ (by decide) _ (by decide)⟩, fun _ => ⟨key _ (by decide) _ (by decide), key _ (by decide) _ (by decide)⟩, fun _ => ⟨key _ (by decide) _ (by decide), key _ (by decide) _ (by decide), two _ (by decide)⟩, fun g => by omega, fun g => by omega⟩
  · have : o = 13 := by omega
    subst this
    exact ⟨fun _ => ⟨key _ (by decide) _ (by decide), key _ (by decide) _ (by decide)⟩, fun _ => ⟨key _ (by decide) _ (by decide), key _ (by decide) _ (by decide)⟩, fun _ => ⟨key _ (by decide) _ (by decide), key _ (by decide) _ (by decide), two _ (by decide)⟩, fun _ => key _ (by decide) _ (by decide), fun g => by omega⟩
/-- Two parts joined by a sign, and then a bracket: read from the top level on. -/
theorem rd_bin {b : Nat} {tk X rest : List Str} {m1 m2 m3 : List GExprNode} {op : Nat} {o k1 k2 k3 : Int} (ho : 6 ≤ o ∧ o ≤ 13) (hn1 : isP tk [[110, 111, 116]] = false) (hn2 : isP X [[110, 111, 116]] = false)
    (hA : Rd b 6 ⟨tk, m1, op⟩ ⟨sgnT o :: X, m2, op⟩ k1) (hB : Rd b 6 ⟨X, m2, op⟩ ⟨[41] :: rest, m3, op⟩ k2) {m4 : List GExprNode} (hn : ndP ⟨[41] :: rest, m3, op⟩ (nd o k1 k2) = some (⟨[41] :: rest, m4, op⟩, k3)) : Rd (b + 30) 0 ⟨tk, m1, op⟩ ⟨[41] :: rest, m4, op⟩ k3 := by
  have P : ∀ l, Stp l ([41] :: rest) := fun _ => Stp.par
  have mono : ∀ {b b' l : Nat} {s s' : PS} {k : Int}, Rd b l s s' k → b ≤ b' → Rd b' l s s' k := fun h hb F hF => h F (by omega)
  rcases (by omega : (o = 8 ∨ o = 9) ∨ (o = 6 ∨ o = 7) ∨ (o = 10 ∨ o = 11) ∨ o = 12 ∨ o = 13) with h | h | h | h | h
  · have h5 : Rd (b + 3) 5 ⟨tk, m1, op⟩ ⟨[41] :: rest, m4, op⟩ k3 := rd_join (l := 5) (l' := 6) (ops := [8, 9]) (fun _ _ => rfl) hA (by omega) (by rcases h with rfl | rfl; exact pk_2a (by decide) rfl; exact pk_2b (by decide) rfl) hB hn (pk_no2 ((P 5).mul (by omega)).1 ((P 5).mul (by omega)).2)
    exact mono (up30 (up3 (up4 h5 (P 4)) (P 3)) hn1 (P 0)) (by omega)
  · have hA5 := up5 hA ((stp_sgn (l := 5) (by omega)).2.1 rfl)
    have hB5 := up5 hB (P 5)
    have h4 : Rd (b + 6) 4 ⟨tk, m1, op⟩ ⟨[41] :: rest, m4, op⟩ k3 := rd_join (l := 4) (l' := 5) (ops := [6, 7]) (fun _ _ => rfl) hA5 (by omega) (by rcases h with rfl | rfl; exact pk_2a (by decide) rfl; exact pk_2b (by decide) rfl) hB5 hn (pk_no2 ((P 4).add (by omega)).1 ((P 4).add (by omega)).2)
    exact mono (up30 (up3 h4 (P 3)) hn1 (P 0)) (by omega)
  · have S4 : Stp 4 (sgnT o :: X) := (stp_sgn (l := 4) (by omega)).1 rfl (by omega)
    have hA4 := up4 (up5 hA (S4.mono (by omega))) S4
    have hB4 := up4 (up5 hB (P 5)) (P 4)
    have h3 := rd_cmp hA4 h rfl hB4 hn
    exact mono (up30 h3 hn1 (P 0)) (by omega)
  · have S3 : Stp 3 (sgnT o :: X) := (stp_sgn (l := 3) (by omega)).2.2.1 rfl
    have hA2 := up62 hA hn1 S3
    have hB2 := up62 hB hn2 (P 3)
    have h1 : Rd (b + 15) 1 ⟨tk, m1, op⟩ ⟨[41] :: rest, m4, op⟩ k3 := rd_join (l := 1) (l' := 2) (ops := [12]) (fun _ _ => rfl) hA2 (by omega) (by subst h; exact pk_1 rfl) hB2 hn (pk_no1 ((P 1).and_ (by omega)))
    exact mono (up0 h1 (P 0)) (by omega)
  · have S1 : Stp 1 (sgnT o :: X) := (stp_sgn (l := 1) (by omega)).2.2.2 rfl
    have hA1 := up1 (up62 hA hn1 (S1.mono (by omega))) S1
    have hB1 := up1 (up62 hB hn2 (P 3)) (P 1)
    exact mono (rd_join (l := 0) (l' := 1) (ops := [13]) (fun _ _ => rfl) hA1 (by omega) (by subst h; exact pk_1 rfl) hB1 hn (pk_no1 ((P 0).or_ (by omega)))) (by omega)
theorem Rd.mono {b b' l : Nat} {s s' : PS} {k : Int} (h : Rd b l s s' k) (hb : b ≤ b') : Rd b' l s s' k := fun F hF => h F (by omega)
theorem rd_E (hn : ns.length ≤ 40) : ∀ {f j : Nat}, j < f → (hj : j < ns.length) → (T ns j).2.2 = true → ∀ (rest : List Str) (op : Nat), (op : Int) + 3 * ((T ns j).2.1 - 1) ≤ 48 →
    Rd (60 * f) 6 ⟨tkE ns f (j : Int) ++ rest, ns.take (T ns j).1.toNat, op⟩ ⟨rest, ns.take (j + 1), op⟩ j
  | 0, j, h, _, _, _, _, _ => by omega
  | f + 1, j, h, hj, ht, rest, op, hop => by
    cases T_shp hj ht with
    | con o e v fr =>
      rw [tkE_at hj, if_pos o, fr, Int.toNat_natCast]
      have := nd_take (tk := rest) (op := op) hj hn
      rw [e] at this
      exact (rd_val v this).mono (by omega)
    | col o e c fr =>
      rw [tkE_at hj, if_neg (by omega), if_pos o, fr, Int.toNat_natCast]
      have := nd_take (tk := rest) (op := op) hj hn
      rw [e] at this
      exact (rd_col c this).mono (by omega)
    | un a o ho h3 hA ha e t fr d =>
      subst ha
      have hd1 := T_d1 t
      have ih := fun rest op h => rd_E hn (f := f) (j := a) (by omega) (by omega) t rest op h
      obtain ⟨k3, k4, k5⟩ := tkE_un (f := f) (hj := hj) ho hA
      have hno := fun r => notnot (f := f) (j := a) (by omega) (by omega) t r
      have hnd := fun tk op => nd_take (ns := ns) (tk := tk) (op := op) hj hn
      rw [e] at hnd
      rw [fr]
      rcases (by omega : o = 3 ∨ o = 4 ∨ o = 5) with h | h | h
      · rw [k3 h]
        subst h
        have s2 := up62 (ih ([41] :: rest) (op + 2) (by omega)) (hno _) Stp.par
        have s3 := rd_not s2 (by omega) (hnd ([41] :: rest) (op + 1))
        have s4 := rd_par (up0 (up1 s3 Stp.par) Stp.par) (by omega)
        refine Rd.mono ?_ (show 60 * f + 12 + 1 + 3 + 3 + 2 ≤ 60 * (f + 1) by omega)
        simpa using s4
      · rw [k4 h]
        subst h
        have S : Stp 4 ([105, 115] :: [110, 117, 108, 108] :: [41] :: rest) := ⟨fun _ => ⟨isP_lit (by decide), isP_lit (by decide)⟩, fun _ => ⟨isP_lit (by decide), isP_lit (by decide)⟩, fun g => by omega, fun g => by omega, fun g => by omega⟩
        have s2 := up4 (up5 (ih ([105, 115] :: [110, 117, 108, 108] :: [41] :: rest) (op + 1) (by omega)) (S.mono (by omega))) S
        have s3 := rd_isn s2 rfl (hnd ([41] :: rest) (op + 1))
        have s4 := rd_par (up30 s3 (hno _) Stp.par) (by omega)
        refine Rd.mono ?_ (show 60 * f + 3 + 3 + 1 + 9 + 2 ≤ 60 * (f + 1) by omega)
        simpa using s4
      · rw [k5 h]
        subst h
        have s1 := rd_par (up60 (ih ([41] :: [41] :: rest) (op + 3) (by omega)) (hno _) Stp.par) (show op + 2 < 48 by omega)
        have s2 := rd_neg s1 (show op + 1 < 48 by omega) (by rw [dgP_cons, rdF_no (by decide) (by decide) (by decide)]; rfl) (hnd ([41] :: rest) (op + 1))
        have s3 := rd_par (up60 s2 (isP_lit (by decide)) Stp.par) (show op < 48 by omega)
        refine Rd.mono ?_ (show 60 * f + 18 + 2 + 1 + 18 + 2 ≤ 60 * (f + 1) by omega)
        simpa using s3
    | bi a b o ho h6 hA hB hab hbj e ta tb fr fb da db =>
      subst hbj
      have hd1 := T_d1 ta
      have hd2 := T_d1 tb
      have iha := rd_E hn (f := f) (j := a) (by omega) (by omega) ta (sgnT o :: (tkE ns f (b : Int) ++ [41] :: rest)) (op + 1) (by omega)
      have ihb := rd_E hn (f := f) (j := b) (by omega) (by omega) tb ([41] :: rest) (op + 1) (by omega)
      rw [show (T ns (b : Int)).1.toNat = a + 1 from by omega] at ihb
      have hnd := fun tk op => nd_take (ns := ns) (tk := tk) (op := op) hj hn
      rw [e] at hnd
      have s1 := rd_bin h6 (notnot (f := f) (by omega) (by omega) ta _) (notnot (f := f) (by omega) (by omega) tb _) iha ihb (hnd ([41] :: rest) (op + 1))
      have s2 := rd_par s1 (by omega)
      rw [tkE_bi (hj := hj) ho h6.1 hA hB, fr]
      refine Rd.mono ?_ (show 60 * f + 30 + 2 ≤ 60 * (f + 1) by omega)
      simpa using s2
end
theorem exprOK_d {e : GExpr} (h : exprOK e = true) : depthF e.Nodes ≤ 12 ∧ (T e.Nodes ((e.Nodes.length : Int) - 1)).2.1 ≤ 12 ∧ (T e.Nodes ((e.Nodes.length : Int) - 1)).1 = 0 := by
  have h1 := @exprOK_i e
  rw [h, Bool.and_eq_true] at h1
  have h2 := exprOK_T h
  have hn := exprOK_n h
  refine ⟨(inR_iff.1 h1.2).2, ?_, h2.2.2⟩
  rw [exprOK_1 (inR_iff.2 (by omega)), T_of (by omega) (by omega)] at h
  simp only [Bool.and_eq_true, decide_eq_true_eq] at h
  exact h.2
theorem rd_expr {e : GExpr} (h : exprOK e = true) (rest : List Str) (hs : Stp 0 rest) : ∃ k, Rd (60 * (e.Nodes.length + 1) + 18) 0 ⟨tkE e.Nodes (e.Nodes.length + 1) ((e.Nodes.length : Int) - 1) ++ rest, [], 0⟩ ⟨rest, e.Nodes, 0⟩ k := by
  have hn := exprOK_n h
  obtain ⟨h0, h1, h2, h3, _⟩ := comp_hyps h
  obtain ⟨d1, d2, d3⟩ := exprOK_d h
  obtain ⟨j, hj⟩ : ∃ j : Nat, (j : Int) = (e.Nodes.length : Int) - 1 := ⟨e.Nodes.length - 1, by omega⟩
  rw [← hj] at h3 d2 d3 ⊢
  have r := rd_E (ns := e.Nodes) (by omega) (f := e.Nodes.length + 1) (j := j) (by omega) (by omega) h3 rest 0 (by omega)
  rw [d3, show e.Nodes.take (j + 1) = e.Nodes from List.take_of_length_le (by omega)] at r
  exact ⟨j, up60 r (notnot (by omega) (by omega) h3 rest) hs⟩
theorem exT_lex {e : GExpr} (h : exprOK e = true) {rest : Str} {rs : List Str} (hb : bdr rest) (hr : LexR rest rs) : LexR (exT e ++ rest) (tkE e.Nodes (e.Nodes.length + 1) ((e.Nodes.length : Int) - 1) ++ rs) := by
  have hn := exprOK_n h
  obtain ⟨h0, h1, h2, h3, _⟩ := comp_hyps h
  obtain ⟨j, hj⟩ : ∃ j : Nat, (j : Int) = (e.Nodes.length : Int) - 1 := ⟨e.Nodes.length - 1, by omega⟩
  unfold exT
  rw [← hj] at h3 ⊢
  exact lex_E (by omega) (by omega) h3 hb hr
theorem exT_sz {e : GExpr} (h : exprOK e = true) : (∀ t ∈ tkE e.Nodes (e.Nodes.length + 1) ((e.Nodes.length : Int) - 1), okT t) ∧ (tkE e.Nodes (e.Nodes.length + 1) ((e.Nodes.length : Int) - 1)).length ≤ 200 ∧ (exT e).length ≤ 1000 := by
  have hn := exprOK_n h
  obtain ⟨h0, h1, h2, h3, _⟩ := comp_hyps h
  obtain ⟨j, hj⟩ : ∃ j : Nat, (j : Int) = (e.Nodes.length : Int) - 1 := ⟨e.Nodes.length - 1, by omega⟩
  unfold exT
  rw [← hj] at h3 ⊢
  have hb := @T_b e.Nodes (j : Int)
  obtain ⟨g1, g2, g3⟩ := tkE_ok (f := e.Nodes.length + 1) (j := j) (by omega) (by omega) h3
  exact ⟨g1, by omega, by omega⟩
end Go.AM

namespace Go.AM
set_option linter.unusedVariables false
def wSel : Str := [115, 101, 108, 101, 99, 116]
def wIns : Str := [105, 110, 115, 101, 114, 116]
def wUpd : Str := [117, 112, 100, 97, 116, 101]
def wDel : Str := [100, 101, 108, 101, 116, 101]
/-- A cell: a value, a '-' ahead of a number but 0. -/
def ceF (s : PS) : Option (GValue × PS) :=
  if (vaP (skP s [[45]])).1.2 = true ∧ (isP s.tk [[45]] = true → isO (vaP (skP s [[45]])).1.1 = true) then
    some (if isP s.tk [[45]] = true then ⟨(vaP (skP s [[45]])).1.1.Kind, -(vaP (skP s [[45]])).1.1.N, (vaP (skP s [[45]])).1.1.T⟩ else (vaP (skP s [[45]])).1.1, (vaP (skP s [[45]])).2) else none
def coF (least : Int) (s : PS) : Option (Int × PS) := match s.tk with
  | [] => none
  | t :: _ => if colP t < least then none else some (colP t, dpP s 1)
def taF (s : PS) : Option (Int × PS) := if (dgP s.tk).2 = true ∧ inR (dgP s.tk).1 1 3 = true then some ((dgP s.tk).1, dpP s 1) else none
def roF (s : PS) : Option (GRow × PS) := match ceF s with
  | none => none
  | some (a, s1) => match ceF s1 with
    | none => none
    | some (b, s2) => match ceF s2 with
      | none => none
      | some (c, s3) => if a.Kind = 1 ∧ rowOK ⟨a.N, b, c⟩ = true then some (⟨a.N, b, c⟩, s3) else none
theorem vaP_b {s : PS} : (vaP s).1.1.Kind = 1 → -1000000000 ≤ (vaP s).1.1.N ∧ (vaP s).1.1.N ≤ 1000000000 := by
  unfold vaP
  split
  · rename_i h; intro _; exact dg_bd h
  · split
    · intro h; cases h
    · split
      · intro h; cases h
      · split
        · intro h; cases h
        · intro h; cases h
theorem skP_ok {s : PS} {ts : List Str} (h : s.ok) : (skP s ts).ok ∧ (skP s ts).op = s.op := by
  unfold skP
  split
  · exact ⟨h.dp _, rfl⟩
  · exact ⟨h, rfl⟩
theorem ceF_some {s s' : PS} {v : GValue} (h : ceF s = some (v, s')) : (vaP (skP s [[45]])).1.2 = true ∧ (isP s.tk [[45]] = true → isO (vaP (skP s [[45]])).1.1 = true) ∧
    v = (if isP s.tk [[45]] = true then ⟨(vaP (skP s [[45]])).1.1.Kind, -(vaP (skP s [[45]])).1.1.N, (vaP (skP s [[45]])).1.1.T⟩ else (vaP (skP s [[45]])).1.1) ∧ s' = (vaP (skP s [[45]])).2 := by
  unfold ceF at h
  split at h
  · rename_i h1; cases h; exact ⟨h1.1, h1.2, rfl, rfl⟩
  · cases h
theorem ceF_ok {s s' : PS} {v : GValue} (hs : s.ok) (h : ceF s = some (v, s')) : s'.ok ∧ s'.op = s.op := by
  obtain ⟨_, _, _, rfl⟩ := ceF_some h
  obtain ⟨a, b⟩ := skP_ok (ts := [[45]]) hs
  obtain ⟨c, d⟩ := vaP_ok a
  exact ⟨c, d.trans b⟩
theorem coF_some {l c : Int} {s s' : PS} (h : coF l s = some (c, s')) : ∃ t r, s.tk = t :: r ∧ l ≤ colP t ∧ c = colP t ∧ s' = dpP s 1 := by
  unfold coF at h
  split at h
  · cases h
  · rename_i t r ht
    split at h
    · cases h
    · cases h; exact ⟨t, r, ht, by omega, rfl, rfl⟩
theorem taF_some {n : Int} {s s' : PS} (h : taF s = some (n, s')) : (dgP s.tk).2 = true ∧ inR (dgP s.tk).1 1 3 = true ∧ n = (dgP s.tk).1 ∧ s' = dpP s 1 := by
  unfold taF at h
  split at h
  · rename_i h1; cases h; exact ⟨h1.1, h1.2, rfl, rfl⟩
  · cases h
theorem roF_some {x : GRow} {s s' : PS} (h : roF s = some (x, s')) : ∃ a b c s1 s2, ceF s = some (a, s1) ∧ ceF s1 = some (b, s2) ∧ ceF s2 = some (c, s') ∧ a.Kind = 1 ∧ rowOK ⟨a.N, b, c⟩ = true ∧ x = ⟨a.N, b, c⟩ := by
  unfold roF at h
  split at h
  · cases h
  · rename_i a s1 h1
    split at h
    · cases h
    · rename_i b s2 h2
      split at h
      · cases h
      · rename_i c s3 h3
        split at h
        · rename_i h4; cases h; exact ⟨a, b, c, s1, s2, h1, h2, h3, h4.1, h4.2, rfl⟩
        · cases h
theorem isO_k {v : GValue} (h : isO v = true) : v.Kind = 1 ∧ ¬ v.N = 0 := by
  unfold isO at h
  simpa using h
def wWh : Str := [119, 104, 101, 114, 101]
def wOr : Str := [111, 114, 100, 101, 114]
def wDe : Str := [100, 101, 115, 99]
def wSe : Str := [115, 101, 116]
def exF (F : Nat) (tk : List Str) : Option (GExpr × List Str) := match prs F 0 ⟨tk, [], 0⟩ with
  | none => none
  | some (s', _) => if depthF s'.ns ≤ 12 ∧ (s'.ns.all fun x => decide (x.V.T.length ≤ 1048576)) = true then some (⟨s'.ns⟩, s'.tk) else none
def whF (F : Nat) (tk : List Str) : Option (GExpr × List Str) := if isP tk [wWh] = true then exF F (tk.drop 1) else some (⟨[]⟩, tk)
def odF (tk : List Str) : Option (Int × Bool × List Str) := if isP tk [wOr] = true then (match tk.drop 1 with
  | [] => none
  | t :: r => if colP t < 0 then none else some (colP t, isP r [wDe], if isP r [wDe] = true then r.drop 1 else r)) else some (0, false, tk)
def stF (F : Nat) (s : PS) : Option (GStmt × List Str) := match s.tk with
  | [] => none
  | w :: _ => match taF (dpP s 1) with
    | none => none
    | some (n, s1) =>
      if w = wSel then (match whF F s1.tk with
        | none => none
        | some (e, t2) => match odF t2 with
          | none => none
          | some (c, d, t3) => some (⟨1, n, GRow.zero, 0, ⟨[]⟩, e, c, d⟩, t3))
      else if w = wIns then (match roF s1 with
        | none => none
        | some (x, s2) => some (⟨2, n, x, 0, ⟨[]⟩, ⟨[]⟩, 0, false⟩, s2.tk))
      else if w = wUpd then (if isP s1.tk [wSe] = true then (match coF 1 (dpP s1 1) with
        | none => none
        | some (c, s2) => if isP s2.tk [[61]] = true then (match exF F (s2.tk.drop 1) with
          | none => none
          | some (e, t3) => match whF F t3 with
            | none => none
            | some (e2, t4) => some (⟨3, n, GRow.zero, c, e, e2, 0, false⟩, t4)) else none) else none)
      else if w = wDel then (match whF F s1.tk with
        | none => none
        | some (e, t2) => some (⟨4, n, GRow.zero, 0, ⟨[]⟩, e, 0, false⟩, t2))
      else none
theorem exF_some {F : Nat} {tk t2 : List Str} {e : GExpr} (h : exF F tk = some (e, t2)) : ∃ s' k, prs F 0 ⟨tk, [], 0⟩ = some (s', k) ∧ depthF s'.ns ≤ 12 ∧ (∀ x ∈ s'.ns, x.V.T.length ≤ 1048576) ∧ e = ⟨s'.ns⟩ ∧ t2 = s'.tk := by
  unfold exF at h
  split at h
  · cases h
  · rename_i s' k h1
    split at h
    · rename_i h2
      cases h
      refine ⟨s', k, h1, h2.1, fun x hx => ?_, rfl, rfl⟩
      have := List.all_eq_true.1 h2.2 x hx
      exact of_decide_eq_true this
    · cases h
theorem whF_t {F : Nat} {tk t2 : List Str} {e : GExpr} (h : whF F tk = some (e, t2)) (hi : isP tk [wWh] = true) : exF F (tk.drop 1) = some (e, t2) := by
  unfold whF at h; rwa [if_pos hi] at h
theorem whF_f {F : Nat} {tk t2 : List Str} {e : GExpr} (h : whF F tk = some (e, t2)) (hi : isP tk [wWh] = false) : e = ⟨[]⟩ ∧ t2 = tk := by
  unfold whF at h; rw [if_neg (by rw [hi]; decide)] at h; cases h; exact ⟨rfl, rfl⟩
theorem odF_t {tk t3 : List Str} {c : Int} {d : Bool} (h : odF tk = some (c, d, t3)) (hi : isP tk [wOr] = true) : ∃ t r, tk.drop 1 = t :: r ∧ 0 ≤ colP t ∧ c = colP t ∧ d = isP r [wDe] ∧ t3 = (if isP r [wDe] = true then r.drop 1 else r) := by
  unfold odF at h
  rw [if_pos hi] at h
  split at h
  · cases h
  · rename_i t r ht
    split at h
    · cases h
    · cases h; exact ⟨t, r, ht, by omega, rfl, rfl, rfl⟩
theorem odF_f {tk t3 : List Str} {c : Int} {d : Bool} (h : odF tk = some (c, d, t3)) (hi : isP tk [wOr] = false) : c = 0 ∧ d = false ∧ t3 = tk := by
  unfold odF at h; rw [if_neg (by rw [hi]; decide)] at h; cases h; exact ⟨rfl, rfl, rfl⟩
theorem coF_mk {l : Int} {s : PS} {t : Str} {r : List Str} (ht : s.tk = t :: r) (h : l ≤ colP t) : coF l s = some (colP t, dpP s 1) := by
  unfold coF; rw [ht]; simp only; rw [if_neg (by omega)]
section
variable {F : Nat} {s : PS} {x : GStmt} {rest : List Str}
theorem stF_w (h : stF F s = some (x, rest)) : ∃ w r, s.tk = w :: r ∧ ∃ n s1, taF (dpP s 1) = some (n, s1) ∧
    ((w = wSel ∧ ∃ e t2 c d, whF F s1.tk = some (e, t2) ∧ odF t2 = some (c, d, rest) ∧ x = ⟨1, n, GRow.zero, 0, ⟨[]⟩, e, c, d⟩) ∨
    (w = wIns ∧ ∃ y s2, roF s1 = some (y, s2) ∧ rest = s2.tk ∧ x = ⟨2, n, y, 0, ⟨[]⟩, ⟨[]⟩, 0, false⟩) ∨
    (w = wUpd ∧ ∃ c s2 e t3 e2, isP s1.tk [wSe] = true ∧ coF 1 (dpP s1 1) = some (c, s2) ∧ isP s2.tk [[61]] = true ∧ exF F (s2.tk.drop 1) = some (e, t3) ∧ whF F t3 = some (e2, rest) ∧ x = ⟨3, n, GRow.zero, c, e, e2, 0, false⟩) ∨
    (w = wDel ∧ ∃ e, whF F s1.tk = some (e, rest) ∧ x = ⟨4, n, GRow.zero, 0, ⟨[]⟩, e, 0, false⟩)) := by
  unfold stF at h
  split at h
  · cases h
  · rename_i w r hw
    refine ⟨w, r, hw, ?_⟩
    split at h
    · cases h
    · rename_i n s1 hta
      refine ⟨n, s1, hta, ?_⟩
      split at h
      · rename_i hk
        split at h
        · cases h
        · rename_i e t2 h1
          split at h
          · cases h
          · rename_i c d t3 h2
            cases h
            exact .inl ⟨hk, e, t2, c, d, h1, h2, rfl⟩
      · split at h
        · rename_i hk
          split at h
          · cases h
          · rename_i y s2 h1
            cases h
            exact .inr (.inl ⟨hk, y, s2, h1, rfl, rfl⟩)
        · split at h
          · rename_i hk
            split at h
            · rename_i h1
              split at h
              · cases h
              · rename_i c s2 h2
                split at h
                · rename_i h3
                  split at h
                  · cases h
                  · rename_i e t3 h4
                    split at h
                    · cases h
                    · rename_i e2 t4 h5
                      cases h
                      exact .inr (.inr (.inl ⟨hk, c, s2, e, t3, e2, h1, h2, h3, h4, h5, rfl⟩))
                · cases h
            · cases h
          · split at h
            · rename_i hk
              split at h
              · cases h
              · rename_i e t2 h1
                cases h
                exact .inr (.inr (.inr ⟨hk, e, h1, rfl⟩))
            · cases h
end
section
variable {w : Str} {A B C D : Prop}
theorem st_p1 (h : (w = wSel ∧ A) ∨ (w = wIns ∧ B) ∨ (w = wUpd ∧ C) ∨ (w = wDel ∧ D)) (hw : w = wSel) : A := by
  rcases h with h | h | h | h
  · exact h.2
  all_goals (rw [hw] at h; exact absurd h.1 (by decide))
theorem st_p2 (h : (w = wSel ∧ A) ∨ (w = wIns ∧ B) ∨ (w = wUpd ∧ C) ∨ (w = wDel ∧ D)) (hw : w = wIns) : B := by
  rcases h with h | h | h | h
  · rw [hw] at h; exact absurd h.1 (by decide)
  · exact h.2
  all_goals (rw [hw] at h; exact absurd h.1 (by decide))
theorem st_p3 (h : (w = wSel ∧ A) ∨ (w = wIns ∧ B) ∨ (w = wUpd ∧ C) ∨ (w = wDel ∧ D)) (hw : w = wUpd) : C := by
  rcases h with h | h | h | h
  · rw [hw] at h; exact absurd h.1 (by decide)
  · rw [hw] at h; exact absurd h.1 (by decide)
  · exact h.2
  · rw [hw] at h; exact absurd h.1 (by decide)
theorem st_p4 (h : (w = wSel ∧ A) ∨ (w = wIns ∧ B) ∨ (w = wUpd ∧ C) ∨ (w = wDel ∧ D)) (hw : w = wDel) : D := by
  rcases h with h | h | h | h
  · rw [hw] at h; exact absurd h.1 (by decide)
  · rw [hw] at h; exact absurd h.1 (by decide)
  · rw [hw] at h; exact absurd h.1 (by decide)
  · exact h.2
theorem st_p0 (h : (w = wSel ∧ A) ∨ (w = wIns ∧ B) ∨ (w = wUpd ∧ C) ∨ (w = wDel ∧ D)) (h0 : ¬ w = wSel) (h1 : ¬ w = wIns) (h2 : ¬ w = wUpd) (h3 : ¬ w = wDel) : False := by
  rcases h with h | h | h | h
  · exact h0 h.1
  · exact h1 h.1
  · exact h2 h.1
  · exact h3 h.1
end
theorem skP_eq {s : PS} {ts : List Str} : skP s ts = ⟨if isP s.tk ts = true then s.tk.drop ts.length else s.tk, s.ns, s.op⟩ := by
  unfold skP
  split <;> rfl
theorem roF_ok {x : GRow} {s s' : PS} (hs : s.ok) (h : roF s = some (x, s')) : s'.ok ∧ s'.op = s.op := by
  obtain ⟨a, b, c, s1, s2, e1, e2, e3, _, _, _⟩ := roF_some h
  obtain ⟨k1, o1⟩ := ceF_ok hs e1
  obtain ⟨k2, o2⟩ := ceF_ok k1 e2
  obtain ⟨k3, o3⟩ := ceF_ok k2 e3
  exact ⟨k3, o3.trans (o2.trans o1)⟩
/-- The text reads as the statement. -/
def SQok (t : Str) (x : GStmt) : Prop := t.length ≤ 65536 ∧ ∃ (toks : List Str) (F : Nat), lexF (t.length + 1) t = some toks ∧ toks.length ≤ 500 ∧ (∀ x ∈ toks, okT x) ∧ stF F ⟨toks, [], 0⟩ = some (x, [])
end Go.AM

namespace Go.AM
open Go.Lib (decDigits)
set_option linter.unusedVariables false
def tkX (e : GExpr) : List Str := tkE e.Nodes (e.Nodes.length + 1) ((e.Nodes.length : Int) - 1)
theorem exF_mk {e : GExpr} (h : exprOK e = true) {rest : List Str} (hs : Stp 0 rest) : exF 3000 (tkX e ++ rest) = some (e, rest) := by
  obtain ⟨k, r⟩ := rd_expr h rest hs
  have hn := exprOK_n h
  have r := r 3000 (by omega)
  unfold exF tkX
  rw [r]
  dsimp only
  rw [if_pos ⟨(exprOK_d h).1, List.all_eq_true.2 fun x hx => decide_eq_true ((expr_ok_sz h).2 x hx)⟩]
def tkWh (e : GExpr) : List Str := if noneE e = false then wWh :: tkX e else []
theorem noneE_e {e : GExpr} (h : noneE e = true) : e = ⟨[]⟩ := by
  have := noneE_n h
  cases e with
  | mk ns => exact congrArg GExpr.mk (List.length_eq_zero_iff.1 this)
theorem whF_mk {e : GExpr} (h : noneE e = false → exprOK e = true) {rest : List Str} (hs : Stp 0 rest) (hw : isP rest [wWh] = false) : whF 3000 (tkWh e ++ rest) = some (e, rest) := by
  unfold whF tkWh
  cases hn : noneE e with
  | false =>
    rw [if_pos rfl, List.cons_append, if_pos (by rw [isP_one]; decide)]
    exact exF_mk (h hn) hs
  | true =>
    rw [if_neg (show ¬ true = false from by decide), List.nil_append, if_neg (by rw [hw]; decide), noneE_e hn]
def tkOd (c : Int) (d : Bool) : List Str := if ¬ c = 0 ∨ d = true then wOr :: colT c :: (if d = true then [wDe] else []) else []
theorem odF_mk {c : Int} {d : Bool} (hc : 0 ≤ c ∧ c ≤ 2) : odF (tkOd c d) = some (c, d, []) := by
  rcases (by omega : c = 0 ∨ c = 1 ∨ c = 2) with rfl | rfl | rfl <;> cases d <;> rfl
theorem Stp.wd {w : Str} {r : List Str} (h : w = wWh ∨ w = wOr) : Stp 0 (w :: r) := by
  rcases h with rfl | rfl <;> exact ⟨fun _ => ⟨isP_lit (by decide), isP_lit (by decide)⟩, fun _ => ⟨isP_lit (by decide), isP_lit (by decide)⟩, fun _ => ⟨isP_lit (by decide), isP_lit (by decide), isP_two (by decide)⟩, fun _ => isP_lit (by decide), fun _ => isP_lit (by decide)⟩
theorem stp_od {c : Int} {d : Bool} : Stp 0 (tkOd c d) ∧ isP (tkOd c d) [wWh] = false := by
  unfold tkOd
  split
  · exact ⟨Stp.wd (.inr rfl), isP_lit (by decide)⟩
  · exact ⟨Stp.nil, isP_nil⟩
theorem stp_wh {e : GExpr} {rest : List Str} (h : Stp 0 rest) : Stp 0 (tkWh e ++ rest) := by
  unfold tkWh
  split
  · exact Stp.wd (.inl rfl)
  · exact h
theorem dgP_nat {u : Nat} {r : List Str} (h : u ≤ 1000000000) : dgP (decDigits u :: r) = ((u : Int), true) := by
  rw [dgP_cons, rdF_dd]
  dsimp only
  rw [inR_iff.2 (by omega)]; rfl
theorem taF_mk {n : Int} (hn : 1 ≤ n ∧ n ≤ 3) {r : List Str} {ns : List GExprNode} {op : Nat} : taF ⟨decDigits n.toNat :: r, ns, op⟩ = some (n, ⟨r, ns, op⟩) := by
  unfold taF
  show (if (dgP (decDigits n.toNat :: r)).2 = true ∧ inR (dgP (decDigits n.toNat :: r)).1 1 3 = true then some ((dgP (decDigits n.toNat :: r)).1, (⟨r, ns, op⟩ : PS)) else none) = _
  have hm : ((n.toNat : Nat) : Int) = n := by omega
  rw [dgP_nat (by omega)]
  dsimp only
  rw [hm, if_pos ⟨rfl, inR_iff.2 hn⟩]
theorem ceF_mk {v : GValue} (hv : valueOK v = true) {rest : List Str} {ns : List GExprNode} {op : Nat} : ceF ⟨tkV v ++ rest, ns, op⟩ = some (v, ⟨rest, ns, op⟩) := by
  unfold tkV
  by_cases h0 : v.Kind = 0
  · rw [if_pos h0, List.singleton_append]
    have e : v = GValue.zero := by
      rw [valueOK_0 h0, Bool.and_eq_true, decide_eq_true_eq, decide_eq_true_eq] at hv
      exact GValue.ext1 h0 hv.1 hv.2
    have hi : isP ([110, 117, 108, 108] :: rest) [[45]] = false := isP_lit (by decide)
    have hd : (dgP ([110, 117, 108, 108] :: rest)).2 = false := by rw [dgP_cons, rdF_no (by decide) (by decide) (by decide)]; rfl
    have hv := vaP_2 (s := ⟨[110, 117, 108, 108] :: rest, ns, op⟩) hd (by rw [isP_one]; decide)
    unfold ceF
    rw [skP_f (s := ⟨[110, 117, 108, 108] :: rest, ns, op⟩) hi, hv]
    dsimp only
    rw [hi, if_pos ⟨rfl, fun h => absurd h (by decide)⟩, if_neg (by decide), ← e]; rfl
  by_cases h1 : v.Kind = 1
  · rw [if_neg h0, if_pos h1]
    have hb := vOK_n hv h1
    have e : ∀ n : Int, n = v.N → vI n = v := fun n hn => by
      rw [valueOK_1 h1, Bool.and_eq_true, decide_eq_true_eq] at hv
      exact GValue.ext1 h1.symm hn hv.2.symm
    by_cases h2 : v.N < 0
    · rw [if_pos h2]
      have hi : isP ([45] :: decDigits v.N.natAbs :: rest) [[45]] = true := by rw [isP_one]; decide
      have hdg : dgP (decDigits v.N.natAbs :: rest) = ((v.N.natAbs : Int), true) := dgP_nat (by omega)
      have hva := vaP_1 (s := ⟨decDigits v.N.natAbs :: rest, ns, op⟩) (by show (dgP (decDigits v.N.natAbs :: rest)).2 = true; rw [hdg])
      show ceF ⟨[45] :: decDigits v.N.natAbs :: rest, ns, op⟩ = _
      unfold ceF
      rw [skP_t (s := ⟨[45] :: decDigits v.N.natAbs :: rest, ns, op⟩) hi]
      show (if (vaP ⟨decDigits v.N.natAbs :: rest, ns, op⟩).1.2 = true ∧ _ then _ else _) = _
      show (if (vaP ⟨decDigits v.N.natAbs :: rest, ns, op⟩).1.2 = true ∧ (isP ([45] :: decDigits v.N.natAbs :: rest) [[45]] = true → isO (vaP ⟨decDigits v.N.natAbs :: rest, ns, op⟩).1.1 = true) then
        some (if isP ([45] :: decDigits v.N.natAbs :: rest) [[45]] = true then (⟨(vaP ⟨decDigits v.N.natAbs :: rest, ns, op⟩).1.1.Kind, -(vaP ⟨decDigits v.N.natAbs :: rest, ns, op⟩).1.1.N, (vaP ⟨decDigits v.N.natAbs :: rest, ns, op⟩).1.1.T⟩ : GValue) else (vaP ⟨decDigits v.N.natAbs :: rest, ns, op⟩).1.1, (vaP ⟨decDigits v.N.natAbs :: rest, ns, op⟩).2) else none) = _
      rw [hva]
      dsimp only
      rw [hdg, if_pos ⟨rfl, fun _ => by unfold isO vI; simp; omega⟩, if_pos hi]
      have := e (-(v.N.natAbs : Int)) (by omega)
      exact congrArg (fun x => some (x, (⟨rest, ns, op⟩ : PS))) this
    · rw [if_neg h2, List.singleton_append]
      have hi : isP (decDigits v.N.toNat :: rest) [[45]] = false := isP_lit (dd_neq (by decide))
      have hdg : dgP (decDigits v.N.toNat :: rest) = ((v.N.toNat : Int), true) := dgP_nat (by omega)
      have hva := vaP_1 (s := ⟨decDigits v.N.toNat :: rest, ns, op⟩) (by show (dgP (decDigits v.N.toNat :: rest)).2 = true; rw [hdg])
      unfold ceF
      rw [skP_f (s := ⟨decDigits v.N.toNat :: rest, ns, op⟩) hi, hva]
      dsimp only
      rw [hi, if_pos ⟨rfl, fun h => absurd h (by decide)⟩, if_neg (by decide), hdg]
      have := e (v.N.toNat : Int) (by omega)
      exact congrArg (fun x => some (x, (⟨rest, ns, op⟩ : PS))) this
  · rw [if_neg h0, if_neg h1, List.singleton_append]
    obtain ⟨g1, g2, g3⟩ := vOK_2 hv h0 h1
    have e : (⟨2, 0, v.T⟩ : GValue) = v := GValue.ext1 g1.symm g2.symm rfl
    have hi : isP ((39 :: v.T ++ [39]) :: rest) [[45]] = false := isP_lit (fun e => by cases e)
    have hd : (dgP ((39 :: v.T ++ [39]) :: rest)).2 = false := by rw [dgP_cons, List.cons_append, rdF_no (by decide) (by decide) (by decide)]; rfl
    have hT : ((39 :: v.T ++ [39]).drop 1).take ((39 :: v.T ++ [39]).length - 2) = v.T := by simp
    have hva := vaP_3 (s := ⟨(39 :: v.T ++ [39]) :: rest, ns, op⟩) (t := 39 :: v.T ++ [39]) (r := rest) hd (isP_lit (fun e => by cases e)) rfl rfl (by rw [hT, e]; exact hv)
    rw [hT, e] at hva
    unfold ceF
    rw [skP_f (s := ⟨(39 :: v.T ++ [39]) :: rest, ns, op⟩) hi, hva]
    dsimp only
    rw [hi, if_pos ⟨rfl, fun h => absurd h (by decide)⟩, if_neg (by decide)]; rfl
theorem roF_mk {x : GRow} (h : rowOK x = true) {rest : List Str} {ns : List GExprNode} {op : Nat} : roF ⟨tkV (vI x.Id) ++ (tkV x.N ++ (tkV x.Name ++ rest)), ns, op⟩ = some (x, ⟨rest, ns, op⟩) := by
  obtain ⟨h1, h2, h3⟩ := rowOK_p h
  unfold roF
  rw [ceF_mk (vOK_int (by omega))]
  dsimp only
  rw [ceF_mk h2]
  dsimp only
  rw [ceF_mk h3]
  dsimp only
  rw [if_pos ⟨rfl, h⟩]
  cases x; rfl
def tkS (s : GStmt) : List Str := selT s.Kind :: decDigits s.Table.toNat :: (if s.Kind = 2 then tkV (vI s.Row.Id) ++ (tkV s.Row.N ++ (tkV s.Row.Name ++ []))
  else if s.Kind = 3 then wSe :: colT s.Column :: [61] :: (tkX s.Set ++ (tkWh s.Where ++ tkOd s.Order s.Down)) else tkWh s.Where ++ tkOd s.Order s.Down)
theorem zeroR_e {r : GRow} (h : zeroR r = true) : r = GRow.zero := by
  unfold zeroR at h
  simp only [Bool.and_eq_true, decide_eq_true_eq, and_true] at h
  obtain ⟨a, b, c, d, e, f, g⟩ := h
  exact GRow.ext1 a (GValue.ext1 b c d) (GValue.ext1 e f g)
theorem stF_mk {s : GStmt} (h : stmtOK s = true) : stF 3000 ⟨tkS s, [], 0⟩ = some (s, []) := by
  obtain ⟨hk, htb, hwh, hk2, hk3, hor, hk1, hzr, hnn⟩ := stOK_p h
  have hta := fun r => taF_mk htb (r := r) (ns := []) (op := 0)
  obtain ⟨K, Tb, R, C, S, W, O, D⟩ := s
  simp only at hk htb hwh hk2 hk3 hor hk1 hzr hnn hta
  unfold tkS stF
  dsimp only
  unfold dpP
  simp only [List.drop_succ_cons, List.drop_zero]
  rw [hta]
  dsimp only
  rcases (by omega : K = 1 ∨ K = 2 ∨ K = 3 ∨ K = 4) with rfl | rfl | rfl | rfl
  · rw [if_pos (by decide), if_neg (by decide), if_neg (by decide), whF_mk hwh stp_od.1 stp_od.2]
    dsimp only
    rw [odF_mk hor]
    dsimp only
    rw [zeroR_e (hzr.resolve_left (by decide)), (hnn.resolve_left (by decide)).1, noneE_e (hnn.resolve_left (by decide)).2]
  · obtain ⟨a, b⟩ := hk2 rfl
    rw [if_neg (by decide), if_pos (by decide), if_pos rfl, roF_mk a]
    dsimp only
    rw [(hnn.resolve_left (by decide)).1, noneE_e (hnn.resolve_left (by decide)).2, noneE_e b, (hk1 (by decide)).1, (hk1 (by decide)).2]
  · obtain ⟨a, b⟩ := hk3 rfl
    obtain ⟨c, d⟩ := hk1 (by decide)
    subst c; subst d
    rw [if_neg (by decide), if_neg (by decide), if_pos (by decide), if_neg (show ¬ (3 : Int) = 2 from by decide), if_pos (show (3 : Int) = 3 from rfl)]
    rw [if_pos (by rw [isP_one]; decide)]
    simp only [List.drop_succ_cons, List.drop_zero]
    rw [coF_mk (t := colT C) (r := [61] :: (tkX S ++ (tkWh W ++ tkOd 0 false))) rfl (by rw [colP_at (by omega)]; omega)]
    dsimp only
    unfold dpP
    simp only [List.drop_succ_cons, List.drop_zero]
    rw [if_pos (by rw [isP_one]; decide), exF_mk b (stp_wh stp_od.1)]
    dsimp only
    rw [whF_mk hwh stp_od.1 stp_od.2]
    dsimp only
    rw [colP_at (by omega), zeroR_e (hzr.resolve_left (by decide))]; rfl
  · obtain ⟨c, d⟩ := hk1 (by decide)
    subst c; subst d
    rw [if_neg (by decide), if_neg (by decide), if_neg (by decide), if_pos (by decide), if_neg (by decide), if_neg (by decide), whF_mk hwh stp_od.1 stp_od.2]
    dsimp only
    rw [zeroR_e (hzr.resolve_left (by decide)), (hnn.resolve_left (by decide)).1, noneE_e (hnn.resolve_left (by decide)).2]; rfl
def wX (e : GExpr) : Str := if noneE e = false then [32, 119, 104, 101, 114, 101, 32] ++ exT e else []
def oX (c : Int) (d : Bool) : Str := if ¬ c = 0 ∨ d = true then ([32, 111, 114, 100, 101, 114, 32] ++ colT c) ++ (if d = true then [32, 100, 101, 115, 99] else []) else []
theorem tail_eq {s : GStmt} {a : Str} : sxD s (sxO s (sxW s a)) = a ++ (wX s.Where ++ oX s.Order s.Down) := by
  unfold sxD sxO sxW wX oX
  cases s.Down <;> cases noneE s.Where <;> by_cases h : s.Order = 0 <;> simp [h]
theorem bdr_sp {r : Str} : bdr (32 :: r) := bdr_cons (by decide)
theorem od_lex {c : Int} {d : Bool} (hc : 0 ≤ c ∧ c ≤ 2) : LexR (oX c d) (tkOd c d) ∧ bdr (oX c d) := by
  unfold oX tkOd
  split
  · have h1 : LexR (if d = true then [32, 100, 101, 115, 99] else []) (if d = true then [wDe] else []) ∧ bdr (if d = true then [32, 100, 101, 115, 99] else []) := by
      cases d with
      | false => exact ⟨LexR.nil, bdr_nil⟩
      | true => exact ⟨LexR.sp (LexR.word (c := 100) (w := [101, 115, 99]) (by decide) (by decide) bdr_nil LexR.nil), bdr_sp⟩
    refine ⟨?_, bdr_sp⟩
    have := LexR.sp (LexR.word (c := 111) (w := [114, 100, 101, 114]) (by decide) (by decide) bdr_sp (LexR.sp (LexR.colw hc h1.2 h1.1)))
    simpa [wOr] using this
  · exact ⟨LexR.nil, bdr_nil⟩
theorem wh_lex {e : GExpr} (h : noneE e = false → exprOK e = true) {rest : Str} {rs : List Str} (hb : bdr rest) (hr : LexR rest rs) : LexR (wX e ++ rest) (tkWh e ++ rs) ∧ bdr (wX e ++ rest) := by
  unfold wX tkWh
  cases hn : noneE e with
  | false =>
    rw [if_pos rfl, if_pos rfl]
    refine ⟨?_, bdr_sp⟩
    have := LexR.sp (LexR.word (c := 119) (w := [104, 101, 114, 101]) (by decide) (by decide) bdr_sp (LexR.sp (exT_lex (h hn) hb hr)))
    unfold tkX
    simpa [wWh] using this
  | true => rw [if_neg (by decide), if_neg (by decide)]; exact ⟨hr, hb⟩
theorem ta_eq {n : Int} (h : 1 ≤ n ∧ n ≤ 3) : vtextF (vI n) = decDigits n.toNat := by rw [rtext_vI, itoa_nn (by omega)]
theorem stT_lex {s : GStmt} (h : stmtOK s = true) : LexR (stT s) (tkS s) := by
  obtain ⟨hk, htb, hwh, hk2, hk3, hor, hk1, hzr, hnn⟩ := stOK_p h
  obtain ⟨o1, o2⟩ := od_lex (c := s.Order) (d := s.Down) hor
  obtain ⟨w1, w2⟩ := wh_lex hwh o2 o1
  unfold tkS
  rcases (by omega : s.Kind = 1 ∨ s.Kind = 2 ∨ s.Kind = 3 ∨ s.Kind = 4) with e | e | e | e
  · rw [stT_1 e, tail_eq, if_neg (by omega), if_neg (by omega), e, ta_eq htb]
    have := LexR.word (c := 115) (w := [101, 108, 101, 99, 116]) (by decide) (by decide) bdr_sp (LexR.sp (LexR.num (u := s.Table.toNat) w2 w1))
    simpa [selT, selL] using this
  · obtain ⟨a, b⟩ := hk2 e
    obtain ⟨r1, r2, r3⟩ := rowOK_p a
    rw [stT_2 h e, if_pos e, e, ta_eq htb]
    unfold rtextF
    have := LexR.word (c := 105) (w := [110, 115, 101, 114, 116]) (by decide) (by decide) bdr_sp (LexR.sp (LexR.num (u := s.Table.toNat) bdr_sp (LexR.sp (LexR.val (vOK_int (n := s.Row.Id) (by omega)) bdr_sp (LexR.sp (LexR.val r2 bdr_sp (LexR.sp (LexR.val r3 bdr_nil LexR.nil))))))))
    simpa [selT, selL] using this
  · obtain ⟨a, b⟩ := hk3 e
    rw [stT_3 e, tail_eq, if_neg (by omega), if_pos e, e, ta_eq htb]
    have := LexR.word (c := 117) (w := [112, 100, 97, 116, 101]) (by decide) (by decide) bdr_sp (LexR.sp (LexR.num (u := s.Table.toNat) bdr_sp (LexR.sp (LexR.word (c := 115) (w := [101, 116]) (by decide) (by decide) bdr_sp (LexR.sp (LexR.colw (c := s.Column) (by omega) bdr_sp (LexR.sp (LexR.sign (c := 61) (by decide) (by decide) (by decide) (by decide) (by decide) (LexR.sp (exT_lex b w2 w1))))))))))
    unfold tkX
    simpa [selT, selL, wSe] using this
  · rw [stT_4 e, tail_eq, if_neg (by omega), if_neg (by omega), e, ta_eq htb]
    have := LexR.word (c := 100) (w := [101, 108, 101, 116, 101]) (by decide) (by decide) bdr_sp (LexR.sp (LexR.num (u := s.Table.toNat) w2 w1))
    simpa [selT, selL] using this
theorem okT_dd {u : Nat} (h : u ≤ 1000000000) : okT (decDigits u) := by
  have h1 := dd_len h
  have h2 := List.length_pos_iff.2 (dd_ne u)
  refine ⟨by omega, by omega, fun e => ?_⟩
  have ha := dd_all u
  cases hd : decDigits u with
  | nil => rw [hd] at e; cases e
  | cons c w => rw [hd] at e ha; cases e; exact absurd (ha 39 List.mem_cons_self) (by decide)
theorem okT_col {c : Int} (h : 0 ≤ c ∧ c ≤ 2) : okT (colT c) := by
  rcases (by omega : c = 0 ∨ c = 1 ∨ c = 2) with rfl | rfl | rfl <;> (unfold okT; decide)
theorem okT_sel {k : Int} (h : 1 ≤ k ∧ k ≤ 4) : okT (selT k) := by
  rcases (by omega : k = 1 ∨ k = 2 ∨ k = 3 ∨ k = 4) with rfl | rfl | rfl | rfl <;> (unfold okT; decide)
def okL (n : Nat) (ts : List Str) : Prop := (∀ t ∈ ts, okT t) ∧ ts.length ≤ n
theorem okL.cons {n : Nat} {t : Str} {ts : List Str} (h : okT t) (hs : okL n ts) : okL (n + 1) (t :: ts) := ⟨fun x hx => by
  rcases List.mem_cons.1 hx with rfl | hx
  · exact h
  · exact hs.1 x hx, by rw [List.length_cons]; have := hs.2; omega⟩
theorem okL.app {n m : Nat} {ts us : List Str} (h : okL n ts) (hs : okL m us) : okL (n + m) (ts ++ us) := ⟨fun x hx => by
  rcases List.mem_append.1 hx with hx | hx
  · exact h.1 x hx
  · exact hs.1 x hx, by rw [List.length_append]; have := hs.2; have := h.2; omega⟩
theorem okL.nil {n : Nat} : okL n [] := ⟨fun _ h => absurd h List.not_mem_nil, Nat.zero_le _⟩
theorem okL.mono {n m : Nat} {ts : List Str} (h : okL n ts) (hm : n ≤ m) : okL m ts := ⟨h.1, Nat.le_trans h.2 hm⟩
theorem okL_od {c : Int} {d : Bool} (hc : 0 ≤ c ∧ c ≤ 2) : okL 3 (tkOd c d) := by
  unfold tkOd
  split
  · refine .cons (by unfold okT; decide) (.cons (okT_col hc) ?_)
    split
    · exact .cons (n := 0) (by unfold okT; decide) .nil
    · exact .nil
  · exact .nil
theorem okL_wh {e : GExpr} (h : noneE e = false → exprOK e = true) : okL 201 (tkWh e) := by
  unfold tkWh
  cases hn : noneE e with
  | false =>
    obtain ⟨a, b, _⟩ := exT_sz (h hn)
    exact .cons (by unfold okT; decide) ⟨a, b⟩
  | true => exact .nil
theorem okL_v {v : GValue} (h : valueOK v = true) : okL 2 (tkV v) := tkV_ok h
theorem tkS_ok {s : GStmt} (h : stmtOK s = true) : okL 500 (tkS s) := by
  obtain ⟨hk, htb, hwh, hk2, hk3, hor, hk1, hzr, hnn⟩ := stOK_p h
  unfold tkS
  refine .mono (.cons (okT_sel hk) (.cons (n := 450) (okT_dd (by omega)) ?_)) (by decide)
  split
  · rename_i e
    obtain ⟨a, b⟩ := hk2 e
    obtain ⟨r1, r2, r3⟩ := rowOK_p a
    exact .mono (.app (okL_v (vOK_int (by omega))) (.app (okL_v r2) (.app (okL_v r3) (.nil (n := 0))))) (by decide)
  · split
    · rename_i e
      obtain ⟨a, b⟩ := hk3 e
      obtain ⟨x, y, _⟩ := exT_sz b
      exact .mono (.cons (by unfold okT; decide) (.cons (okT_col (by omega)) (.cons (by unfold okT; decide) (.app ⟨x, y⟩ (.app (okL_wh hwh) (okL_od hor)))))) (by decide)
    · exact .mono (.app (okL_wh hwh) (okL_od hor)) (by decide)
theorem wX_len {e : GExpr} (h : noneE e = false → exprOK e = true) : (wX e).length ≤ 1007 := by
  unfold wX
  cases hn : noneE e with
  | false =>
    have := (exT_sz (h hn)).2.2
    rw [if_pos rfl, List.length_append]
    show 7 + _ ≤ _
    omega
  | true => exact Nat.zero_le _
theorem oX_len {c : Int} {d : Bool} (hc : 0 ≤ c ∧ c ≤ 2) : (oX c d).length ≤ 20 := by
  rcases (by omega : c = 0 ∨ c = 1 ∨ c = 2) with rfl | rfl | rfl <;> cases d <;> decide
theorem stT_sz {s : GStmt} (h : stmtOK s = true) : (stT s).length ≤ 3000 := by
  obtain ⟨hk, htb, hwh, hk2, hk3, hor, hk1, hzr, hnn⟩ := stOK_p h
  have o1 := oX_len (d := s.Down) hor
  have w1 := wX_len hwh
  have t1 := vtext_le (vOK_int (n := s.Table) (by omega))
  rcases (by omega : s.Kind = 1 ∨ s.Kind = 2 ∨ s.Kind = 3 ∨ s.Kind = 4) with e | e | e | e
  · rw [stT_1 e, tail_eq]; simp only [List.length_append, List.length_cons, List.length_nil]; omega
  · have := rtext_le (hk2 e).1
    rw [stT_2 h e]; simp only [List.length_append, List.length_cons, List.length_nil]; omega
  · have a := (exT_sz (hk3 e).2).2.2
    have b := colT_len (c := s.Column) (by have := (hk3 e).1; omega)
    rw [stT_3 e, tail_eq]; simp only [List.length_append, List.length_cons, List.length_nil]; omega
  · rw [stT_4 e, tail_eq]; simp only [List.length_append, List.length_cons, List.length_nil]; omega
theorem sq_ok {s : GStmt} (h : stmtOK s = true) : SQok (stT s) s := by
  obtain ⟨f, hl⟩ := stT_lex h
  have hz := stT_sz h
  exact ⟨by omega, tkS s, 3000, lexF_fuel hl (Nat.lt_succ_self _), (tkS_ok h).2, (tkS_ok h).1, stF_mk h⟩
end Go.AM

namespace Go.AM
set_option linter.unusedVariables false
theorem exprG_src {s : Src} {n : Nat} (h : s.ok (n + 1000)) : (exprG s).2.ok n := by
  obtain ⟨h1, h2, h3, h4⟩ := exD_ok (s := s) (n := n + 997) (h.mono (by omega))
  have hb := bud4 h4
  exact (nodeF_ok (d := exD s) (s := (nextF s 4).2) (out := []) (n := n) (h1.mono (by omega))).1
def abT : List Str := [[97], [98]]
def hdK (s : Src) : Int := 1 + (nextF s 4).1
def hdT (s : Src) : Int := 1 + (nextF (nextF s 4).2 2).1
def hdS (s : Src) : Src := (nextF (nextF s 4).2 2).2
def conE (v : GValue) : GExpr := ⟨[⟨1, 0, 0, 0, v⟩]⟩
def stU (u : Src) : Src := (chanceF (exprG (nextF u 2).2).2 2).2
def setG (u : Src) : GExpr × Src :=
  if (chanceF (exprG (nextF u 2).2).2 2).1 = true then
    (if 1 + (nextF u 2).1 = 2 then (conE ⟨2, 0, (pickF (nextF (stU u) 9).2 abT).1⟩, (pickF (nextF (stU u) 9).2 abT).2) else (conE (vI (nextF (stU u) 9).1), (nextF (stU u) 9).2))
  else (⟨(exprG (nextF u 2).2).1⟩, stU u)
def whrN (u : Src) : Src := (chanceF (exprG (chanceF u 2).2).2 2).2
def whrE (u : Src) : GExpr := ⟨[⟨2, 0, 0, 0, .zero⟩, ⟨1, 0, 0, 0, vI (nextF (whrN u) 6).1⟩, ⟨10 + (nextF (nextF (whrN u) 6).2 2).1, 0, 1, 0, .zero⟩]⟩
def whrG (u : Src) : GExpr × Src := if (chanceF u 2).1 = true then
    (if (chanceF (exprG (chanceF u 2).2).2 2).1 = true then (whrE u, (nextF (nextF (whrN u) 6).2 2).2) else (⟨(exprG (chanceF u 2).2).1⟩, whrN u))
  else (⟨[]⟩, (chanceF u 2).2)
def stmtG (s : Src) : GStmt × Src :=
  if hdK s = 2 then (⟨2, hdT s, (rowF (hdS s)).1, 0, ⟨[]⟩, ⟨[]⟩, 0, false⟩, (rowF (hdS s)).2)
  else if hdK s = 3 then (⟨3, hdT s, .zero, 1 + (nextF (hdS s) 2).1, (setG (hdS s)).1, (whrG (setG (hdS s)).2).1, 0, false⟩, (whrG (setG (hdS s)).2).2)
  else if hdK s = 1 then (⟨1, hdT s, .zero, 0, ⟨[]⟩, (whrG (chanceF (nextF (hdS s) 3).2 3).2).1, (nextF (hdS s) 3).1, (chanceF (nextF (hdS s) 3).2 3).1⟩, (whrG (chanceF (nextF (hdS s) 3).2 3).2).2)
  else (⟨hdK s, hdT s, .zero, 0, ⟨[]⟩, (whrG (hdS s)).1, 0, false⟩, (whrG (hdS s)).2)
section
variable {s u : Src}
theorem setG_1 (h : (chanceF (exprG (nextF u 2).2).2 2).1 = true) (h1 : 1 + (nextF u 2).1 = 2) : setG u = (conE ⟨2, 0, (pickF (nextF (stU u) 9).2 abT).1⟩, (pickF (nextF (stU u) 9).2 abT).2) := by unfold setG; rw [if_pos h, if_pos h1]
theorem setG_2 (h : (chanceF (exprG (nextF u 2).2).2 2).1 = true) (h1 : ¬ 1 + (nextF u 2).1 = 2) : setG u = (conE (vI (nextF (stU u) 9).1), (nextF (stU u) 9).2) := by unfold setG; rw [if_pos h, if_neg h1]
theorem setG_3 (h : (chanceF (exprG (nextF u 2).2).2 2).1 = false) : setG u = (⟨(exprG (nextF u 2).2).1⟩, stU u) := by unfold setG; rw [if_neg (by rw [h]; decide)]
theorem whrG_1 (h : (chanceF u 2).1 = true) (h1 : (chanceF (exprG (chanceF u 2).2).2 2).1 = true) : whrG u = (whrE u, (nextF (nextF (whrN u) 6).2 2).2) := by unfold whrG; rw [if_pos h, if_pos h1]
theorem whrG_2 (h : (chanceF u 2).1 = true) (h1 : (chanceF (exprG (chanceF u 2).2).2 2).1 = false) : whrG u = (⟨(exprG (chanceF u 2).2).1⟩, whrN u) := by unfold whrG; rw [if_pos h, if_neg (by rw [h1]; decide)]
theorem whrG_3 (h : (chanceF u 2).1 = false) : whrG u = (⟨[]⟩, (chanceF u 2).2) := by unfold whrG; rw [if_neg (by rw [h]; decide)]
theorem stG_2 (h : 1 + (nextF s 4).1 = 2) : stmtG s = (⟨hdK s, hdT s, (rowF (hdS s)).1, 0, ⟨[]⟩, ⟨[]⟩, 0, false⟩, (rowF (hdS s)).2) := by
  have h' : hdK s = 2 := h
  unfold stmtG; rw [if_pos h', h']
variable {x y : GExpr} {v v2 : Src}
theorem stG_3 (h : ¬ 1 + (nextF s 4).1 = 2) (h1 : 1 + (nextF s 4).1 = 3) (e1 : setG (hdS s) = (x, v)) (e2 : whrG v = (y, v2)) : stmtG s = (⟨hdK s, hdT s, .zero, 1 + (nextF (hdS s) 2).1, x, y, 0, false⟩, v2) := by
  have h' : hdK s = 3 := h1
  unfold stmtG; rw [if_neg (show ¬ hdK s = 2 from h), if_pos h', h', e1]; dsimp only; rw [e2]
theorem stG_1 (h : ¬ 1 + (nextF s 4).1 = 2) (h1 : ¬ 1 + (nextF s 4).1 = 3) (h2 : 1 + (nextF s 4).1 = 1) (e2 : whrG (chanceF (nextF (hdS s) 3).2 3).2 = (y, v2)) : stmtG s = (⟨hdK s, hdT s, .zero, 0, ⟨[]⟩, y, (nextF (hdS s) 3).1, (chanceF (nextF (hdS s) 3).2 3).1⟩, v2) := by
  have h' : hdK s = 1 := h2
  unfold stmtG; rw [if_neg (show ¬ hdK s = 2 from h), if_neg (show ¬ hdK s = 3 from h1), if_pos h', h', e2]
theorem stG_4 (h : ¬ 1 + (nextF s 4).1 = 2) (h1 : ¬ 1 + (nextF s 4).1 = 3) (h2 : ¬ 1 + (nextF s 4).1 = 1) (e2 : whrG (hdS s) = (y, v2)) : stmtG s = (⟨hdK s, hdT s, .zero, 0, ⟨[]⟩, y, 0, false⟩, v2) := by
  unfold stmtG; rw [if_neg (show ¬ hdK s = 2 from h), if_neg (show ¬ hdK s = 3 from h1), if_neg (show ¬ hdK s = 1 from h2), e2]
theorem exprOK_T1 {e : GExpr} {d : Int} (hn : 1 ≤ e.Nodes.length ∧ e.Nodes.length ≤ 40) (hT : T e.Nodes ((e.Nodes.length : Int) - 1) = (0, d, true)) (hd : d ≤ 12) : exprOK e = true := by
  rw [exprOK_1 (inR_iff.2 (by omega)), T_of (by omega) (by omega), hT]
  simp [hd]
theorem conE_ok {v : GValue} (h : valueOK v = true) : exprOK (conE v) = true := by
  refine exprOK_T1 (d := 1) ⟨by show 1 ≤ 1; omega, by show 1 ≤ 40; omega⟩ ?_ (by decide)
  have e := T_at (ns := (conE v).Nodes) (j := 0) (by show 0 < 1; omega)
  rw [nodeW_1 rfl] at e
  refine e.trans ?_
  show ((0 : Int), (1 : Int), (((true && true) && true) && valueOK v)) = _
  rw [h]; rfl
theorem ex3_ok {v : GValue} {o : Int} (h : valueOK v = true) (ho : o = 10 ∨ o = 11) : exprOK ⟨[⟨2, 0, 0, 0, .zero⟩, ⟨1, 0, 0, 0, v⟩, ⟨o, 0, 1, 0, .zero⟩]⟩ = true := by
  refine exprOK_T1 (d := 2) ⟨by show 1 ≤ 3; omega, by show 3 ≤ 40; omega⟩ ?_ (by decide)
  have e0 : T [⟨2, 0, 0, 0, .zero⟩, ⟨1, 0, 0, 0, v⟩, ⟨o, 0, 1, 0, .zero⟩] 0 = (0, 1, true) := by
    have e := T_at (ns := [⟨2, 0, 0, 0, .zero⟩, ⟨1, 0, 0, 0, v⟩, ⟨o, 0, 1, 0, .zero⟩]) (j := 0) (by show 0 < 3; omega)
    rw [nodeW_2 (show ¬ (2 : Int) = 1 from by decide) rfl] at e
    exact e.trans rfl
  have e1 : T [⟨2, 0, 0, 0, .zero⟩, ⟨1, 0, 0, 0, v⟩, ⟨o, 0, 1, 0, .zero⟩] 1 = (1, 1, true) := by
    have e := T_at (ns := [⟨2, 0, 0, 0, .zero⟩, ⟨1, 0, 0, 0, v⟩, ⟨o, 0, 1, 0, .zero⟩]) (j := 1) (by show 1 < 3; omega)
    rw [nodeW_1 rfl] at e
    refine e.trans ?_
    show ((1 : Int), (1 : Int), (((true && true) && true) && valueOK v)) = _
    rw [h]; rfl
  have e := T_at (ns := [⟨2, 0, 0, 0, .zero⟩, ⟨1, 0, 0, 0, v⟩, ⟨o, 0, 1, 0, .zero⟩]) (j := 2) (by show 2 < 3; omega)
  refine e.trans ?_
  rw [show ((2 : Nat) : Int) = 2 from rfl]
  have e1' : T [⟨2, 0, 0, 0, .zero⟩, ⟨1, 0, 0, 0, v⟩, ⟨o, 0, 1, 0, .zero⟩] (2 - 1) = (1, 1, true) := e1
  rw [nodeW_5 (x := [(⟨2, 0, 0, 0, .zero⟩ : GExprNode), ⟨1, 0, 0, 0, v⟩, ⟨o, 0, 1, 0, .zero⟩][2]) (by show ¬ o = 1; omega) (by show ¬ o = 2; omega) (by show inR o 3 5 = false; rcases ho with rfl | rfl <;> rfl) (by show inR o 6 13 = true; rcases ho with rfl | rfl <;> rfl) (by rw [e1'])]
  rw [e1']
  show ((T _ (1 - 1)).1, _, _) = _
  have e0' : T [⟨2, 0, 0, 0, .zero⟩, ⟨1, 0, 0, 0, v⟩, ⟨o, 0, 1, 0, .zero⟩] ((1 : Int) - 1) = (0, 1, true) := e0
  dsimp only
  rw [e0']
  rfl
theorem whrG_ok (h : u.ok 2500) : (noneE (whrG u).1 = false → exprOK (whrG u).1 = true) := by
  have h1 := chanceF_ok (s := u) (m := 2) (n := 2497) h
  have h2 := exprG_src (n := 1497) h1
  have h3 := chanceF_ok (s := (exprG (chanceF u 2).2).2) (m := 2) (n := 1494) h2
  obtain ⟨a1, a2, a3⟩ := nextF_ok (s := whrN u) (n := 6) (k := 1491) h3
  obtain ⟨b1, b2, b3⟩ := nextF_ok (s := (nextF (whrN u) 6).2) (n := 2) (k := 1488) a1
  have a3 := a3 (by omega)
  have b3 := b3 (by omega)
  unfold whrG
  split
  · split
    · intro _
      exact ex3_ok (vOK_int (by omega)) (by omega)
    · intro _
      exact exprG_ok (h1.mono (by omega))
  · intro h; exact absurd h (show ¬ noneE ⟨[]⟩ = false from by decide)
theorem setG_ok (h : u.ok 4500) : (setG u).2.ok 2500 ∧ exprOK (setG u).1 = true := by
  obtain ⟨a1, a2, a3⟩ := nextF_ok (s := u) (n := 2) (k := 4497) h
  have h2 := exprG_src (n := 3497) a1
  have h3 := chanceF_ok (s := (exprG (nextF u 2).2).2) (m := 2) (n := 3494) h2
  obtain ⟨b1, b2, b3⟩ := nextF_ok (s := stU u) (n := 9) (k := 3491) h3
  have b3 := b3 (by omega)
  unfold setG
  split
  · split
    · obtain ⟨p1, p2⟩ := pickF_ok (s := (nextF (stU u) 9).2) (ts := abT) (n := 3488) b1 (by decide)
      refine ⟨p1.mono (by omega), conE_ok ?_⟩
      generalize (pickF (nextF (stU u) 9).2 abT).1 = t at p2
      unfold abT at p2
      rcases List.mem_cons.1 p2 with rfl | p2
      · decide
      · rcases List.mem_cons.1 p2 with rfl | p2
        · decide
        · exact absurd p2 List.not_mem_nil
    · exact ⟨b1.mono (by omega), conE_ok (vOK_int (by omega))⟩
  · exact ⟨h3.mono (by omega), exprG_ok (a1.mono (by omega))⟩
theorem sBad0_f {s : GStmt} (hk : 1 ≤ s.Kind ∧ s.Kind ≤ 4) (ht : 1 ≤ s.Table ∧ s.Table ≤ 3) (hw : noneE s.Where = true ∨ (¬ s.Kind = 2 ∧ exprOK s.Where = true)) : sBad0 s = false := by
  unfold sBad0
  rw [inR_iff.2 hk, inR_iff.2 ht]
  rcases hw with hw | ⟨hw, hx⟩
  · rw [hw]; rfl
  · rw [decide_eq_false hw, hx]; simp
theorem stmtG_ok (h : s.ok 5000) : stmtOK (stmtG s).1 = true := by
  obtain ⟨a1, a2, a3⟩ := nextF_ok (s := s) (n := 4) (k := 4997) h
  obtain ⟨b1, b2, b3⟩ := nextF_ok (s := (nextF s 4).2) (n := 2) (k := 4994) a1
  have a3 := a3 (by omega)
  have b3 := b3 (by omega)
  have hS : (hdS s).ok 4994 := b1
  have hT : 1 ≤ hdT s ∧ hdT s ≤ 3 := by unfold hdT; omega
  by_cases h2 : 1 + (nextF s 4).1 = 2
  · rw [stG_2 h2, show hdK s = 2 from h2]
    have hr := (rowF_ok (s := hdS s) (n := 0) (hS.mono (by omega))).2
    unfold stmtOK
    rw [sBad0_f (by dsimp only; omega) hT (.inl rfl), cond_false]
    have e1 : sBad1 ⟨2, hdT s, (rowF (hdS s)).1, 0, ⟨[]⟩, ⟨[]⟩, 0, false⟩ = false := by unfold sBad1; dsimp only; rw [hr]; rfl
    rw [e1]; rfl
  by_cases h3 : 1 + (nextF s 4).1 = 3
  · rw [stG_3 (x := (setG (hdS s)).1) (v := (setG (hdS s)).2) (y := (whrG (setG (hdS s)).2).1) (v2 := (whrG (setG (hdS s)).2).2) h2 h3 rfl rfl, show hdK s = 3 from h3]
    obtain ⟨c1, c2, c3⟩ := nextF_ok (s := hdS s) (n := 2) (k := 4991) hS
    have c3 := c3 (by omega)
    obtain ⟨d1, d2⟩ := setG_ok (hS.mono (show 4500 ≤ 4994 by omega))
    have d3 := whrG_ok d1
    unfold stmtOK
    rw [sBad0_f (by dsimp only; omega) hT (by dsimp only; cases hn : noneE (whrG (setG (hdS s)).2).1 with
      | true => exact .inl rfl
      | false => exact .inr ⟨by decide, d3 hn⟩), cond_false]
    have e1 : sBad3 ⟨3, hdT s, .zero, 1 + (nextF (hdS s) 2).1, (setG (hdS s)).1, (whrG (setG (hdS s)).2).1, 0, false⟩ = false := by unfold sBad3; dsimp only; rw [d2, inR_iff.2 (by omega)]; rfl
    dsimp only
    rw [e1]; rfl
  by_cases h1 : 1 + (nextF s 4).1 = 1
  · rw [stG_1 (y := (whrG (chanceF (nextF (hdS s) 3).2 3).2).1) (v2 := (whrG (chanceF (nextF (hdS s) 3).2 3).2).2) h2 h3 h1 rfl, show hdK s = 1 from h1]
    obtain ⟨c1, c2, c3⟩ := nextF_ok (s := hdS s) (n := 3) (k := 4991) hS
    have c3 := c3 (by omega)
    have d1 := chanceF_ok (s := (nextF (hdS s) 3).2) (m := 3) (n := 4988) c1
    have d3 := whrG_ok (d1.mono (show 2500 ≤ 4988 by omega))
    unfold stmtOK
    rw [sBad0_f (by dsimp only; omega) hT (by dsimp only; cases hn : noneE (whrG (chanceF (nextF (hdS s) 3).2 3).2).1 with
      | true => exact .inl rfl
      | false => exact .inr ⟨by decide, d3 hn⟩), cond_false]
    show (bif false then false else (bif false then _ else (bif false then false else (bif false then _ else inR (nextF (hdS s) 3).1 0 2)))) = true
    rw [inR_iff.2 (by omega)]; rfl
  · rw [stG_4 (y := (whrG (hdS s)).1) (v2 := (whrG (hdS s)).2) h2 h3 h1 rfl]
    have hk : hdK s = 4 := by unfold hdK; omega
    have d3 := whrG_ok (hS.mono (show 2500 ≤ 4994 by omega))
    rw [hk]
    unfold stmtOK
    rw [sBad0_f (by dsimp only; omega) hT (by dsimp only; cases hn : noneE (whrG (hdS s)).1 with
      | true => exact .inl rfl
      | false => exact .inr ⟨by decide, d3 hn⟩), cond_false]
    rfl
def stmtOf (code : Str) : GStmt := (stmtG (srcOf code)).1
theorem stmtOf_ok {code : Str} (h : code.length ≤ 1048576) : stmtOK (stmtOf code) = true := stmtG_ok ((srcOf_ok h).mono (by decide))
theorem stmt_ok_sz {s : GStmt} (h : stmtOK s = true) : s.Set.Nodes.length ≤ 1048576 ∧ (∀ x ∈ s.Set.Nodes, x.V.T.length ≤ 1048576) ∧ s.Where.Nodes.length ≤ 1048576 ∧ (∀ x ∈ s.Where.Nodes, x.V.T.length ≤ 1048576) ∧ s.Row.N.T.length ≤ 1048576 ∧ s.Row.Name.T.length ≤ 1048576 := by
  obtain ⟨hk, htb, hwh, hk2, hk3, hor, hk1, hzr, hnn⟩ := stOK_p h
  have hE : ∀ e : GExpr, noneE e = true ∨ exprOK e = true → e.Nodes.length ≤ 1048576 ∧ ∀ x ∈ e.Nodes, x.V.T.length ≤ 1048576 := fun e he => by
    rcases he with he | he
    · rw [noneE_e he]; exact ⟨Nat.zero_le _, fun _ h => absurd h List.not_mem_nil⟩
    · exact expr_ok_sz he
  have a := hE s.Set (by
    by_cases h3 : s.Kind = 3
    · exact .inr (hk3 h3).2
    · exact .inl (hnn.resolve_left h3).2)
  have b := hE s.Where (by
    cases hn : noneE s.Where with
    | true => exact .inl rfl
    | false => exact .inr (hwh hn))
  have r : s.Row.N.T.length ≤ 1048576 ∧ s.Row.Name.T.length ≤ 1048576 := by
    by_cases h2 : s.Kind = 2
    · obtain ⟨r1, r2, r3⟩ := rowOK_p (hk2 h2).1
      have := vOK_t r2
      have := vOK_t r3
      omega
    · rw [zeroR_e (hzr.resolve_left h2)]; exact ⟨Nat.zero_le _, Nat.zero_le _⟩
  exact ⟨a.1, a.2, b.1, b.2, r.1, r.2⟩
end
end Go.AM

namespace Go.AM
theorem laidVars_mem {P : Program} {w : World} : ∀ {l : List (String × DataW Unit)} {ps : List MemPlace}, DataW.LaidVars P w l ps → ∀ {n : String} {d : DataW Unit}, (n, d) ∈ l →
    ∃ g t cs fuel p, P.globalNamed n = some g ∧ (P.globals[g]?).map (·.type) = some t ∧ w.var? P n = some cs ∧ DataW.trod (fun _ => ()) P w 0 (fun _ => true) false fuel t cs.toList = some (d, p)
  | [], _, _, _, _, hm => by cases hm
  | (n', d') :: r, ps, ⟨g, t, cs, fuel, p, q, h1, h2, h3, h4, h5, _⟩, n, d, hm => by
    rcases List.mem_cons.1 hm with e | hm
    · cases e; exact ⟨g, t, cs, fuel, p, h1, h2, h3, h4⟩
    · exact laidVars_mem h5 hm
theorem var_cells {P : Program} {w : World} {n : String} {g : Nat} {cs : Array Value} (hg : P.globalNamed n = some g) (h : w.var? P n = some cs) : ∃ ty fr, w.heap[g]? = some (.cells cs ty fr) := by
  unfold World.var? at h
  rw [hg] at h
  simp only [Option.bind_some] at h
  cases hh : w.heap[g]? with
  | none => rw [hh] at h; cases h
  | some o =>
    rw [hh] at h
    cases o with
    | cells c ty fr => cases h; exact ⟨ty, fr, rfl⟩
    | _ => cases h
theorem pow10_cells : (Lib.pow10Tab.map fun z => Value.int .u64 z).toArray = #[.int .u64 1, .int .u64 10, .int .u64 100, .int .u64 1000, .int .u64 10000, .int .u64 100000, .int .u64 1000000, .int .u64 10000000, .int .u64 100000000, .int .u64 1000000000, .int .u64 10000000000, .int .u64 100000000000, .int .u64 1000000000000, .int .u64 10000000000000, .int .u64 100000000000000, .int .u64 1000000000000000, .int .u64 10000000000000000, .int .u64 100000000000000000, .int .u64 1000000000000000000, .int .u64 10000000000000000000] := by
  rfl
/-- One table reads as laid. -/
def TabOK (P : Program) (W : World) (n : String) (cs : Array Value) : Prop := ∀ g, P.globalNamed n = some g → ∃ ty fr, W.heap[g]? = some (.cells cs ty fr)
theorem tab_pow {P : Program} {W : World} {l : List (String × DataW Unit)} {g t e : Nat} (hm : ("internal/strconv.uint64pow10", Lib.tabData .u64 Lib.pow10Tab) ∈ l) (hg : P.globalNamed "internal/strconv.uint64pow10" = some g) (hty : (P.globals[g]?).map (·.type) = some t)
    (ht : P.underlying t = some (.array 20 e)) (he : P.underlying e = some (.int .u64)) (hce : P.cellsOf e = 1) (hct : P.cellsOf t = 20) (h : laidMet P l W) : TabOK P W "internal/strconv.uint64pow10" #[.int .u64 1, .int .u64 10, .int .u64 100, .int .u64 1000, .int .u64 10000, .int .u64 100000, .int .u64 1000000, .int .u64 10000000, .int .u64 100000000, .int .u64 1000000000, .int .u64 10000000000, .int .u64 100000000000, .int .u64 1000000000000, .int .u64 10000000000000, .int .u64 100000000000000, .int .u64 1000000000000000, .int .u64 10000000000000000, .int .u64 100000000000000000, .int .u64 1000000000000000000, .int .u64 10000000000000000000] := by
  obtain ⟨ps, hl, _⟩ := h
  obtain ⟨g', t', cs, fuel, p, hg', hty', hv, hd⟩ := laidVars_mem hl hm
  obtain rfl := Option.some.inj (hg.symm.trans hg')
  obtain rfl := Option.some.inj (hty.symm.trans hty')
  have hc := Lib.cells_of_tab ht he hce hct hd
  have hc2 : cs = (Lib.pow10Tab.map fun z => Value.int .u64 z).toArray := by rw [← hc]
  obtain ⟨ty, fr, hh⟩ := var_cells hg hv
  intro g2 hg2
  obtain rfl := Option.some.inj (hg.symm.trans hg2)
  exact ⟨ty, fr, by rw [hh, hc2, pow10_cells]⟩
theorem cells_of_strs {H : Type} {enc : TypeId × Value → H} {P : Program} {w : World} {base : Nat} {sp : Nat → Bool} {held : Bool} {fuel : Nat} {t e : TypeId} {n : Nat} {cs : List Value} {zs : List Str} {p : List MemPlace}
    (ht : P.underlying t = some (.array n e)) (he : P.underlying e = some .string) (hce : P.cellsOf e = 1) (hct : P.cellsOf t = n)
    (h : DataW.trod enc P w base sp held fuel t cs = some (.agg (zs.map fun z => .lit (.string z)), p)) : cs = zs.map fun z => Value.string ⟨z.toArray⟩ := by
  cases fuel with
  | zero => simp [DataW.trod] at h
  | succ fuel =>
    simp only [DataW.trod, ht, hce, hct, Nat.mul_one] at h
    split at h
    · rename_i hl
      obtain ⟨xs, hm, hx⟩ := Option.map_eq_some_iff.1 h
      have hxs : xs.map (·.1) = zs.map fun z => (DataW.lit (.string z) : DataW H) := by
        have := congrArg Prod.fst hx
        simpa using this
      have hxl : xs.length = n := by simpa using Lib.mapM_length hm
      have hzl : zs.length = n := by
        have := congrArg List.length hxs
        simp at this
        omega
      apply List.ext_getElem?
      intro i
      by_cases hi : i < n
      · obtain ⟨b, hb, hf⟩ := Lib.mapM_at hm i i (by simp [hi])
        obtain ⟨z, hc, rfl, _⟩ := DataW.trod_string he hf
        have h1 : cs[i]? = some (.string z) := by
          have := congrArg (·[0]?) hc
          simpa [List.getElem?_take, List.getElem?_drop] using this
        have h2 : (xs.map (·.1))[i]? = some (DataW.lit (.string z.data.toList) : DataW H) := by simp [hb]
        rw [hxs] at h2
        simp only [List.getElem?_map, Option.map_eq_some_iff, DataW.lit.injEq, Lit.string.injEq] at h2
        obtain ⟨z', hz', rfl⟩ := h2
        rw [h1]
        simp [hz']
      · rw [List.getElem?_eq_none (by omega), List.getElem?_eq_none (by simp; omega)]
    · cases h
theorem tab_strs {P : Program} {W : World} {l : List (String × DataW Unit)} {nm : String} {zs : List Str} {g t e n : Nat} (hm : (nm, .agg (zs.map fun z => .lit (.string z))) ∈ l) (hg : P.globalNamed nm = some g) (hty : (P.globals[g]?).map (·.type) = some t)
    (ht : P.underlying t = some (.array n e)) (he : P.underlying e = some .string) (hce : P.cellsOf e = 1) (hct : P.cellsOf t = n) (h : laidMet P l W) : TabOK P W nm (zs.map fun z => Value.string ⟨z.toArray⟩).toArray := by
  obtain ⟨ps, hl, _⟩ := h
  obtain ⟨g', t', cs, fuel, p, hg', hty', hv, hd⟩ := laidVars_mem hl hm
  obtain rfl := Option.some.inj (hg.symm.trans hg')
  obtain rfl := Option.some.inj (hty.symm.trans hty')
  have hc := cells_of_strs ht he hce hct hd
  obtain ⟨ty, fr, hh⟩ := var_cells hg hv
  intro g2 hg2
  obtain rfl := Option.some.inj (hg.symm.trans hg2)
  exact ⟨ty, fr, by rw [hh, ← hc]⟩
/-- A variable that holds an interface. -/
def VarI (P : Program) (W : World) (n : String) : Prop := ∀ g, P.globalNamed n = some g → ∃ v ty fr, (v = .nilIface ∨ ∃ te pe, v = Value.iface te pe) ∧ W.heap[g]? = some (.cells #[v] ty fr)
theorem trod_iface {H : Type} {enc : TypeId × Value → H} {P : Program} {w : World} {base : Nat} {sp : Nat → Bool} {held : Bool} {fuel : Nat} {t : TypeId} {ms : Array (String × TypeId)} {cs : List Value} {x : DataW H × List MemPlace}
    (ht : P.underlying t = some (.interface ms)) (h : DataW.trod enc P w base sp held fuel t cs = some x) : ∃ v, cs = [v] ∧ (v = .nilIface ∨ ∃ te pe, v = Value.iface te pe) := by
  cases fuel with
  | zero => simp [DataW.trod] at h
  | succ fuel =>
    unfold DataW.trod at h
    rw [ht] at h
    match cs, h with
    | [], h => cases h
    | v :: _ :: _, h => cases v <;> cases h
    | [v], h =>
      refine ⟨v, rfl, ?_⟩
      cases v <;> first | exact .inl rfl | exact .inr ⟨_, _, rfl⟩ | cases h
theorem tab_iface {P : Program} {W : World} {l : List (String × DataW Unit)} {nm : String} {d : DataW Unit} {g t : Nat} {ms : Array (String × TypeId)} (hm : (nm, d) ∈ l) (hg : P.globalNamed nm = some g) (hty : (P.globals[g]?).map (·.type) = some t)
    (ht : P.underlying t = some (.interface ms)) (h : laidMet P l W) : VarI P W nm := by
  obtain ⟨ps, hl, _⟩ := h
  obtain ⟨g', t', cs, fuel, p, hg', hty', hv, hd⟩ := laidVars_mem hl hm
  obtain rfl := Option.some.inj (hg.symm.trans hg')
  obtain rfl := Option.some.inj (hty.symm.trans hty')
  obtain ⟨v, hc, hk⟩ := trod_iface ht hd
  obtain ⟨ty, fr, hh⟩ := var_cells hg hv
  intro g2 hg2
  obtain rfl := Option.some.inj (hg.symm.trans hg2)
  exact ⟨v, ty, fr, hk, by rw [hh, ← hc]⟩
theorem gok_three {P : Program} {W : World} (h1 : TabOK P W "internal/strconv.uint64pow10" #[.int .u64 1, .int .u64 10, .int .u64 100, .int .u64 1000, .int .u64 10000, .int .u64 100000, .int .u64 1000000, .int .u64 10000000, .int .u64 100000000, .int .u64 1000000000, .int .u64 10000000000, .int .u64 100000000000, .int .u64 1000000000000, .int .u64 10000000000000, .int .u64 100000000000000, .int .u64 1000000000000000, .int .u64 10000000000000000, .int .u64 100000000000000000, .int .u64 1000000000000000000, .int .u64 10000000000000000000])
    (h2 : TabOK P W "loop.example/g00332/impl.columnWords" #[.string ⟨#[105, 100]⟩, .string ⟨#[110]⟩, .string ⟨#[110, 97, 109, 101]⟩])
    (h3 : TabOK P W "loop.example/g00332/impl.binarySigns" #[.string ⟨#[43]⟩, .string ⟨#[45]⟩, .string ⟨#[42]⟩, .string ⟨#[47]⟩, .string ⟨#[61]⟩, .string ⟨#[60]⟩, .string ⟨#[97, 110, 100]⟩, .string ⟨#[111, 114]⟩])
    (h4 : VarI P W "strconv.ErrSyntax") : GOK P (fun _ => False) noN W := by
  intro q hq g2 hg2
  refine ⟨fun h => h, fun e h => (by cases h), ?_⟩
  simp only [gtab, List.mem_cons, List.not_mem_nil, or_false] at hq
  rcases hq with rfl | rfl | rfl | rfl
  · obtain ⟨ty, fr, h⟩ := h1 g2 hg2
    exact ⟨_, ty, fr, rfl, h⟩
  · obtain ⟨ty, fr, h⟩ := h2 g2 hg2
    exact ⟨_, ty, fr, rfl, h⟩
  · obtain ⟨ty, fr, h⟩ := h3 g2 hg2
    exact ⟨_, ty, fr, rfl, h⟩
  · obtain ⟨v, ty, fr, hv, h⟩ := h4 g2 hg2
    exact ⟨_, ty, fr, ⟨v, rfl, hv⟩, h⟩
end Go.AM

namespace Go.AM
open Go.ChangeShapes Go.RowKit
section
variable {H : Type} {enc : TypeId × Value → H} {P : Program} {Ts : List TypeId} {w : World}
def varOK (P : Program) (n : String) : Bool :=
  match P.globalNamed n with
  | some g => match (P.globals[g]?).map (·.type) with
    | some t => P.readableRec t && Nat.ble (t + 1) P.types.size
    | none => false
  | none => false
theorem again_vars {W W' : World} (hl : laidOutB P = true) (hb : Below W.heap.size W W') {sp : Nat → Bool} : ∀ {ns : List String} {ds : List (DataW H)} {ps : List MemPlace}, ns.all (varOK P) = true →
    DataW.TrodVars enc P W (fun _ => true) ns ds ps → (∀ x ∈ ps, x.block < W.heap.size) → (∀ x ∈ ps, sp x.block = true) → DataW.TrodVars enc P W' sp ns ds ps
  | [], [], ps, _, h, _, _ => h
  | [], _ :: _, _, _, h, _, _ => h.elim
  | _ :: _, [], _, _, h, _, _ => h.elim
  | n :: ns, d :: ds, ps, hin, h, hlt, hsp => by
    obtain ⟨g, t, cs, fuel, p, q, h1, h2, h3, h4, h5, rfl⟩ := h
    rw [List.all_cons, Bool.and_eq_true] at hin
    have hv := hin.1
    unfold varOK at hv
    rw [h1] at hv
    simp only [h2, Bool.and_eq_true] at hv
    obtain ⟨ty, fr, hh⟩ := var_cells h1 h3
    have hgl : g < W.heap.size := (Array.getElem?_eq_some_iff.1 hh).1
    have hh' : W'.heap[g]? = some (.cells cs ty fr) := by rw [hb.block g hgl]; exact hh
    have hv' : W'.var? P n = some cs := by
      unfold World.var?
      rw [h1]
      show (match W'.heap[g]? with
        | some (.cells cs _ _) => some cs
        | _ => none) = _
      rw [hh']
    have hlt' : ∀ x ∈ p, x.block < W.heap.size := fun x hx => hlt x (List.mem_append_left _ (List.mem_append_right _ hx))
    have hsp' : ∀ x ∈ p, sp x.block = true := fun x hx => hsp x (List.mem_append_left _ (List.mem_append_right _ hx))
    have hT : DataW.Trod enc P W' 0 sp true t (.agg cs) d p := WideElems.Trod_stays (v := .agg cs) hl hv.1 (Nat.le_of_ble_eq_true hv.2) ⟨fuel, h4⟩ (fun x hx => hb.same (hlt' x hx)) hsp'
    obtain ⟨fuel', h4'⟩ := hT
    exact ⟨g, t, cs, fuel', p, q, h1, h2, hv', h4', again_vars hl hb hin.2 h5 (fun x hx => hlt x (List.mem_append_right _ hx)) (fun x hx => hsp x (List.mem_append_right _ hx)), rfl⟩
theorem trodVars_len {sp : Nat → Bool} : ∀ {ns : List String} {ds : List (DataW H)} {ps : List MemPlace}, DataW.TrodVars enc P w sp ns ds ps → ds.length = ns.length
  | [], [], _, _ => rfl
  | [], _ :: _, _, h => h.elim
  | _ :: _, [], _, h => h.elim
  | n :: ns, d :: ds, ps, h => by
    obtain ⟨g, t, cs, fuel, p, q, h1, h2, h3, h4, h5, rfl⟩ := h
    simp [trodVars_len h5]
theorem law_postV {f : Func} {s : ChangeSpec} {W W' : World} {args : Array Value} {ds gs : List (DataW H)} {before : List MemPlace} {tb : TypeId} (hl : laidOutB P = true) (hty : typesOK P Ts f.params.toList = true) (hvar : s.vars.all (varOK P) = true)
    (hrt : f.resultTypes = #[tb]) (hb : P.underlying tb = some .bool) (hs : s.fn H (ds ++ gs) = { results := [.lit (.bool true)], args := ds, vars := gs })
    (hW : DataW.Whole enc P f.params.toList s.vars false W args.toList ds gs before) (hg : Below W.heap.size W W') : s.post enc P f false true false false W args (.bool true) W' := by
  have hlt := hW.lt
  have hW' := hW
  obtain ⟨p, q, hA, hV, hpq, hz, hn⟩ := hW
  subst hpq
  have hin : ∀ t ∈ f.params.toList, P.readableRec t = true ∧ t < P.types.size := fun t ht => by
    have := List.all_eq_true.1 hty t ht
    simp only [Bool.and_eq_true] at this
    have h1 := Nat.le_of_ble_eq_true this.2
    exact ⟨this.1.2, h1⟩
  have hltp : ∀ x ∈ p, x.block < W.heap.size := fun x hx => hlt x (List.mem_append_left _ hx)
  have hltq : ∀ x ∈ q, x.block < W.heap.size := fun x hx => hlt x (List.mem_append_right _ hx)
  have hargs : ∀ sp : Nat → Bool, (∀ x ∈ p, sp x.block = true) → DataW.TrodAll enc P W' 0 sp true f.params.toList args.toList ds p := fun sp hsp => again_trod hl hg hin hA hltp hsp
  have hvars : ∀ sp : Nat → Bool, (∀ x ∈ q, sp x.block = true) → DataW.TrodVars enc P W' sp s.vars gs q := fun sp hsp => again_vars hl hg hvar hV hltq hsp
  have hres : ∀ (b : Nat) (sp : Nat → Bool) (hd : Bool), DataW.TrodAll enc P W' b sp hd f.resultTypes.toList ((Value.bool true).resultList f.resultTypes.size) [.lit (.bool true)] [] := fun b sp hd => by
    rw [hrt]
    exact trodAll_cons_mk (shut_bool hb true) trodAll_mk0
  have oldp : ∀ x ∈ p, (fun b => decide (b < W.heap.size)) x.block = true := fun x hx => by simpa using hltp x hx
  have oldq : ∀ x ∈ q, (fun b => decide (b < W.heap.size)) x.block = true := fun x hx => by simpa using hltq x hx
  have hargs2 : ∀ sp : Nat → Bool, (∀ x ∈ p, sp x.block = true) → DataW.TrodAll enc P W' 0 sp true f.params.toList args.toList (s.fn H (ds ++ gs)).args p := by rw [hs]; exact hargs
  have hres2 : ∀ (b : Nat) (sp : Nat → Bool) (hd : Bool), DataW.TrodAll enc P W' b sp hd f.resultTypes.toList ((Value.bool true).resultList f.resultTypes.size) (s.fn H (ds ++ gs)).results [] := by rw [hs]; exact hres
  have hvars2 : ∀ sp : Nat → Bool, (∀ x ∈ q, sp x.block = true) → DataW.TrodVars enc P W' sp s.vars (s.fn H (ds ++ gs)).vars q := by rw [hs]; exact hvars
  refine ⟨ds, gs, p ++ q, [], p, q, hW', hres2 _ _ _, hargs2 _ oldp, hvars2 _ oldq, World.keptBut_mono (fun x hx => ⟨hx, .inr (List.mem_append.1 hx)⟩) (hg.frame (· ∈ p ++ q)), fun _ => ?_⟩
  refine ⟨ok_one hrt rfl (okWide_bool_mk hb true), _, _, ([] ++ p) ++ q, ⟨[] ++ p, q, trodAll_append (hargs2 _ (fun _ _ => rfl)) (hres2 _ _ _), hvars2 _ (fun _ _ => rfl), rfl, ?_, ?_⟩, ?_⟩
  · intro b off hp
    have hp' : MemPlace.cell b off ∈ p ++ q := by simpa using hp
    have hbl := hlt _ hp'
    rw [hg.frozen (p := ⟨b, off, none⟩) hbl]
    exact hz b off hp'
  · intro h; cases h
  · intro x hx _
    simpa using hx
theorem law_contractV {f : FuncId} {fn : Func} {s : ChangeSpec} {tb : TypeId} (hT : closedT P Ts = true) (hl : laidOutB P = true) (hty : typesOK P Ts fn.params.toList = true) (hvar : s.vars.all (varOK P) = true) (hrt : fn.resultTypes = #[tb]) (hb : P.underlying tb = some .bool)
    (hcon : ∀ rows, HasAll P fn.params.toList rows → Con P noMv f (argsAV P fn.params.toList rows) [] (fun r h => r = bool true ∧ h = []))
    {W : World} {base : Nat} {args : Array Value} {ds gs : List (DataW H)} {before : List MemPlace} (hs : ds.length = fn.params.toList.length → gs.length = s.vars.length → s.fn H (ds ++ gs) = { results := [.lit (.bool true)], args := ds, vars := gs })
    (hval : ∀ (j : Nat) t v, fn.params[j]? = some t → args[j]? = some v → Value.okWide P W .any base t v)
    (hW : DataW.Whole enc P fn.params.toList s.vars false W args.toList ds gs before) (hgl : GOK P (fun _ => False) noN W) :
    Calls P f args W fun e W' => ∃ v, e = .returned v ∧ s.post enc P fn false true false false W args v W' := by
  have hW' := hW
  obtain ⟨p, q, hA, hV, hpq, hz, hn⟩ := hW
  obtain ⟨h1, rows, h2, h3⟩ := args_AR hT (fun t ht => by
    have := List.all_eq_true.1 hty t ht
    simp only [Bool.and_eq_true] at this
    exact membN_iff.1 this.1.1) (fun j t v hj hv => hval j t v (by simpa using hj) (by simpa using hv)) hA
  have h4 := hcon rows h2 (fun _ => False) noN W args.toList (fun _ h => h.elim) (fun e b h => by cases h) ⟨fun e e' b h => (by cases h), fun e b h => (by cases h), fun e b h => (by cases h), fun e ob h => (by simp [get] at h)⟩ h3 hgl
  refine h4.mono ?_
  rintro e W' ⟨v, r, h', β', rfl, ⟨rfl, rfl⟩, hr, _, F, _⟩
  rw [AR, DR] at hr
  subst hr
  exact ⟨_, rfl, law_postV hl hty hvar hrt hb (hs h1 (trodVars_len hV)) hW' ⟨F.os, F.tape, F.output, F.size, fun b hb' => F.same b hb' (fun e h => by cases h)⟩⟩
end
end Go.AM
