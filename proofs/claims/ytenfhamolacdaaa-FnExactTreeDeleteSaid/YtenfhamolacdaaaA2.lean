/- A layer over the calls (plain data, own blocks, code, contracts) and plain laws about what the functions compute (part 2). -/
import Derived.Test.YtenfhamolacdaaaA1
set_option linter.unusedVariables false
set_option linter.unusedSimpArgs false
namespace Go.AM
theorem and_T {a b : Bool} (h : (a && b) = true) : a = true ∧ b = true := by simpa using h
theorem and_F {a b : Bool} (h : (a && b) = false) : a = false ∨ b = false := by cases a <;> cases b <;> simp_all
theorem mem1 {p : Nat → Prop} {n : Nat} (h : p n) : ∀ e ∈ [n], p e := fun e he => by
  rw [List.mem_singleton] at he; subst he; exact h
theorem mem2 {p : Nat → Prop} {n m : Nat} (h : p n) (h2 : p m) : ∀ e ∈ [n, m], p e := fun e he => by
  rcases List.mem_cons.1 he with rfl | he
  · exact h
  · exact mem1 h2 e he
theorem mem3 {p : Nat → Prop} {n m k : Nat} (h : p n) (h2 : p m) (h3 : p k) : ∀ e ∈ [n, m, k], p e := fun e he => by
  rcases List.mem_cons.1 he with rfl | he
  · exact h
  · exact mem2 h2 h3 e he
section
variable {C : Cx} {q : Bool} {gs : List Gd} {K : St → Prop}
theorem ax_and {d j c : Nat} {t y : Bool} {grp : List XI} {s : XA} {its : List XI} {sl : List (Nat × AV)} {own : List (Nat × OB)}
    (hc : get sl c = some (.d (.bool t))) (hfr : frS (dstsL grp) sl = true)
    (hgrp : t = true → AXI C q (⟨j, true, c⟩ :: gs) grp ⟨sl, own⟩ (fun st' => evA st'.sl s = some (.d (.bool y)) ∧ St.le ⟨sl, own⟩ st'))
    (h : AXI C q gs its ⟨(d, .d (.bool (t && y))) :: sl, own⟩ K) : AXI C q gs (.andor d true j c grp s :: its) ⟨sl, own⟩ K := ax_andor hc hfr hgrp h
theorem ax_or {d j c : Nat} {t y : Bool} {grp : List XI} {s : XA} {its : List XI} {sl : List (Nat × AV)} {own : List (Nat × OB)}
    (hc : get sl c = some (.d (.bool t))) (hfr : frS (dstsL grp) sl = true)
    (hgrp : t = false → AXI C q (⟨j, false, c⟩ :: gs) grp ⟨sl, own⟩ (fun st' => evA st'.sl s = some (.d (.bool y)) ∧ St.le ⟨sl, own⟩ st'))
    (h : AXI C q gs its ⟨(d, .d (.bool (t || y))) :: sl, own⟩ K) : AXI C q gs (.andor d false j c grp s :: its) ⟨sl, own⟩ K := ax_andor hc hfr hgrp h
end
theorem bneT {a b : Bool} (h : (a != b) = true) : a ≠ b := by simpa using h
theorem bneF {a b : Bool} (h : (a != b) = false) : a = b := by simpa using h
theorem or_T {a b : Bool} (h : (a || b) = true) : a = true ∨ b = true := by simpa using h
theorem or_F {a b : Bool} (h : (a || b) = false) : a = false ∧ b = false := by simpa using h
theorem q_lenS_map {C : Cx} {st : St} {x : XA} {sz : Nat} {α : Type} {f : α → List D} {xs : List α} (hx : evA st.sl x = some (.d (.sl sz (xs.map f)))) : QStep C st (.lenS x) (int xs.length) :=
  q_as (q_lenS hx) (by rw [List.length_map])
theorem noisl_map {α : Type} {f : α → List D} {sz : Nat} {xs : List α} (hf : ∀ x, (f x).all scD = true) : noIslO (.rows sz (xs.map f)) := by
  intro r hr x hx
  obtain ⟨y, _, rfl⟩ := List.mem_map.1 hr
  exact List.all_eq_true.1 (hf y) x hx
def noislL : List (Nat × OB) → Prop
  | [] => True
  | (_, ob) :: r => noIslO ob ∧ noislL r
theorem noisl_of : ∀ {h : List (Nat × OB)}, noislL h → ∀ e ob, get h e = some ob → noIslO ob
  | (k, o) :: r, hh, e, ob, h => by
    rw [get_cons] at h
    split at h
    · cases h; exact hh.1
    · exact noisl_of hh.2 e ob h
def intRow (n : Int) : List D := [.int .i64 n]
def boolRow (b : Bool) : List D := [.bool b]
def wfInt (n : Int) : Prop := -9223372036854775808 ≤ n ∧ n ≤ 9223372036854775807
def wfStr (s : Str) : Prop := s.length ≤ 9223372036854775807
def wfL {α : Type} (wf : α → Prop) (xs : List α) : Prop := xs.length ≤ 9223372036854775807 ∧ ∀ x ∈ xs, wf x
theorem szF_spec (l : Int) (n : Nat) : ((n : Int) ≤ l ∧ szF l n = l - n) ∨ (l < (n : Int) ∧ szF l n = -1) := by
  unfold szF
  split
  · exact .inl ⟨by assumption, rfl⟩
  · exact .inr ⟨by omega, rfl⟩
def sumBy {α : Type} (f : α → Nat) : List α → Nat
  | [] => 0
  | x :: r => f x + sumBy f r
def szL {α : Type} (f : α → Nat) (xs : List α) : Nat := xs.length + sumBy f xs
theorem sumBy_append {α : Type} {f : α → Nat} : ∀ (a b : List α), sumBy f (a ++ b) = sumBy f a + sumBy f b
  | [], b => by simp [sumBy]
  | x :: a, b => by rw [List.cons_append, sumBy, sumBy, sumBy_append a b]; omega
theorem sumBy_take {α : Type} {f : α → Nat} {xs : List α} {k : Nat} (h : k < xs.length) : sumBy f (xs.take (k + 1)) = sumBy f (xs.take k) + f xs[k] := by
  rw [take_succ h, sumBy_append]; simp [sumBy]
theorem sumBy_le {α : Type} {f : α → Nat} (xs : List α) (k : Nat) : sumBy f (xs.take k) ≤ sumBy f xs := by
  conv => rhs; rw [← List.take_append_drop k xs]
  rw [sumBy_append]; omega
theorem sumBy_zero {α : Type} : ∀ (xs : List α), sumBy (fun _ => 0) xs = 0
  | [] => rfl
  | x :: xs => by rw [sumBy, sumBy_zero xs]
theorem szL_len {α : Type} {f : α → Nat} {xs : List α} : xs.length ≤ szL f xs := by unfold szL; omega
def markL {α : Type} (mk : Nat → α → α) (c : Nat) : Nat → List α → List α
  | _, [] => []
  | k, x :: xs => mk k x :: markL mk c (k + c) xs
theorem markL_len {α : Type} {mk : Nat → α → α} {c : Nat} : ∀ {k : Nat} {xs : List α}, (markL mk c k xs).length = xs.length
  | _, [] => rfl
  | k, x :: xs => by rw [markL, List.length_cons, markL_len, List.length_cons]
theorem markL_get {α : Type} {mk : Nat → α → α} {c : Nat} : ∀ {k : Nat} {xs : List α} {i : Nat} (h : i < xs.length), (markL mk c k xs)[i]? = some (mk (k + c * i) xs[i])
  | k, x :: xs, 0, h => by simp [markL]
  | k, x :: xs, i + 1, h => by
    rw [markL, List.getElem?_cons_succ, markL_get (by simpa using h)]
    simp only [List.getElem_cons_succ, Option.some.injEq]
    rw [Nat.mul_succ]; congr 1; omega
theorem markL_app {α : Type} {mk : Nat → α → α} {c : Nat} : ∀ {k : Nat} {xs ys : List α}, markL mk c k (xs ++ ys) = markL mk c k xs ++ markL mk c (k + c * xs.length) ys
  | k, [], ys => by simp [markL]
  | k, x :: xs, ys => by
    rw [List.cons_append, markL, markL, markL_app, List.cons_append, List.length_cons]
    congr 2
    rw [Nat.mul_succ]; congr 1; omega
section
variable {α : Type} {row : α → List D} {mk : Nat → α → α} {c k0 k : Nat} {xs : List α}
theorem markL_at (h : k < xs.length) : ((markL mk c k0 (xs.take k) ++ xs.drop k).map row)[k]? = some (row xs[k]) := by
  rw [List.getElem?_map, List.getElem?_append_right (by rw [markL_len]; simp; omega), markL_len]
  simp [List.length_take, Nat.min_eq_left (Nat.le_of_lt h), h]
theorem markL_set (h : k < xs.length) : ((markL mk c k0 (xs.take k) ++ xs.drop k).map row).set k (row (mk (k0 + c * k) xs[k])) = (markL mk c k0 (xs.take (k + 1)) ++ xs.drop (k + 1)).map row := by
  have hl : (markL mk c k0 (xs.take k)).length = k := by rw [markL_len, List.length_take]; omega
  rw [← List.map_set, List.set_append_right _ _ (by rw [hl]; exact Nat.le_refl _), hl, Nat.sub_self, List.drop_eq_getElem_cons h, List.set_cons_zero, take_succ h, markL_app, List.append_assoc, List.length_take, Nat.min_eq_left (Nat.le_of_lt h)]
  rfl
theorem markL_full : markL mk c k0 (xs.take xs.length) ++ xs.drop xs.length = markL mk c k0 xs := by
  rw [List.take_length, List.drop_length, List.append_nil]
theorem markL_mlen : ((markL mk c k0 (xs.take k) ++ xs.drop k).map row).length = xs.length := by
  rw [List.length_map, List.length_append, markL_len, List.length_take, List.length_drop]; omega
theorem heldAt (h : k < xs.length) : ((markL mk c k0 xs).map row)[k]? = some (row (mk (k0 + c * k) xs[k])) := by
  rw [List.getElem?_map, markL_get h]; rfl
end
section
variable {α : Type} {row : α → List D} {xs : List α} {k : Nat} {z : List D}
theorem fillAtL (h : k < xs.length) : ((xs.take k).map row ++ List.replicate (xs.length - k) z)[k]? = some z := by
  have hl : ((xs.take k).map row).length = k := by simp; omega
  rw [List.getElem?_append_right (by omega), hl, Nat.sub_self, List.getElem?_replicate, if_pos (by omega)]
theorem fillSetL (h : k < xs.length) : ((xs.take k).map row ++ List.replicate (xs.length - k) z).set k (row xs[k]) = (xs.take (k + 1)).map row ++ List.replicate (xs.length - (k + 1)) z := by
  have hl : ((xs.take k).map row).length = k := by simp; omega
  rw [List.set_append_right _ _ (by omega), hl, Nat.sub_self, show xs.length - k = (xs.length - (k + 1)) + 1 from by omega, List.replicate_succ, List.set_cons_zero, take_succ h, List.map_append, List.append_assoc]
  rfl
end
theorem eqbL_step {α : Type} {xs ys : List α} {k : Nat} (hx : k < xs.length) (hy : k < ys.length) (h : xs.take k = ys.take k) (he : eqb xs[k] ys[k] = true) : xs.take (k + 1) = ys.take (k + 1) :=
  take_step hx hy h (eqb_iff.1 he)
theorem eqbL_no {α : Type} {xs ys : List α} {k : Nat} (hx : k < xs.length) (hy : k < ys.length) (he : eqb xs[k] ys[k] = false) : eqb xs ys = false := by
  refine eqb_f fun h => ?_
  subst h
  rw [eqb_rfl] at he; cases he
end Go.AM
namespace Go.AM
theorem refs_map : ∀ (ds : List D), refsInL [] (ds.map AV.d) = true
  | [] => rfl
  | d :: ds => by rw [List.map_cons, refsInL, refs_map ds]; rfl
theorem refs_cons {x : AV} (h : refsIn [] x = true) (ds : List D) : refsInL [] (x :: ds.map AV.d) = true := by rw [refsInL, h, refs_map]; rfl
/-- A function value among the data is called. -/
theorem ax_callvD {C : Cx} {gs : List Gd} {K : St → Prop} {st : St} {d : Option Nat} {x : XA} {f : Nat} {args : List XA} {its : List XI} {vs : List AV} {ds : List D} (hx : evA st.sl x = some (.d (.fn (.func f) ds))) (hb : hasBody C.P f = true) (ha : evL st.sl args = some vs)
    (h : VCall C st f (vs ++ ds.map AV.d) (fun r st' => AXI C false gs its (putR d r st') K)) : AXI C false gs (.callv d x args :: its) st K := by
  refine ax_callv_gen (hv := fun {β w u} hA => ?_) hx hb ha h
  rw [AR, DR] at hA
  obtain ⟨us, h1, h2⟩ := hA
  exact ⟨us, h1, DL_AL h2⟩
theorem hbnd {len n bytes : Nat} (h1 : len ≤ 2097152) (h2 : n ≤ 2097152) (hb : bytes ≤ 1024) : (2 * (len + n) + 256) * bytes ≤ 2 ^ 48 := by
  have h3 : (2 * (len + n) + 256) * bytes ≤ (2 * (2097152 + 2097152) + 256) * 1024 := Nat.mul_le_mul (by omega) hb
  omega
section
variable {α : Type} {q : α → Bool}
end
end Go.AM
namespace Go.AM
section
variable {P : Program} {t e : TypeId}
def Dec {α : Type} (P : Program) (t : TypeId) (row : α → List D) (wf : α → Prop) : Prop := ∀ {ds : List D}, HasC P t ds → ∃ x, ds = row x ∧ wf x
theorem dec_int (h : P.underlying t = some (.int .i64)) : Dec P t intRow wfInt := fun hc => by
  obtain ⟨n, rfl, hw⟩ := hasC_int h hc
  refine ⟨n, rfl, ?_⟩
  simp [Lit.wf, IntKind.min, IntKind.max, IntKind.signed, IntKind.bits] at hw
  unfold wfInt; omega
theorem dec_bool (h : P.underlying t = some .bool) : Dec P t boolRow (fun _ => True) := fun hc => by
  obtain ⟨n, rfl⟩ := hasC_bool h hc
  exact ⟨n, rfl, trivial⟩
theorem dec_str (h : P.underlying t = some .string) : Dec P t strRow wfStr := fun hc => by
  obtain ⟨n, rfl, hw⟩ := hasC_str h hc
  exact ⟨n, rfl, hw⟩
theorem dec_slice {α : Type} {row : α → List D} {wf : α → Prop} {sz : Nat} (h : P.underlying t = some (.slice e)) (hz : P.cellsOf e = sz) (he : Dec P e row wf) : Dec P t (fun xs => [.sl sz (xs.map row)]) (wfL wf) := fun hc => by
  obtain ⟨rows, rfl, h1, h2⟩ := hasC_slice h hc
  obtain ⟨xs, rfl, h3⟩ := hasRs_map (f := row) (ok := wf) (fun ds hd => he hd) h2
  exact ⟨xs, by rw [hz], by simpa using h1, h3⟩
end
end Go.AM

namespace Go.AM
set_option linter.unusedVariables false
structure GLock where
  Tx : Int
  Table : Int
  Row : Int
  Mode : Int
def GLock.av (x : GLock) : AV := .agg [.d (.int .i64 x.Tx), .d (.int .i64 x.Table), .d (.int .i64 x.Row), .d (.int .i64 x.Mode)]
theorem GLock.ext1 {a b : GLock} (h0 : a.Tx = b.Tx) (h1 : a.Table = b.Table) (h2 : a.Row = b.Row) (h3 : a.Mode = b.Mode) : a = b := by cases a; cases b; simp_all
def GLock.row (x : GLock) : List D := [.int .i64 x.Tx, .int .i64 x.Table, .int .i64 x.Row, .int .i64 x.Mode]
def GLock.wf (x : GLock) : Prop := wfInt x.Tx ∧ wfInt x.Table ∧ wfInt x.Row ∧ wfInt x.Mode
def GLock.zero : GLock := ⟨0, 0, 0, 0⟩
theorem GLock.dec {P : Program} {t : TypeId} {fs : Array Field} {f0 f1 f2 f3 : Field} (h : P.underlying t = some (.struct fs)) (hfs : fs.toList = [f0, f1, f2, f3]) (d0 : Dec P f0.type intRow wfInt) (d1 : Dec P f1.type intRow wfInt) (d2 : Dec P f2.type intRow wfInt) (d3 : Dec P f3.type intRow wfInt) : Dec P t GLock.row GLock.wf := fun hc => by
  have g := hasC_struct h hc
  rw [hfs] at g
  obtain ⟨a0, b0, e0, c0, g⟩ := hasFs_cons g
  obtain ⟨x0, r0, w0⟩ := d0 c0
  obtain ⟨a1, b1, e1, c1, g⟩ := hasFs_cons g
  obtain ⟨x1, r1, w1⟩ := d1 c1
  obtain ⟨a2, b2, e2, c2, g⟩ := hasFs_cons g
  obtain ⟨x2, r2, w2⟩ := d2 c2
  obtain ⟨a3, b3, e3, c3, g⟩ := hasFs_cons g
  obtain ⟨x3, r3, w3⟩ := d3 c3
  have z := hasFs_nil g
  exact ⟨⟨x0, x1, x2, x3⟩, by rw [e0, r0, e1, r1, e2, r2, e3, r3, z]; rfl, ⟨w0, w1, w2, w3⟩⟩
def GLock.mk1 (k : Nat) (x : GLock) : GLock := ⟨((k : Nat) : Int), ((k + 1 : Nat) : Int), ((k + 2 : Nat) : Int), ((k + 3 : Nat) : Int)⟩
theorem GLock.eq_iff {a b : GLock} : a = b ↔ (a.Tx = b.Tx ∧ a.Table = b.Table ∧ a.Row = b.Row ∧ a.Mode = b.Mode) := by
  constructor
  · rintro rfl; exact ⟨rfl, rfl, rfl, rfl⟩
  · intro h; cases a; cases b; simp_all
structure GWait where
  Tx : Int
  For : Int
def GWait.av (x : GWait) : AV := .agg [.d (.int .i64 x.Tx), .d (.int .i64 x.For)]
theorem GWait.ext1 {a b : GWait} (h0 : a.Tx = b.Tx) (h1 : a.For = b.For) : a = b := by cases a; cases b; simp_all
def GWait.row (x : GWait) : List D := [.int .i64 x.Tx, .int .i64 x.For]
def GWait.wf (x : GWait) : Prop := wfInt x.Tx ∧ wfInt x.For
def GWait.zero : GWait := ⟨0, 0⟩
theorem GWait.dec {P : Program} {t : TypeId} {fs : Array Field} {f0 f1 : Field} (h : P.underlying t = some (.struct fs)) (hfs : fs.toList = [f0, f1]) (d0 : Dec P f0.type intRow wfInt) (d1 : Dec P f1.type intRow wfInt) : Dec P t GWait.row GWait.wf := fun hc => by
  have g := hasC_struct h hc
  rw [hfs] at g
  obtain ⟨a0, b0, e0, c0, g⟩ := hasFs_cons g
  obtain ⟨x0, r0, w0⟩ := d0 c0
  obtain ⟨a1, b1, e1, c1, g⟩ := hasFs_cons g
  obtain ⟨x1, r1, w1⟩ := d1 c1
  have z := hasFs_nil g
  exact ⟨⟨x0, x1⟩, by rw [e0, r0, e1, r1, z]; rfl, ⟨w0, w1⟩⟩
def GWait.mk1 (k : Nat) (x : GWait) : GWait := ⟨((k : Nat) : Int), ((k + 1 : Nat) : Int)⟩
theorem GWait.eq_iff {a b : GWait} : a = b ↔ (a.Tx = b.Tx ∧ a.For = b.For) := by
  constructor
  · rintro rfl; exact ⟨rfl, rfl⟩
  · intro h; cases a; cases b; simp_all
structure GLocks where
  Held : List GLock
  Waits : List GWait
def GLocks.av (x : GLocks) : AV := .agg [.d (.sl 4 (x.Held.map GLock.row)), .d (.sl 2 (x.Waits.map GWait.row))]
theorem GLocks.ext1 {a b : GLocks} (h0 : a.Held = b.Held) (h1 : a.Waits = b.Waits) : a = b := by cases a; cases b; simp_all
def GLocks.row (x : GLocks) : List D := [.sl 4 (x.Held.map GLock.row), .sl 2 (x.Waits.map GWait.row)]
def GLocks.wf (x : GLocks) : Prop := wfL GLock.wf x.Held ∧ wfL GWait.wf x.Waits
def GLocks.sz (x : GLocks) : Nat := szL (fun _ => 0) x.Held + szL (fun _ => 0) x.Waits
def GLocks.zero : GLocks := ⟨[], []⟩
theorem GLocks.dec {P : Program} {t : TypeId} {fs : Array Field} {f0 f1 : Field} (h : P.underlying t = some (.struct fs)) (hfs : fs.toList = [f0, f1]) (d0 : Dec P f0.type (fun xs => [.sl 4 (xs.map GLock.row)]) (wfL GLock.wf)) (d1 : Dec P f1.type (fun xs => [.sl 2 (xs.map GWait.row)]) (wfL GWait.wf)) : Dec P t GLocks.row GLocks.wf := fun hc => by
  have g := hasC_struct h hc
  rw [hfs] at g
  obtain ⟨a0, b0, e0, c0, g⟩ := hasFs_cons g
  obtain ⟨x0, r0, w0⟩ := d0 c0
  obtain ⟨a1, b1, e1, c1, g⟩ := hasFs_cons g
  obtain ⟨x1, r1, w1⟩ := d1 c1
  have z := hasFs_nil g
  exact ⟨⟨x0, x1⟩, by rw [e0, r0, e1, r1, z]; rfl, ⟨w0, w1⟩⟩
abbrev GLocks.avO (e0 e1 : Nat) (x : GLocks) : AV := .agg [.osl e0 4 0 x.Held.length, .osl e1 2 0 x.Waits.length]
abbrev GLocks.hO (e0 e1 : Nat) (x : GLocks) : List (Nat × OB) := [(e0, .rows 4 (x.Held.map GLock.row)), (e1, .rows 2 (x.Waits.map GWait.row))]
def GLocks.mkN (k : Nat) (x : GLocks) : Nat := k + 4 * x.Held.length + 2 * x.Waits.length
structure GPending where
  At : Int
  Data : Str
def GPending.av (x : GPending) : AV := .agg [.d (.int .i64 x.At), .d (.str x.Data)]
theorem GPending.ext1 {a b : GPending} (h0 : a.At = b.At) (h1 : a.Data = b.Data) : a = b := by cases a; cases b; simp_all
def GPending.row (x : GPending) : List D := [.int .i64 x.At, .str x.Data]
def GPending.wf (x : GPending) : Prop := wfInt x.At ∧ wfStr x.Data
def GPending.sz (x : GPending) : Nat := x.Data.length
def GPending.zero : GPending := ⟨0, []⟩
theorem GPending.dec {P : Program} {t : TypeId} {fs : Array Field} {f0 f1 : Field} (h : P.underlying t = some (.struct fs)) (hfs : fs.toList = [f0, f1]) (d0 : Dec P f0.type intRow wfInt) (d1 : Dec P f1.type strRow wfStr) : Dec P t GPending.row GPending.wf := fun hc => by
  have g := hasC_struct h hc
  rw [hfs] at g
  obtain ⟨a0, b0, e0, c0, g⟩ := hasFs_cons g
  obtain ⟨x0, r0, w0⟩ := d0 c0
  obtain ⟨a1, b1, e1, c1, g⟩ := hasFs_cons g
  obtain ⟨x1, r1, w1⟩ := d1 c1
  have z := hasFs_nil g
  exact ⟨⟨x0, x1⟩, by rw [e0, r0, e1, r1, z]; rfl, ⟨w0, w1⟩⟩
def GPending.mk1 (k : Nat) (x : GPending) : GPending := ⟨((k : Nat) : Int), mkT (k + 1)⟩
theorem GPending.eq_iff {a b : GPending} : a = b ↔ (a.At = b.At ∧ a.Data = b.Data) := by
  constructor
  · rintro rfl; exact ⟨rfl, rfl⟩
  · intro h; cases a; cases b; simp_all
structure GDisk where
  Sectors : List Str
  Cache : List GPending
  Armed : Bool
  Keep : List Int
def GDisk.av (x : GDisk) : AV := .agg [.d (.sl 1 (x.Sectors.map strRow)), .d (.sl 2 (x.Cache.map GPending.row)), .d (.bool x.Armed), .d (.sl 1 (x.Keep.map intRow))]
theorem GDisk.ext1 {a b : GDisk} (h0 : a.Sectors = b.Sectors) (h1 : a.Cache = b.Cache) (h2 : a.Armed = b.Armed) (h3 : a.Keep = b.Keep) : a = b := by cases a; cases b; simp_all
def GDisk.row (x : GDisk) : List D := [.sl 1 (x.Sectors.map strRow), .sl 2 (x.Cache.map GPending.row), .bool x.Armed, .sl 1 (x.Keep.map intRow)]
def GDisk.wf (x : GDisk) : Prop := wfL wfStr x.Sectors ∧ wfL GPending.wf x.Cache ∧ (fun _ => True) x.Armed ∧ wfL wfInt x.Keep
def GDisk.sz (x : GDisk) : Nat := szL List.length x.Sectors + szL GPending.sz x.Cache + szL (fun _ => 0) x.Keep
def GDisk.zero : GDisk := ⟨[], [], false, []⟩
theorem GDisk.dec {P : Program} {t : TypeId} {fs : Array Field} {f0 f1 f2 f3 : Field} (h : P.underlying t = some (.struct fs)) (hfs : fs.toList = [f0, f1, f2, f3]) (d0 : Dec P f0.type (fun xs => [.sl 1 (xs.map strRow)]) (wfL wfStr)) (d1 : Dec P f1.type (fun xs => [.sl 2 (xs.map GPending.row)]) (wfL GPending.wf)) (d2 : Dec P f2.type boolRow (fun _ => True)) (d3 : Dec P f3.type (fun xs => [.sl 1 (xs.map intRow)]) (wfL wfInt)) : Dec P t GDisk.row GDisk.wf := fun hc => by
  have g := hasC_struct h hc
  rw [hfs] at g
  obtain ⟨a0, b0, e0, c0, g⟩ := hasFs_cons g
  obtain ⟨x0, r0, w0⟩ := d0 c0
  obtain ⟨a1, b1, e1, c1, g⟩ := hasFs_cons g
  obtain ⟨x1, r1, w1⟩ := d1 c1
  obtain ⟨a2, b2, e2, c2, g⟩ := hasFs_cons g
  obtain ⟨x2, r2, w2⟩ := d2 c2
  obtain ⟨a3, b3, e3, c3, g⟩ := hasFs_cons g
  obtain ⟨x3, r3, w3⟩ := d3 c3
  have z := hasFs_nil g
  exact ⟨⟨x0, x1, x2, x3⟩, by rw [e0, r0, e1, r1, e2, r2, e3, r3, z]; rfl, ⟨w0, w1, w2, w3⟩⟩
abbrev GDisk.avO (e0 e1 e2 : Nat) (x : GDisk) : AV := .agg [.osl e0 1 0 x.Sectors.length, .osl e1 2 0 x.Cache.length, .d (.bool x.Armed), .osl e2 1 0 x.Keep.length]
abbrev GDisk.hO (e0 e1 e2 : Nat) (x : GDisk) : List (Nat × OB) := [(e0, .rows 1 (x.Sectors.map strRow)), (e1, .rows 2 (x.Cache.map GPending.row)), (e2, .rows 1 (x.Keep.map intRow))]
def GDisk.mkN (k : Nat) (x : GDisk) : Nat := k + 1 * x.Sectors.length + 2 * x.Cache.length + 1 * x.Keep.length
def Page.row (x : Page) : List D := [.int .i64 x.lsn, .sl 1 (x.slots.map strRow)]
def Page.wf (x : Page) : Prop := wfInt x.lsn ∧ wfL wfStr x.slots
def Page.sz (x : Page) : Nat := szL List.length x.slots
theorem Page.dec {P : Program} {t : TypeId} {fs : Array Field} {f0 f1 : Field} (h : P.underlying t = some (.struct fs)) (hfs : fs.toList = [f0, f1]) (d0 : Dec P f0.type intRow wfInt) (d1 : Dec P f1.type (fun xs => [.sl 1 (xs.map strRow)]) (wfL wfStr)) : Dec P t Page.row Page.wf := fun hc => by
  have g := hasC_struct h hc
  rw [hfs] at g
  obtain ⟨a0, b0, e0, c0, g⟩ := hasFs_cons g
  obtain ⟨x0, r0, w0⟩ := d0 c0
  obtain ⟨a1, b1, e1, c1, g⟩ := hasFs_cons g
  obtain ⟨x1, r1, w1⟩ := d1 c1
  have z := hasFs_nil g
  exact ⟨⟨x0, x1⟩, by rw [e0, r0, e1, r1, z]; rfl, ⟨w0, w1⟩⟩
abbrev Page.avO (e0 : Nat) (x : Page) : AV := .agg [.d (.int .i64 x.lsn), .osl e0 1 0 x.slots.length]
abbrev Page.hO (e0 : Nat) (x : Page) : List (Nat × OB) := [(e0, .rows 1 (x.slots.map strRow))]
def Page.mkN (k : Nat) (x : Page) : Nat := k + 1 * x.slots.length
structure GValue where
  Kind : Int
  N : Int
  T : Str
def GValue.av (x : GValue) : AV := .agg [.d (.int .i64 x.Kind), .d (.int .i64 x.N), .d (.str x.T)]
theorem GValue.ext1 {a b : GValue} (h0 : a.Kind = b.Kind) (h1 : a.N = b.N) (h2 : a.T = b.T) : a = b := by cases a; cases b; simp_all
def GValue.row (x : GValue) : List D := [.int .i64 x.Kind, .int .i64 x.N, .str x.T]
def GValue.wf (x : GValue) : Prop := wfInt x.Kind ∧ wfInt x.N ∧ wfStr x.T
def GValue.sz (x : GValue) : Nat := x.T.length
def GValue.zero : GValue := ⟨0, 0, []⟩
theorem GValue.dec {P : Program} {t : TypeId} {fs : Array Field} {f0 f1 f2 : Field} (h : P.underlying t = some (.struct fs)) (hfs : fs.toList = [f0, f1, f2]) (d0 : Dec P f0.type intRow wfInt) (d1 : Dec P f1.type intRow wfInt) (d2 : Dec P f2.type strRow wfStr) : Dec P t GValue.row GValue.wf := fun hc => by
  have g := hasC_struct h hc
  rw [hfs] at g
  obtain ⟨a0, b0, e0, c0, g⟩ := hasFs_cons g
  obtain ⟨x0, r0, w0⟩ := d0 c0
  obtain ⟨a1, b1, e1, c1, g⟩ := hasFs_cons g
  obtain ⟨x1, r1, w1⟩ := d1 c1
  obtain ⟨a2, b2, e2, c2, g⟩ := hasFs_cons g
  obtain ⟨x2, r2, w2⟩ := d2 c2
  have z := hasFs_nil g
  exact ⟨⟨x0, x1, x2⟩, by rw [e0, r0, e1, r1, e2, r2, z]; rfl, ⟨w0, w1, w2⟩⟩
def GValue.mk1 (k : Nat) (x : GValue) : GValue := ⟨((k : Nat) : Int), ((k + 1 : Nat) : Int), mkT (k + 2)⟩
theorem GValue.eq_iff {a b : GValue} : a = b ↔ (a.Kind = b.Kind ∧ a.N = b.N ∧ a.T = b.T) := by
  constructor
  · rintro rfl; exact ⟨rfl, rfl, rfl⟩
  · intro h; cases a; cases b; simp_all
structure GExprNode where
  Op : Int
  A : Int
  B : Int
  Column : Int
  V : GValue
def GExprNode.av (x : GExprNode) : AV := .agg [.d (.int .i64 x.Op), .d (.int .i64 x.A), .d (.int .i64 x.B), .d (.int .i64 x.Column), .d (.int .i64 x.V.Kind), .d (.int .i64 x.V.N), .d (.str x.V.T)]
theorem GExprNode.ext1 {a b : GExprNode} (h0 : a.Op = b.Op) (h1 : a.A = b.A) (h2 : a.B = b.B) (h3 : a.Column = b.Column) (h4 : a.V = b.V) : a = b := by cases a; cases b; simp_all
def GExprNode.row (x : GExprNode) : List D := [.int .i64 x.Op, .int .i64 x.A, .int .i64 x.B, .int .i64 x.Column, .int .i64 x.V.Kind, .int .i64 x.V.N, .str x.V.T]
def GExprNode.wf (x : GExprNode) : Prop := wfInt x.Op ∧ wfInt x.A ∧ wfInt x.B ∧ wfInt x.Column ∧ GValue.wf x.V
def GExprNode.sz (x : GExprNode) : Nat := GValue.sz x.V
def GExprNode.zero : GExprNode := ⟨0, 0, 0, 0, GValue.zero⟩
theorem GExprNode.dec {P : Program} {t : TypeId} {fs : Array Field} {f0 f1 f2 f3 f4 : Field} (h : P.underlying t = some (.struct fs)) (hfs : fs.toList = [f0, f1, f2, f3, f4]) (d0 : Dec P f0.type intRow wfInt) (d1 : Dec P f1.type intRow wfInt) (d2 : Dec P f2.type intRow wfInt) (d3 : Dec P f3.type intRow wfInt) (d4 : Dec P f4.type GValue.row GValue.wf) : Dec P t GExprNode.row GExprNode.wf := fun hc => by
  have g := hasC_struct h hc
  rw [hfs] at g
  obtain ⟨a0, b0, e0, c0, g⟩ := hasFs_cons g
  obtain ⟨x0, r0, w0⟩ := d0 c0
  obtain ⟨a1, b1, e1, c1, g⟩ := hasFs_cons g
  obtain ⟨x1, r1, w1⟩ := d1 c1
  obtain ⟨a2, b2, e2, c2, g⟩ := hasFs_cons g
  obtain ⟨x2, r2, w2⟩ := d2 c2
  obtain ⟨a3, b3, e3, c3, g⟩ := hasFs_cons g
  obtain ⟨x3, r3, w3⟩ := d3 c3
  obtain ⟨a4, b4, e4, c4, g⟩ := hasFs_cons g
  obtain ⟨x4, r4, w4⟩ := d4 c4
  have z := hasFs_nil g
  exact ⟨⟨x0, x1, x2, x3, x4⟩, by rw [e0, r0, e1, r1, e2, r2, e3, r3, e4, r4, z]; rfl, ⟨w0, w1, w2, w3, w4⟩⟩
def GExprNode.mk1 (k : Nat) (x : GExprNode) : GExprNode := ⟨((k : Nat) : Int), ((k + 1 : Nat) : Int), ((k + 2 : Nat) : Int), ((k + 3 : Nat) : Int), ⟨((k + 4 : Nat) : Int), ((k + 5 : Nat) : Int), mkT (k + 6)⟩⟩
theorem GExprNode.eq_iff {a b : GExprNode} : a = b ↔ (a.Op = b.Op ∧ a.A = b.A ∧ a.B = b.B ∧ a.Column = b.Column ∧ a.V.Kind = b.V.Kind ∧ a.V.N = b.V.N ∧ a.V.T = b.V.T) := by
  constructor
  · rintro rfl; exact ⟨rfl, rfl, rfl, rfl, rfl, rfl, rfl⟩
  · intro h; cases a; cases b; simp_all [GValue.eq_iff]
structure GExpr where
  Nodes : List GExprNode
def GExpr.av (x : GExpr) : AV := .agg [.d (.sl 7 (x.Nodes.map GExprNode.row))]
theorem GExpr.ext1 {a b : GExpr} (h0 : a.Nodes = b.Nodes) : a = b := by cases a; cases b; simp_all
def GExpr.row (x : GExpr) : List D := [.sl 7 (x.Nodes.map GExprNode.row)]
def GExpr.wf (x : GExpr) : Prop := wfL GExprNode.wf x.Nodes
def GExpr.sz (x : GExpr) : Nat := szL GExprNode.sz x.Nodes
def GExpr.zero : GExpr := ⟨[]⟩
theorem GExpr.dec {P : Program} {t : TypeId} {fs : Array Field} {f0 : Field} (h : P.underlying t = some (.struct fs)) (hfs : fs.toList = [f0]) (d0 : Dec P f0.type (fun xs => [.sl 7 (xs.map GExprNode.row)]) (wfL GExprNode.wf)) : Dec P t GExpr.row GExpr.wf := fun hc => by
  have g := hasC_struct h hc
  rw [hfs] at g
  obtain ⟨a0, b0, e0, c0, g⟩ := hasFs_cons g
  obtain ⟨x0, r0, w0⟩ := d0 c0
  have z := hasFs_nil g
  exact ⟨⟨x0⟩, by rw [e0, r0, z]; rfl, w0⟩
abbrev GExpr.avO (e0 : Nat) (x : GExpr) : AV := .agg [.osl e0 7 0 x.Nodes.length]
abbrev GExpr.hO (e0 : Nat) (x : GExpr) : List (Nat × OB) := [(e0, .rows 7 (x.Nodes.map GExprNode.row))]
def GExpr.mkN (k : Nat) (x : GExpr) : Nat := k + 7 * x.Nodes.length
structure GIns where
  Op : Int
  N : Int
  V : GValue
def GIns.av (x : GIns) : AV := .agg [.d (.int .i64 x.Op), .d (.int .i64 x.N), .d (.int .i64 x.V.Kind), .d (.int .i64 x.V.N), .d (.str x.V.T)]
theorem GIns.ext1 {a b : GIns} (h0 : a.Op = b.Op) (h1 : a.N = b.N) (h2 : a.V = b.V) : a = b := by cases a; cases b; simp_all
def GIns.row (x : GIns) : List D := [.int .i64 x.Op, .int .i64 x.N, .int .i64 x.V.Kind, .int .i64 x.V.N, .str x.V.T]
def GIns.wf (x : GIns) : Prop := wfInt x.Op ∧ wfInt x.N ∧ GValue.wf x.V
def GIns.sz (x : GIns) : Nat := GValue.sz x.V
def GIns.zero : GIns := ⟨0, 0, GValue.zero⟩
theorem GIns.dec {P : Program} {t : TypeId} {fs : Array Field} {f0 f1 f2 : Field} (h : P.underlying t = some (.struct fs)) (hfs : fs.toList = [f0, f1, f2]) (d0 : Dec P f0.type intRow wfInt) (d1 : Dec P f1.type intRow wfInt) (d2 : Dec P f2.type GValue.row GValue.wf) : Dec P t GIns.row GIns.wf := fun hc => by
  have g := hasC_struct h hc
  rw [hfs] at g
  obtain ⟨a0, b0, e0, c0, g⟩ := hasFs_cons g
  obtain ⟨x0, r0, w0⟩ := d0 c0
  obtain ⟨a1, b1, e1, c1, g⟩ := hasFs_cons g
  obtain ⟨x1, r1, w1⟩ := d1 c1
  obtain ⟨a2, b2, e2, c2, g⟩ := hasFs_cons g
  obtain ⟨x2, r2, w2⟩ := d2 c2
  have z := hasFs_nil g
  exact ⟨⟨x0, x1, x2⟩, by rw [e0, r0, e1, r1, e2, r2, z]; rfl, ⟨w0, w1, w2⟩⟩
def GIns.mk1 (k : Nat) (x : GIns) : GIns := ⟨((k : Nat) : Int), ((k + 1 : Nat) : Int), ⟨((k + 2 : Nat) : Int), ((k + 3 : Nat) : Int), mkT (k + 4)⟩⟩
theorem GIns.eq_iff {a b : GIns} : a = b ↔ (a.Op = b.Op ∧ a.N = b.N ∧ a.V.Kind = b.V.Kind ∧ a.V.N = b.V.N ∧ a.V.T = b.V.T) := by
  constructor
  · rintro rfl; exact ⟨rfl, rfl, rfl, rfl, rfl⟩
  · intro h; cases a; cases b; simp_all [GValue.eq_iff]
structure GRow where
  Id : Int
  N : GValue
  Name : GValue
def GRow.av (x : GRow) : AV := .agg [.d (.int .i64 x.Id), .d (.int .i64 x.N.Kind), .d (.int .i64 x.N.N), .d (.str x.N.T), .d (.int .i64 x.Name.Kind), .d (.int .i64 x.Name.N), .d (.str x.Name.T)]
theorem GRow.ext1 {a b : GRow} (h0 : a.Id = b.Id) (h1 : a.N = b.N) (h2 : a.Name = b.Name) : a = b := by cases a; cases b; simp_all
def GRow.row (x : GRow) : List D := [.int .i64 x.Id, .int .i64 x.N.Kind, .int .i64 x.N.N, .str x.N.T, .int .i64 x.Name.Kind, .int .i64 x.Name.N, .str x.Name.T]
def GRow.wf (x : GRow) : Prop := wfInt x.Id ∧ GValue.wf x.N ∧ GValue.wf x.Name
def GRow.sz (x : GRow) : Nat := GValue.sz x.N + GValue.sz x.Name
def GRow.zero : GRow := ⟨0, GValue.zero, GValue.zero⟩
theorem GRow.dec {P : Program} {t : TypeId} {fs : Array Field} {f0 f1 f2 : Field} (h : P.underlying t = some (.struct fs)) (hfs : fs.toList = [f0, f1, f2]) (d0 : Dec P f0.type intRow wfInt) (d1 : Dec P f1.type GValue.row GValue.wf) (d2 : Dec P f2.type GValue.row GValue.wf) : Dec P t GRow.row GRow.wf := fun hc => by
  have g := hasC_struct h hc
  rw [hfs] at g
  obtain ⟨a0, b0, e0, c0, g⟩ := hasFs_cons g
  obtain ⟨x0, r0, w0⟩ := d0 c0
  obtain ⟨a1, b1, e1, c1, g⟩ := hasFs_cons g
  obtain ⟨x1, r1, w1⟩ := d1 c1
  obtain ⟨a2, b2, e2, c2, g⟩ := hasFs_cons g
  obtain ⟨x2, r2, w2⟩ := d2 c2
  have z := hasFs_nil g
  exact ⟨⟨x0, x1, x2⟩, by rw [e0, r0, e1, r1, e2, r2, z]; rfl, ⟨w0, w1, w2⟩⟩
def GRow.mk1 (k : Nat) (x : GRow) : GRow := ⟨((k : Nat) : Int), ⟨((k + 1 : Nat) : Int), ((k + 2 : Nat) : Int), mkT (k + 3)⟩, ⟨((k + 4 : Nat) : Int), ((k + 5 : Nat) : Int), mkT (k + 6)⟩⟩
theorem GRow.eq_iff {a b : GRow} : a = b ↔ (a.Id = b.Id ∧ a.N.Kind = b.N.Kind ∧ a.N.N = b.N.N ∧ a.N.T = b.N.T ∧ a.Name.Kind = b.Name.Kind ∧ a.Name.N = b.Name.N ∧ a.Name.T = b.Name.T) := by
  constructor
  · rintro rfl; exact ⟨rfl, rfl, rfl, rfl, rfl, rfl, rfl⟩
  · intro h; cases a; cases b; simp_all [GValue.eq_iff, GValue.eq_iff]
structure GStmt where
  Kind : Int
  Table : Int
  Row : GRow
  Column : Int
  Set : GExpr
  Where : GExpr
  Order : Int
  Down : Bool
def GStmt.av (x : GStmt) : AV := .agg [.d (.int .i64 x.Kind), .d (.int .i64 x.Table), .d (.int .i64 x.Row.Id), .d (.int .i64 x.Row.N.Kind), .d (.int .i64 x.Row.N.N), .d (.str x.Row.N.T), .d (.int .i64 x.Row.Name.Kind), .d (.int .i64 x.Row.Name.N), .d (.str x.Row.Name.T), .d (.int .i64 x.Column), .d (.sl 7 (x.Set.Nodes.map GExprNode.row)), .d (.sl 7 (x.Where.Nodes.map GExprNode.row)), .d (.int .i64 x.Order), .d (.bool x.Down)]
theorem GStmt.ext1 {a b : GStmt} (h0 : a.Kind = b.Kind) (h1 : a.Table = b.Table) (h2 : a.Row = b.Row) (h3 : a.Column = b.Column) (h4 : a.Set = b.Set) (h5 : a.Where = b.Where) (h6 : a.Order = b.Order) (h7 : a.Down = b.Down) : a = b := by cases a; cases b; simp_all
def GStmt.row (x : GStmt) : List D := [.int .i64 x.Kind, .int .i64 x.Table, .int .i64 x.Row.Id, .int .i64 x.Row.N.Kind, .int .i64 x.Row.N.N, .str x.Row.N.T, .int .i64 x.Row.Name.Kind, .int .i64 x.Row.Name.N, .str x.Row.Name.T, .int .i64 x.Column, .sl 7 (x.Set.Nodes.map GExprNode.row), .sl 7 (x.Where.Nodes.map GExprNode.row), .int .i64 x.Order, .bool x.Down]
def GStmt.wf (x : GStmt) : Prop := wfInt x.Kind ∧ wfInt x.Table ∧ GRow.wf x.Row ∧ wfInt x.Column ∧ GExpr.wf x.Set ∧ GExpr.wf x.Where ∧ wfInt x.Order ∧ (fun _ => True) x.Down
def GStmt.sz (x : GStmt) : Nat := GRow.sz x.Row + GExpr.sz x.Set + GExpr.sz x.Where
def GStmt.zero : GStmt := ⟨0, 0, GRow.zero, 0, GExpr.zero, GExpr.zero, 0, false⟩
theorem GStmt.dec {P : Program} {t : TypeId} {fs : Array Field} {f0 f1 f2 f3 f4 f5 f6 f7 : Field} (h : P.underlying t = some (.struct fs)) (hfs : fs.toList = [f0, f1, f2, f3, f4, f5, f6, f7]) (d0 : Dec P f0.type intRow wfInt) (d1 : Dec P f1.type intRow wfInt) (d2 : Dec P f2.type GRow.row GRow.wf) (d3 : Dec P f3.type intRow wfInt) (d4 : Dec P f4.type GExpr.row GExpr.wf) (d5 : Dec P f5.type GExpr.row GExpr.wf) (d6 : Dec P f6.type intRow wfInt) (d7 : Dec P f7.type boolRow (fun _ => True)) : Dec P t GStmt.row GStmt.wf := fun hc => by
  have g := hasC_struct h hc
  rw [hfs] at g
  obtain ⟨a0, b0, e0, c0, g⟩ := hasFs_cons g
  obtain ⟨x0, r0, w0⟩ := d0 c0
  obtain ⟨a1, b1, e1, c1, g⟩ := hasFs_cons g
  obtain ⟨x1, r1, w1⟩ := d1 c1
  obtain ⟨a2, b2, e2, c2, g⟩ := hasFs_cons g
  obtain ⟨x2, r2, w2⟩ := d2 c2
  obtain ⟨a3, b3, e3, c3, g⟩ := hasFs_cons g
  obtain ⟨x3, r3, w3⟩ := d3 c3
  obtain ⟨a4, b4, e4, c4, g⟩ := hasFs_cons g
  obtain ⟨x4, r4, w4⟩ := d4 c4
  obtain ⟨a5, b5, e5, c5, g⟩ := hasFs_cons g
  obtain ⟨x5, r5, w5⟩ := d5 c5
  obtain ⟨a6, b6, e6, c6, g⟩ := hasFs_cons g
  obtain ⟨x6, r6, w6⟩ := d6 c6
  obtain ⟨a7, b7, e7, c7, g⟩ := hasFs_cons g
  obtain ⟨x7, r7, w7⟩ := d7 c7
  have z := hasFs_nil g
  exact ⟨⟨x0, x1, x2, x3, x4, x5, x6, x7⟩, by rw [e0, r0, e1, r1, e2, r2, e3, r3, e4, r4, e5, r5, e6, r6, e7, r7, z]; rfl, ⟨w0, w1, w2, w3, w4, w5, w6, w7⟩⟩
abbrev GStmt.avO (e0 e1 : Nat) (x : GStmt) : AV := .agg [.d (.int .i64 x.Kind), .d (.int .i64 x.Table), .d (.int .i64 x.Row.Id), .d (.int .i64 x.Row.N.Kind), .d (.int .i64 x.Row.N.N), .d (.str x.Row.N.T), .d (.int .i64 x.Row.Name.Kind), .d (.int .i64 x.Row.Name.N), .d (.str x.Row.Name.T), .d (.int .i64 x.Column), .osl e0 7 0 x.Set.Nodes.length, .osl e1 7 0 x.Where.Nodes.length, .d (.int .i64 x.Order), .d (.bool x.Down)]
abbrev GStmt.hO (e0 e1 : Nat) (x : GStmt) : List (Nat × OB) := [(e0, .rows 7 (x.Set.Nodes.map GExprNode.row)), (e1, .rows 7 (x.Where.Nodes.map GExprNode.row))]
def GStmt.mkN (k : Nat) (x : GStmt) : Nat := k + 7 * x.Set.Nodes.length + 7 * x.Where.Nodes.length
structure GAnswer where
  Rows : List GRow
  Count : Int
def GAnswer.av (x : GAnswer) : AV := .agg [.d (.sl 7 (x.Rows.map GRow.row)), .d (.int .i64 x.Count)]
theorem GAnswer.ext1 {a b : GAnswer} (h0 : a.Rows = b.Rows) (h1 : a.Count = b.Count) : a = b := by cases a; cases b; simp_all
def GAnswer.row (x : GAnswer) : List D := [.sl 7 (x.Rows.map GRow.row), .int .i64 x.Count]
def GAnswer.wf (x : GAnswer) : Prop := wfL GRow.wf x.Rows ∧ wfInt x.Count
def GAnswer.sz (x : GAnswer) : Nat := szL GRow.sz x.Rows
def GAnswer.zero : GAnswer := ⟨[], 0⟩
theorem GAnswer.dec {P : Program} {t : TypeId} {fs : Array Field} {f0 f1 : Field} (h : P.underlying t = some (.struct fs)) (hfs : fs.toList = [f0, f1]) (d0 : Dec P f0.type (fun xs => [.sl 7 (xs.map GRow.row)]) (wfL GRow.wf)) (d1 : Dec P f1.type intRow wfInt) : Dec P t GAnswer.row GAnswer.wf := fun hc => by
  have g := hasC_struct h hc
  rw [hfs] at g
  obtain ⟨a0, b0, e0, c0, g⟩ := hasFs_cons g
  obtain ⟨x0, r0, w0⟩ := d0 c0
  obtain ⟨a1, b1, e1, c1, g⟩ := hasFs_cons g
  obtain ⟨x1, r1, w1⟩ := d1 c1
  have z := hasFs_nil g
  exact ⟨⟨x0, x1⟩, by rw [e0, r0, e1, r1, z]; rfl, ⟨w0, w1⟩⟩
abbrev GAnswer.avO (e0 : Nat) (x : GAnswer) : AV := .agg [.osl e0 7 0 x.Rows.length, .d (.int .i64 x.Count)]
abbrev GAnswer.hO (e0 : Nat) (x : GAnswer) : List (Nat × OB) := [(e0, .rows 7 (x.Rows.map GRow.row))]
def GAnswer.mkN (k : Nat) (x : GAnswer) : Nat := k + 7 * x.Rows.length
structure GChange where
  Session : Int
  Table : Int
  Row : GRow
  Gone : Bool
def GChange.av (x : GChange) : AV := .agg [.d (.int .i64 x.Session), .d (.int .i64 x.Table), .d (.int .i64 x.Row.Id), .d (.int .i64 x.Row.N.Kind), .d (.int .i64 x.Row.N.N), .d (.str x.Row.N.T), .d (.int .i64 x.Row.Name.Kind), .d (.int .i64 x.Row.Name.N), .d (.str x.Row.Name.T), .d (.bool x.Gone)]
theorem GChange.ext1 {a b : GChange} (h0 : a.Session = b.Session) (h1 : a.Table = b.Table) (h2 : a.Row = b.Row) (h3 : a.Gone = b.Gone) : a = b := by cases a; cases b; simp_all
def GChange.row (x : GChange) : List D := [.int .i64 x.Session, .int .i64 x.Table, .int .i64 x.Row.Id, .int .i64 x.Row.N.Kind, .int .i64 x.Row.N.N, .str x.Row.N.T, .int .i64 x.Row.Name.Kind, .int .i64 x.Row.Name.N, .str x.Row.Name.T, .bool x.Gone]
def GChange.wf (x : GChange) : Prop := wfInt x.Session ∧ wfInt x.Table ∧ GRow.wf x.Row ∧ (fun _ => True) x.Gone
def GChange.sz (x : GChange) : Nat := GRow.sz x.Row
def GChange.zero : GChange := ⟨0, 0, GRow.zero, false⟩
theorem GChange.dec {P : Program} {t : TypeId} {fs : Array Field} {f0 f1 f2 f3 : Field} (h : P.underlying t = some (.struct fs)) (hfs : fs.toList = [f0, f1, f2, f3]) (d0 : Dec P f0.type intRow wfInt) (d1 : Dec P f1.type intRow wfInt) (d2 : Dec P f2.type GRow.row GRow.wf) (d3 : Dec P f3.type boolRow (fun _ => True)) : Dec P t GChange.row GChange.wf := fun hc => by
  have g := hasC_struct h hc
  rw [hfs] at g
  obtain ⟨a0, b0, e0, c0, g⟩ := hasFs_cons g
  obtain ⟨x0, r0, w0⟩ := d0 c0
  obtain ⟨a1, b1, e1, c1, g⟩ := hasFs_cons g
  obtain ⟨x1, r1, w1⟩ := d1 c1
  obtain ⟨a2, b2, e2, c2, g⟩ := hasFs_cons g
  obtain ⟨x2, r2, w2⟩ := d2 c2
  obtain ⟨a3, b3, e3, c3, g⟩ := hasFs_cons g
  obtain ⟨x3, r3, w3⟩ := d3 c3
  have z := hasFs_nil g
  exact ⟨⟨x0, x1, x2, x3⟩, by rw [e0, r0, e1, r1, e2, r2, e3, r3, z]; rfl, ⟨w0, w1, w2, w3⟩⟩
def GChange.mk1 (k : Nat) (x : GChange) : GChange := ⟨((k : Nat) : Int), ((k + 1 : Nat) : Int), ⟨((k + 2 : Nat) : Int), ⟨((k + 3 : Nat) : Int), ((k + 4 : Nat) : Int), mkT (k + 5)⟩, ⟨((k + 6 : Nat) : Int), ((k + 7 : Nat) : Int), mkT (k + 8)⟩⟩, (decide (((k + 9 : Nat) : Int) % 3 = 0))⟩
theorem GChange.eq_iff {a b : GChange} : a = b ↔ (a.Session = b.Session ∧ a.Table = b.Table ∧ a.Row.Id = b.Row.Id ∧ a.Row.N.Kind = b.Row.N.Kind ∧ a.Row.N.N = b.Row.N.N ∧ a.Row.N.T = b.Row.N.T ∧ a.Row.Name.Kind = b.Row.Name.Kind ∧ a.Row.Name.N = b.Row.Name.N ∧ a.Row.Name.T = b.Row.Name.T ∧ a.Gone = b.Gone) := by
  constructor
  · rintro rfl; exact ⟨rfl, rfl, rfl, rfl, rfl, rfl, rfl, rfl, rfl, rfl⟩
  · intro h; cases a; cases b; simp_all [GRow.eq_iff]
end Go.AM

namespace Go.AM
set_option linter.unusedVariables false
/-- A datum of one cell. -/
def flatS : D → Bool
  | .int _ _ => true
  | .bool _ => true
  | .str _ => true
  | _ => false
theorem flatS_dr {x : D} (h : flatS x = true) {w w' : World} {ok ok' : Nat → Prop} {v : Value} (hr : DR w ok x v) : DR w' ok' x v := by
  cases x with
  | int _ _ => simpa [DR] using hr
  | bool _ => simpa [DR] using hr
  | str _ => simpa [DR] using hr
  | _ => cases h
theorem cellD_flat {β : Names} {w : World} {e : Nat} {x : D} (h : flatS x = true) {v : Value} : CellD β w e none x v ↔ DR w (fun _ => False) x v := by
  cases x with
  | int _ _ => exact Iff.rfl
  | bool _ => exact Iff.rfl
  | str _ => exact Iff.rfl
  | _ => cases h
/-- What may be laid into such a row: a datum of one cell, an empty slice, an own slice as a whole. -/
inductive DC (own : List (Nat × OB)) : AV → D → Option Nat → Prop
  | flat {x : D} (h : flatS x = true) : DC own (.d x) x none
  | zs (n : Nat) : DC own (.zs n) (.sl n []) none
  | own {k n len : Nat} {xs : List (List D)} (h : get own k = some (.rows n xs)) (hl : len = xs.length) : DC own (.osl k n 0 len) (.sl n xs) (some k)
inductive DCL (own : List (Nat × OB)) : Nat → List AV → List D → List (Nat × Nat) → Prop
  | nil {j : Nat} : DCL own j [] [] []
  | flat {j : Nat} {x : AV} {y : D} {xs : List AV} {ys : List D} {ks : List (Nat × Nat)} (h : DC own x y none) (t : DCL own (j + 1) xs ys ks) : DCL own j (x :: xs) (y :: ys) ks
  | own {j k : Nat} {x : AV} {y : D} {xs : List AV} {ys : List D} {ks : List (Nat × Nat)} (h : DC own x y (some k)) (t : DCL own (j + 1) xs ys ks) : DCL own j (x :: xs) (y :: ys) ((j, k) :: ks)
def holesAt (i : Nat) (ks : List (Nat × Nat)) : List (Nat × Nat × Nat) := ks.map (fun p => (i, p.1, p.2))
theorem hole_cons {a b c i j : Nat} {hs : List (Nat × Nat × Nat)} : hole ((a, b, c) :: hs) i j = if a = i ∧ b = j then some c else hole hs i j := by
  unfold hole
  rw [List.find?_cons]
  by_cases h : a = i ∧ b = j
  · simp [h]
  · simp [h]
theorem hole_row {i i' j : Nat} (hi : i' ≠ i) : ∀ {ks : List (Nat × Nat)}, hole (holesAt i ks) i' j = none
  | [] => rfl
  | (a, b) :: ks => by
    show hole ((i, a, b) :: holesAt i ks) i' j = none
    rw [hole_cons, if_neg (fun h => hi h.1.symm), hole_row hi]
theorem DCL.ge {own : List (Nat × OB)} {j : Nat} {xs : List AV} {ys : List D} {ks : List (Nat × Nat)} (h : DCL own j xs ys ks) : ∀ p ∈ ks, j ≤ p.1 ∧ p.1 < j + xs.length := by
  induction h with
  | nil => intro p hp; cases hp
  | flat h t ih => intro p hp; have := ih p hp; simp only [List.length_cons]; omega
  | own h t ih =>
    intro p hp
    rcases List.mem_cons.1 hp with rfl | hp
    · simp only [List.length_cons]; omega
    · have := ih p hp; simp only [List.length_cons]; omega
theorem hole_out {i j : Nat} : ∀ {ks : List (Nat × Nat)}, (∀ p ∈ ks, p.1 ≠ j) → hole (holesAt i ks) i j = none
  | [], _ => rfl
  | (a, b) :: ks, h => by
    show hole ((i, a, b) :: holesAt i ks) i j = none
    rw [hole_cons, if_neg (fun hh => h (a, b) (List.mem_cons_self ..) hh.2), hole_out (fun p hp => h p (List.mem_cons_of_mem _ hp))]
theorem DCL.at {own : List (Nat × OB)} {i : Nat} {j : Nat} {xs : List AV} {ys : List D} {ks : List (Nat × Nat)} (h : DCL own j xs ys ks) : ∀ (t : Nat) (y : D), ys[t]? = some y → ∃ x, xs[t]? = some x ∧ DC own x y (hole (holesAt i ks) i (j + t)) := by
  induction h with
  | nil => intro t y hy; simp at hy
  | flat h t ih =>
    rename_i j x y xs ys ks
    intro t' y' hy
    cases t' with
    | zero =>
      simp only [List.getElem?_cons_zero, Option.some.injEq] at hy
      subst hy
      refine ⟨x, rfl, ?_⟩
      rw [hole_out (fun p hp => by have := t.ge p hp; omega)]; exact h
    | succ t' =>
      obtain ⟨x', h1, h2⟩ := ih t' y' (by simpa using hy)
      exact ⟨x', by simpa using h1, by rwa [show j + (t' + 1) = j + 1 + t' from by omega]⟩
  | own h t ih =>
    rename_i j k x y xs ys ks
    intro t' y' hy
    cases t' with
    | zero =>
      simp only [List.getElem?_cons_zero, Option.some.injEq] at hy
      subst hy
      refine ⟨x, rfl, ?_⟩
      show DC own x y (hole ((i, j, k) :: holesAt i ks) i (j + 0))
      rw [hole_cons, if_pos ⟨rfl, rfl⟩]; exact h
    | succ t' =>
      obtain ⟨x', h1, h2⟩ := ih t' y' (by simpa using hy)
      refine ⟨x', by simpa using h1, ?_⟩
      show DC own x' y' (hole ((i, j, k) :: holesAt i ks) i (j + (t' + 1)))
      rw [hole_cons, if_neg (by omega), show j + (t' + 1) = j + 1 + t' from by omega]; exact h2
theorem DCL.len {own : List (Nat × OB)} {j : Nat} {xs : List AV} {ys : List D} {ks : List (Nat × Nat)} (h : DCL own j xs ys ks) : ys.length = xs.length := by
  induction h with
  | nil => rfl
  | flat _ _ ih => simp [ih]
  | own _ _ ih => simp [ih]
/-- The value of such a cell. -/
theorem DC.cell {X : Nat → Prop} {β : Names} {w w' : World} {own : List (Nat × OB)} {e b : Nat} (H : HR X β own w) {sz : Nat} {rs : List (List D)} {hs : List (Nat × Nat × Nat)} (he : get own e = some (.deep sz rs hs)) (hb : β e = some b) (hs : w.heap.size ≤ w'.heap.size) (ho : ∀ k, k ≠ b → w'.heap[k]? = w.heap[k]?)
    {x : AV} {y : D} {q : Option Nat} (h : DC own x y q) {v : Value} (hA : AR X β w x v) : CellD β w' e q y v ∧ v.oneCell' = true := by
  cases h with
  | flat hf => rw [AR] at hA; exact ⟨(cellD_flat hf).2 (flatS_dr hf hA), (DR_one hA).2⟩
  | zs n =>
    rw [AR] at hA
    obtain ⟨a, rfl⟩ := hA
    exact ⟨⟨a, 0, rfl, Nat.le_refl _, .inl rfl⟩, rfl⟩
  | own hk hl =>
    rename_i k n len xs
    rw [AR] at hA
    obtain ⟨a, cap, rfl, h2, h3⟩ := hA
    refine ⟨⟨a, cap, by rw [hl], by omega, h3.imp id ?_⟩, rfl⟩
    rintro ⟨b', c, ty, fr, q1, q2, q3, q4⟩
    have hne : b' ≠ b := fun hh => by
      subst hh
      have := H.inj k e b' q1 hb
      subst this
      rw [he] at hk; cases hk
    exact ⟨b', c, ty, fr, q1, by rw [q2, Nat.zero_mul], by rw [ho b' hne]; exact q3, by simpa using q4⟩
section
variable {C : Cx} {sl : List (Nat × AV)} {own : List (Nat × OB)}
/-- Cells of a row are written. -/
theorem e_strD {n e sz i o : Nat} {x y : XA} {v : AV} {rs : List (List D)} {row : List D} {cs : List AV} {ds : List D} {ks : List (Nat × Nat)} (hx : evA sl x = some (.rptr e sz i o)) (he : get own e = some (.deep sz rs []))
    (hy : evA sl y = some v) (hc : cellsA v = some cs) (hds : DCL own o cs ds ks) (hd : (ks.map Prod.snd).Nodup) (hn : Nat.beq ds.length n = true) (hr : rs[i]? = some row) (hl : Nat.ble (o + n) sz = true) :
    EStep C ⟨sl, own⟩ none (.store n x y) ⟨sl, (e, .deep sz (rs.set i (setL row o ds)) (holesAt i ks)) :: own⟩ := by
  have hn := Nat.eq_of_beq_eq_true hn
  have hl := Nat.le_of_ble_eq_true hl
  intro op hd0 _ hf a w β S
  obtain ⟨t, p, q, hop, hz, hp, hq⟩ := storeOp_run hf
  have h3 := AR_of_fitA S hp hx
  have h4 := AR_of_fitA S hq hy
  rw [AR] at h3
  obtain ⟨b, hb, h3⟩ := h3
  have hob := S.hr.own e _ he
  rw [hb] at hob
  obtain ⟨c, ty, fr, h5, h6, h7, h7', hap⟩ := hob
  have h8 := cellsA_AL hc h4
  have hcl : cs.length = n := by rw [← hn, hds.len]
  have h9 : (a.eval q).cells.size = n := by have := AL_len h8; rw [← hcl, ← this]; simp
  have hi : i < rs.length := by
    rcases Nat.lt_or_ge i rs.length with h | h
    · exact h
    · rw [List.getElem?_eq_none h] at hr; cases hr
  have hsz : i * sz + sz ≤ c.size := by
    have : (i + 1) * sz ≤ rs.length * sz := Nat.mul_le_mul_right _ hi
    rw [Nat.succ_mul] at this; omega
  obtain ⟨w1, w2, w3, w4, w5, w6⟩ := setCells_world b (a.eval q).cells.toList (i * sz + o) w
  -- the new cells
  have hnew : ∀ t y, ds[t]? = some y → ∃ v, (a.eval q).cells.toList[t]? = some v ∧ (∃ x, cs[t]? = some x ∧ AR C.X β w x v ∧ DC own x y (hole (holesAt i ks) i (o + t))) ∧ CellD β (w.setCells b (i * sz + o) (a.eval q).cells.toList) e (hole (holesAt i ks) i (o + t)) y v ∧ v.oneCell' = true := by
    intro t y ht
    obtain ⟨x, q1, q2⟩ := hds.at (i := i) t y ht
    obtain ⟨v, q3, q4⟩ := AL_get h8 t x q1
    exact ⟨v, q3, ⟨x, q1, q4, q2⟩, DC.cell S.hr he hb (by rw [w4]; exact Nat.le_refl _) w5 q2 q4⟩
  have h1 : ∀ u ∈ (a.eval q).cells.toList, u.oneCell' = true := by
    intro u hu
    obtain ⟨t, ht, rfl⟩ := List.mem_iff_getElem.1 hu
    have htd : t < ds.length := by rw [hn, ← h9]; simpa using ht
    obtain ⟨v, q1, _, _, q3⟩ := hnew t ds[t] (List.getElem?_eq_getElem htd)
    rw [List.getElem?_eq_getElem ht] at q1
    cases q1; exact q3
  have hrun := storeAt_run (P := C.P) (o := i * sz + o) hz h9 h1 h5 h6.1 (by omega)
  refine ⟨.skip, w.setCells b (i * sz + o) (a.eval q).cells.toList, β, by simp only [execOp, hop, h3, Sem.run_bind, hrun, Result.andThen_ok, Sem.run_pure], .inl ⟨rfl, ?_⟩⟩
  have hcc : ∀ c' ty' fr', w.heap[b]? = some (.cells c' ty' fr') → ∃ c'' ty'' fr'', (w.setCells b (i * sz + o) (a.eval q).cells.toList).heap[b]? = some (.cells c'' ty'' fr'') ∧ c''.size = c'.size := fun c' ty' fr' h =>
    ⟨_, _, _, w6 c' ty' fr' h, by simp [setL_length]⟩
  refine S.store hb ⟨w1, w2, w3⟩ w4 w5 hcc ?_
  have hhid : ∀ j k, β.hd e j = some k → β.hd e j = some k ∧ (w.setCells b (i * sz + o) (a.eval q).cells.toList).heap[k]? = w.heap[k]? := fun j k hk => ⟨hk, w5 k (fun h => S.hr.notX e b hb (.inr ⟨e, j, by rw [← h]; exact hk⟩))⟩
  have hold : ∀ {x : D} {v : Value}, CellD β w e none x v → CellD β (w.setCells b (i * sz + o) (a.eval q).cells.toList) e none x v := fun {x v} h =>
    h.pg (by rw [w4]; exact Nat.le_refl _) hhid (fun k b h => by cases h) (fun k b c ty fr h => by cases h)
  have h11 : ((a.eval q).cells.toList).length = n := by simpa using h9
  have hq2 : ∀ p, (setL c.toList (i * sz + o) (a.eval q).cells.toList).toArray[p]? = if i * sz + o ≤ p ∧ p < i * sz + o + n then (a.eval q).cells.toList[p - (i * sz + o)]? else c[p]? := by
    intro p
    have := setL_get (a.eval q).cells.toList c.toList (i * sz + o) p (by rw [h11]; simp; omega)
    simp only [h11] at this
    simpa using this
  have hrl : row.length = sz := (h7' i row hr).1
  have hnohole : ∀ j, ¬ (o ≤ j ∧ j < o + n) → hole (holesAt i ks) i j = none := fun j hj => hole_out (fun p hp hpj => by have := hds.ge p hp; rw [hcl] at this; omega)
  -- where a cell lies
  have hpos : ∀ {k j : Nat}, j < sz → (i * sz + o ≤ k * sz + j ∧ k * sz + j < i * sz + o + n) → k = i ∧ o ≤ j ∧ j < o + n := by
    intro k j hj ⟨g1, g2⟩
    have hki : k = i := by
      rcases Nat.lt_trichotomy k i with h | h | h
      · have : (k + 1) * sz ≤ i * sz := Nat.mul_le_mul_right _ h
        rw [Nat.succ_mul] at this; omega
      · exact h
      · have : (i + 1) * sz ≤ k * sz := Nat.mul_le_mul_right _ h
        rw [Nat.succ_mul] at this; omega
    subst hki
    exact ⟨rfl, by omega, by omega⟩
  refine ⟨_, ty, fr, w6 c ty fr h5, by simpa [setL_length] using h6, by simpa [setL_length] using h7, ?_, ?_⟩
  · intro k r hk
    rw [List.getElem?_set] at hk
    by_cases hik : i = k
    · subst hik
      rw [if_pos rfl, if_pos hi] at hk
      simp only [Option.some.injEq] at hk
      subst hk
      refine ⟨by rw [setL_length]; exact hrl, fun j x hj => ?_⟩
      have hjs : j < sz := by
        have := (List.getElem?_eq_some_iff.1 hj).1
        rw [setL_length] at this; omega
      rw [setL_get ds row o j (by rw [hn, hrl]; exact hl)] at hj
      rw [hq2]
      by_cases hjo : o ≤ j ∧ j < o + ds.length
      · rw [if_pos hjo] at hj
        rw [if_pos (by omega), show i * sz + j - (i * sz + o) = j - o from by omega]
        obtain ⟨u, hu, _, hxu, _⟩ := hnew _ _ hj
        rw [show o + (j - o) = j from by omega] at hxu
        exact ⟨u, hu, hxu⟩
      · rw [if_neg hjo] at hj
        rw [if_neg (by omega), hnohole j (by omega)]
        obtain ⟨u, hu, hxu⟩ := (h7' i row hr).2 j x hj
        exact ⟨u, hu, hold hxu⟩
    · rw [if_neg hik] at hk
      obtain ⟨h12, h13⟩ := h7' k r hk
      refine ⟨h12, fun j x hj => ?_⟩
      obtain ⟨u, hu, hxu⟩ := h13 j x hj
      rw [hole_row (fun h => hik h.symm)]
      refine ⟨u, ?_, hold hxu⟩
      have hjs : j < sz := by have := (List.getElem?_eq_some_iff.1 hj).1; omega
      rw [hq2, if_neg (fun hh => hik (hpos hjs hh).1.symm), hu]
  · -- what a cell that leads somewhere leads to
    have lead : ∀ k j m ys, cellAt (rs.set i (setL row o ds)) k j = some (.sl m ys) → ∀ ad l kk, (setL c.toList (i * sz + o) (a.eval q).cells.toList).toArray[k * sz + j]? = some (.slice (some ad) l kk) → kk ≠ 0 →
        (¬ (k = i ∧ o ≤ j ∧ j < o + n) ∧ cellAt rs k j = some (.sl m ys) ∧ c[k * sz + j]? = some (.slice (some ad) l kk) ∧ ∃ jj, β.hd e jj = some ad.block) ∨
        (k = i ∧ o ≤ j ∧ ∃ nm, hole (holesAt i ks) i j = some nm ∧ β nm = some ad.block) := by
      intro k j m ys hcl2 ad l kk hcv hkk
      unfold cellAt at hcl2
      rw [List.getElem?_set] at hcl2
      by_cases hik : i = k
      · subst hik
        rw [if_pos rfl, if_pos hi] at hcl2
        simp only at hcl2
        have hjs : j < sz := by
          have := (List.getElem?_eq_some_iff.1 hcl2).1
          rw [setL_length] at this; omega
        rw [setL_get ds row o j (by rw [hn, hrl]; exact hl)] at hcl2
        rw [hq2] at hcv
        by_cases hjo : o ≤ j ∧ j < o + ds.length
        · rw [if_pos hjo] at hcl2
          rw [if_pos (by omega), show i * sz + j - (i * sz + o) = j - o from by omega] at hcv
          obtain ⟨u, hu, ⟨x, _, hA, hD⟩, _, _⟩ := hnew _ _ hcl2
          rw [hu] at hcv
          cases hcv
          rw [show o + (j - o) = j from by omega] at hD
          right
          refine ⟨rfl, hjo.1, ?_⟩
          generalize hole (holesAt i ks) i j = hq at hD ⊢
          cases hD with
          | flat hf => cases hf
          | zs _ => rw [AR] at hA; obtain ⟨a', ha'⟩ := hA; cases ha'; exact absurd rfl hkk
          | @own nm _ len _ hg hl2 =>
            rw [AR] at hA
            obtain ⟨a', cap, g1, g2, g3⟩ := hA
            cases g1
            rcases g3 with g3 | ⟨b', c', ty', fr', g4, g5, g6, g7⟩
            · exact absurd g3 hkk
            · cases g5
              exact ⟨nm, rfl, g4⟩
        · rw [if_neg hjo] at hcl2
          rw [if_neg (by omega)] at hcv
          left
          refine ⟨by omega, by unfold cellAt; rw [hr]; exact hcl2, hcv, ?_⟩
          obtain ⟨u, hu, hxu⟩ := (h7' i row hr).2 j _ hcl2
          rw [hu] at hcv; cases hcv
          obtain ⟨a', cap, g1, g2, g3⟩ := hxu
          cases g1
          rcases g3 with g3 | ⟨jj, b', c', ty', fr', g4, g5, _⟩
          · exact absurd g3 hkk
          · cases g5; exact ⟨jj, g4⟩
      · rw [if_neg hik] at hcl2
        left
        cases hrk : rs[k]? with
        | none => rw [hrk] at hcl2; cases hcl2
        | some r =>
          rw [hrk] at hcl2
          simp only at hcl2
          obtain ⟨h12, h13⟩ := h7' k r hrk
          have hjs : j < sz := by have := (List.getElem?_eq_some_iff.1 hcl2).1; omega
          rw [hq2, if_neg (fun hh => hik (hpos hjs hh).1.symm)] at hcv
          refine ⟨fun h => hik h.1.symm, by unfold cellAt; rw [hrk]; exact hcl2, hcv, ?_⟩
          obtain ⟨u, hu, hxu⟩ := h13 j _ hcl2
          rw [hu] at hcv; cases hcv
          obtain ⟨a', cap, g1, g2, g3⟩ := hxu
          cases g1
          rcases g3 with g3 | ⟨jj, b', c', ty', fr', g4, g5, _⟩
          · exact absurd g3 hkk
          · cases g5; exact ⟨jj, g4⟩
    intro k1 j1 k2 j2 m1 y1 m2 y2 c1 c2 hne a1 l1 q1 a2 l2 q2 v1 v2 z1 z2 hbl
    rcases lead k1 j1 m1 y1 c1 a1 l1 q1 v1 z1 with ⟨_, p1, p2, jj1, p3⟩ | ⟨p1, p2, nm1, p3, p4⟩ <;> rcases lead k2 j2 m2 y2 c2 a2 l2 q2 v2 z2 with ⟨_, r1, r2, jj2, r3⟩ | ⟨r1, r2, nm2, r3, r4⟩
    · exact hap k1 j1 k2 j2 m1 y1 m2 y2 p1 r1 hne a1 l1 q1 a2 l2 q2 p2 r2 z1 z2 hbl
    · exact S.hr.notX nm2 _ r4 (.inr ⟨e, jj1, by rw [← hbl]; exact p3⟩)
    · exact S.hr.notX nm1 _ p4 (.inr ⟨e, jj2, by rw [hbl]; exact r3⟩)
    · subst p1 r1
      have hnm : nm1 = nm2 := S.hr.inj nm1 nm2 _ p4 (by rw [hbl]; exact r4)
      subst hnm
      have e1 := hole_some p3
      have e2 := hole_some r3
      simp only [holesAt, List.mem_map, Prod.mk.injEq] at e1 e2
      obtain ⟨⟨x1, x2⟩, g1, _, rfl, rfl⟩ := e1
      obtain ⟨⟨y1, y2⟩, g2, _, rfl, hy2⟩ := e2
      simp only at hy2 hne
      subst hy2
      -- the same name twice
      have : x1 = y1 := by
        have key : ∀ (l : List (Nat × Nat)), (l.map Prod.snd).Nodup → ∀ {a b c : Nat}, (a, c) ∈ l → (b, c) ∈ l → a = b := by
          intro l
          induction l with
          | nil => intro _ a b c h; cases h
          | cons p l ih =>
            intro hn a b c ha hb
            rw [List.map_cons, List.nodup_cons] at hn
            rcases List.mem_cons.1 ha with ha | ha <;> rcases List.mem_cons.1 hb with hb | hb
            · have := ha.trans hb.symm; exact (Prod.mk.inj this).1
            · exact absurd (List.mem_map.2 ⟨(b, c), hb, by rw [← ha]⟩) hn.1
            · exact absurd (List.mem_map.2 ⟨(a, c), ha, by rw [← hb]⟩) hn.1
            · exact ih hn.2 ha hb
        exact key ks hd g1 g2
      exact hne (by rw [this])
end
end Go.AM

namespace Go.AM
set_option linter.unusedVariables false
theorem CellD.sub {β β' : Names} {w : World} {e : Nat} {n : Option Nat} (hh : ∀ j b, β.hd e j = some b → ∃ j', β'.hd e j' = some b) (hn : ∀ k b, n = some k → β k = some b → β' k = some b) {x : D} {v : Value} (h : CellD β w e n x v) : CellD β' w e n x v := by
  cases n with
  | none =>
    cases x with
    | sl m xs =>
      obtain ⟨a, cap, h1, h2, h3⟩ := h
      refine ⟨a, cap, h1, h2, h3.imp id ?_⟩
      rintro ⟨j, b, c, ty, fr, q1, q2⟩
      obtain ⟨j', q⟩ := hh j b q1
      exact ⟨j', b, c, ty, fr, q, q2⟩
    | int _ _ => exact h
    | bool _ => exact h
    | str _ => exact h
    | ip _ => exact h
    | fn _ _ => exact h
    | nilp => exact h
  | some k =>
    cases x with
    | sl m xs =>
      obtain ⟨a, cap, h1, h2, h3⟩ := h
      refine ⟨a, cap, h1, h2, h3.imp id ?_⟩
      rintro ⟨b, c, ty, fr, q1, q2⟩
      exact ⟨b, c, ty, fr, hn k b rfl q1, q2⟩
    | int _ _ => exact h
    | bool _ => exact h
    | str _ => exact h
    | ip _ => exact h
    | fn _ _ => exact h
    | nilp => exact h
def shN (f : Option Nat) (g : Nat → Option Nat) : Nat → Option Nat
  | 0 => f
  | j + 1 => g j
theorem CellD.some {β β' : Names} {w : World} {e k : Nat} {x : D} {v : Value} (hn : β' k = β k) (h : CellD β w e (some k) x v) : CellD β' w e (some k) x v := by
  cases x with
  | sl m xs =>
    obtain ⟨a, cap, h1, h2, h3⟩ := h
    refine ⟨a, cap, h1, h2, h3.imp id ?_⟩
    rintro ⟨b, c, ty, fr, q1, q2⟩
    exact ⟨b, c, ty, fr, by rw [hn]; exact q1, q2⟩
  | int _ _ => exact h
  | bool _ => exact h
  | str _ => exact h
  | ip _ => exact h
  | fn _ _ => exact h
  | nilp => exact h
/-- What is known of a cell that was just made: what is behind it is forgotten. -/
def zD (x : D) : D := bif flatS x then x else .nilp
theorem zD_cell {β : Names} {w : World} {e : Nat} {ok : Nat → Prop} {x : D} {v : Value} (h : DR w ok x v) : CellD β w e none (zD x) v := by
  unfold zD
  cases hf : flatS x with
  | true => exact (cellD_flat hf).2 (flatS_dr hf h)
  | false => trivial
theorem zD_sl {x : D} {n : Nat} {xs : List (List D)} : zD x ≠ .sl n xs := by
  unfold zD
  cases x <;> simp [flatS]
section
variable {C : Cx} {sl : List (Nat × AV)} {own : List (Nat × OB)}
theorem wk_deepz (e : Nat) {sz : Nat} {rs rs' : List (List D)} (he : get own e = some (.rows sz rs)) (hr : rs.map (fun r => r.map zD) = rs') : Wk C ⟨sl, own⟩ ⟨sl, (e, .deep sz rs' []) :: own⟩ := by
  rintro a w ⟨β, S⟩
  refine ⟨β, { S with hr := { S.hr with own := ?_ } }⟩
  intro k ob hk
  rw [get_cons] at hk
  split at hk
  · rename_i hke; subst hke; cases hk
    have hob := S.hr.own _ _ he
    subst hr
    cases hb : β e with
    | none =>
      rw [hb] at hob
      have : rs = [] := hob
      subst this; exact ⟨rfl, rfl⟩
    | some b =>
      rw [hb] at hob
      obtain ⟨c, ty, fr, h1, h2, h3, h4⟩ := hob
      refine ⟨c, ty, fr, h1, h2, by rw [List.length_map]; exact h3, fun i r hi => ?_, ?_⟩
      · rw [List.getElem?_map, Option.map_eq_some_iff] at hi
        obtain ⟨q, hq, rfl⟩ := hi
        obtain ⟨g1, g2⟩ := h4 i q hq
        refine ⟨by rw [List.length_map]; exact g1, fun j x hj => ?_⟩
        rw [List.getElem?_map, Option.map_eq_some_iff] at hj
        obtain ⟨y, hy, rfl⟩ := hj
        obtain ⟨v, g3, g4⟩ := g2 j y hy
        exact ⟨v, g3, zD_cell g4⟩
      · intro i j i' j' n xs n' xs' hc _ _
        unfold cellAt at hc
        rw [List.getElem?_map] at hc
        cases hq : rs[i]? with
        | none => rw [hq] at hc; cases hc
        | some r =>
          rw [hq] at hc
          simp only [Option.map_some, List.getElem?_map, Option.map_eq_some_iff] at hc
          obtain ⟨y, _, hy⟩ := hc
          exact absurd hy zD_sl
  · exact S.hr.own k ob hk
theorem q_load1_hole {st : St} {x : XA} {e sz i o k m : Nat} {rs xs : List (List D)} {hs : List (Nat × Nat × Nat)} {r : List D} (hx : evA st.sl x = some (.rptr e sz i o)) (he : get st.own e = some (.deep sz rs hs))
    (hr : rs[i]? = some r) (hc : r[o]? = some (.sl m xs)) (hh : hole hs i o = some k) : QStep C st (.load1 x) (.osl k m 0 xs.length) := by
  intro op hfit ac w β S
  simp only [fits] at hfit
  split at hfit
  · rename_i t y ho
    simp only [Bool.and_eq_true] at hfit
    have h2 := AR_of_fitA S hfit.2 hx
    rw [AR] at h2
    obtain ⟨b, hb, h2⟩ := h2
    have hob := S.hr.own e _ he
    rw [hb] at hob
    obtain ⟨cc, ty, fr, h3, h4, h5, h6, h7⟩ := hob
    obtain ⟨u, h8, h9⟩ := (h6 i r hr).2 o _ hc
    rw [hh] at h9
    have hcell : w.cell? ⟨b, i * sz + o, none⟩ = some u := by unfold World.cell?; simp only [h3]; exact h8
    refine ⟨u, ?_, fun w' hw' => ?_⟩
    · rw [AR]
      obtain ⟨a, cap, g1, g2, g3⟩ := h9
      refine ⟨a, cap, g1, g2, g3.imp id ?_⟩
      rintro ⟨b', c', ty', fr', q1, q2, q3, q4⟩
      exact ⟨b', c', ty', fr', q1, by rw [q2, Nat.zero_mul], q3, by rw [Nat.zero_add]; exact q4⟩
    · simp only [execOp, ho, h2, Sem.run_bind, loadOne hfit.1 (hw'.cell hcell)]
      rfl
  · cases hfit
/-- What is behind the cells is let go: it reads on. -/
theorem wk_undeep (e : Nat) {sz : Nat} {rs : List (List D)} (he : get own e = some (.deep sz rs [])) (hz : ∀ r ∈ rs, r.all noNil = true) : Wk C ⟨sl, own⟩ ⟨sl, (e, .rows sz rs) :: own⟩ := by
  rintro a w ⟨β, S⟩
  let β' : Names := ⟨β.nm, fun k j => if k = e then none else β.hd k j⟩
  have hh : ∀ k j b, β'.hd k j = some b → β.hd k j = some b ∧ k ≠ e := fun k j b h => by
    change (if k = e then none else β.hd k j) = some b at h
    split at h
    · cases h
    · rename_i hne; exact ⟨h, hne⟩
  have hX : ∀ b, XH C.X β' b → XH C.X β b := fun b h => h.imp id (fun ⟨k, j, h⟩ => ⟨k, j, (hh k j b h).1⟩)
  have hok : ∀ b, okf C.X β b → okf C.X β' b := fun b h => ⟨fun hx => h.1 (hX b hx), h.2⟩
  have T : Tr C.X C.X (fun _ => false) β β' w w := ⟨⟨Nat.le_refl _, fun _ _ _ => rfl, fun b hb _ => hok b hb⟩, fun _ _ _ h => h, fun _ _ c ty fr _ _ h => ⟨c, ty, fr, h, rfl⟩⟩
  have hfree : ∀ j b, β.hd e j = some b → okf C.X β' b := fun j b hb => ⟨fun hx => by
    rcases hx with hx | ⟨k, j', hx⟩
    · exact S.hr.hX e j b hb hx
    · obtain ⟨q1, q2⟩ := hh k j' b hx
      exact q2 (S.hr.hinj k j' e j b q1 hb), fun k hk => S.hr.notX k b hk (.inr ⟨e, j, hb⟩)⟩
  refine ⟨β', { tsize := S.tsize, df := S.df, slots := fun t x hx => (S.slots t x hx).tr T, hr := ?_, mine := fun b h => S.mine b (h.imp id (fun ⟨k, j, h⟩ => ⟨k, j, (hh k j b h).1⟩)), stay := S.stay, fr := S.fr, xlt := S.xlt }⟩
  refine ⟨S.hr.inj, S.hr.lt, fun k b h hx => S.hr.notX k b h (hX b hx), fun k j b h => S.hr.hlt k j b (hh k j b h).1, fun k j k' j' b h h' => S.hr.hinj k j k' j' b (hh k j b h).1 (hh k' j' b h').1, fun k j b h => S.hr.hX k j b (hh k j b h).1, fun k ob hk => ?_⟩
  rw [get_cons] at hk
  split at hk
  · rename_i hke; subst hke; cases hk
    have hob := S.hr.own _ _ he
    show OBR _ _ _ _ (β e) _
    cases hb : β e with
    | none => rw [hb] at hob; exact hob.1
    | some b =>
      rw [hb] at hob
      obtain ⟨c, ty, fr, h1, h2, h3, h4, h5⟩ := hob
      refine ⟨c, ty, fr, h1, h2, h3, fun i r hi => ?_⟩
      obtain ⟨g1, g2⟩ := h4 i r hi
      refine ⟨g1, fun j x hj => ?_⟩
      obtain ⟨v, g3, g4⟩ := g2 j x hj
      exact ⟨v, g3, cellD_dr (fun j b hb => hfree j b hb) (S.hr.hlt e) (List.all_eq_true.1 (hz r (List.mem_of_getElem? hi)) x (List.mem_of_getElem? hj)) g4⟩
  · rename_i hne
    have := OBR.pg T (b := β k) (fun _ _ => rfl) (fun j b hb => ⟨by show (if k = e then none else β.hd k j) = some b; rw [if_neg (fun h => hne h.symm)]; exact hb, rfl⟩) (S.hr.own k ob hk)
    rwa [pgO_id _ (fun _ => rfl)] at this
/-- An own slice that stands in a cell is hidden behind it. -/
theorem wk_close (e k i j : Nat) {sz m : Nat} {rs xs ys : List (List D)} {row : List D} {hs : List (Nat × Nat × Nat)} (he : get own e = some (.deep sz rs ((i, j, k) :: hs))) (hk : get own k = some (.rows m ys)) (hr : rs[i]? = some row) (hj : row[j]? = some (.sl m xs)) (hl : ys.length = xs.length)
    (hf : ∀ r ∈ ys, r.all flatS = true) (hh : hole hs i j = none) (hks : hs.all (fun h => !Nat.beq k h.2.2) = true) (hn : Nat.ble (k + 1) 1000 = true) :
    Wk C ⟨sl, own⟩ ⟨dropR k sl, (e, .deep sz (rs.set i (row.set j (.sl m ys))) hs) :: dropO k (outO [k] own)⟩ := by
  rintro a w ⟨β, S⟩
  have hn := Nat.le_of_ble_eq_true hn
  have hke : k ≠ e := fun h => by subst h; rw [he] at hk; cases hk
  let β' : Names := ⟨fun n => if n = k then none else β n, fun e' j' => if e' = e then shN (β k) (β.hd e) j' else β.hd e' j'⟩
  have hnm : ∀ n, n ≠ k → β' n = β n := fun n h => by show (if n = k then none else β n) = _; rw [if_neg h]
  have hnb : ∀ n b, β' n = some b → β n = some b ∧ n ≠ k := fun n b h => by
    change (if n = k then none else β n) = some b at h
    split at h
    · cases h
    · rename_i hne; exact ⟨h, hne⟩
  have hhd : ∀ e' j' b, β'.hd e' j' = some b → (e' = e ∧ β k = some b) ∨ ∃ j2, β.hd e' j2 = some b := fun e' j' b h => by
    change (if e' = e then shN (β k) (β.hd e) j' else β.hd e' j') = some b at h
    split at h
    · rename_i q; subst q
      cases j' with
      | zero => exact .inl ⟨rfl, h⟩
      | succ j' => exact .inr ⟨j', h⟩
    · exact .inr ⟨j', h⟩
  have hup : ∀ j' b, β.hd e j' = some b → ∃ j2, β'.hd e j2 = some b := fun j' b h => ⟨j' + 1, by
    show (if e = e then shN (β k) (β.hd e) (j' + 1) else β.hd e (j' + 1)) = some b
    rw [if_pos rfl]; exact h⟩
  have hoth : ∀ e' j', e' ≠ e → β'.hd e' j' = β.hd e' j' := fun e' j' h => by
    show (if e' = e then shN (β k) (β.hd e) j' else β.hd e' j') = _
    rw [if_neg h]
  have hown : ∀ b, ownd β' b → ownd β b := fun b h => by
    rcases h with ⟨n, h⟩ | ⟨e', j', h⟩
    · exact .inl ⟨n, (hnb n b h).1⟩
    · rcases hhd e' j' b h with ⟨_, h⟩ | ⟨j2, h⟩
      · exact .inl ⟨k, h⟩
      · exact .inr ⟨e', j2, h⟩
  have hok : ∀ b, okf C.X β b → okf C.X β' b := fun b h => ⟨fun hx => by
    rcases hx with hx | ⟨e', j', hx⟩
    · exact h.1 (.inl hx)
    · rcases hhd e' j' b hx with ⟨_, hx⟩ | ⟨j2, hx⟩
      · exact h.2 k hx
      · exact h.1 (.inr ⟨e', j2, hx⟩), fun n hx => h.2 n (hnb n b hx).1⟩
  have T : Tr C.X C.X (Nat.beq k) β β' w w := ⟨⟨Nat.le_refl _, fun _ _ _ => rfl, fun b hb _ => hok b hb⟩, fun n b hp h => by
    rw [hnm n (fun q => by subst q; simp at hp)]; exact h, fun _ _ c ty fr _ _ h => ⟨c, ty, fr, h, rfl⟩⟩
  refine ⟨β', { tsize := S.tsize, df := S.df, slots := ?_, hr := ?_, mine := fun b h => S.mine b (hown b h), stay := fun n h1 h2 => by rw [hnm n (by omega)]; exact S.stay n h1 h2, fr := S.fr, xlt := S.xlt }⟩
  · intro t z hz
    rcases dropR_get k sl t z hz with rfl | h2
    · rw [AR]; trivial
    · rw [get_pgS, Option.map_eq_some_iff] at h2
      obtain ⟨z', h3, rfl⟩ := h2
      exact AR.pg T z' _ (S.slots t z' h3)
  · refine ⟨fun n n' b h h' => S.hr.inj n n' b (hnb n b h).1 (hnb n' b h').1, fun n b h => S.hr.lt n b (hnb n b h).1, fun n b h hx => ?_, fun e' j' b h => ?_, fun e1 j1 e2 j2 b h h' => ?_, fun e' j' b h => ?_, fun n ob hg => ?_⟩
    · obtain ⟨q1, q2⟩ := hnb n b h
      rcases hx with hx | ⟨e', j', hx⟩
      · exact S.hr.notX n b q1 (.inl hx)
      · rcases hhd e' j' b hx with ⟨_, hx⟩ | ⟨j2, hx⟩
        · exact q2 (S.hr.inj n k b q1 hx)
        · exact S.hr.notX n b q1 (.inr ⟨e', j2, hx⟩)
    · rcases hhd e' j' b h with ⟨_, h⟩ | ⟨j2, h⟩
      · exact S.hr.lt k b h
      · exact S.hr.hlt e' j2 b h
    · rcases hhd e1 j1 b h with ⟨q, h⟩ | ⟨j3, h⟩ <;> rcases hhd e2 j2 b h' with ⟨q', h'⟩ | ⟨j4, h'⟩
      · rw [q, q']
      · exact absurd (.inr ⟨e2, j4, h'⟩) (S.hr.notX k b h)
      · exact absurd (.inr ⟨e1, j3, h⟩) (S.hr.notX k b h')
      · exact S.hr.hinj e1 j3 e2 j4 b h h'
    · rcases hhd e' j' b h with ⟨_, h⟩ | ⟨j2, h⟩
      · exact fun hx => S.hr.notX k b h (.inl hx)
      · exact S.hr.hX e' j2 b h
    · rw [get_cons] at hg
      split at hg
      · rename_i hne; subst hne; cases hg
        have hob := S.hr.own _ _ he
        rw [hnm e (fun h => hke h.symm)]
        cases hb : β e with
        | none => rw [hb] at hob; have := hob.2; cases this
        | some b =>
          rw [hb] at hob
          obtain ⟨c, ty, fr, h1, h2, h3, h4, h5⟩ := hob
          have hi := (List.getElem?_eq_some_iff.1 hr).1
          have hjl := (List.getElem?_eq_some_iff.1 hj).1
          have hcell : ∀ {i' j' : Nat} {x : D} {v : Value}, (i', j') ≠ (i, j) → CellD β w e (hole ((i, j, k) :: hs) i' j') x v → CellD β' w e (hole hs i' j') x v := fun {i' j' x v} hne h => by
            rw [hole_cons, if_neg (fun h => hne (by rw [h.1, h.2]))] at h
            refine h.sub hup (fun k2 b2 hk2 hb2 => ?_)
            have h6 := hole_some hk2
            have h7 := List.all_eq_true.1 hks _ h6
            rw [hnm k2 (fun q => by subst q; simp at h7)]; exact hb2
          refine ⟨c, ty, fr, h1, h2, by rw [List.length_set]; exact h3, fun i' r hi' => ?_, ?_⟩
          · rw [List.getElem?_set] at hi'
            by_cases q : i = i'
            · subst q
              rw [if_pos rfl, if_pos hi] at hi'
              simp only [Option.some.injEq] at hi'
              subst hi'
              obtain ⟨g1, g2⟩ := h4 i row hr
              refine ⟨by rw [List.length_set]; exact g1, fun j' x hj' => ?_⟩
              rw [List.getElem?_set] at hj'
              by_cases q : j = j'
              · subst q
                rw [if_pos rfl, if_pos hjl] at hj'
                simp only [Option.some.injEq] at hj'
                subst hj'
                obtain ⟨v, g3, g4⟩ := g2 j _ hj
                rw [hole_cons, if_pos ⟨rfl, rfl⟩] at g4
                rw [hh]
                refine ⟨v, g3, ?_⟩
                obtain ⟨a', cap, p1, p2, p3⟩ := g4
                refine ⟨a', cap, by rw [hl]; exact p1, by omega, p3.imp id ?_⟩
                rintro ⟨b', c', ty', fr', p4, p5, p6, p7⟩
                have hobk := S.hr.own _ _ hk
                rw [p4] at hobk
                obtain ⟨c2, ty2, fr2, r1, r2, r3, r4⟩ := hobk
                rw [p6] at r1; cases r1
                refine ⟨0, b', c', ty', fr', ?_, p5, p6, r2, p7, fun t r hr' => ?_⟩
                · show (if e = e then shN (β k) (β.hd e) 0 else β.hd e 0) = some b'
                  rw [if_pos rfl]; exact p4
                · obtain ⟨s1, s2⟩ := r4 t r hr'
                  refine ⟨s1, fun t' x hx => ?_⟩
                  obtain ⟨v', s3, s4⟩ := s2 t' x hx
                  exact ⟨v', s3, flatS_dr (List.all_eq_true.1 (hf r (List.mem_of_getElem? hr')) x (List.mem_of_getElem? hx)) s4⟩
              · rw [if_neg q] at hj'
                obtain ⟨v, g3, g4⟩ := g2 j' x hj'
                exact ⟨v, g3, hcell (fun h => q (Prod.mk.inj h).2.symm) g4⟩
            · rw [if_neg q] at hi'
              obtain ⟨g1, g2⟩ := h4 i' r hi'
              refine ⟨g1, fun j' x hj' => ?_⟩
              obtain ⟨v, g3, g4⟩ := g2 j' x hj'
              exact ⟨v, g3, hcell (fun h => q (Prod.mk.inj h).1.symm) g4⟩
          · have back : ∀ i' j' n' z, cellAt (rs.set i (row.set j (.sl m ys))) i' j' = some (.sl n' z) → ∃ n2 z2, cellAt rs i' j' = some (.sl n2 z2) := fun i' j' n' z h => by
              unfold cellAt at h ⊢
              rw [List.getElem?_set] at h
              by_cases q : i = i'
              · subst q
                rw [if_pos rfl, if_pos hi] at h
                simp only at h
                rw [hr]
                simp only
                rw [List.getElem?_set] at h
                by_cases q : j = j'
                · subst q; exact ⟨m, xs, hj⟩
                · rw [if_neg q] at h; exact ⟨_, _, h⟩
              · rw [if_neg q] at h; exact ⟨_, _, h⟩
            intro i1 j1 i2 j2 n1 z1 n2 z2 c1 c2 hne
            obtain ⟨_, _, d1⟩ := back _ _ _ _ c1
            obtain ⟨_, _, d2⟩ := back _ _ _ _ c2
            exact h5 i1 j1 i2 j2 _ _ _ _ d1 d2 hne
      · rename_i hne
        rw [dropO_eq, get_pgOs, Option.map_eq_some_iff] at hg
        obtain ⟨q, hq, rfl⟩ := hg
        obtain ⟨h1, h2⟩ := outO_get hq
        rw [hnm n (fun h => h1 (by rw [h]; exact List.mem_cons_self))]
        exact OBR.pg T (fun _ _ => rfl) (fun j' b hb => ⟨by rw [hoth n j' (fun h => hne h.symm)]; exact hb, rfl⟩) (S.hr.own n q h2)
/-- What is behind a cell is opened under a name. -/
theorem wk_open (e n i j : Nat) {sz m : Nat} {rs xs : List (List D)} {row : List D} {hs : List (Nat × Nat × Nat)} (he : get own e = some (.deep sz rs hs)) (hr : rs[i]? = some row) (hj : row[j]? = some (.sl m xs)) (hh : hole hs i j = none)
    (hn : Nat.ble (n + 1) 1000 = true) (h1 : nrS n sl = true) (h2 : nrOs n own = true) (hne : Nat.beq n e = false) :
    Wk C ⟨sl, own⟩ ⟨sl, (n, .rows m xs) :: (e, .deep sz rs ((i, j, n) :: hs)) :: own⟩ := by
  rintro a w ⟨β, S⟩
  have hn := Nat.le_of_ble_eq_true hn
  have hen : e ≠ n := fun h => by subst h; simp at hne
  have hob := S.hr.own _ _ he
  cases hb : β e with
  | none => rw [hb] at hob; have := hob.1; subst this; cases hr
  | some b =>
  rw [hb] at hob
  obtain ⟨c, ty, fr, g1, g2, g3, g4, g5⟩ := hob
  obtain ⟨v, g6, g7⟩ := (g4 i row hr).2 j _ hj
  rw [hh] at g7
  obtain ⟨ad, cap, p1, p2, p3⟩ := g7
  -- the block that is opened, if there is one
  obtain ⟨ob0, hob0⟩ : ∃ ob0 : Option Nat, (ob0 = none ∧ cap = 0) ∨ (∃ b0 j0 c0 ty0 fr0, ob0 = some b0 ∧ cap ≠ 0 ∧ β.hd e j0 = some b0 ∧ ad = some ⟨b0, 0, none⟩ ∧ w.heap[b0]? = some (.cells c0 ty0 fr0) ∧ thawS m fr0 c0.size ∧ cap * m ≤ c0.size ∧ RowsF w m xs c0) := by
    by_cases hc : cap = 0
    · exact ⟨none, .inl ⟨rfl, hc⟩⟩
    · rcases p3 with p3 | ⟨j0, b0, c0, ty0, fr0, q1, q2, q3, q4, q5, q6⟩
      · exact absurd p3 hc
      · exact ⟨some b0, .inr ⟨b0, j0, c0, ty0, fr0, rfl, hc, q1, q2, q3, q4, q5, q6⟩⟩
  have hob1 : ∀ b0, ob0 = some b0 → ∃ j0, β.hd e j0 = some b0 := fun b0 h => by
    rcases hob0 with ⟨q, _⟩ | ⟨b1, j0, _, _, _, q, _, q1, _⟩
    · rw [q] at h; cases h
    · rw [q] at h; cases h; exact ⟨j0, q1⟩
  let β' : Names := ⟨fun k => if k = n then ob0 else β k, fun e' j' => if e' = e ∧ β.hd e' j' = ob0 then none else β.hd e' j'⟩
  have hnm : ∀ k, k ≠ n → β' k = β k := fun k h => by show (if k = n then ob0 else β k) = _; rw [if_neg h]
  have hnn : β' n = ob0 := by show (if n = n then ob0 else β n) = _; rw [if_pos rfl]
  have hnb : ∀ k b, β' k = some b → (k = n ∧ ob0 = some b) ∨ (k ≠ n ∧ β k = some b) := fun k b h => by
    change (if k = n then ob0 else β k) = some b at h
    split at h
    · rename_i q; exact .inl ⟨q, h⟩
    · rename_i q; exact .inr ⟨q, h⟩
  have hhd : ∀ e' j' b, β'.hd e' j' = some b → β.hd e' j' = some b ∧ ¬ (e' = e ∧ ob0 = some b) := fun e' j' b h => by
    change (if e' = e ∧ β.hd e' j' = ob0 then none else β.hd e' j') = some b at h
    split at h
    · cases h
    · rename_i q; exact ⟨h, fun hh => q ⟨hh.1, by rw [h, hh.2]⟩⟩
  have hoth : ∀ e' j', e' ≠ e → β'.hd e' j' = β.hd e' j' := fun e' j' h => by
    show (if e' = e ∧ β.hd e' j' = ob0 then none else β.hd e' j') = _
    rw [if_neg (fun q => h q.1)]
  have hkeep : ∀ j' b, β.hd e j' = some b → ob0 ≠ some b → β'.hd e j' = some b := fun j' b h hne => by
    show (if e = e ∧ β.hd e j' = ob0 then none else β.hd e j') = _
    rw [if_neg (fun q => hne (by rw [← q.2, h]))]; exact h
  have hok : ∀ b, okf C.X β b → okf C.X β' b := fun b h => ⟨fun hx => h.1 (hx.imp id (fun ⟨e', j', hx⟩ => ⟨e', j', (hhd e' j' b hx).1⟩)), fun k hx => by
    rcases hnb k b hx with ⟨_, hx⟩ | ⟨_, hx⟩
    · obtain ⟨j0, hj0⟩ := hob1 b hx
      exact h.1 (.inr ⟨e, j0, hj0⟩)
    · exact h.2 k hx⟩
  have T : Tr C.X C.X (Nat.beq n) β β' w w := ⟨⟨Nat.le_refl _, fun _ _ _ => rfl, fun b hb _ => hok b hb⟩, fun k b hp h => by
    rw [hnm k (fun q => by subst q; simp at hp)]; exact h, fun _ _ c ty fr _ _ h => ⟨c, ty, fr, h, rfl⟩⟩
  refine ⟨β', { tsize := S.tsize, df := S.df, slots := ?_, hr := ?_, mine := fun b h => S.mine b ?_, stay := fun k h1 h2 => by rw [hnm k (by omega)]; exact S.stay k h1 h2, fr := S.fr, xlt := S.xlt }⟩
  · intro t z hz
    have := AR.pg T z _ (S.slots t z hz)
    rwa [pg_nr n z (nrS_get h1 hz)] at this
  · refine ⟨fun k k' b h h' => ?_, fun k b h => ?_, fun k b h hx => ?_, fun e' j' b h => S.hr.hlt e' j' b (hhd e' j' b h).1, fun e1 j1 e2 j2 b h h' => S.hr.hinj e1 j1 e2 j2 b (hhd e1 j1 b h).1 (hhd e2 j2 b h').1, fun e' j' b h => S.hr.hX e' j' b (hhd e' j' b h).1, fun k ob hg => ?_⟩
    · rcases hnb k b h with ⟨q, h⟩ | ⟨q, h⟩ <;> rcases hnb k' b h' with ⟨q', h'⟩ | ⟨q', h'⟩
      · rw [q, q']
      · obtain ⟨j0, hj0⟩ := hob1 b h
        exact absurd (.inr ⟨e, j0, hj0⟩) (S.hr.notX k' b h')
      · obtain ⟨j0, hj0⟩ := hob1 b h'
        exact absurd (.inr ⟨e, j0, hj0⟩) (S.hr.notX k b h)
      · exact S.hr.inj k k' b h h'
    · rcases hnb k b h with ⟨_, h⟩ | ⟨_, h⟩
      · obtain ⟨j0, hj0⟩ := hob1 b h
        exact S.hr.hlt e j0 b hj0
      · exact S.hr.lt k b h
    · rcases hnb k b h with ⟨_, h⟩ | ⟨_, h⟩
      · obtain ⟨j0, hj0⟩ := hob1 b h
        rcases hx with hx | ⟨e', j', hx⟩
        · exact S.hr.hX e j0 b hj0 hx
        · obtain ⟨q1, q2⟩ := hhd e' j' b hx
          exact q2 ⟨S.hr.hinj e' j' e j0 b q1 hj0, h⟩
      · exact S.hr.notX k b h (hx.imp id (fun ⟨e', j', hx⟩ => ⟨e', j', (hhd e' j' b hx).1⟩))
    · rw [get_cons] at hg
      split at hg
      · rename_i hk; subst hk; cases hg
        rw [hnn]
        rcases hob0 with ⟨q, hc⟩ | ⟨b0, j0, c0, ty0, fr0, q, hc, q1, q2, q3, q4, q5, q6⟩
        · rw [q]; exact List.eq_nil_of_length_eq_zero (by omega)
        · rw [q]
          refine ⟨c0, ty0, fr0, q3, q4, Nat.le_trans (Nat.mul_le_mul_right _ p2) q5, fun t r ht => ?_⟩
          obtain ⟨s1, s2⟩ := q6 t r ht
          exact ⟨s1, fun t' x hx => by
            obtain ⟨v', s3, s4⟩ := s2 t' x hx
            exact ⟨v', s3, flat_any s4⟩⟩
      · rename_i hk
        rw [get_cons] at hg
        split at hg
        · rename_i hke; subst hke; cases hg
          rw [hnm e hen, hb]
          refine ⟨c, ty, fr, g1, g2, g3, fun i' r hi' => ?_, g5⟩
          obtain ⟨s1, s2⟩ := g4 i' r hi'
          refine ⟨s1, fun j' x hj' => ?_⟩
          obtain ⟨u, s3, s4⟩ := s2 j' x hj'
          refine ⟨u, s3, ?_⟩
          rw [hole_cons]
          by_cases q : i = i' ∧ j = j'
          · rw [if_pos q]
            obtain ⟨rfl, rfl⟩ := q
            rw [hr] at hi'; cases hi'
            rw [hj] at hj'; cases hj'
            rw [g6] at s3; cases s3
            refine ⟨ad, cap, p1, p2, ?_⟩
            rcases hob0 with ⟨_, hc⟩ | ⟨b0, j0, c0, ty0, fr0, q, hc, q1, q2, q3, q4, q5, q6⟩
            · exact .inl hc
            · exact .inr ⟨b0, c0, ty0, fr0, by rw [hnn, q], q2, q3, q5⟩
          · rw [if_neg q]
            cases hq : hole hs i' j' with
            | some k2 =>
              rw [hq] at s4
              refine s4.some ?_
              have h6 := hole_some hq
              have h7 := nrOs_get h2 he
              rw [nrO] at h7
              have h8 := List.all_eq_true.1 h7 _ h6
              exact hnm k2 (fun q => by subst q; simp at h8)
            | none =>
              rw [hq] at s4
              cases x with
              | sl m2 xs2 =>
                obtain ⟨a2, cap2, r1, r2, r3⟩ := s4
                refine ⟨a2, cap2, r1, r2, ?_⟩
                by_cases hc2 : cap2 = 0
                · exact .inl hc2
                · rcases r3 with r3 | ⟨j2, b2, c2, ty2, fr2, t1, t2, t3⟩
                  · exact .inl r3
                  · refine .inr ⟨j2, b2, c2, ty2, fr2, hkeep j2 b2 t1 (fun hbb => ?_), t2, t3⟩
                    rcases hob0 with ⟨qq, _⟩ | ⟨b0, j0, c0, ty0, fr0, qq, hc, q1, q2, _⟩
                    · rw [qq] at hbb; cases hbb
                    · rw [qq] at hbb; cases hbb
                      have e1 : cellAt rs i j = some (.sl m xs) := by unfold cellAt; rw [hr]; exact hj
                      have e2 : cellAt rs i' j' = some (.sl m2 xs2) := by unfold cellAt; rw [hi']; exact hj'
                      rw [p1, q2] at g6
                      rw [r1, t2] at s3
                      exact g5 i j i' j' m xs m2 xs2 e1 e2 (fun h => q (by cases h; exact ⟨rfl, rfl⟩)) _ _ _ _ _ _ g6 s3 hc hc2 rfl
              | int _ _ => exact s4
              | bool _ => exact s4
              | str _ => exact s4
              | ip _ => exact s4
              | fn _ _ => exact s4
              | nilp => exact s4
        · rename_i hke
          rw [hnm k (fun h => hk h.symm)]
          have := OBR.pg T (b := β k) (fun _ _ => rfl) (fun j' b' hb' => ⟨by rw [hoth k j' (fun h => hke h.symm)]; exact hb', rfl⟩) (S.hr.own k ob hg)
          rwa [pgO_nr n ob (nrOs_get h2 hg)] at this
  · rcases h with ⟨k, h⟩ | ⟨e', j', h⟩
    · rcases hnb k b h with ⟨_, h⟩ | ⟨_, h⟩
      · obtain ⟨j0, hj0⟩ := hob1 b h
        exact .inr ⟨e, j0, hj0⟩
      · exact .inl ⟨k, h⟩
    · exact .inr ⟨e', j', (hhd e' j' b h).1⟩
end
end Go.AM

namespace Go.AM
set_option linter.unusedVariables false
theorem set_same {α : Type} {l : List α} {k : Nat} {r : α} (h : l[k]? = some r) : l.set k r = l := by
  obtain ⟨h1, rfl⟩ := List.getElem?_eq_some_iff.1 h
  exact List.set_getElem_self h1
theorem mid_get {α : Type} {pre tl : List α} {r : α} {k : Nat} (h : pre.length = k) : (pre ++ r :: tl)[k]? = some r := by
  subst h; rw [List.getElem?_append_right (Nat.le_refl _), Nat.sub_self]; rfl
theorem mid_set {α : Type} {pre tl : List α} {r r' : α} {k : Nat} (h : pre.length = k) : (pre ++ r :: tl).set k r' = pre ++ r' :: tl := by
  subst h; rw [List.set_append_right _ _ (Nat.le_refl _), Nat.sub_self]; rfl
theorem nn_map {α : Type} {row : α → List D} (h : ∀ x, (row x).all noNil = true) {xs : List α} : ∀ r ∈ xs.map row, r.all noNil = true := by
  intro r hr
  obtain ⟨x, _, rfl⟩ := List.mem_map.1 hr
  exact h x
theorem flat_map {α : Type} {row : α → List D} (h : ∀ x, (row x).all flatS = true) {xs : List α} : ∀ r ∈ xs.map row, r.all flatS = true := by
  intro r hr
  obtain ⟨x, _, rfl⟩ := List.mem_map.1 hr
  exact h x
theorem fillAt2 {α : Type} {xs : List α} {row : α → List D} {z : List D} {k : Nat} (h : k < xs.length) : ((xs.take (k + 1)).map row ++ List.replicate (xs.length - (k + 1)) z)[k]? = some (row xs[k]) := by
  rw [List.getElem?_append_left (by simp; omega), List.getElem?_map, List.getElem?_take, if_pos (by omega), List.getElem?_eq_getElem h]; rfl
theorem mid_set1 {α : Type} {pre tl : List α} {r r' : α} {k : Nat} (h : pre.length = k) : (pre ++ r :: tl).set k r' = (pre ++ [r']) ++ tl := by
  rw [mid_set h, List.append_assoc]; rfl
section
variable {C : Cx} {sl : List (Nat × AV)} {own : List (Nat × OB)}
/-- A cell of a row is written. -/
theorem e_strDf {e sz i o : Nat} {x y : XA} {c : D} {rs rs' : List (List D)} {row : List D} (hx : evA sl x = some (.rptr e sz i o)) (he : get own e = some (.deep sz rs []))
    (hy : evA sl y = some (.d c)) (hc : cellsA (.d c) = some [.d c]) (hf : flatS c = true) (hr : rs[i]? = some row) (hl : Nat.ble (o + 1) sz = true) (hrs : rs.set i (setL row o [c]) = rs') :
    EStep C ⟨sl, own⟩ none (.store 1 x y) ⟨sl, (e, .deep sz rs' []) :: own⟩ := by
  have := e_strD (C := C) hx he hy hc (ds := [c]) (ks := []) (.flat (.flat hf) .nil) (by simp) rfl hr hl
  rwa [hrs] at this
/-- A row is written. -/
theorem e_strDr {n e sz i o : Nat} {x y : XA} {v : AV} {rs rs' : List (List D)} {row : List D} {cs : List AV} {ds : List D} {ks : List (Nat × Nat)} (hx : evA sl x = some (.rptr e sz i o)) (he : get own e = some (.deep sz rs []))
    (hy : evA sl y = some v) (hc : cellsA v = some cs) (hds : DCL own o cs ds ks) (hd : (ks.map Prod.snd).Nodup) (hn : Nat.beq ds.length n = true) (hr : rs[i]? = some row) (hl : Nat.ble (o + n) sz = true) (hrs : rs.set i (setL row o ds) = rs') :
    EStep C ⟨sl, own⟩ none (.store n x y) ⟨sl, (e, .deep sz rs' (holesAt i ks)) :: own⟩ := by
  have := e_strD (C := C) hx he hy hc hds hd hn hr hl
  rwa [hrs] at this
theorem wk_closeE (e k i j : Nat) {sz m : Nat} {rs rs' xs ys : List (List D)} {row : List D} {hs : List (Nat × Nat × Nat)} (he : get own e = some (.deep sz rs ((i, j, k) :: hs))) (hk : get own k = some (.rows m ys)) (hr : rs[i]? = some row) (hj : row[j]? = some (.sl m xs)) (hl : ys.length = xs.length)
    (hf : ∀ r ∈ ys, r.all flatS = true) (hh : hole hs i j = none) (hks : hs.all (fun h => !Nat.beq k h.2.2) = true) (hn : Nat.ble (k + 1) 1000 = true) (hrs : rs.set i (row.set j (.sl m ys)) = rs') :
    Wk C ⟨sl, own⟩ ⟨dropR k sl, (e, .deep sz rs' hs) :: dropO k (outO [k] own)⟩ := by
  rw [← hrs]
  exact wk_close e k i j he hk hr hj hl hf hh hks hn
end
end Go.AM

namespace Go.AM
set_option linter.unusedVariables false
section
variable {X : Nat → Prop} {β β' : Names} {w w' : World} {own : List (Nat × OB)}
theorem nodup_snd : ∀ {l : List (Nat × Nat)}, (l.map Prod.snd).Nodup → ∀ {a b c : Nat}, (a, c) ∈ l → (b, c) ∈ l → a = b
  | [], _, a, b, c, h, _ => by cases h
  | p :: l, hn, a, b, c, ha, hb => by
    rw [List.map_cons, List.nodup_cons] at hn
    rcases List.mem_cons.1 ha with ha | ha <;> rcases List.mem_cons.1 hb with hb | hb
    · have := ha.trans hb.symm; exact (Prod.mk.inj this).1
    · exact absurd (List.mem_map.2 ⟨(b, c), hb, by rw [← ha]⟩) hn.1
    · exact absurd (List.mem_map.2 ⟨(a, c), ha, by rw [← hb]⟩) hn.1
    · exact nodup_snd hn.2 ha hb
/-- What may be laid into a row, in a later world. -/
theorem DC.cell' (hs : w.heap.size ≤ w'.heap.size) (hnm : ∀ k m ys, get own k = some (.rows m ys) → β' k = β k ∧ ∀ b, β k = some b → w'.heap[b]? = w.heap[b]?)
    {e : Nat} {x : AV} {y : D} {q : Option Nat} (h : DC own x y q) {v : Value} (hA : AR X β w x v) : CellD β' w' e q y v ∧ v.oneCell' = true ∧ ∀ m ys, y = .sl m ys → ∀ ad l k, v = .slice (some ad) l k → k ≠ 0 → ∃ nm, q = some nm ∧ β nm = some ad.block := by
  cases h with
  | flat hf =>
    rw [AR] at hA
    exact ⟨(cellD_flat hf).2 (flatS_dr hf hA), (DR_one hA).2, fun m ys h => by subst h; cases hf⟩
  | zs n =>
    rw [AR] at hA
    obtain ⟨a, rfl⟩ := hA
    exact ⟨⟨a, 0, rfl, Nat.le_refl _, .inl rfl⟩, rfl, fun m ys _ ad l k h hk => by cases h; exact absurd rfl hk⟩
  | own hk hl =>
    rename_i k n len xs
    rw [AR] at hA
    obtain ⟨a, cap, rfl, h2, h3⟩ := hA
    obtain ⟨g1, g2⟩ := hnm k n xs hk
    refine ⟨⟨a, cap, by rw [hl], by omega, h3.imp id ?_⟩, rfl, fun m ys _ ad l k' h hk' => ?_⟩
    · rintro ⟨b', c, ty, fr, q1, q2, q3, q4⟩
      exact ⟨b', c, ty, fr, by rw [g1]; exact q1, by rw [q2, Nat.zero_mul], by rw [g2 b' q1]; exact q3, by simpa using q4⟩
    · cases h
      rcases h3 with h3 | ⟨b', c, ty, fr, q1, q2, q3, q4⟩
      · exact absurd h3 hk'
      · cases q2; exact ⟨k, rfl, q1⟩
theorem deep_app (H : HR X β own w) {e sz len : Nat} {rs : List (List D)} {cs : List AV} {ds : List D} {ks : List (Nat × Nat)} {vs : List Value} {c c' : Array Value} (hsz : w.heap.size ≤ w'.heap.size)
    (hhid : ∀ j k, β.hd e j = some k → β'.hd e j = some k ∧ w'.heap[k]? = w.heap[k]?)
    (hnm : ∀ k m ys, get own k = some (.rows m ys) → β' k = β k ∧ ∀ b, β k = some b → w'.heap[b]? = w.heap[b]?)
    (hR : RowsD β w e sz rs [] c) (hA : Apart sz rs c) (hlen : len ≤ rs.length) (hal : AL X β w cs vs) (hds : DCL own 0 cs ds ks) (hnd : (ks.map Prod.snd).Nodup) (hn : ds.length = sz)
    (hc1 : ∀ p, p < len * sz → c'[p]? = c[p]?) (hc2 : ∀ t, t < sz → c'[len * sz + t]? = vs[t]?) :
    RowsD β' w' e sz (rs.take len ++ [ds]) (holesAt len ks) c' ∧ Apart sz (rs.take len ++ [ds]) c' := by
  have hlt : (rs.take len).length = len := by rw [List.length_take]; omega
  have hold : ∀ {x : D} {v : Value}, CellD β w e none x v → CellD β' w' e none x v := fun {x v} h =>
    h.pg hsz hhid (fun k b h => by cases h) (fun k b c ty fr h => by cases h)
  have hnew : ∀ t y, ds[t]? = some y → ∃ v, vs[t]? = some v ∧ CellD β' w' e (hole (holesAt len ks) len t) y v ∧ v.oneCell' = true ∧ ∀ m ys, y = .sl m ys → ∀ ad l k, v = .slice (some ad) l k → k ≠ 0 → ∃ nm, hole (holesAt len ks) len t = some nm ∧ β nm = some ad.block := by
    intro t y ht
    obtain ⟨x, q1, q2⟩ := hds.at (i := len) t y ht
    rw [Nat.zero_add] at q2
    obtain ⟨v, q3, q4⟩ := AL_get hal t x q1
    obtain ⟨p1, p2, p3⟩ := DC.cell' (β' := β') (w' := w') (e := e) hsz hnm q2 q4
    exact ⟨v, q3, p1, p2, p3⟩
  have rowAt : ∀ k r, (rs.take len ++ [ds])[k]? = some r → (k < len ∧ rs[k]? = some r) ∨ (k = len ∧ r = ds) := by
    intro k r h
    rcases Nat.lt_trichotomy k len with q | q | q
    · rw [List.getElem?_append_left (by omega), List.getElem?_take, if_pos q] at h
      exact .inl ⟨q, h⟩
    · subst q
      rw [List.getElem?_append_right (by omega), hlt, Nat.sub_self] at h
      exact .inr ⟨rfl, (Option.some.inj h).symm⟩
    · rw [List.getElem?_eq_none (by simp; omega)] at h; cases h
  have small : ∀ {k j : Nat}, k < len → j < sz → k * sz + j < len * sz := by
    intro k j hk hj
    have : (k + 1) * sz ≤ len * sz := Nat.mul_le_mul_right _ hk
    rw [Nat.succ_mul] at this; omega
  refine ⟨fun k r hk => ?_, ?_⟩
  · rcases rowAt k r hk with ⟨q, hk⟩ | ⟨rfl, rfl⟩
    · obtain ⟨h1, h2⟩ := hR k r hk
      refine ⟨h1, fun j x hj => ?_⟩
      obtain ⟨u, hu, hxu⟩ := h2 j x hj
      have hjs : j < sz := by have := (List.getElem?_eq_some_iff.1 hj).1; omega
      rw [hole_row (by omega)]
      exact ⟨u, by rw [hc1 _ (small q hjs)]; exact hu, hold hxu⟩
    · refine ⟨hn, fun j x hj => ?_⟩
      have hjs : j < sz := by have := (List.getElem?_eq_some_iff.1 hj).1; omega
      obtain ⟨v, q1, q2, _⟩ := hnew j x hj
      exact ⟨v, by rw [hc2 j hjs]; exact q1, q2⟩
  · have lead : ∀ k j m ys, cellAt (rs.take len ++ [ds]) k j = some (.sl m ys) → ∀ ad l kk, c'[k * sz + j]? = some (.slice (some ad) l kk) → kk ≠ 0 →
        (cellAt rs k j = some (.sl m ys) ∧ c[k * sz + j]? = some (.slice (some ad) l kk) ∧ ∃ jj, β.hd e jj = some ad.block) ∨
        (k = len ∧ ∃ nm, hole (holesAt len ks) len j = some nm ∧ β nm = some ad.block) := by
      intro k j m ys hcl ad l kk hcv hkk
      unfold cellAt at hcl
      cases hrk : (rs.take len ++ [ds])[k]? with
      | none => rw [hrk] at hcl; cases hcl
      | some r =>
        rw [hrk] at hcl
        simp only at hcl
        rcases rowAt k r hrk with ⟨q, hk⟩ | ⟨rfl, rfl⟩
        · left
          obtain ⟨h1, h2⟩ := hR k r hk
          have hjs : j < sz := by have := (List.getElem?_eq_some_iff.1 hcl).1; omega
          rw [hc1 _ (small q hjs)] at hcv
          refine ⟨by unfold cellAt; rw [hk]; exact hcl, hcv, ?_⟩
          obtain ⟨u, hu, hxu⟩ := h2 j _ hcl
          rw [hu] at hcv; cases hcv
          obtain ⟨a', cap, g1, g2, g3⟩ := hxu
          cases g1
          rcases g3 with g3 | ⟨jj, b', c', ty', fr', g4, g5, _⟩
          · exact absurd g3 hkk
          · cases g5; exact ⟨jj, g4⟩
        · right
          have hjs : j < sz := by have := (List.getElem?_eq_some_iff.1 hcl).1; omega
          rw [hc2 j hjs] at hcv
          obtain ⟨v, q1, _, _, q4⟩ := hnew j _ hcl
          rw [q1] at hcv; cases hcv
          obtain ⟨nm, g1, g2⟩ := q4 m ys rfl ad l kk rfl hkk
          exact ⟨rfl, nm, g1, g2⟩
    intro k1 j1 k2 j2 m1 y1 m2 y2 c1 c2 hne a1 l1 q1 a2 l2 q2 v1 v2 z1 z2 hbl
    rcases lead k1 j1 m1 y1 c1 a1 l1 q1 v1 z1 with ⟨p1, p2, jj1, p3⟩ | ⟨p1, nm1, p3, p4⟩ <;> rcases lead k2 j2 m2 y2 c2 a2 l2 q2 v2 z2 with ⟨r1, r2, jj2, r3⟩ | ⟨r1, nm2, r3, r4⟩
    · exact hA k1 j1 k2 j2 m1 y1 m2 y2 p1 r1 hne a1 l1 q1 a2 l2 q2 p2 r2 z1 z2 hbl
    · exact H.notX nm2 _ r4 (.inr ⟨e, jj1, by rw [← hbl]; exact p3⟩)
    · exact H.notX nm1 _ p4 (.inr ⟨e, jj2, by rw [hbl]; exact r3⟩)
    · subst p1 r1
      have hnm : nm1 = nm2 := H.inj nm1 nm2 _ p4 (by rw [hbl]; exact r4)
      subst hnm
      have e1 := hole_some p3
      have e2 := hole_some r3
      simp only [holesAt, List.mem_map, Prod.mk.injEq] at e1 e2
      obtain ⟨⟨x1, x2⟩, g1, _, rfl, rfl⟩ := e1
      obtain ⟨⟨y1, y2⟩, g2, _, rfl, hy2⟩ := e2
      simp only at hy2 hne
      subst hy2
      exact hne (by rw [nodup_snd hnd g1 g2])
end
section
variable {C : Cx} {sl : List (Nat × AV)} {own : List (Nat × OB)}
/-- A literal of one row: its cells. -/
theorem e_bsliceC {d sz : Nat} {x : XA} {v : AV} {cs : List AV} (hx : evA sl x = some v) (hc : cellsA v = some cs) (hn : Nat.beq cs.length sz = true) (h3s : nrL d cs = true) (hd' : d < 1000) (h1 : nrS d sl = true) (h2 : nrOs d own = true) :
    EStep C ⟨sl, own⟩ (some d) (.bslice sz [x]) ⟨(d, .osl d sz 0 1) :: sl, (d, .box cs) :: own⟩ := by
  have hn := Nat.eq_of_beq_eq_true hn
  intro o ho hd hf a w β S
  have hd := hd _ rfl
  simp only [fits] at hf
  split at hf
  · rename_i t len ps hop
    simp only [Bool.and_eq_true, decide_eq_true_eq] at hf
    obtain ⟨⟨⟨⟨h3, h4⟩, h5⟩, h6⟩, h7⟩ := hf
    have h4 := Nat.eq_of_beq_eq_true h4
    subst h4
    have h7 := Nat.le_of_ble_eq_true h7
    split at h3
    · rename_i e he
      simp only [Bool.and_eq_true] at h3
      obtain ⟨h8, h9⟩ := h3
      split at h9
      · rename_i ti hti
        obtain ⟨z, hz⟩ := Option.isSome_iff_exists.1 h9
        have hzv : (zeroValue e).run C.P w = .ok z w := by simp [zeroValue, typeInfo, hti, hz]
        have main : ∀ zc : Array Value, ∃ us : List Value, Instr.fill (fun i => some (i * sz, sz)) ((Array.range ([x].length * sz)).map (zc[· % zc.size]!)) (ps.map fun x => (x.1, a.eval x.2)).toList = some us.toArray ∧ us.length = [x].length * sz ∧ AL C.X β w cs us := by
          intro zc
          rw [Array.toList_map]
          generalize hsuf : ((Array.range ([x].length * sz)).map (zc[· % zc.size]!)) = suf
          have hs : suf.size = sz := by rw [← hsuf]; simp
          generalize ps.toList = l at h5 ⊢
          match l, h5 with
          | [], h5 => simp [fitSeq] at h5
          | (i, op) :: [], h5 =>
            simp only [fitSeq, Bool.and_eq_true] at h5
            obtain ⟨⟨g1, g2⟩, _⟩ := h5
            have g1 := Nat.eq_of_beq_eq_true g1
            subst g1
            have h6 := cellsA_AL hc (AR_of_fitA S g2 hx)
            have h8 : (a.eval op).cells.toList.length = sz := by rw [AL_len h6, hn]
            refine ⟨(a.eval op).cells.toList, ?_, by simp [h8], h6⟩
            rw [List.map_cons, Instr.fill]
            simp only
            have hsz : (a.eval op).cells.size = sz := by rw [← h8]; simp
            rw [if_neg (by simp [hsz, hs])]
            have e2 : ((a.eval op).cells.zipIdx.foldl (fun (cs : Array Value) (x : Value × Nat) => cs.setIfInBounds (0 * sz + x.2) x.1) suf) = (a.eval op).cells.toList.toArray := by
              apply Array.ext'
              rw [← Array.foldl_toList, Array.toList_zipIdx]
              have := foldl_set (0 * sz) (a.eval op).cells.toList 0 suf
              rw [Nat.add_zero] at this
              rw [this]
              simp only [Nat.zero_mul]
              have := setL_mid [] suf.toList [] (a.eval op).cells.toList (by simp [hs, hsz])
              simpa using this
            have e3 : ((a.eval op).cells.zipIdx.foldl (fun (cs : Array Value) (c, j) => cs.setIfInBounds (0 * sz + j) c) suf) = (a.eval op).cells.toList.toArray := e2
            rw [e3]
            rfl
          | _ :: _ :: _, h5 => simp [fitSeq] at h5
        have fin : ∀ us : List Value, us.length = [x].length * sz → AL C.X β w cs us →
            SatB C ⟨(d, .osl d sz 0 1) :: sl, (d, .box cs) :: own⟩ (a.put (some d) (.slice (some ⟨w.heap.size, 0, none⟩) [x].length [x].length)) { w with heap := w.heap.push (.cells us.toArray e) } (setN β d (some w.heap.size)) := by
          intro us q1 q2
          refine (S.alloc' hd' h1 h2 (box_new cs us.toArray e (by simpa using q2) h3s)).put hd ?_
          rw [AR]
          refine ⟨some ⟨w.heap.size, 0, none⟩, 1, rfl, by omega, ?_⟩
          exact .inr ⟨w.heap.size, us.toArray, e, (0, 0), by simp [setN_nm], by simp, heap_push_new, by simp [q1]⟩
        have hz1 : (sizeOf e).run C.P w = .ok sz w := szIs_some h8 w
        have e1 : (ps.map fun x : Nat × Operand => match x with | (i, x) => (i, a.eval x)) = ps.map fun x => (x.1, a.eval x.2) := rfl
        by_cases hlen : [x].length * sz = 0
        · obtain ⟨us, q1, q2, q3⟩ := main #[]
          refine ⟨_, _, _, ?_, .inr ⟨_, rfl, fin us q2 q3⟩⟩
          simp only [execOp, hop, Instr.buildSlice, Sem.run_bind, run_underlying (sliceOf_some he), Result.andThen_ok, hz1]
          rw [if_neg (by omega)]
          simp only [hlen, if_true, Sem.run_pure, Sem.run_bind, Result.andThen_ok]
          rw [e1]
          rw [hlen] at q1
          rw [q1]
          simp [newRow, newObj, Sem.run]
        · obtain ⟨us, q1, q2, q3⟩ := main z.cells
          refine ⟨_, _, _, ?_, .inr ⟨_, rfl, fin us q2 q3⟩⟩
          simp only [execOp, hop, Instr.buildSlice, Sem.run_bind, run_underlying (sliceOf_some he), Result.andThen_ok, hz1]
          rw [if_neg (by omega)]
          simp only [hlen, if_false, Sem.run_pure, Sem.run_bind, Result.andThen_ok, hzv]
          rw [e1, q1]
          simp [newRow, newObj, Sem.run]
      · cases h9
    · cases h3
  · cases hf
/-- A literal of one row of data of one cell each, or empty slices. -/
theorem e_bsliceE {d sz : Nat} {x : XA} {v : AV} {cs : List AV} {ds : List D} (hx : evA sl x = some v) (hc : cellsA v = some cs) (hds : DCL [] 0 cs ds []) (hn : Nat.beq cs.length sz = true) (hd' : d < 1000) (h1 : nrS d sl = true) (h2 : nrOs d own = true) :
    EStep C ⟨sl, own⟩ (some d) (.bslice sz [x]) ⟨(d, .osl d sz 0 1) :: sl, (d, .deep sz [ds] []) :: own⟩ := by
  have hn := Nat.eq_of_beq_eq_true hn
  intro o ho hd hf a w β S
  have hd := hd _ rfl
  simp only [fits] at hf
  split at hf
  · rename_i t len ps hop
    simp only [Bool.and_eq_true, decide_eq_true_eq] at hf
    obtain ⟨⟨⟨⟨h3, h4⟩, h5⟩, h6⟩, h7⟩ := hf
    have h4 := Nat.eq_of_beq_eq_true h4
    subst h4
    have h7 := Nat.le_of_ble_eq_true h7
    split at h3
    · rename_i e he
      simp only [Bool.and_eq_true] at h3
      obtain ⟨h8, h9⟩ := h3
      split at h9
      · rename_i ti hti
        obtain ⟨z, hz⟩ := Option.isSome_iff_exists.1 h9
        have hzv : (zeroValue e).run C.P w = .ok z w := by simp [zeroValue, typeInfo, hti, hz]
        have main : ∀ zc : Array Value, ∃ us : List Value, Instr.fill (fun i => some (i * sz, sz)) ((Array.range ([x].length * sz)).map (zc[· % zc.size]!)) (ps.map fun x => (x.1, a.eval x.2)).toList = some us.toArray ∧ us.length = [x].length * sz ∧ AL C.X β w cs us := by
          intro zc
          rw [Array.toList_map]
          generalize hsuf : ((Array.range ([x].length * sz)).map (zc[· % zc.size]!)) = suf
          have hs : suf.size = sz := by rw [← hsuf]; simp
          generalize ps.toList = l at h5 ⊢
          match l, h5 with
          | [], h5 => simp [fitSeq] at h5
          | (i, op) :: [], h5 =>
            simp only [fitSeq, Bool.and_eq_true] at h5
            obtain ⟨⟨g1, g2⟩, _⟩ := h5
            have g1 := Nat.eq_of_beq_eq_true g1
            subst g1
            have h6 := cellsA_AL hc (AR_of_fitA S g2 hx)
            have h8 : (a.eval op).cells.toList.length = sz := by rw [AL_len h6, hn]
            refine ⟨(a.eval op).cells.toList, ?_, by simp [h8], h6⟩
            rw [List.map_cons, Instr.fill]
            simp only
            have hsz : (a.eval op).cells.size = sz := by rw [← h8]; simp
            rw [if_neg (by simp [hsz, hs])]
            have e2 : ((a.eval op).cells.zipIdx.foldl (fun (cs : Array Value) (x : Value × Nat) => cs.setIfInBounds (0 * sz + x.2) x.1) suf) = (a.eval op).cells.toList.toArray := by
              apply Array.ext'
              rw [← Array.foldl_toList, Array.toList_zipIdx]
              have := foldl_set (0 * sz) (a.eval op).cells.toList 0 suf
              rw [Nat.add_zero] at this
              rw [this]
              simp only [Nat.zero_mul]
              have := setL_mid [] suf.toList [] (a.eval op).cells.toList (by simp [hs, hsz])
              simpa using this
            have e3 : ((a.eval op).cells.zipIdx.foldl (fun (cs : Array Value) (c, j) => cs.setIfInBounds (0 * sz + j) c) suf) = (a.eval op).cells.toList.toArray := e2
            rw [e3]
            rfl
          | _ :: _ :: _, h5 => simp [fitSeq] at h5
        have fin : ∀ us : List Value, us.length = [x].length * sz → AL C.X β w cs us →
            SatB C ⟨(d, .osl d sz 0 1) :: sl, (d, .deep sz [ds] []) :: own⟩ (a.put (some d) (.slice (some ⟨w.heap.size, 0, none⟩) [x].length [x].length)) { w with heap := w.heap.push (.cells us.toArray e) } (setN β d (some w.heap.size)) := by
          intro us q1 q2
          have H0 : HR C.X β [] w := ⟨S.hr.inj, S.hr.lt, S.hr.notX, S.hr.hlt, S.hr.hinj, S.hr.hX, fun e ob h => by simp [get] at h⟩
          have hRA := deep_app (e := d) (sz := sz) (len := 0) (rs := []) (c := #[]) (c' := us.toArray) (β' := setN β d (some w.heap.size)) (w' := { w with heap := w.heap.push (.cells us.toArray e) }) H0 (by simp)
            (fun j k hk => ⟨hk, heap_push (S.hr.hlt d j k hk)⟩) (fun k m ys hk => by simp [get] at hk) (fun i r hi => by simp at hi)
            (fun i j i' j' n xs n' xs' h1 => by unfold cellAt at h1; simp at h1) (Nat.le_refl _) q2 hds (by simp) (by rw [hds.len, hn]) (fun p hp => by omega) (fun t ht => by simp)
          refine (S.alloc' hd' h1 h2 (ob := .deep sz [ds] []) ⟨us.toArray, e, (0, 0), heap_push_new, thaws_none _ _, by simp [q1], hRA.1, hRA.2⟩).put hd ?_
          rw [AR]
          refine ⟨some ⟨w.heap.size, 0, none⟩, 1, rfl, by omega, ?_⟩
          exact .inr ⟨w.heap.size, us.toArray, e, (0, 0), by simp [setN_nm], by simp, heap_push_new, by simp [q1]⟩
        have hz1 : (sizeOf e).run C.P w = .ok sz w := szIs_some h8 w
        have e1 : (ps.map fun x : Nat × Operand => match x with | (i, x) => (i, a.eval x)) = ps.map fun x => (x.1, a.eval x.2) := rfl
        by_cases hlen : [x].length * sz = 0
        · obtain ⟨us, q1, q2, q3⟩ := main #[]
          refine ⟨_, _, _, ?_, .inr ⟨_, rfl, fin us q2 q3⟩⟩
          simp only [execOp, hop, Instr.buildSlice, Sem.run_bind, run_underlying (sliceOf_some he), Result.andThen_ok, hz1]
          rw [if_neg (by omega)]
          simp only [hlen, if_true, Sem.run_pure, Sem.run_bind, Result.andThen_ok]
          rw [e1]
          rw [hlen] at q1
          rw [q1]
          simp [newRow, newObj, Sem.run]
        · obtain ⟨us, q1, q2, q3⟩ := main z.cells
          refine ⟨_, _, _, ?_, .inr ⟨_, rfl, fin us q2 q3⟩⟩
          simp only [execOp, hop, Instr.buildSlice, Sem.run_bind, run_underlying (sliceOf_some he), Result.andThen_ok, hz1]
          rw [if_neg (by omega)]
          simp only [hlen, if_false, Sem.run_pure, Sem.run_bind, Result.andThen_ok, hzv]
          rw [e1, q1]
          simp [newRow, newObj, Sem.run]
      · cases h9
    · cases h3
  · cases hf
theorem src_box {st : St} {sz b0 : Nat} {cs : List AV} (hb : get st.own b0 = some (.box cs)) (hn : cs.length = sz) {a : Act} {w : World} {β : Names} {u : Value} (S : SatB C st a w β) (h : AR C.X β w (.osl b0 sz 0 1) u) :
    (∀ w', (Builtin.lenOf u).run C.P w' = .ok 1 w') ∧ ∃ vs : List Value, vs.length = 1 * sz ∧ AL C.X β w cs vs ∧ (∀ w', Ext w w' → ∀ n, n ≤ 1 → (Builtin.firstCells sz n u).run C.P w' = .ok (vs.take (n * sz)).toArray w') := by
  rw [AR] at h
  obtain ⟨ad, cap, rfl, h2, h3⟩ := h
  refine ⟨fun w' => rfl, ?_⟩
  rcases h3 with h3 | ⟨b, c, ty, fr, h4, rfl, h6, h7⟩
  · omega
  · have hob := S.hr.own b0 _ hb
    rw [h4] at hob
    obtain ⟨c', ty', fr', q1, q2, q3⟩ := hob
    rw [h6] at q1; cases q1
    have hl := AL_len q3
    refine ⟨c.toList, by omega, q3, fun w' hw' n hn' => ?_⟩
    have hr : w.rangeAt b (0 * sz) c.toList := fun j v hv => by
      rw [Nat.zero_mul, Nat.zero_add]
      simp [World.cell?, h6]; simpa using hv
    have hl2 : (c.toList.take (n * sz)).length = n * sz := by
      rw [List.length_take]
      refine Nat.min_eq_left ?_
      have : n * sz ≤ 1 * sz := Nat.mul_le_mul_right _ hn'
      omega
    have := loadCells_run (P := C.P) (rangeAt_ext hw' (rangeAt_take hr (n * sz)))
    rw [hl2] at this
    simp only [Builtin.firstCells, this]
theorem src_deep {st : St} {sz e len : Nat} {rs : List (List D)} {hs : List (Nat × Nat × Nat)} (he : get st.own e = some (.deep sz rs hs)) (hl : len ≤ rs.length) {a : Act} {w : World} {β : Names} {u : Value} (S : SatB C st a w β) (h : AR C.X β w (.osl e sz 0 len) u) :
    ∃ vs : List Value, vs.length = len * sz ∧ (∀ w', Ext w w' → (Builtin.firstCells sz len u).run C.P w' = .ok vs.toArray w') ∧ ∀ b c ty fr, β e = some b → w.heap[b]? = some (.cells c ty fr) → ∀ p, p < len * sz → vs[p]? = c[p]? := by
  rw [AR] at h
  obtain ⟨ad, cap, rfl, h2, h3⟩ := h
  rcases h3 with h3 | ⟨b, c, ty, fr, h4, rfl, h6, h7⟩
  · have : len = 0 := by omega
    subst this
    refine ⟨[], by simp, fun w' hw' => ?_, fun b c ty fr _ _ p hp => by omega⟩
    cases ad with
    | none => simp [Builtin.firstCells]
    | some x => simp [Builtin.firstCells, loadCells, loadCellsFrom]
  · have hob := S.hr.own e _ he
    rw [h4] at hob
    obtain ⟨c', ty', fr', q1, q2, q3, q4, q5⟩ := hob
    rw [h6] at q1; cases q1
    have hm : len * sz ≤ c.size := Nat.le_trans (Nat.mul_le_mul_right _ hl) q3
    have hl2 : (c.toList.take (len * sz)).length = len * sz := by simp; omega
    refine ⟨c.toList.take (len * sz), hl2, fun w' hw' => ?_, fun b' c' ty' fr' g1 g2 p hp => ?_⟩
    · have hr : w.rangeAt b (0 * sz) (c.toList.take (len * sz)) := fun j v hv => by
        rw [Nat.zero_mul, Nat.zero_add]
        rw [List.getElem?_take] at hv
        split at hv
        · simp [World.cell?, h6]; simpa using hv
        · cases hv
      have := loadCells_run (P := C.P) (rangeAt_ext hw' hr)
      rw [hl2] at this
      simp only [Builtin.firstCells, this]
    · rw [h4] at g1; cases g1
      rw [h6] at g2; cases g2
      rw [List.getElem?_take, if_pos hp]; simp
/-- A row whose cells are own slices is appended: these are then what is behind its cells. -/
theorem e_appD {d sz bytes e len n' b0 : Nat} {zs : List AM.K} {x y : XA} {rs rs' : List (List D)} {cs : List AV} {ds : List D} {ks : List (Nat × Nat)} (hx : evA sl x = some (.osl e sz 0 len)) (he : get own e = some (.deep sz rs [])) (hlen : len ≤ rs.length)
    (hy : evA sl y = some (.osl b0 sz 0 1)) (hb0 : get own b0 = some (.box cs)) (hn : Nat.beq cs.length sz = true) (hds : DCL own 0 cs ds ks) (hnd : (ks.map Prod.snd).Nodup) (hm : e < 1000 ∨ C.mv e = true) (hb : (2 * (len + 1) + 256) * bytes ≤ 2 ^ 48)
    (hn' : len + 1 = n') (hrs : rs.take len ++ [ds] = rs') :
    EStep C ⟨sl, own⟩ (some d) (.app sz bytes zs x y) ⟨(d, .osl e sz 0 n') :: dropR e sl, (e, .deep sz rs' (holesAt len ks)) :: dropO e own⟩ := by
  subst hrs
  subst hn'
  have hn := Nat.eq_of_beq_eq_true hn
  have hdl : ds.length = sz := by rw [hds.len, hn]
  intro o ho hd hf a w β S
  have hd := hd _ rfl
  obtain ⟨p, q, t, u, el, d2, hop, ht, hz, hby, hzero, hsz1, hb1, hu, hd2, hp, hq⟩ := app_fit hf
  have h1 := AR_of_fitA S hp hx
  have h2 := AR_of_fitA S hq hy
  obtain ⟨hln, vs, hvl, hal, hfc⟩ := src_box hb0 hn S h2
  obtain ⟨vs0, hvl0, hfc0, hvc0⟩ := src_deep he hlen S h1
  have hke : ∀ k m ys, get own k = some (.rows m ys) → k ≠ e := fun k m ys h q => by subst q; rw [he] at h; cases h
  have hones : ∀ v ∈ vs, v.oneCell' = true := by
    intro v hv
    obtain ⟨t, ht, rfl⟩ := List.mem_iff_getElem.1 hv
    have htd : t < ds.length := by omega
    obtain ⟨x, q1, q2⟩ := hds.at (i := 0) t _ (List.getElem?_eq_getElem htd)
    obtain ⟨v, q3, q4⟩ := AL_get hal t x q1
    rw [List.getElem?_eq_getElem ht] at q3
    cases q3
    exact (DC.cell' (β' := β) (w' := w) (e := e) (Nat.le_refl _) (fun _ _ _ _ => ⟨rfl, fun _ _ => rfl⟩) q2 q4).2.1
  have h1' := h1
  rw [AR] at h1
  obtain ⟨base, cap, h3, h4, h5⟩ := h1
  obtain ⟨ti, hti, htb⟩ := byIs_some hby
  have hres : ∀ (r : Value) (w' : World), (Builtin.append_ #[t, u] o.type #[a.eval p, a.eval q]).run C.P w = .ok r w' → (execOp a.eval o).run C.P w = .ok (.value r) w' := by
    intro r w' hr
    simp only [execOp, hop, resolve, List.map_toArray, List.map_cons, List.map_nil, Sem.run_bind, Sem.run_pure, Result.andThen_ok, invoke, builtin, hr]
  rw [h3] at hres
  by_cases hroom : len + 1 ≤ cap
  · rcases h5 with h5 | ⟨b, c, ty, fr, h6, h7, h8, h9⟩
    · omega
    · subst h7
      have hob0 := S.hr.own e _ he
      rw [h6] at hob0
      obtain ⟨c0, ty0, fr0, q1, q2, q3, q4, q5⟩ := hob0
      rw [h8] at q1; cases q1
      have hcap : cap * sz ≤ c.size := by simpa using h9
      have hm1 : (len + 1) * sz ≤ c.size := Nat.le_trans (Nat.mul_le_mul_right _ hroom) hcap
      rw [Nat.add_mul] at hm1
      have hst := storeCells_run (P := C.P) (o := len * sz) (vs := vs) h8 q2.1 (by rw [hvl]; exact hm1) hones
      obtain ⟨w1, w2, w3, w4, w5, w6⟩ := setCells_world b vs (len * sz) w
      have hrun := append_fits (sLen := len) (sCap := cap) (base := some ⟨b, 0 * sz, none⟩) ht hz hu hd2 (hln w) (by have := hfc w (Ext.refl w) 1 (Nat.le_refl _); rw [← hvl, List.take_length] at this; exact this) hroom
        (w' := w.setCells b (len * sz) vs) (by simp only [Nat.zero_mul, add_spot, Nat.zero_add]; exact hst) o.type
      refine ⟨_, _, β, hres _ _ hrun, .inr ⟨_, rfl, ?_⟩⟩
      have hcc : ∀ c' ty' fr', w.heap[b]? = some (.cells c' ty' fr') → ∃ c'' ty'' fr'', (w.setCells b (len * sz) vs).heap[b]? = some (.cells c'' ty'' fr'') ∧ c''.size = c'.size := fun c' ty' fr' h =>
        ⟨_, _, _, w6 c' ty' fr' h, by simp [setL_length]⟩
      have hq2 : ∀ p, (setL c.toList (len * sz) vs).toArray[p]? = if len * sz ≤ p ∧ p < len * sz + vs.length then vs[p - len * sz]? else c[p]? := by
        intro p
        have := setL_get vs c.toList (len * sz) p (by simp; omega)
        simpa using this
      have hRA := deep_app (β' := β) (w' := w.setCells b (len * sz) vs) (c' := (setL c.toList (len * sz) vs).toArray) S.hr (by rw [w4]; exact Nat.le_refl _)
        (fun j k hk => ⟨hk, w5 k (fun h => S.hr.notX e b h6 (.inr ⟨e, j, by rw [← h]; exact hk⟩))⟩)
        (fun k m ys hk => ⟨rfl, fun b' hb' => w5 b' (fun h => hke k m ys hk (S.hr.inj k e b (by rw [← h]; exact hb') h6))⟩)
        q4 q5 hlen hal hds hnd hdl (fun p hp => by rw [hq2, if_neg (by omega)]) (fun t ht => by rw [hq2, if_pos (by omega), show len * sz + t - len * sz = t from by omega])
      have hob : OBR C.X β (w.setCells b (len * sz) vs) (.deep sz (rs.take len ++ [ds]) (holesAt len ks)) (some b) e := by
        refine ⟨_, ty, fr, w6 c ty fr h8, by simpa [setL_length] using q2, ?_, hRA.1, hRA.2⟩
        simp only [List.length_append, List.length_take, Nat.min_eq_left hlen, List.length_singleton, List.size_toArray, setL_length, Array.length_toList, Nat.add_mul]
        omega
      have S1 := (S.purge (Nat.beq e)).drop
      rw [← dropO_eq] at S1
      have S2 := S1.store h6 ⟨w1, w2, w3⟩ w4 w5 hcc hob
      refine S2.put hd ?_
      rw [AR]
      exact ⟨_, cap, rfl, hroom, .inr ⟨b, _, ty, fr, h6, rfl, w6 c ty fr h8, by simp [setL_length]; exact hcap⟩⟩
  · have ho' : ∀ w', Ext w w' → (Builtin.firstCells sz len (.slice base len cap)).run C.P w' = .ok vs0.toArray w' := fun w' hw' => by
      have := hfc0 w' hw'
      rwa [h3] at this
    have hx' : ∀ w', Ext w w' → (Builtin.firstCells sz 1 (a.eval q)).run C.P w' = .ok vs.toArray w' := fun w' hw' => by
      have := hfc w' hw' 1 (Nat.le_refl _)
      rw [← hvl, List.take_length] at this
      exact this
    obtain ⟨z0, zv, hz1, hz2, hz3, hz4⟩ := zeroIs_some hzero
    rw [hti] at hz1; cases hz1
    have hbd : Builtin.nextslicecap (len + 1) cap * bytes ≤ 2 ^ 48 := Nat.le_trans (Nat.mul_le_mul_right _ (nextcap_le _ _ (by omega))) hb
    obtain ⟨newCap, w1, rest, c1, c2, c3, c4, c5⟩ := append_grows (sLen := len) (sCap := cap) (base := base) ht hz hti htb hb1 hz2 hu hd2 (hln w) hx' ho' hroom hbd o.type
    refine ⟨_, _, setN β e (some w1.heap.size), hres _ _ c5, .inr ⟨_, rfl, ?_⟩⟩
    have S1 := S.ext c2
    have hw1 : w1.heap.size = w.heap.size := by rw [c3]
    obtain ⟨rl, hrl1, hrl2⟩ := zeroCells_toList zv.cells (newCap - (len + 1))
    have hrest : old_rest vs0 vs rest = (vs0 ++ vs ++ rl).toArray := by unfold old_rest; rw [c4, hrl1]; simp
    have hzc : zv.cells.size = sz := by
      have e1 := szIs_some hz w
      have e2 : (sizeOf el).run C.P w = .ok ti.size w := by simp [sizeOf, typeInfo, hti]
      rw [e2] at e1; simp at e1
      have := AL_len (fitZ_AL (X := C.X) (β := β) (w := w) hz3)
      simp at this
      omega
    have hsz2 : (vs0 ++ vs ++ rl).length = newCap * sz := by
      simp only [List.length_append, hvl0, hvl, hrl2, hzc]
      rw [← Nat.add_mul, ← Nat.add_mul]
      congr 1; omega
    obtain ⟨c, hR, hA, hcv⟩ : ∃ c : Array Value, RowsD β w e sz rs [] c ∧ Apart sz rs c ∧ ∀ p, p < len * sz → vs0[p]? = c[p]? := by
      have hob0 := S.hr.own e _ he
      cases hbe : β e with
      | none =>
        rw [hbe] at hob0
        have := hob0.1
        subst this
        have hl0 : len = 0 := by simpa using hlen
        refine ⟨#[], fun i r hi => by simp at hi, fun i j i' j' n xs n' xs' h1 => ?_, fun p hp => by rw [hl0] at hp; omega⟩
        unfold cellAt at h1; simp at h1
      | some b =>
        rw [hbe] at hob0
        obtain ⟨c, ty, fr, q1, q2, q3, q4, q5⟩ := hob0
        exact ⟨c, q4, q5, fun p hp => hvc0 b c ty fr hbe q1 p hp⟩
    have hpush : ({ w1 with heap := w1.heap.push (.cells (vs0.toArray ++ vs.toArray ++ rest) el) } : World) = { w1 with heap := w1.heap.push (.cells (vs0 ++ vs ++ rl).toArray el) } := by
      have : vs0.toArray ++ vs.toArray ++ rest = (vs0 ++ vs ++ rl).toArray := hrest
      rw [this]
    have hsame : ∀ b, b < w.heap.size → ({ w1 with heap := w1.heap.push (.cells (vs0 ++ vs ++ rl).toArray el) } : World).heap[b]? = w.heap[b]? := fun b hb => by
      rw [heap_push (by omega)]; exact c2.same b hb
    have hRA := deep_app (β' := setN β e (some w1.heap.size)) (w' := { w1 with heap := w1.heap.push (.cells (vs0 ++ vs ++ rl).toArray el) }) (c' := (vs0 ++ vs ++ rl).toArray) S.hr (by simp; omega)
      (fun j k hk => ⟨hk, hsame k (S.hr.hlt e j k hk)⟩)
      (fun k m ys hk => ⟨by rw [setN_nm, if_neg (hke k m ys hk)], fun b' hb' => hsame b' (S.hr.lt k b' hb')⟩)
      hR hA hlen hal hds hnd hdl (fun p hp => by
        rw [← hcv p hp, List.getElem?_toArray, List.append_assoc, List.getElem?_append_left (by omega)]) (fun t ht => by
        rw [List.getElem?_toArray, List.append_assoc, List.getElem?_append_right (by omega), hvl0, show len * sz + t - len * sz = t from by omega, List.getElem?_append_left (by omega)])
    have hob : OBR C.X (setN β e (some w1.heap.size)) { w1 with heap := w1.heap.push (.cells (vs0 ++ vs ++ rl).toArray el) } (.deep sz (rs.take len ++ [ds]) (holesAt len ks)) (some w1.heap.size) e := by
      refine ⟨_, el, (0, 0), heap_push_new, thaws_none _ _, ?_, hRA.1, hRA.2⟩
      simp only [List.size_toArray, hsz2, List.length_append, List.length_take, Nat.min_eq_left hlen, List.length_singleton]
      exact Nat.mul_le_mul_right _ c1
    have S2 := (S1.alloc (d := e) hm hob).drop
    rw [← dropO_eq] at S2
    rw [hpush]
    refine S2.put hd ?_
    rw [AR]
    refine ⟨_, newCap, rfl, c1, .inr ⟨w1.heap.size, _, el, (0, 0), by simp [setN_nm], by simp [hw1], heap_push_new, ?_⟩⟩
    simp only [List.size_toArray, hsz2, Nat.zero_add]
    exact Nat.le_refl _
end
section
variable {C : Cx} {slm : List (Nat × AV)} {ownm : List (Nat × OB)}
theorem loc_bsliceC {d sz : Nat} {x : XA} {v : AV} {cs : List AV} (hx : evA slm x = some v) (hc : cellsA v = some cs) (hn : Nat.beq cs.length sz = true) (h3s : nrL d cs = true) : Loc C slm ownm (.op (some d) (.bslice sz [x])) ⟨d, .osl d sz 0 1, [(d, .box cs)]⟩ := by
  intro sl own h1 h2 hf
  obtain ⟨f1, f2, f3⟩ := freeN_one hf
  exact ax_e (e_bsliceC (evA_mono h1 hx) hc hn h3s f1 f2 f3) (ax_nil ⟨fun t y h => h, fun e ob h => h⟩)
end
theorem app_row1 {α : Type} {row : α → List D} {xs : List α} {y : α} {r : List D} (h : r = row y) : (xs.map row).take xs.length ++ [r] = (xs ++ [y]).map row := by
  rw [List.take_of_length_le (by simp), List.map_append, h]; rfl
theorem app_at1 {α : Type} {row : α → List D} {xs : List α} {y : α} : ((xs ++ [y]).map row)[xs.length]? = some (row y) := by
  rw [List.map_append, List.getElem?_append_right (by simp)]; simp
theorem hole_21 {i k : Nat} : hole [(i, 2, k)] i 1 = none := by rw [hole_cons, if_neg (fun h => by have := h.2; omega)]; rfl
end Go.AM

namespace Go.AM
structure Src where
  code : Str
  pos : Int
  seed : Int
abbrev Src.box (s : Src) : OB := .box [.d (.sl 1 (s.code.map byteRow)), int s.pos, int s.seed]
abbrev Src.h (e : Nat) (s : Src) : List (Nat × OB) := [(e, s.box)]
structure Src.ok (s : Src) (n : Nat) : Prop where
  pos : 0 ≤ s.pos ∧ s.pos + n ≤ 1000000000
  seed : 0 ≤ s.seed ∧ s.seed < 2147483648
  len : s.code.length ≤ 1048576
theorem Src.ok.mono {s : Src} {n m : Nat} (h : s.ok n) (hm : m ≤ n) : s.ok m := ⟨by have := h.pos; omega, h.seed, h.len⟩
end Go.AM

namespace Go.AM
def badCh (b : UInt8) : Bool := !inR (b.toNat : Int) 97 122
def isWord (s : Str) : Bool := !s.any badCh && decide ((s.length : Int) ≤ 10)
def valueOK (v : GValue) : Bool := if v.Kind = 0 then decide (v.N = 0) && decide (v.T = []) else if v.Kind = 1 then inR v.N (-1000000000) 1000000000 && decide (v.T = []) else decide (v.Kind = 2) && decide (v.N = 0) && isWord v.T
theorem valueOK_0 {v : GValue} (h : v.Kind = 0) : valueOK v = (decide (v.N = 0) && decide (v.T = [])) := by unfold valueOK; rw [if_pos h]
theorem valueOK_1 {v : GValue} (h : v.Kind = 1) : valueOK v = (inR v.N (-1000000000) 1000000000 && decide (v.T = [])) := by unfold valueOK; rw [if_neg (by omega), if_pos h]
theorem valueOK_2 {v : GValue} (h : ¬ v.Kind = 0) (h1 : ¬ v.Kind = 1) : valueOK v = (decide (v.Kind = 2) && decide (v.N = 0) && isWord v.T) := by unfold valueOK; rw [if_neg h, if_neg h1]
def rowOK (r : GRow) : Bool := (((inR r.Id 0 1000 && valueOK r.N) && valueOK r.Name) && !decide (r.N.Kind = 2)) && !decide (r.Name.Kind = 1)
end Go.AM

namespace Go.AM
def zeroV (v : GValue) : Bool := decide (v.Kind = 0) && (decide (v.N = 0) && (decide (v.T = []) && true))
def mxI (a b : Int) : Int := if b > a then b else a
theorem mxI_b {a b n : Int} (h1 : 0 ≤ a ∧ a ≤ n) (h2 : 0 ≤ b ∧ b ≤ n) : 0 ≤ mxI a b ∧ mxI a b ≤ n := by unfold mxI; split <;> omega
abbrev W3 := Int × Int × Bool
def nodeW (rec : Int → W3) (i : Int) (x : GExprNode) : W3 :=
  if x.Op = 1 then (i, 1, ((decide (x.A = 0) && decide (x.B = 0)) && decide (x.Column = 0)) && valueOK x.V)
  else if x.Op = 2 then (i, 1, ((decide (x.A = 0) && decide (x.B = 0)) && inR x.Column 0 2) && zeroV x.V)
  else if inR x.Op 3 5 = true then ((rec (i - 1)).1, (rec (i - 1)).2.1 + 1, ((((rec (i - 1)).2.2 && decide (x.A = i - 1)) && decide (x.B = 0)) && decide (x.Column = 0)) && zeroV x.V)
  else if inR x.Op 6 13 = true then
    (if (rec (i - 1)).2.2 = false then (0, 0, false)
     else ((rec ((rec (i - 1)).1 - 1)).1, mxI (rec ((rec (i - 1)).1 - 1)).2.1 (rec (i - 1)).2.1 + 1,
       ((((rec ((rec (i - 1)).1 - 1)).2.2 && decide (x.A = (rec (i - 1)).1 - 1)) && decide (x.B = i - 1)) && decide (x.Column = 0)) && zeroV x.V))
  else (0, 0, false)
def walkF (ns : List GExprNode) : Nat → Int → W3
  | 0, _ => (0, 0, false)
  | f + 1, i => if i < 0 then (0, 0, false) else match ns[i.toNat]? with
    | none => (0, 0, false)
    | some x => nodeW (walkF ns f) i x
section
variable {ns : List GExprNode} {f : Nat} {i : Int} {j : Nat} {x : GExprNode} {rec : Int → W3}
theorem nodeW_1 (h : x.Op = 1) : nodeW rec i x = (i, 1, ((decide (x.A = 0) && decide (x.B = 0)) && decide (x.Column = 0)) && valueOK x.V) := by unfold nodeW; rw [if_pos h]
theorem nodeW_3 (h : ¬ x.Op = 1) (h1 : ¬ x.Op = 2) (h2 : inR x.Op 3 5 = true) : nodeW rec i x = ((rec (i - 1)).1, (rec (i - 1)).2.1 + 1, ((((rec (i - 1)).2.2 && decide (x.A = i - 1)) && decide (x.B = 0)) && decide (x.Column = 0)) && zeroV x.V) := by
  unfold nodeW; rw [if_neg h, if_neg h1, if_pos h2]
theorem nodeW_5 (h : ¬ x.Op = 1) (h1 : ¬ x.Op = 2) (h2 : inR x.Op 3 5 = false) (h3 : inR x.Op 6 13 = true) (h4 : (rec (i - 1)).2.2 = true) : nodeW rec i x = ((rec ((rec (i - 1)).1 - 1)).1, mxI (rec ((rec (i - 1)).1 - 1)).2.1 (rec (i - 1)).2.1 + 1,
       ((((rec ((rec (i - 1)).1 - 1)).2.2 && decide (x.A = (rec (i - 1)).1 - 1)) && decide (x.B = i - 1)) && decide (x.Column = 0)) && zeroV x.V) := by
  unfold nodeW; rw [if_neg h, if_neg h1, if_neg (by rw [h2]; simp), if_pos h3, if_neg (by rw [h4]; simp)]
theorem walkF_neg (h : i < 0) : walkF ns f i = (0, 0, false) := by cases f with | zero => rfl | succ f => rw [walkF, if_pos h]
theorem walkF_at (h : j < ns.length) : walkF ns (f + 1) (j : Int) = nodeW (walkF ns f) j ns[j] := by
  rw [walkF, if_neg (by omega), show ((j : Int)).toNat = j from by omega, List.getElem?_eq_getElem h]
theorem nodeW_b {n : Int} (hi : 0 ≤ i) (h : ∀ k, 0 ≤ (rec k).1 ∧ ((rec k).1 ≤ k ∨ (rec k).1 = 0) ∧ 0 ≤ (rec k).2.1 ∧ (rec k).2.1 ≤ n) : 0 ≤ (nodeW rec i x).1 ∧ ((nodeW rec i x).1 ≤ i ∨ (nodeW rec i x).1 = 0) ∧ 0 ≤ (nodeW rec i x).2.1 ∧ (nodeW rec i x).2.1 ≤ n + 1 := by
  have a := h (i - 1)
  have b := h ((rec (i - 1)).1 - 1)
  have c := mxI_b (n := n) (a := (rec ((rec (i - 1)).1 - 1)).2.1) (b := (rec (i - 1)).2.1) ⟨b.2.2.1, b.2.2.2⟩ ⟨a.2.2.1, a.2.2.2⟩
  unfold nodeW
  split
  · dsimp only; omega
  · split
    · dsimp only; omega
    · split
      · dsimp only; omega
      · split
        · split
          · dsimp only; omega
          · dsimp only; omega
        · dsimp only; omega
theorem walkF_b : ∀ {f : Nat} {i : Int}, 0 ≤ (walkF ns f i).1 ∧ ((walkF ns f i).1 ≤ i ∨ (walkF ns f i).1 = 0) ∧ 0 ≤ (walkF ns f i).2.1 ∧ (walkF ns f i).2.1 ≤ f
  | 0, i => by simp [walkF]
  | f + 1, i => by
    rw [walkF]
    split
    · simp; omega
    · split
      · simp; omega
      · rename_i x _
        have := @nodeW_b i x (walkF ns f) f (by omega) (fun k => walkF_b)
        omega
end
def exprOK (e : GExpr) : Bool := if inR (e.Nodes.length : Int) 1 40 = false then false else
  ((walkF e.Nodes (e.Nodes.length + 1) ((e.Nodes.length : Int) - 1)).2.2 && decide ((walkF e.Nodes (e.Nodes.length + 1) ((e.Nodes.length : Int) - 1)).1 = 0)) && decide ((walkF e.Nodes (e.Nodes.length + 1) ((e.Nodes.length : Int) - 1)).2.1 ≤ 12)
theorem inR_iff {n lo hi : Int} : inR n lo hi = true ↔ lo ≤ n ∧ n ≤ hi := by unfold inR; simp
end Go.AM

namespace Go.AM
abbrev IDp := Int × Int
section
variable {ns : List GExprNode}
theorem nodeW_congr {r r' : Int → W3} {i : Int} {x : GExprNode} (h : ∀ k, k < i → r k = r' k) (hb : (r (i - 1)).1 ≤ i - 1 ∨ (r (i - 1)).1 = 0) (hi : 0 ≤ i) : nodeW r i x = nodeW r' i x := by
  unfold nodeW
  rw [← h (i - 1) (by omega), ← h ((r (i - 1)).1 - 1) (by omega)]
theorem walkF_fuel : ∀ {f f' : Nat} {i : Int}, i + 1 < f → i + 1 < f' → walkF ns f i = walkF ns f' i
  | 0, f', i, h1, h2 => by rw [walkF_neg (by omega), walkF_neg (by omega)]
  | f, 0, i, h1, h2 => by rw [walkF_neg (by omega), walkF_neg (by omega)]
  | f + 1, f' + 1, i, h1, h2 => by
    by_cases hi : i < 0
    · rw [walkF_neg hi, walkF_neg hi]
    · rw [walkF, walkF, if_neg hi, if_neg hi]
      split
      · rfl
      · exact nodeW_congr (fun k hk => walkF_fuel (by omega) (by omega)) walkF_b.2.1 (by omega)
/-- The walk, with enough steps. -/
def T (ns : List GExprNode) (i : Int) : W3 := walkF ns (i + 2).toNat i
theorem T_of {f : Nat} {i : Int} (h : i + 1 < f) (hi : -1 ≤ i) : walkF ns f i = T ns i := walkF_fuel h (by omega)
theorem T_neg {i : Int} (h : i < 0) : T ns i = (0, 0, false) := walkF_neg h
theorem T_at {j : Nat} (h : j < ns.length) : T ns j = nodeW (T ns) j ns[j] := by
  unfold T
  rw [show ((j : Int) + 2).toNat = (j + 1) + 1 from by omega, walkF_at h]
  refine nodeW_congr (fun k hk => ?_) walkF_b.2.1 (by omega)
  by_cases hk0 : k < 0
  · rw [walkF_neg hk0]; exact (T_neg hk0).symm
  · exact T_of (by omega) (by omega)
/-- What stands on the stack: trees side by side. -/
inductive Segs (ns : List GExprNode) : List IDp → Nat → Prop
  | nil : Segs ns [] 0
  | snoc {S : List IDp} {a i : Nat} {d : Int} : Segs ns S a → T ns i = ((a : Int), d, true) → Segs ns (S ++ [((i : Int), d)]) (i + 1)
theorem Segs.zero {S : List IDp} (h : Segs ns S 0) : S = [] := by cases h; rfl
theorem Segs.top {S : List IDp} {k : Nat} (h : Segs ns S (k + 1)) : ∃ S0 a d, S = S0 ++ [((k : Int), d)] ∧ Segs ns S0 a ∧ T ns k = ((a : Int), d, true) := by
  cases h with
  | snoc h1 h2 => exact ⟨_, _, _, rfl, h1, h2⟩
theorem Segs.none {k : Nat} (h : Segs ns [] k) : k = 0 := by
  cases k with
  | zero => rfl
  | succ k => obtain ⟨S0, a, d, e, _⟩ := h.top; exact absurd e (by simp)
end
end Go.AM

namespace Go.AM
section
variable {S : List IDp} {x : GExprNode}
end
section
variable {ns : List GExprNode} {S : List IDp} {k : Nat}
end
def noneE (e : GExpr) : Bool := decide ((e.Nodes.length : Int) = 0)
section
variable {s : GStmt} (h1 : inR s.Table 1 3 = true) (h2 : (noneE s.Where || exprOK s.Where) = true)
include h1 h2
end
end Go.AM

namespace Go.AM
structure RV (v : GValue) : Prop where
  k : v.Kind = 0 ∨ v.Kind = 1 ∨ v.Kind = 2
  z : v.Kind = 0 → v = .zero
  n : -1000000000 ≤ v.N ∧ v.N ≤ 1000000000
  t : v.Kind = 1 → v.T = []
  l : v.T.length ≤ 1048576
theorem RV.zero : RV .zero := ⟨.inl rfl, fun _ => rfl, by decide, fun h => rfl, Nat.zero_le _⟩
theorem RV.of {v : GValue} (h : valueOK v = true) : RV v := by
  by_cases h0 : v.Kind = 0
  · rw [valueOK_0 h0] at h
    simp only [Bool.and_eq_true, decide_eq_true_eq] at h
    have : v = .zero := GValue.eq_iff.2 ⟨h0, h.1, h.2⟩
    rw [this]; exact .zero
  · by_cases h1 : v.Kind = 1
    · rw [valueOK_1 h1] at h
      simp only [Bool.and_eq_true, decide_eq_true_eq, inR_iff] at h
      exact ⟨.inr (.inl h1), fun h => absurd h h0, h.1, fun _ => h.2, by rw [h.2]; exact Nat.zero_le _⟩
    · rw [valueOK_2 h0 h1] at h
      simp only [Bool.and_eq_true, decide_eq_true_eq] at h
      obtain ⟨⟨h2, h3⟩, h4⟩ := h
      unfold isWord at h4
      simp only [Bool.and_eq_true, decide_eq_true_eq] at h4
      refine ⟨.inr (.inr h2), fun h => absurd h h0, ?_, fun h => absurd h h1, by omega⟩
      show -1000000000 ≤ v.N ∧ v.N ≤ 1000000000
      omega
structure RR (r : GRow) : Prop where
  i : 0 ≤ r.Id ∧ r.Id ≤ 1000
  n : RV r.N
  m : RV r.Name
theorem RR.of {r : GRow} (h : rowOK r = true) : RR r := by
  unfold rowOK at h
  simp only [Bool.and_eq_true, inR_iff] at h
  exact ⟨h.1.1.1.1, .of h.1.1.1.2, .of h.1.1.2⟩
section
variable {ns : List GExprNode} {r : GRow} {f : Nat} {j : Nat}
end
theorem less_irr : ∀ (a : Str), Op.bytesLess a a = false
  | [] => rfl
  | a :: x => by rw [Op.bytesLess, less_irr x]; simp
section
variable {op a b n : Int}
end
end Go.AM

namespace Go.AM
section
variable {ns : List GExprNode} {f : Nat} {j : Nat} {b : Nat}
end
/-- A piece of code stands at a place. -/
def Seg (l : List GIns) (b : Nat) (c : List GIns) : Prop := ∃ pre post, l = pre ++ c ++ post ∧ pre.length = b
section
variable {l c c1 c2 : List GIns} {b : Nat} {x : GIns}
theorem Seg.app (h : Seg l b (c1 ++ c2)) : Seg l b c1 ∧ Seg l (b + c1.length) c2 := by
  obtain ⟨pre, post, e, hb⟩ := h
  exact ⟨⟨pre, c2 ++ post, by rw [e]; simp, hb⟩, ⟨pre ++ c1, post, by rw [e]; simp, by rw [List.length_append, hb]⟩⟩
theorem Seg.cons (h : Seg l b (x :: c)) : Seg l b [x] ∧ Seg l (b + 1) c := by
  have := Seg.app (c1 := [x]) (c2 := c) h
  simpa using this
theorem Seg.at (h : Seg l b [x]) : ∃ hb : b < l.length, l[b] = x := by
  obtain ⟨pre, post, e, hb⟩ := h
  have h2 : b < l.length := by rw [e, ← hb]; simp
  refine ⟨h2, ?_⟩
  have : l[b]? = some x := by rw [e, List.append_assoc, List.getElem?_append_right (by omega), hb, Nat.sub_self]; rfl
  rw [List.getElem?_eq_getElem h2] at this
  exact Option.some.inj this
theorem Seg.le (h : Seg l b c) : b + c.length ≤ l.length := by
  obtain ⟨pre, post, e, hb⟩ := h
  rw [e, ← hb]; simp
end
end Go.AM

namespace Go.AM
section
variable {s : Src} {out : List GExprNode} {d n : Nat}
end
theorem walkF_app {xs ys : List GExprNode} : ∀ {f : Nat} {i : Int}, i < xs.length → walkF (xs ++ ys) f i = walkF xs f i
  | 0, i, _ => rfl
  | f + 1, i, h => by
    rw [walkF, walkF]
    split
    · rfl
    · rename_i h0
      have e : (xs ++ ys)[i.toNat]? = xs[i.toNat]? := List.getElem?_append_left (by omega)
      rw [e]
      cases hx : xs[i.toNat]? with
      | none => rfl
      | some x =>
        dsimp only
        refine nodeW_congr (fun k hk => walkF_app (by omega)) (walkF_b (ns := xs ++ ys)).2.1 (by omega)
theorem T_app {xs ys : List GExprNode} {i : Int} (h : i < xs.length) : T (xs ++ ys) i = T xs i := walkF_app h
/-- The last node of a list heads a right part, from a place on, so deep at most. -/
def Wf (ns : List GExprNode) (a : Nat) (d : Nat) : Prop := ∃ dep : Int, 1 ≤ dep ∧ dep ≤ d ∧ T ns ((ns.length : Int) - 1) = ((a : Int), dep, true) ∧ a < ns.length
theorem last_at {ns : List GExprNode} {x : GExprNode} : T (ns ++ [x]) (((ns ++ [x]).length : Int) - 1) = nodeW (T (ns ++ [x])) (ns.length : Int) x := by
  have hj : ns.length < (ns ++ [x]).length := by simp
  rw [show (((ns ++ [x]).length : Int) - 1) = (ns.length : Int) from by simp, T_at hj]
  simp
theorem Wf.const {out : List GExprNode} {v : GValue} (hv : valueOK v = true) : Wf (out ++ [⟨1, 0, 0, 0, v⟩]) out.length 1 := by
  refine ⟨1, by omega, by omega, ?_, by simp⟩
  rw [last_at, nodeW_1 rfl]
  show ((out.length : Int), (1 : Int), ((decide ((0 : Int) = 0) && decide ((0 : Int) = 0)) && decide ((0 : Int) = 0)) && valueOK v) = _
  rw [hv]; rfl
theorem Wf.un {ns : List GExprNode} {a d : Nat} {op : Int} (h : Wf ns a d) (ho : 3 ≤ op ∧ op ≤ 5) : Wf (ns ++ [⟨op, (ns.length : Int) - 1, 0, 0, .zero⟩]) a (d + 1) := by
  obtain ⟨dep, h1, h2, h3, h4⟩ := h
  refine ⟨dep + 1, by omega, by omega, ?_, by simp; omega⟩
  rw [last_at, nodeW_3 (show ¬ op = 1 from by omega) (show ¬ op = 2 from by omega) (inR_iff.2 ho), T_app (by omega), h3]
  show ((a : Int), dep + 1, (((true && decide ((ns.length : Int) - 1 = (ns.length : Int) - 1)) && decide ((0 : Int) = 0)) && decide ((0 : Int) = 0)) && zeroV .zero) = _
  rw [decide_eq_true rfl]; rfl
theorem Wf.bin {ns ms : List GExprNode} {a d : Nat} {op : Int} (h : Wf ns a d) (hm : Wf ms ns.length d) (hp : ∃ e, ms = ns ++ e) (ho : 6 ≤ op ∧ op ≤ 13) : Wf (ms ++ [⟨op, (ns.length : Int) - 1, (ms.length : Int) - 1, 0, .zero⟩]) a (d + 1) := by
  obtain ⟨dep, h1, h2, h3, h4⟩ := h
  obtain ⟨dm, g1, g2, g3, g4⟩ := hm
  obtain ⟨e, rfl⟩ := hp
  have hr : inR op 3 5 = false := by
    cases hh : inR op 3 5 with
    | false => rfl
    | true => have := inR_iff.1 hh; omega
  have hmx := mxI_b (n := (d : Int)) (a := dep) (b := dm) ⟨by omega, h2⟩ ⟨by omega, g2⟩
  have hmx1 : 1 ≤ mxI dep dm := by unfold mxI; split <;> omega
  refine ⟨mxI dep dm + 1, by omega, by omega, ?_, by simp; omega⟩
  have e1 : T (ns ++ e ++ [⟨op, (ns.length : Int) - 1, ((ns ++ e).length : Int) - 1, 0, .zero⟩]) (((ns ++ e).length : Int) - 1) = (((ns.length : Nat) : Int), dm, true) := by rw [T_app (by omega)]; exact g3
  rw [last_at, nodeW_5 (show ¬ op = 1 from by omega) (show ¬ op = 2 from by omega) hr (inR_iff.2 ho) (by rw [e1]), e1]
  dsimp only
  have e2 : T (ns ++ e ++ [⟨op, (ns.length : Int) - 1, ((ns ++ e).length : Int) - 1, 0, .zero⟩]) ((ns.length : Int) - 1) = ((a : Int), dep, true) := by
    rw [List.append_assoc, T_app (by omega)]; exact h3
  rw [e2]
  dsimp only
  rw [decide_eq_true rfl, decide_eq_true rfl]; rfl
theorem Wf.mono {ns : List GExprNode} {a d d' : Nat} (h : Wf ns a d) (hd : d ≤ d') : Wf ns a d' := by
  obtain ⟨dep, h1, h2, h3, h4⟩ := h
  exact ⟨dep, h1, by omega, h3, h4⟩
end Go.AM

namespace Go.AM
theorem oslcE {e sz s s' l l' c c' : Nat} (hs : s = s') (hl : l = l') (hc : c = c') : AV.oslc e sz s l c = .oslc e sz s' l' c' := by rw [hs, hl, hc]
theorem u64N {n : Nat} (h : n ≤ 1000000000) : AV.d (.int .u64 (wr .u64 (n : Int))) = .d (.int .u64 n) := by
  have : wr .u64 (n : Int) = n := by
    unfold wr IntKind.wrap IntKind.signed IntKind.bits
    simp
    omega
  rw [this]
theorem i64N {n : Nat} (h : n ≤ 1000000000) : AV.d (.int .i64 (wr .i64 (n : Int))) = .d (.int .i64 n) := by rw [wr_ok (by omega) (by omega)]
theorem shrN {n : Nat} : AV.d (.int .u64 ((n : Int).fdiv (2 ^ (min (1 : Int).toNat IntKind.u64.bits)))) = .d (.int .u64 ((n / 2 : Nat) : Int)) := by
  have : (n : Int).fdiv (2 ^ (min (1 : Int).toNat IntKind.u64.bits)) = ((n / 2 : Nat) : Int) := by
    show (n : Int).fdiv (2 ^ 1) = _
    rw [Int.fdiv_eq_ediv_of_nonneg _ (by omega)]; omega
  rw [this]
section
variable {α : Type} {row : α → List D} {xs : List α} {x : α} {i : Nat}
def delA (xs : List α) (i : Nat) : List α := xs.take i ++ xs.drop (i + 1)
theorem delA_len (h : i < xs.length) : (delA xs i).length = xs.length - 1 := by unfold delA; simp; omega
theorem del_1 (h : i < xs.length) : (xs.map row).take i ++ ((xs.map row).drop (i + 1)).take (xs.length - (i + 1)) ++ (xs.map row).drop (i + (xs.length - (i + 1))) = (delA xs i).map row ++ (xs.map row).drop (xs.length - 1) := by
  rw [List.take_of_length_le (l := (xs.map row).drop (i + 1)) (by simp), show i + (xs.length - (i + 1)) = xs.length - 1 from by omega]
  unfold delA
  simp [List.map_take, List.map_drop]
end
theorem del_2 {α : Type} {row : α → List D} {xs : List α} {i k : Nat} {z : List D} (hi : i < xs.length) : ∃ more, ((delA xs i).map row ++ (xs.map row).drop (xs.length - 1)).take (xs.length - 1) ++ List.replicate 1 z ++ ((delA xs i).map row ++ (xs.map row).drop (xs.length - 1)).drop k = (delA xs i).map row ++ more := by
  have hl : ((delA xs i).map row).length = xs.length - 1 := by rw [List.length_map, delA_len hi]
  rw [List.take_left' hl, List.append_assoc]
  exact ⟨_, rfl⟩
end Go.AM

namespace Go.AM
def badAt (n : Nat) (p : GPending) : Bool := !inR p.At 0 ((n : Int) - 1) || decide (160 < (p.Data.length : Int))
def long160 (s : Str) : Bool := decide (160 < (s.length : Int))
def long64 (s : Str) : Bool := decide (65536 < (s.length : Int))
def badHead (d : GDisk) : Bool := ((!inR (d.Sectors.length : Int) 1 100 || decide (500 < (d.Cache.length : Int))) || decide (500 < (d.Keep.length : Int))) || (!d.Armed && decide (0 < (d.Keep.length : Int)))
def diskOK (d : GDisk) : Bool := !badHead d && (!d.Sectors.any long160 && !d.Cache.any (badAt d.Sectors.length))
section
variable {d : GDisk} {a : Int} {x : Str}
end
end Go.AM

namespace Go.AM
structure DOK (d : GDisk) : Prop where
  s0 : 1 ≤ d.Sectors.length
  s1 : d.Sectors.length ≤ 100
  c1 : d.Cache.length ≤ 500
  k1 : d.Keep.length ≤ 500
  ka : d.Armed = false → d.Keep = []
  st : ∀ t ∈ d.Sectors, t.length ≤ 160
  ct : ∀ p ∈ d.Cache, 0 ≤ p.At ∧ p.At < (d.Sectors.length : Int) ∧ p.Data.length ≤ 160
theorem DOK.ok {d : GDisk} (h : DOK d) : diskOK d = true := by
  have h0 := h.s0; have h1 := h.s1; have h2 := h.c1; have h3 := h.k1
  unfold diskOK
  have e1 : badHead d = false := by
    unfold badHead inR
    cases ha : d.Armed with
    | false => rw [h.ka ha]; simp; omega
    | true => simp; omega
  have e2 : d.Sectors.any long160 = false := by
    rw [List.any_eq_false]; intro t ht; have := h.st t ht; unfold long160; simp; omega
  have e3 : d.Cache.any (badAt d.Sectors.length) = false := by
    rw [List.any_eq_false]; intro p hp; have := h.ct p hp; unfold badAt inR; simp; omega
  rw [e1, e2, e3]; rfl
/-- A drawn disk, of at most 'm' writes. -/
structure DD (d : GDisk) (m : Nat) : Prop where
  ok : DOK d
  s9 : d.Sectors.length ≤ 9
  cm : d.Cache.length ≤ m
  km : d.Keep.length ≤ 11
theorem DD.w0 {d : GDisk} {m : Nat} (h : DD d m) : d.Sectors.length ≤ 1048576 := by have := h.s9; omega
theorem DD.w1 {d : GDisk} {m : Nat} (h : DD d m) (hm : m ≤ 100) : d.Cache.length ≤ 1048576 := by have := h.cm; omega
theorem DD.w2 {d : GDisk} {m : Nat} (h : DD d m) : d.Keep.length ≤ 1048576 := by have := h.km; omega
theorem DD.mono {d : GDisk} {m n : Nat} (h : DD d m) (hm : m ≤ n) : DD d n := ⟨h.ok, h.s9, Nat.le_trans h.cm hm, h.km⟩
end Go.AM

namespace Go.AM
/-- Who takes bytes. -/
structure Rd where
  rest : Str
  fail : Bool
abbrev Rd.box (r : Rd) : OB := .box [.d (.sl 1 (r.rest.map byteRow)), .d (.bool r.fail)]
end Go.AM

namespace Go.AM
structure PG (p : Page) : Prop where
  ln : p.slots.length = 4
  st : ∀ t ∈ p.slots, t.length ≤ 30
  ls : 0 ≤ p.lsn ∧ p.lsn ≤ 1000
theorem PG.ok {p : Page} (h : PG p) : pageOK p = true := by
  unfold pageOK
  have h1 : inR p.lsn 0 1000 = true := inR_iff.2 h.ls
  have h2 : p.slots.any (fun s => decide (30 < s.length)) = false := by
    rw [List.any_eq_false]; intro t ht; have := h.st t ht; simp; omega
  rw [h1, h2, h.ln]; rfl
theorem PG.w {p : Page} (h : PG p) : p.slots.length ≤ 1048576 := by have := h.ln; omega
section
variable {no : Int} {b : Str}
end
end Go.AM

namespace Go.AM
section
variable {α : Type}
variable {lt : α → α → Bool} {x : α} {l : List α}
end
theorem less_asym : ∀ {a b : Str}, Op.bytesLess a b = true → Op.bytesLess b a = false
  | _, [], h => by rw [Op.bytesLess] at h; cases h
  | [], b :: y, _ => by rw [Op.bytesLess]
  | a :: x, b :: y, h => by
    rw [Op.bytesLess] at h ⊢
    simp only [Bool.or_eq_true, decide_eq_true_eq, Bool.and_eq_true, beq_iff_eq, Bool.or_eq_false_iff, decide_eq_false_iff_not] at h ⊢
    rcases h with h | ⟨h, h1⟩
    · refine ⟨fun h2 => absurd (UInt8.lt_trans h h2) (UInt8.lt_irrefl _), ?_⟩
      cases hb : (b == a) with
      | false => rfl
      | true => rw [beq_iff_eq] at hb; subst hb; exact absurd h (UInt8.lt_irrefl _)
    · subst h; rw [less_asym h1]; exact ⟨UInt8.lt_irrefl _, by simp⟩
/-- Drawn rows. -/
structure RG (l : List GRow) (m : Int) : Prop where
  ln : (l.length : Int) ≤ m
  ok : ∀ r ∈ l, rowOK r = true
  up : ∀ i (h : i + 1 < l.length), l[i].Id < l[i + 1].Id
  id : ∀ r ∈ l, r.Id < m
theorem RG.app {l : List GRow} {m : Int} {r : GRow} (h : RG l m) (hr : rowOK r = true) (he : r.Id = m) : RG (l ++ [r]) (m + 1) := ⟨by simp; have := h.ln; omega, fun x hx => by
    rcases List.mem_append.1 hx with q | q
    · exact h.ok x q
    · rw [List.mem_singleton] at q; subst q; exact hr, fun i hi => by
    rw [List.length_append, List.length_singleton] at hi
    rcases Nat.lt_or_ge (i + 1) l.length with q | q
    · rw [List.getElem_append_left (by omega), List.getElem_append_left (by omega)]; exact h.up i q
    · have : i + 1 = l.length := by omega
      rw [List.getElem_append_left (by omega), List.getElem_append_right (by omega)]
      simp only [this, Nat.sub_self, List.getElem_singleton]
      have := h.id _ (List.getElem_mem (show i < l.length by omega)); omega, fun x hx => by
    rcases List.mem_append.1 hx with q | q
    · have := h.id x q; omega
    · rw [List.mem_singleton] at q; subst q; omega⟩
theorem RG.more {l : List GRow} {m : Int} (h : RG l m) : RG l (m + 1) := ⟨by have := h.ln; omega, h.ok, h.up, fun r hr => by have := h.id r hr; omega⟩
theorem RG.nil : RG [] 0 := ⟨by simp, fun _ h => (by cases h), fun i h => (by simp at h), fun _ h => (by cases h)⟩
end Go.AM

namespace Go.AM
structure TN (α : Type) where
  leaf : Bool
  keys : List α
  kids : List Nat
structure TG (α : Type) where
  root : Nat
  nodes : List (TN α)
structure LK (α : Type) where
  seen : List Bool
  keys : List α
  deep : Nat
def chunkN (left most : Nat) : Nat := if left ≤ most then left else if left = most + 1 then most - 1 else most
def lvF {α : Type} : Nat → List α → List (TN α) → List Nat → List α → Option (List (TN α) × List Nat × List α)
  | 0, ks, ns, lv, le => if ks.length = 0 ∧ ns.length ≤ 200 then some (ns, lv, le) else none
  | f + 1, ks, ns, lv, le => if ks.length = 0 then (if ns.length ≤ 200 then some (ns, lv, le) else none) else
      if ns.length ≤ 200 ∧ lv.length = le.length ∧ le.length ≤ 200 ∧ 0 < chunkN ks.length 4 ∧ chunkN ks.length 4 ≤ ks.length then
        lvF f (ks.drop (chunkN ks.length 4)) (ns ++ [⟨true, ks.take (chunkN ks.length 4), []⟩]) (lv ++ [ns.length]) (le ++ ks.take 1) else none
def upF {α : Type} : Nat → List Nat → List α → List (TN α) → List Nat → List α → Option (List (TN α) × List Nat × List α)
  | 0, lv, _, ns, ab, al => if lv.length = 0 ∧ ns.length ≤ 200 ∧ ab.length = al.length ∧ al.length ≤ 200 ∧ 0 < ab.length then some (ns, ab, al) else none
  | f + 1, lv, le, ns, ab, al => if lv.length = 0 then (if ns.length ≤ 200 ∧ ab.length = al.length ∧ al.length ≤ 200 ∧ 0 < ab.length then some (ns, ab, al) else none) else
      if ns.length ≤ 200 ∧ ab.length = al.length ∧ al.length ≤ 200 ∧ lv.length = le.length ∧ 0 < chunkN lv.length 5 ∧ chunkN lv.length 5 ≤ lv.length then
        upF f (lv.drop (chunkN lv.length 5)) (le.drop (chunkN lv.length 5)) (ns ++ [⟨false, (le.drop 1).take (chunkN lv.length 5 - 1), lv.take (chunkN lv.length 5)⟩]) (ab ++ [ns.length]) (al ++ le.take 1) else none
def topF {α : Type} : Nat → List (TN α) → List Nat → List α → Option (TG α)
  | 0, ns, lv, _ => if lv.length = 1 ∧ ns.length ≤ 200 then some ⟨lv.getD 0 0, ns⟩ else none
  | f + 1, ns, lv, le => if lv.length ≤ 1 then (if lv.length = 1 ∧ ns.length ≤ 200 then some ⟨lv.getD 0 0, ns⟩ else none) else
      if lv.length = le.length ∧ lv.length ≤ 200 then
        (match upF lv.length lv le ns [] [] with
        | none => none
        | some (ns', ab, al) => topF f ns' ab al) else none
def treeO {α : Type} (ks : List α) : Option (TG α) :=
  if ks.length = 0 then some ⟨0, [⟨true, [], []⟩]⟩ else
  match lvF ks.length ks [] [] [] with
  | none => none
  | some (ns, lv, le) => topF ks.length ns lv le
def treeT {α : Type} (ks : List α) : TG α := (treeO ks).getD ⟨0, []⟩
def kidsF {α : Type} [DecidableEq α] (rec : Nat → LK α → Option (LK α × Nat)) (keys : List α) : Nat → List Nat → LK α → Option (LK α)
  | _, [], st => some st
  | i, k :: ks, st => match rec k st with
    | none => none
    | some (st', b) => if 0 < i ∧ ¬ (b < st'.keys.length ∧ i - 1 < keys.length ∧ st'.keys[b]? = keys[i - 1]?) then none else kidsF rec keys (i + 1) ks st'
def nodeOK {α : Type} (n : TN α) (isRoot : Bool) (deep depth : Nat) : Bool :=
  bif n.leaf then decide (n.kids.length = 0 ∧ n.keys.length ≤ 4 ∧ (n.keys.length = 0 → isRoot = true) ∧ (deep = 0 ∨ deep = depth))
  else decide (n.keys.length ≤ 4 ∧ n.kids.length = n.keys.length + 1 ∧ 2 ≤ n.kids.length)
def tnodeF {α : Type} [DecidableEq α] (t : TG α) : Nat → Nat → Nat → Bool → LK α → Option (LK α × Nat)
  | 0, _, _, _, _ => none
  | f + 1, k, depth, isRoot, st =>
    match t.nodes[k]? with
    | none => none
    | some n =>
      if k < st.seen.length ∧ st.seen.getD k true = false ∧ nodeOK n isRoot st.deep depth = true ∧ st.keys.length ≤ 100 ∧ depth ≤ 100 then
        (bif n.leaf then some (⟨st.seen.set k true, st.keys ++ n.keys, depth⟩, st.keys.length)
        else (kidsF (fun k st => tnodeF t f k (depth + 1) false st) n.keys 0 n.kids ⟨st.seen.set k true, st.keys, st.deep⟩).map (fun s => (s, st.keys.length)))
      else none
def dpG {α : Type} (t : TG α) : Nat → Nat → Nat → Option Nat
  | 0, _, _ => none
  | f + 1, d, k => match t.nodes[k]? with
    | none => none
    | some n => bif n.leaf then some d else (match n.kids with
      | [] => none
      | j :: _ => if d ≤ 100 then dpG t f (d + 1) j else none)
def wkidsF {α : Type} [DecidableEq α] (rec : Nat → LK α → Option (LK α × Nat)) (keys : List α) : Nat → List Nat → Nat → LK α → Option (LK α × Nat)
  | _, [], d, st => some (st, d)
  | i, k :: ks, d, st => match rec k st with
    | none => none
    | some (st', e) => if 0 < i ∧ ¬ (e = d ∧ st.keys.length < st'.keys.length ∧ i - 1 < keys.length ∧ st'.keys[st.keys.length]? = keys[i - 1]?) then none else wkidsF rec keys (i + 1) ks e st'
def walkOK {α : Type} (n : TN α) (isRoot : Bool) : Bool :=
  bif n.leaf then decide (n.kids.length = 0 ∧ n.keys.length ≤ 4 ∧ (n.keys.length = 0 → isRoot = true))
  else decide (n.keys.length ≤ 4 ∧ n.kids.length = n.keys.length + 1 ∧ 2 ≤ n.kids.length)
def twalkF {α : Type} [DecidableEq α] (t : TG α) : Nat → Nat → LK α → Option (LK α × Nat)
  | 0, _, _ => none
  | f + 1, k, st =>
    match t.nodes[k]? with
    | none => none
    | some n =>
      if k < st.seen.length ∧ st.seen.getD k true = false ∧ walkOK n (Nat.beq k t.root) = true ∧ st.keys.length ≤ 100 then
        (bif n.leaf then some (⟨st.seen.set k true, st.keys ++ n.keys, st.deep⟩, 1)
        else (match wkidsF (fun k st => twalkF t f k st) n.keys 0 n.kids 0 ⟨st.seen.set k true, st.keys, st.deep⟩ with
          | none => none
          | some s => if s.2 ≤ 100 then some (s.1, s.2 + 1) else none))
      else none
def TN.map {α β : Type} (g : α → β) (n : TN α) : TN β := ⟨n.leaf, n.keys.map g, n.kids⟩
def TG.map {α β : Type} (g : α → β) (t : TG α) : TG β := ⟨t.root, t.nodes.map (TN.map g)⟩
def LK.map {α β : Type} (g : α → β) (t : LK α) : LK β := ⟨t.seen, t.keys.map g, t.deep⟩
theorem lvF_map {α β : Type} (g : α → β) : ∀ f ks ns lv le, lvF f (ks.map g) (ns.map (TN.map g)) lv (le.map g) = (lvF f ks ns lv le).map (fun p => (p.1.map (TN.map g), p.2.1, p.2.2.map g))
  | 0, ks, ns, lv, le => by
    unfold lvF; simp only [List.length_map]; split <;> rfl
  | f + 1, ks, ns, lv, le => by
    unfold lvF; simp only [List.length_map]
    split
    · split <;> rfl
    · split
      · rw [← lvF_map g f]; simp [List.map_take, List.map_drop, TN.map]
      · rfl
theorem upF_map {α β : Type} (g : α → β) : ∀ f lv le ns ab al, upF f lv (le.map g) (ns.map (TN.map g)) ab (al.map g) = (upF f lv le ns ab al).map (fun p => (p.1.map (TN.map g), p.2.1, p.2.2.map g))
  | 0, lv, le, ns, ab, al => by
    unfold upF; simp only [List.length_map]; split <;> rfl
  | f + 1, lv, le, ns, ab, al => by
    unfold upF; simp only [List.length_map]
    split
    · split <;> rfl
    · split
      · rw [← upF_map g f]; simp [List.map_take, List.map_drop, TN.map]
      · rfl
theorem topF_map {α β : Type} (g : α → β) : ∀ f ns lv le, topF f (ns.map (TN.map g)) lv (le.map g) = (topF f ns lv le).map (TG.map g)
  | 0, ns, lv, le => by
    unfold topF; simp only [List.length_map]; split <;> rfl
  | f + 1, ns, lv, le => by
    unfold topF; simp only [List.length_map]
    split
    · split <;> rfl
    · split
      · have := upF_map g lv.length lv le ns [] []
        simp only [List.map_nil] at this
        rw [this]
        cases upF lv.length lv le ns [] [] with
        | none => rfl
        | some p => exact topF_map g f _ _ _
      · rfl
theorem treeO_map {α β : Type} (g : α → β) (ks : List α) : treeO (ks.map g) = (treeO ks).map (TG.map g) := by
  unfold treeO; simp only [List.length_map]
  split
  · rfl
  · have := lvF_map g ks.length ks [] [] []
    simp only [List.map_nil] at this
    rw [this]
    cases lvF ks.length ks [] [] [] with
    | none => rfl
    | some p => exact topF_map g _ _ _ _
theorem treeT_map {α β : Type} (g : α → β) (ks : List α) : treeT (ks.map g) = (treeT ks).map g := by
  unfold treeT; rw [treeO_map]; cases treeO ks <;> rfl
theorem kidsF_map {α β : Type} [DecidableEq α] [DecidableEq β] (g : α → β) {rec : Nat → LK α → Option (LK α × Nat)} {rec' : Nat → LK β → Option (LK β × Nat)}
    (hr : ∀ k st st' b, rec k st = some (st', b) → rec' k (st.map g) = some (st'.map g, b)) {keys : List α} : ∀ i ks st st', kidsF rec keys i ks st = some st' → kidsF rec' (keys.map g) i ks (st.map g) = some (st'.map g)
  | i, [], st, st', h => by simp only [kidsF, Option.some.injEq] at h ⊢; rw [h]
  | i, k :: ks, st, st', h => by
    unfold kidsF at h ⊢
    cases hk : rec k st with
    | none => rw [hk] at h; cases h
    | some p =>
      obtain ⟨s, b⟩ := p
      rw [hk] at h; rw [hr _ _ _ _ hk]
      simp only at h ⊢
      split at h
      · cases h
      · rename_i hc
        rw [if_neg]
        · exact kidsF_map g hr _ _ _ _ h
        · rintro ⟨h1, h2⟩
          apply hc; refine ⟨h1, fun h3 => h2 ?_⟩
          simp only [LK.map, List.length_map, List.getElem?_map]
          exact ⟨h3.1, h3.2.1, by rw [h3.2.2]⟩
theorem nodeOK_map {α β : Type} (g : α → β) (n : TN α) (r : Bool) (d e : Nat) : nodeOK (n.map g) r d e = nodeOK n r d e := by unfold nodeOK TN.map; simp only [List.length_map]
theorem walkOK_map {α β : Type} (g : α → β) (n : TN α) (r : Bool) : walkOK (n.map g) r = walkOK n r := by unfold walkOK TN.map; simp only [List.length_map]
theorem tnodeF_map {α β : Type} [DecidableEq α] [DecidableEq β] (g : α → β) {t : TG α} : ∀ f k d r st st' b, tnodeF t f k d r st = some (st', b) → tnodeF (t.map g) f k d r (st.map g) = some (st'.map g, b)
  | 0, _, _, _, _, _, _, h => by cases h
  | f + 1, k, d, r, st, st', b, h => by
    unfold tnodeF at h ⊢
    simp only [TG.map, List.getElem?_map]
    cases hn : t.nodes[k]? with
    | none => rw [hn] at h; cases h
    | some n =>
      rw [hn] at h
      simp only [Option.map_some, LK.map, nodeOK_map, List.length_map] at h ⊢
      split at h
      · rename_i hc
        rw [if_pos hc]
        have hl : (n.map g).leaf = n.leaf := rfl
        rw [hl]
        cases hf : n.leaf with
        | true =>
          rw [hf] at h
          simp only [cond_true, Option.some.injEq, Prod.mk.injEq] at h ⊢
          obtain ⟨rfl, rfl⟩ := h
          exact ⟨by simp [TN.map], rfl⟩
        | false =>
          rw [hf] at h
          simp only [cond_false] at h ⊢
          cases hq : kidsF (fun k st => tnodeF t f k (d + 1) false st) n.keys 0 n.kids ⟨st.seen.set k true, st.keys, st.deep⟩ with
          | none => rw [hq] at h; cases h
          | some q =>
            rw [hq] at h
            simp only [Option.map_some, Option.some.injEq, Prod.mk.injEq] at h
            obtain ⟨rfl, rfl⟩ := h
            have := kidsF_map g (rec := fun k st => tnodeF t f k (d + 1) false st) (rec' := fun k st => tnodeF (t.map g) f k (d + 1) false st) (fun k st st' b h => tnodeF_map g f k (d + 1) false st st' b h) _ _ _ _ hq
            simp only [LK.map, TG.map] at this
            simp only [TN.map]
            rw [this]; rfl
      · cases h
theorem wkidsF_map {α β : Type} [DecidableEq α] [DecidableEq β] (g : α → β) {rec : Nat → LK α → Option (LK α × Nat)} {rec' : Nat → LK β → Option (LK β × Nat)}
    (hr : ∀ k st st' b, rec k st = some (st', b) → rec' k (st.map g) = some (st'.map g, b)) {keys : List α} : ∀ i ks d st st', wkidsF rec keys i ks d st = some st' → wkidsF rec' (keys.map g) i ks d (st.map g) = some (st'.1.map g, st'.2)
  | i, [], d, st, st', h => by simp only [wkidsF, Option.some.injEq] at h ⊢; rw [← h]
  | i, k :: ks, d, st, st', h => by
    unfold wkidsF at h ⊢
    cases hk : rec k st with
    | none => rw [hk] at h; cases h
    | some p =>
      obtain ⟨s, b⟩ := p
      rw [hk] at h; rw [hr _ _ _ _ hk]
      simp only at h ⊢
      split at h
      · cases h
      · rename_i hc
        rw [if_neg]
        · exact wkidsF_map g hr _ _ _ _ _ h
        · rintro ⟨h1, h2⟩
          apply hc; refine ⟨h1, fun h3 => h2 ?_⟩
          simp only [LK.map, List.length_map, List.getElem?_map]
          exact ⟨h3.1, h3.2.1, h3.2.2.1, by rw [h3.2.2.2]⟩
theorem twalkF_map {α β : Type} [DecidableEq α] [DecidableEq β] (g : α → β) {t : TG α} : ∀ f k st st' b, twalkF t f k st = some (st', b) → twalkF (t.map g) f k (st.map g) = some (st'.map g, b)
  | 0, _, _, _, _, h => by cases h
  | f + 1, k, st, st', b, h => by
    unfold twalkF at h ⊢
    simp only [TG.map, List.getElem?_map]
    cases hn : t.nodes[k]? with
    | none => rw [hn] at h; cases h
    | some n =>
      rw [hn] at h
      simp only [Option.map_some, LK.map, walkOK_map, List.length_map] at h ⊢
      split at h
      · rename_i hc
        rw [if_pos hc]
        have hl : (n.map g).leaf = n.leaf := rfl
        rw [hl]
        cases hf : n.leaf with
        | true =>
          rw [hf] at h
          simp only [cond_true, Option.some.injEq, Prod.mk.injEq] at h ⊢
          obtain ⟨rfl, rfl⟩ := h
          exact ⟨by simp [TN.map], rfl⟩
        | false =>
          rw [hf] at h
          simp only [cond_false] at h ⊢
          cases hq : wkidsF (fun k st => twalkF t f k st) n.keys 0 n.kids 0 ⟨st.seen.set k true, st.keys, st.deep⟩ with
          | none => rw [hq] at h; cases h
          | some q =>
            rw [hq] at h
            simp only at h
            split at h
            · rename_i hq2
              simp only [Option.some.injEq, Prod.mk.injEq] at h
              obtain ⟨rfl, rfl⟩ := h
              have := wkidsF_map g (rec := fun k st => twalkF t f k st) (rec' := fun k st => twalkF (t.map g) f k st) (fun k st st' b h => twalkF_map g f k st st' b h) _ _ _ _ _ hq
              simp only [LK.map, TG.map] at this
              simp only [TN.map]
              rw [this]
              simp only [if_pos hq2]
            · cases h
      · cases h
theorem dpG_map {α β : Type} (g : α → β) {t : TG α} : ∀ f d k, dpG (t.map g) f d k = dpG t f d k
  | 0, _, _ => rfl
  | f + 1, d, k => by
    unfold dpG
    simp only [TG.map, List.getElem?_map]
    cases t.nodes[k]? with
    | none => rfl
    | some n =>
      simp only [Option.map_some, TN.map]
      cases n.leaf with
      | true => rfl
      | false =>
        simp only [cond_false]
        cases n.kids with
        | nil => rfl
        | cons j js =>
          show (if d ≤ 100 then dpG (TG.map g t) f (d + 1) j else none) = if d ≤ 100 then dpG t f (d + 1) j else none
          rw [dpG_map g f]
def lkOK (n : Nat) : Bool :=
  let ks := List.range n
  match treeO ks with
  | none => false
  | some t => decide (t.root < t.nodes.length ∧ t.nodes.length ≤ 200) &&
    (match tnodeF t 6 t.root 1 true ⟨List.replicate t.nodes.length false, [], 0⟩ with
    | none => false
    | some (s, b) => decide (s.seen = List.replicate t.nodes.length true ∧ s.keys = ks ∧ b = 0)) &&
    (match twalkF t 6 t.root ⟨List.replicate t.nodes.length false, [], 0⟩ with
    | none => false
    | some (s, _) => decide (s.seen = List.replicate t.nodes.length true ∧ s.keys = ks)) &&
    (match dpG t 6 1 t.root with
    | none => false
    | some d => decide (1 ≤ d ∧ d ≤ 10 ∧ (d = 1 ∨ 2 ^ (d - 1) ≤ n)))
theorem looks_ok : ∀ n, n < 62 → lkOK n = true := by decide +kernel
def kAt {α : Type} (z : α) (ks : List α) (i : Nat) : α := ks.getD i z
theorem range_map {α : Type} (z : α) (ks : List α) : (List.range ks.length).map (kAt z ks) = ks := by
  apply List.ext_getElem?
  intro i
  rw [List.getElem?_map]
  by_cases h : i < ks.length
  · rw [List.getElem?_range h]; simp [kAt, h]
  · rw [List.getElem?_eq_none (by simpa using h), List.getElem?_eq_none (by simpa using h)]; rfl
structure LKD {α : Type} [DecidableEq α] (ks : List α) where
  tr : treeO ks = some (treeT ks)
  rt : (treeT ks).root < (treeT ks).nodes.length
  nd : (treeT ks).nodes.length ≤ 200
  lk : ∃ s, tnodeF (treeT ks) 6 (treeT ks).root 1 true ⟨List.replicate (treeT ks).nodes.length false, [], 0⟩ = some (s, 0) ∧ s.seen = List.replicate (treeT ks).nodes.length true ∧ s.keys = ks
  wk : ∃ s d, twalkF (treeT ks) 6 (treeT ks).root ⟨List.replicate (treeT ks).nodes.length false, [], 0⟩ = some (s, d) ∧ s.seen = List.replicate (treeT ks).nodes.length true ∧ s.keys = ks
  dp : ∃ d, dpG (treeT ks) 6 1 (treeT ks).root = some d ∧ 1 ≤ d ∧ d ≤ 10 ∧ (d = 1 ∨ 2 ^ (d - 1) ≤ ks.length)
theorem look_tree {α : Type} [DecidableEq α] (z : α) {ks : List α} (h : ks.length < 62) : LKD ks := by
  have hk := looks_ok ks.length h
  have hm := treeT_map (kAt z ks) (List.range ks.length)
  have hm' := treeO_map (kAt z ks) (List.range ks.length)
  rw [range_map] at hm hm'
  have hq := range_map z ks
  generalize kAt z ks = g at *
  unfold lkOK at hk
  simp only at hk
  cases ht : treeO (List.range ks.length) with
  | none => rw [ht] at hk; cases hk
  | some t =>
    rw [ht] at hk hm'
    simp only [Bool.and_eq_true, decide_eq_true_eq] at hk
    obtain ⟨⟨⟨⟨h1, h2⟩, h3⟩, h4⟩, h5⟩ := hk
    have e1 : treeT (List.range ks.length) = t := by unfold treeT; rw [ht]; rfl
    rw [e1] at hm
    have el : (t.map g).nodes.length = t.nodes.length := by simp [TG.map]
    refine ⟨?_, ?_, ?_, ?_, ?_, ?_⟩
    · rw [hm', hm]; rfl
    · rw [hm, el]; exact h1
    · rw [hm, el]; exact h2
    · cases hn : tnodeF t 6 t.root 1 true ⟨List.replicate t.nodes.length false, [], 0⟩ with
      | none => rw [hn] at h3; cases h3
      | some p =>
        obtain ⟨s, b⟩ := p
        rw [hn] at h3
        simp only [decide_eq_true_eq] at h3
        obtain ⟨a1, a2, rfl⟩ := h3
        have := tnodeF_map g _ _ _ _ _ _ _ hn
        rw [hm, el]
        exact ⟨_, this, a1, by show s.keys.map g = ks; rw [a2, hq]⟩
    · cases hn : twalkF t 6 t.root ⟨List.replicate t.nodes.length false, [], 0⟩ with
      | none => rw [hn] at h4; cases h4
      | some p =>
        obtain ⟨s, b⟩ := p
        rw [hn] at h4
        simp only [decide_eq_true_eq] at h4
        obtain ⟨a1, a2⟩ := h4
        have := twalkF_map g _ _ _ _ _ hn
        rw [hm, el]
        exact ⟨_, _, this, a1, by show s.keys.map g = ks; rw [a2, hq]⟩
    · cases hn : dpG t 6 1 t.root with
      | none => rw [hn] at h5; cases h5
      | some d =>
        rw [hn] at h5
        simp only [decide_eq_true_eq] at h5
        exact ⟨d, by rw [hm, dpG_map]; exact hn, h5.1, h5.2.1, h5.2.2⟩
end Go.AM

namespace Go.AM
theorem less_trans : ∀ {a b c : Str}, Op.bytesLess a b = true → Op.bytesLess b c = true → Op.bytesLess a c = true
  | _, [], _, h, _ => by rw [Op.bytesLess] at h; cases h
  | _, _ :: _, [], _, h => by rw [Op.bytesLess] at h; cases h
  | [], b :: y, c :: z, _, _ => by rw [Op.bytesLess]
  | a :: x, b :: y, c :: z, h1, h2 => by
    rw [Op.bytesLess] at h1 h2 ⊢
    simp only [Bool.or_eq_true, decide_eq_true_eq, Bool.and_eq_true, beq_iff_eq] at h1 h2 ⊢
    rcases h1 with h1 | ⟨rfl, h1⟩
    · rcases h2 with h2 | ⟨rfl, h2⟩
      · exact .inl (UInt8.lt_trans h1 h2)
      · exact .inl h1
    · rcases h2 with h2 | ⟨rfl, h2⟩
      · exact .inl h2
      · exact .inr ⟨rfl, less_trans h1 h2⟩
def Asc (l : List Str) : Prop := l.Pairwise (fun a b => Op.bytesLess a b = true)
theorem Asc.lt {l : List Str} (h : Asc l) {i j : Nat} (hij : i < j) (hj : j < l.length) : Op.bytesLess (l[i]'(by omega)) l[j] = true := List.pairwise_iff_getElem.1 h i j _ hj hij
theorem asc_ext : ∀ {l m : List Str}, Asc l → Asc m → (∀ x, x ∈ l ↔ x ∈ m) → l = m
  | [], [], _, _, _ => rfl
  | [], b :: m, _, _, h => absurd ((h b).2 List.mem_cons_self) (by simp)
  | a :: l, [], _, _, h => absurd ((h a).1 List.mem_cons_self) (by simp)
  | a :: l, b :: m, hl, hm, h => by
    have hl' := List.pairwise_cons.1 hl
    have hm' := List.pairwise_cons.1 hm
    have e : a = b := by
      have ha := (h a).1 List.mem_cons_self
      have hb := (h b).2 List.mem_cons_self
      rw [List.mem_cons] at ha hb
      rcases ha with ha | ha
      · exact ha
      · rcases hb with hb | hb
        · exact hb.symm
        · have h1 := hl'.1 b hb
          have h2 := hm'.1 a ha
          rw [less_asym h1] at h2; cases h2
    subst e
    congr 1
    refine asc_ext hl'.2 hm'.2 (fun x => ?_)
    have hx := h x
    rw [List.mem_cons, List.mem_cons] at hx
    constructor
    · intro hxl
      rcases hx.1 (.inr hxl) with rfl | h1
      · have := hl'.1 _ hxl; rw [less_irr] at this; cases this
      · exact h1
    · intro hxm
      rcases hx.2 (.inr hxm) with rfl | h1
      · have := hm'.1 _ hxm; rw [less_irr] at this; cases this
      · exact h1
theorem asc_filter {l : List Str} (h : Asc l) (p : Str → Bool) : Asc (l.filter p) := List.Pairwise.filter p h
theorem asc_sub {s l : List Str} (hs : Asc s) (hl : Asc l) (h : ∀ x ∈ s, x ∈ l) : s.length ≤ l.length := by
  have e : s = l.filter (fun x => decide (x ∈ s)) := asc_ext hs (asc_filter hl _) (fun x => by
    rw [List.mem_filter, decide_eq_true_eq]
    exact ⟨fun hx => ⟨h x hx, hx⟩, fun hx => hx.2⟩)
  rw [e]; exact List.length_filter_le _ _
def posS (l : List Str) (k : Str) : Nat := (l.takeWhile (fun x => Op.bytesLess x k)).length
theorem posS_le {l : List Str} {k : Str} : posS l k ≤ l.length := by
  unfold posS
  exact (List.takeWhile_sublist _).length_le
theorem posS_lo {k : Str} : ∀ {l : List Str} {j : Nat}, j < posS l k → (h : j < l.length) → Op.bytesLess l[j] k = true
  | [], _, h, _ => by simp [posS] at h
  | a :: l, j, h, hj => by
    unfold posS at h
    rw [List.takeWhile_cons] at h
    cases ha : Op.bytesLess a k with
    | false => rw [ha] at h; simp at h
    | true =>
      rw [ha] at h
      cases j with
      | zero => exact ha
      | succ j =>
        simp only [if_true, List.length_cons] at h
        exact posS_lo (l := l) (by unfold posS; omega) (by simpa using hj)
theorem posS_hi {k : Str} : ∀ {l : List Str}, Asc l → ∀ {j : Nat}, posS l k ≤ j → (h : j < l.length) → Op.bytesLess l[j] k = false
  | [], _, _, _, h => by simp at h
  | a :: l, hl, j, h, hj => by
    unfold posS at h
    rw [List.takeWhile_cons] at h
    have hl' := List.pairwise_cons.1 hl
    cases ha : Op.bytesLess a k with
    | false =>
      cases j with
      | zero => exact ha
      | succ j =>
        have hjl : j < l.length := by simpa using hj
        have h1 := hl'.1 l[j] (List.getElem_mem hjl)
        cases h2 : Op.bytesLess l[j] k with
        | false => exact h2
        | true => rw [less_trans h1 h2] at ha; cases ha
    | true =>
      rw [ha] at h
      simp only [if_true, List.length_cons] at h
      cases j with
      | zero => omega
      | succ j => exact posS_hi (l := l) hl'.2 (by unfold posS; omega) (by simpa using hj)
theorem posS_of {l : List Str} {k : Str} {p : Nat} (hl : Asc l) (hp : p ≤ l.length) (h1 : ∀ j (h : j < l.length), j < p → Op.bytesLess l[j] k = true) (h2 : ∀ h : p < l.length, Op.bytesLess l[p] k = false) : p = posS l k := by
  rcases Nat.lt_trichotomy p (posS l k) with h | h | h
  · have hq := @posS_le l k
    have := posS_lo h (by omega)
    rw [h2 (by omega)] at this; cases this
  · exact h
  · have := posS_hi hl (j := posS l k) (Nat.le_refl _) (by omega)
    rw [h1 _ (by omega) h] at this; cases this
/-- It stands in the list just if it stands at its place. -/
theorem posS_mem {l : List Str} {k : Str} (hl : Asc l) : k ∈ l ↔ ∃ h : posS l k < l.length, l[posS l k] = k := by
  constructor
  · intro h
    obtain ⟨j, hj, e⟩ := List.getElem_of_mem h
    have e2 : j = posS l k := by
      refine posS_of hl (by omega) (fun i hi hij => ?_) (fun _ => by rw [e]; exact less_irr _)
      rw [← e]; exact hl.lt hij hj
    subst e2
    exact ⟨hj, e⟩
  · rintro ⟨h, e⟩; rw [← e]; exact List.getElem_mem h
def hitS (l : List Str) (k : Str) : Bool := decide (k ∈ l)
theorem hitS_1 {l : List Str} {k : Str} (hl : Asc l) (h : posS l k < l.length) : hitS l k = decide (l[posS l k] = k) := by
  unfold hitS
  by_cases e : l[posS l k] = k
  · rw [decide_eq_true e, decide_eq_true ((posS_mem hl).2 ⟨h, e⟩)]
  · rw [decide_eq_false e, decide_eq_false (fun hm => e ((posS_mem hl).1 hm).2)]
theorem hitS_0 {l : List Str} {k : Str} (hl : Asc l) (h : ¬ posS l k < l.length) : hitS l k = false := decide_eq_false (fun hm => h ((posS_mem hl).1 hm).1)
theorem hitS_and {l : List Str} {k : Str} (hl : Asc l) : (decide ((posS l k : Int) < (l.length : Int)) && decide (l.getD (posS l k) [] = k)) = hitS l k := by
  by_cases h : posS l k < l.length
  · rw [hitS_1 hl h, decide_eq_true (by omega), Bool.true_and, show l.getD (posS l k) [] = l[posS l k] from by simp [h]]
  · rw [hitS_0 hl h, decide_eq_false (by omega), Bool.false_and]
/-- Keys that a tree can hold. -/
structure KS (l : List Str) : Prop where
  asc : Asc l
  ln : l.length ≤ 60
  sz : ∀ x ∈ l, 1 ≤ x.length ∧ x.length ≤ 30
theorem KS.nil : KS [] := ⟨List.Pairwise.nil, by simp, by simp⟩
theorem KS.look {l : List Str} (h : KS l) : LKD l := look_tree [] (by have := h.ln; omega)
abbrev GNode := TN Str
abbrev GTree := TG Str
def kidRow (k : Nat) : List D := [.int .i64 k]
def TN.row (n : GNode) : List D := [.bool n.leaf, .sl 1 (n.keys.map strRow), .sl 1 (n.kids.map kidRow)]
def TG.avs (t : GTree) : List AV := [.d (.int .i64 t.root), .d (.sl 3 (t.nodes.map TN.row))]
def TG.av (t : GTree) : AV := .agg t.avs
def LK.box (t : GTree) (s : LK Str) : List AV := [.d (.int .i64 t.root), .d (.sl 3 (t.nodes.map TN.row)), .osl 1001 1 0 s.seen.length, .osl 1002 1 0 s.keys.length, .d (.int .i64 s.deep), .d (.bool false)]
def LK.own (t : GTree) (s : LK Str) : List (Nat × OB) := [(1000, .box (LK.box t s)), (1001, .rows 1 (s.seen.map boolRow)), (1002, .rows 1 (s.keys.map strRow))]
def TG.zero : GTree := ⟨0, []⟩
end Go.AM

namespace Go.AM
theorem strD {xs : List Str} {k : Nat} (h : k < xs.length) : (xs.map strRow)[k]? = some (strRow (xs.getD k [])) := by
  rw [List.getElem?_map, List.getElem?_eq_getElem h]; simp [h]
theorem kidD {xs : List Nat} {k : Nat} (h : k < xs.length) : (xs.map kidRow)[k]? = some (kidRow (xs.getD k 0)) := by
  rw [List.getElem?_map, List.getElem?_eq_getElem h]; simp [h]
theorem boolD {xs : List Bool} {k : Nat} (h : k < xs.length) : (xs.map boolRow)[k]? = some (boolRow (xs.getD k true)) := by
  rw [List.getElem?_map, List.getElem?_eq_getElem h]; simp [h]
theorem mapO {α : Type} {row : α → List D} {l : List α} {j : Nat} {x : α} (h : l[j]? = some x) : (l.map row)[j]? = some (row x) := by rw [List.getElem?_map, h]; rfl
section
variable {α : Type}
end
theorem app_all {α : Type} {row : α → List D} {xs ys : List α} : (xs.map row).take xs.length ++ ys.map row = (xs ++ ys).map row := by
  rw [List.take_of_length_le (by simp [List.length_map]), List.map_append]
theorem loc_mkB {C : Cx} {slm : List (Nat × AV)} {ownm : List (Nat × OB)} {d bytes n : Nat} {zs : List K} {l c : XA} {k1 k2 : IntKind} (hl : evA slm l = some (.d (.int k1 n))) (hc : evA slm c = some (.d (.int k2 n))) (hz : zrow zs = some [.bool false])
    (hb : (n : Int) * bytes ≤ 2 ^ 48) : Loc C slm ownm (.op (some d) (.mkslice 1 bytes zs l c)) ⟨d, .osl d 1 0 (List.replicate n false).length, [(d, .rows 1 ((List.replicate n false).map boolRow))]⟩ := by
  have := loc_mkslice (C := C) (ownm := ownm) (d := d) (sz := 1) (bytes := bytes) hl hc hz (by omega) (Int.le_refl _) hb
  rw [List.length_replicate, List.map_replicate]
  exact this
theorem leaf_ok {a b de dd : Nat} {r : Bool} (g1 : a = 0) (h4 : b ≤ 4) (g2 : b = 0 → r = true) (g3 : de = 0 ∨ de = dd) : (decide ((0 : Int) < (a : Int)) || decide ((4 : Int) < (b : Int)) || decide ((b : Int) = 0) && !r || !decide ((de : Int) = 0) && !decide ((de : Int) = (dd : Int))) = false := by
  rw [decide_eq_false (show ¬ (0 : Int) < (a : Int) by omega), decide_eq_false (show ¬ (4 : Int) < (b : Int) by omega)]
  have e1 : (decide ((b : Int) = 0) && !r) = false := by
    by_cases hb : b = 0
    · rw [g2 hb]; simp
    · rw [decide_eq_false (by omega)]; rfl
  rw [e1]
  rcases g3 with g | g
  · rw [decide_eq_true (show (de : Int) = 0 by omega)]; rfl
  · rw [decide_eq_true (show (de : Int) = (dd : Int) by omega)]; simp
theorem inner_ok {a b : Nat} (g1 : b = a + 1) (h4 : a ≤ 4) (g2 : 2 ≤ b) : (decide ((4 : Int) < (a : Int)) || !decide ((b : Int) = (a : Int) + 1) || decide ((b : Int) < 2)) = false := by
  rw [decide_eq_false (show ¬ (4 : Int) < (a : Int) by omega), decide_eq_true (show (b : Int) = (a : Int) + 1 by omega), decide_eq_false (show ¬ (b : Int) < 2 by omega)]; rfl
theorem slR_take {α : Type} {row : α → List D} {l : List α} {a : Int} {n : Nat} (h : a.toNat = n) : AV.d (.sl 1 (((l.map row).drop (0 : Int).toNat).take (a.toNat - (0 : Int).toNat))) = .d (.sl 1 ((l.take n).map row)) := by
  rw [h]; simp [List.map_take]
theorem slR_drop {α : Type} {row : α → List D} {l : List α} {a : Int} {n : Nat} (h : a.toNat = n) : AV.d (.sl 1 (((l.map row).drop a.toNat).take (((l.map row).length : Int).toNat - a.toNat))) = .d (.sl 1 ((l.drop n).map row)) := by
  rw [h, Int.toNat_natCast, List.take_of_length_le (by simp), List.map_drop]
theorem slR_mid {α : Type} {row : α → List D} {l : List α} {a b : Int} {n m : Nat} (h : a.toNat = n) (h2 : b.toNat - n = m) : AV.d (.sl 1 (((l.map row).drop a.toNat).take (b.toNat - a.toNat))) = .d (.sl 1 (((l.drop n).take m).map row)) := by
  rw [h, h2, List.map_take, List.map_drop]
theorem take_one {α : Type} {ks : List α} {z : α} (h : 0 < ks.length) : ks.take 1 = [ks.getD 0 z] := by
  cases ks with
  | nil => simp at h
  | cons a l => simp
theorem tree_start {ks : List Str} {T : GTree} (h : 0 < ks.length) (ht : treeO ks = some T) : ∃ ns lv le, lvF ks.length ks [] [] [] = some (ns, lv, le) ∧ topF ks.length ns lv le = some T := by
  unfold treeO at ht
  rw [if_neg (by omega)] at ht
  cases hl : lvF ks.length ks [] [] [] with
  | none => rw [hl] at ht; cases ht
  | some p =>
    obtain ⟨ns, lv, le⟩ := p
    rw [hl] at ht
    exact ⟨ns, lv, le, rfl, ht⟩
theorem lv_step {f : Nat} {ks : List Str} {ns : List GNode} {lv : List Nat} {le : List Str} {R : List GNode × List Nat × List Str} (h : 0 < ks.length) (ht : lvF f ks ns lv le = some R) : ∃ g c, f = g + 1 ∧ c = chunkN ks.length 4 ∧ ns.length ≤ 200 ∧ lv.length = le.length ∧ le.length ≤ 200 ∧ 0 < c ∧ c ≤ ks.length ∧
    lvF g (ks.drop c) (ns ++ [⟨true, ks.take c, []⟩]) (lv ++ [ns.length]) (le ++ [ks.getD 0 []]) = some R := by
  cases f with
  | zero => unfold lvF at ht; rw [if_neg (by omega)] at ht; cases ht
  | succ g =>
    unfold lvF at ht
    rw [if_neg (by omega)] at ht
    split at ht
    · rename_i hc
      rw [take_one (z := []) h] at ht
      exact ⟨g, _, rfl, rfl, hc.1, hc.2.1, hc.2.2.1, hc.2.2.2.1, hc.2.2.2.2, ht⟩
    · cases ht
theorem lv_end {f : Nat} {ks : List Str} {ns : List GNode} {lv : List Nat} {le : List Str} {R : List GNode × List Nat × List Str} (h : ¬ 0 < ks.length) (ht : lvF f ks ns lv le = some R) : R = (ns, lv, le) := by
  cases f with
  | zero => unfold lvF at ht; split at ht <;> cases ht; rfl
  | succ g =>
    unfold lvF at ht
    rw [if_pos (by omega)] at ht
    split at ht <;> cases ht; rfl
theorem up_step {f : Nat} {lv : List Nat} {le : List Str} {ns : List GNode} {ab : List Nat} {al : List Str} {R : List GNode × List Nat × List Str} (h : 0 < lv.length) (ht : upF f lv le ns ab al = some R) : ∃ g c, f = g + 1 ∧ c = chunkN lv.length 5 ∧ ns.length ≤ 200 ∧ ab.length = al.length ∧ al.length ≤ 200 ∧ lv.length = le.length ∧ 0 < c ∧ c ≤ lv.length ∧
    upF g (lv.drop c) (le.drop c) (ns ++ [⟨false, (le.drop 1).take (c - 1), lv.take c⟩]) (ab ++ [ns.length]) (al ++ [le.getD 0 []]) = some R := by
  cases f with
  | zero => unfold upF at ht; rw [if_neg (by omega)] at ht; cases ht
  | succ g =>
    unfold upF at ht
    rw [if_neg (by omega)] at ht
    split at ht
    · rename_i hc
      rw [take_one (ks := le) (z := []) (by omega)] at ht
      exact ⟨g, _, rfl, rfl, hc.1, hc.2.1, hc.2.2.1, hc.2.2.2.1, hc.2.2.2.2.1, hc.2.2.2.2.2, ht⟩
    · cases ht
theorem up_end {f : Nat} {lv : List Nat} {le : List Str} {ns : List GNode} {ab : List Nat} {al : List Str} {R : List GNode × List Nat × List Str} (h : ¬ 0 < lv.length) (ht : upF f lv le ns ab al = some R) : R = (ns, ab, al) := by
  cases f with
  | zero => unfold upF at ht; split at ht <;> cases ht; rfl
  | succ g =>
    unfold upF at ht
    rw [if_pos (by omega)] at ht
    split at ht <;> cases ht; rfl
theorem top_step {f : Nat} {ns : List GNode} {lv : List Nat} {le : List Str} {T : GTree} (h : 1 < lv.length) (ht : topF f ns lv le = some T) : ∃ g ns' ab al, f = g + 1 ∧ lv.length = le.length ∧ lv.length ≤ 200 ∧ upF lv.length lv le ns [] [] = some (ns', ab, al) ∧ topF g ns' ab al = some T := by
  cases f with
  | zero => unfold topF at ht; rw [if_neg (by omega)] at ht; cases ht
  | succ g =>
    unfold topF at ht
    rw [if_neg (by omega)] at ht
    split at ht
    · rename_i hc
      cases hu : upF lv.length lv le ns [] [] with
      | none => rw [hu] at ht; cases ht
      | some p =>
        obtain ⟨a, b, c⟩ := p
        rw [hu] at ht
        exact ⟨g, a, b, c, rfl, hc.1, hc.2, rfl, ht⟩
    · cases ht
theorem top_end {f : Nat} {ns : List GNode} {lv : List Nat} {le : List Str} {T : GTree} (h : ¬ 1 < lv.length) (ht : topF f ns lv le = some T) : lv.length = 1 ∧ ns.length ≤ 200 ∧ T = ⟨lv.getD 0 0, ns⟩ := by
  cases f with
  | zero =>
    unfold topF at ht
    split at ht
    · rename_i hc; cases ht; exact ⟨hc.1, hc.2, rfl⟩
    · cases ht
  | succ g =>
    unfold topF at ht
    rw [if_pos (by omega)] at ht
    split at ht
    · rename_i hc; cases ht; exact ⟨hc.1, hc.2, rfl⟩
    · cases ht
end Go.AM

namespace Go.AM
def zzz : Str := [122, 122, 122]
/-- Drawn keys. -/
structure TKS (l : List Str) : Prop where
  ks : KS l
  lt : ∀ x ∈ l, Op.bytesLess x zzz = true
  two : ∀ x ∈ l, x.length = 2
theorem TKS.nil : TKS [] := ⟨KS.nil, by simp, by simp⟩
theorem hit_or {l : List Str} {k : Str} (hl : Asc l) : (decide ((posS l k : Int) = (l.length : Int)) || !decide (l.getD (posS l k) [] = k)) = !hitS l k := by
  rw [← hitS_and hl]
  have := @posS_le l k
  by_cases h : posS l k < l.length
  · rw [decide_eq_false (show ¬ (posS l k : Int) = (l.length : Int) by omega), decide_eq_true (show (posS l k : Int) < (l.length : Int) by omega)]; rfl
  · rw [decide_eq_true (show (posS l k : Int) = (l.length : Int) by omega), decide_eq_false (show ¬ (posS l k : Int) < (l.length : Int) by omega)]; rfl
/-- Some of the keys. -/
structure SIn (S KL : List Str) : Prop where
  ks : KS S
  sub : ∀ x ∈ S, x ∈ KL
theorem SIn.nil {KL : List Str} : SIn [] KL := ⟨KS.nil, by simp⟩
theorem SIn.len {S KL : List Str} (h : SIn S KL) (hk : KS KL) : S.length ≤ KL.length := asc_sub h.ks.asc hk.asc h.sub
theorem SIn.eq {S KL : List Str} (h : SIn S KL) (hk : KS KL) (ha : ∀ j (hj : j < KL.length), KL[j] ∈ S) : S = KL := asc_ext h.ks.asc hk.asc (fun x => ⟨h.sub x, fun hx => by
  obtain ⟨j, hj, e⟩ := List.getElem_of_mem hx
  rw [← e]; exact ha j hj⟩)
end Go.AM

namespace Go.AM
theorem KS.take {l : List Str} (h : KS l) (i : Nat) : KS (l.take i) := ⟨List.Pairwise.take h.asc, by have := h.ln; simp; omega, fun x hx => h.sz x (List.mem_of_mem_take hx)⟩
theorem part_mx {a b : Nat} (h : ¬ (a : Int) = (b : Int) + 1) : (if (b : Int) < (a : Int) then (b : Int) else (a : Int)) = (chunkN a b : Nat) := by
  unfold chunkN
  by_cases h1 : a ≤ b
  · rw [if_neg (by omega), if_pos h1]
  · rw [if_pos (by omega), if_neg h1, if_neg (by omega)]
theorem getD_drop0 {l : List Str} {i : Nat} : (l.drop i).getD 0 [] = l.getD i [] := by simp [List.getD_eq_getElem?_getD]
end Go.AM

namespace Go.AM
set_option linter.unusedVariables false
structure INode where
  Leaf : Bool
  Keys : List Str
  Kids : List Int
def INode.av (x : INode) : AV := .agg [.d (.bool x.Leaf), .d (.sl 1 (x.Keys.map strRow)), .d (.sl 1 (x.Kids.map intRow))]
theorem INode.ext1 {a b : INode} (h0 : a.Leaf = b.Leaf) (h1 : a.Keys = b.Keys) (h2 : a.Kids = b.Kids) : a = b := by cases a; cases b; simp_all
def INode.zero : INode := ⟨false, [], []⟩
def INode.row (x : INode) : List D := [.bool x.Leaf, .sl 1 (x.Keys.map strRow), .sl 1 (x.Kids.map intRow)]
def INode.wf (x : INode) : Prop := (fun _ => True) x.Leaf ∧ wfL wfStr x.Keys ∧ wfL wfInt x.Kids
def INode.sz (x : INode) : Nat := szL List.length x.Keys + szL (fun _ => 0) x.Kids
theorem INode.dec {P : Program} {t : TypeId} {fs : Array Field} {f0 f1 f2 : Field} (h : P.underlying t = some (.struct fs)) (hfs : fs.toList = [f0, f1, f2]) (d0 : Dec P f0.type boolRow (fun _ => True)) (d1 : Dec P f1.type (fun xs => [.sl 1 (xs.map strRow)]) (wfL wfStr)) (d2 : Dec P f2.type (fun xs => [.sl 1 (xs.map intRow)]) (wfL wfInt)) : Dec P t INode.row INode.wf := fun hc => by
  have g := hasC_struct h hc
  rw [hfs] at g
  obtain ⟨a0, b0, e0, c0, g⟩ := hasFs_cons g
  obtain ⟨x0, r0, w0⟩ := d0 c0
  obtain ⟨a1, b1, e1, c1, g⟩ := hasFs_cons g
  obtain ⟨x1, r1, w1⟩ := d1 c1
  obtain ⟨a2, b2, e2, c2, g⟩ := hasFs_cons g
  obtain ⟨x2, r2, w2⟩ := d2 c2
  have z := hasFs_nil g
  exact ⟨⟨x0, x1, x2⟩, by rw [e0, r0, e1, r1, e2, r2, z]; rfl, ⟨w0, w1, w2⟩⟩
abbrev INode.avO (e0 e1 : Nat) (x : INode) : AV := .agg [.d (.bool x.Leaf), .osl e0 1 0 x.Keys.length, .osl e1 1 0 x.Kids.length]
abbrev INode.hO (e0 e1 : Nat) (x : INode) : List (Nat × OB) := [(e0, .rows 1 (x.Keys.map strRow)), (e1, .rows 1 (x.Kids.map intRow))]
def INode.mkN (k : Nat) (x : INode) : Nat := k + 1 * x.Keys.length + 1 * x.Kids.length
structure ITree where
  Root : Int
  Nodes : List INode
def ITree.av (x : ITree) : AV := .agg [.d (.int .i64 x.Root), .d (.sl 3 (x.Nodes.map INode.row))]
theorem ITree.ext1 {a b : ITree} (h0 : a.Root = b.Root) (h1 : a.Nodes = b.Nodes) : a = b := by cases a; cases b; simp_all
def ITree.zero : ITree := ⟨0, []⟩
def ITree.row (x : ITree) : List D := [.int .i64 x.Root, .sl 3 (x.Nodes.map INode.row)]
def ITree.wf (x : ITree) : Prop := wfInt x.Root ∧ wfL INode.wf x.Nodes
def ITree.sz (x : ITree) : Nat := szL INode.sz x.Nodes
theorem ITree.dec {P : Program} {t : TypeId} {fs : Array Field} {f0 f1 : Field} (h : P.underlying t = some (.struct fs)) (hfs : fs.toList = [f0, f1]) (d0 : Dec P f0.type intRow wfInt) (d1 : Dec P f1.type (fun xs => [.sl 3 (xs.map INode.row)]) (wfL INode.wf)) : Dec P t ITree.row ITree.wf := fun hc => by
  have g := hasC_struct h hc
  rw [hfs] at g
  obtain ⟨a0, b0, e0, c0, g⟩ := hasFs_cons g
  obtain ⟨x0, r0, w0⟩ := d0 c0
  obtain ⟨a1, b1, e1, c1, g⟩ := hasFs_cons g
  obtain ⟨x1, r1, w1⟩ := d1 c1
  have z := hasFs_nil g
  exact ⟨⟨x0, x1⟩, by rw [e0, r0, e1, r1, z]; rfl, ⟨w0, w1⟩⟩
end Go.AM

namespace Go.AM
set_option linter.unusedVariables false
set_option linter.unusedSimpArgs false
def unseen (s : List Bool) : Nat := (s.filter (fun b => !b)).length
theorem unseen_set : ∀ {s : List Bool} {k : Nat}, s.getD k true = false → k < s.length ∧ unseen (s.set k true) + 1 = unseen s
  | [], k, h => by simp at h
  | b :: s, 0, h => by
    have h : b = false := by simpa using h
    subst h
    exact ⟨by simp, by simp [unseen]⟩
  | b :: s, k + 1, h => by
    obtain ⟨h1, h2⟩ := unseen_set (s := s) (k := k) (by simpa using h)
    refine ⟨by simp; exact h1, ?_⟩
    rw [List.set_cons_succ]
    unfold unseen at h2 ⊢
    cases b <;> simp only [List.filter_cons, Bool.not_true, Bool.not_false, if_true, List.length_cons] <;> simp <;> omega
theorem unseen_rep {n : Nat} : unseen (List.replicate n false) = n := by
  unfold unseen; rw [List.filter_replicate_of_pos (by rfl)]; simp
theorem seen_set {s : List Bool} {i j : Nat} (h : s.getD j true = true ∨ i = j) : (s.set i true).getD j true = true := by
  simp only [List.getD_eq_getElem?_getD, List.getElem?_set] at h ⊢
  by_cases q : i = j
  · subst q
    rw [if_pos rfl]
    split <;> rfl
  · rw [if_neg q]; exact h.resolve_right q
def nodeAt (t : ITree) (k : Int) : INode := t.Nodes.getD k.toNat .zero
def Fresh (t : ITree) (k : Int) (s : List Bool) : Prop := (0 ≤ k ∧ k < t.Nodes.length) ∧ s.getD k.toNat true = false
instance {t : ITree} {k : Int} {s : List Bool} : Decidable (Fresh t k s) := by unfold Fresh; infer_instance
def LeafOK (n : INode) (r : Bool) (deep d : Nat) : Prop := n.Kids.length = 0 ∧ n.Keys.length ≤ 4 ∧ (n.Keys.length = 0 → r = true) ∧ (deep = 0 ∨ deep = d)
instance {n : INode} {r : Bool} {deep d : Nat} : Decidable (LeafOK n r deep d) := by unfold LeafOK; infer_instance
def InnOK (n : INode) : Prop := n.Keys.length ≤ 4 ∧ n.Kids.length = n.Keys.length + 1 ∧ 2 ≤ n.Kids.length
instance {n : INode} : Decidable (InnOK n) := by unfold InnOK; infer_instance
/-- The program's look. -/
def iKids (rec : Int → LK Str → Option (LK Str)) (keys : List Str) : Nat → List Int → LK Str → Option (LK Str)
  | _, [], st => some st
  | i, k :: ks, st => match rec k st with
    | none => none
    | some s => if 0 < i ∧ ¬ s.keys.getD st.keys.length [] = keys.getD (i - 1) [] then none else iKids rec keys (i + 1) ks s
def iLook (t : ITree) : Nat → Int → Nat → Bool → LK Str → Option (LK Str)
  | 0, _, _, _, _ => none
  | f + 1, k, d, r, st =>
    if Fresh t k st.seen then
      if (nodeAt t k).Leaf = true then
        if LeafOK (nodeAt t k) r st.deep d then some ⟨st.seen.set k.toNat true, st.keys ++ (nodeAt t k).Keys, d⟩ else none
      else if InnOK (nodeAt t k) then iKids (fun k st => iLook t f k (d + 1) false st) (nodeAt t k).Keys 0 (nodeAt t k).Kids ⟨st.seen.set k.toNat true, st.keys, st.deep⟩ else none
    else none
/-- The reference's look. -/
def sKids (rec : Int → LK Str → Option (LK Str × Nat)) (keys : List Str) : Nat → List Int → Nat → LK Str → Option (LK Str × Nat)
  | _, [], e, st => some (st, e)
  | i, k :: ks, e, st => match rec k st with
    | none => none
    | some (s, h) => if 0 < i ∧ ¬ (h = e ∧ ¬ st.keys.length = s.keys.length ∧ s.keys.getD st.keys.length [] = keys.getD (i - 1) []) then none else sKids rec keys (i + 1) ks h s
def sLook (t : ITree) : Nat → Int → LK Str → Option (LK Str × Nat)
  | 0, _, _ => none
  | f + 1, k, st =>
    if Fresh t k st.seen ∧ (nodeAt t k).Keys.length ≤ 4 then
      if (nodeAt t k).Leaf = true then
        if (nodeAt t k).Kids.length = 0 ∧ ((nodeAt t k).Keys.length = 0 → k = t.Root) then some (⟨st.seen.set k.toNat true, st.keys ++ (nodeAt t k).Keys, st.deep⟩, 1) else none
      else if (nodeAt t k).Kids.length = (nodeAt t k).Keys.length + 1 ∧ 2 ≤ (nodeAt t k).Kids.length then
        match sKids (fun k st => sLook t f k st) (nodeAt t k).Keys 0 (nodeAt t k).Kids 0 ⟨st.seen.set k.toNat true, st.keys, st.deep⟩ with
        | none => none
        | some (s, h) => some (s, h + 1)
      else none
    else none
structure Mono (st s : LK Str) : Prop where
  sl : s.seen.length = st.seen.length
  un : unseen s.seen ≤ unseen st.seen
  kl : st.keys.length ≤ s.keys.length
  kb : s.keys.length + 4 * unseen s.seen ≤ st.keys.length + 4 * unseen st.seen
  sn : ∀ j, st.seen.getD j true = true → s.seen.getD j true = true
theorem Mono.refl (s : LK Str) : Mono s s := ⟨rfl, Nat.le_refl _, Nat.le_refl _, Nat.le_refl _, fun _ h => h⟩
theorem Mono.trans {a b c : LK Str} (h : Mono a b) (g : Mono b c) : Mono a c :=
  ⟨g.sl.trans h.sl, Nat.le_trans g.un h.un, Nat.le_trans h.kl g.kl, Nat.le_trans g.kb h.kb, fun j q => g.sn j (h.sn j q)⟩
theorem mono_tick {st : LK Str} {k n : Nat} {xs : List Str} {d : Nat} (h : st.seen.getD k true = false) (hl : xs.length ≤ 4) : Mono st ⟨st.seen.set k true, st.keys ++ xs, d⟩ ∧ unseen (st.seen.set k true) < unseen st.seen := by
  obtain ⟨h1, h2⟩ := unseen_set h
  refine ⟨⟨by simp, by simp only; omega, by simp, by simp only [List.length_append]; omega, fun j q => seen_set (.inl q)⟩, by omega⟩
theorem mono_tick0 {st : LK Str} {k : Nat} (h : st.seen.getD k true = false) : Mono st ⟨st.seen.set k true, st.keys, st.deep⟩ ∧ unseen (st.seen.set k true) < unseen st.seen := by
  have := mono_tick (st := st) (n := 0) (xs := []) (d := st.deep) h (by simp)
  rwa [List.append_nil] at this
theorem iKids_mono {rec : Int → LK Str → Option (LK Str)} (hr : ∀ k st s, rec k st = some s → Mono st s ∧ st.keys.length < s.keys.length) {keys : List Str} : ∀ {ks : List Int} {i : Nat} {st s : LK Str}, iKids rec keys i ks st = some s → Mono st s ∧ (ks ≠ [] → st.keys.length < s.keys.length)
  | [], i, st, s, h => by
    simp only [iKids, Option.some.injEq] at h
    subst h
    exact ⟨Mono.refl _, fun h => absurd rfl h⟩
  | k :: ks, i, st, s, h => by
    unfold iKids at h
    cases hk : rec k st with
    | none => rw [hk] at h; cases h
    | some s1 =>
      rw [hk] at h
      simp only at h
      split at h
      · cases h
      · obtain ⟨m1, m2⟩ := hr _ _ _ hk
        obtain ⟨n1, _⟩ := iKids_mono hr h
        exact ⟨m1.trans n1, fun _ => Nat.lt_of_lt_of_le m2 n1.kl⟩
theorem iLook_mono {t : ITree} : ∀ {f : Nat} {k : Int} {d : Nat} {r : Bool} {st s : LK Str}, iLook t f k d r st = some s → Mono st s ∧ unseen s.seen < unseen st.seen ∧ (r = false → st.keys.length < s.keys.length)
  | 0, k, d, r, st, s, h => by cases h
  | f + 1, k, d, r, st, s, h => by
    unfold iLook at h
    split at h
    · rename_i hf
      split at h
      · split at h
        · rename_i ho
          cases h
          obtain ⟨m1, m2⟩ := mono_tick (n := 0) (d := d) hf.2 ho.2.1
          refine ⟨m1, m2, fun hr => ?_⟩
          have : (nodeAt t k).Keys.length ≠ 0 := fun q => by rw [ho.2.2.1 q] at hr; cases hr
          simp only [List.length_append]; omega
        · cases h
      · split at h
        · rename_i ho
          obtain ⟨m1, m2⟩ := mono_tick0 hf.2
          obtain ⟨n1, n2⟩ := iKids_mono (fun k st s h => (iLook_mono h).imp id (fun q => q.2 rfl)) h
          refine ⟨m1.trans n1, Nat.lt_of_le_of_lt n1.un m2, fun _ => n2 (fun q => ?_)⟩
          have := ho.2.2
          rw [q] at this; simp at this
        · cases h
    · cases h
theorem sKids_mono {rec : Int → LK Str → Option (LK Str × Nat)} {f : Nat} (hr : ∀ k st s h, rec k st = some (s, h) → Mono st s ∧ h ≤ f) {keys : List Str} : ∀ {ks : List Int} {i e : Nat} {st s : LK Str} {h : Nat}, e ≤ f → sKids rec keys i ks e st = some (s, h) → Mono st s ∧ h ≤ f ∧ (0 < i → h = e)
  | [], i, e, st, s, h, he, hh => by
    simp only [sKids, Option.some.injEq, Prod.mk.injEq] at hh
    obtain ⟨rfl, rfl⟩ := hh
    exact ⟨Mono.refl _, he, fun _ => rfl⟩
  | k :: ks, i, e, st, s, h, he, hh => by
    unfold sKids at hh
    cases hk : rec k st with
    | none => rw [hk] at hh; cases hh
    | some p =>
      obtain ⟨s1, h1⟩ := p
      rw [hk] at hh
      simp only at hh
      split at hh
      · cases hh
      · rename_i hc
        obtain ⟨m1, m2⟩ := hr _ _ _ _ hk
        obtain ⟨n1, n2, n3⟩ := sKids_mono hr m2 hh
        refine ⟨m1.trans n1, n2, fun hi => ?_⟩
        rw [n3 (by omega)]
        exact Decidable.byContradiction (fun q => hc ⟨hi, fun w => q w.1⟩)
theorem sLook_mono {t : ITree} : ∀ {f : Nat} {k : Int} {st s : LK Str} {h : Nat}, sLook t f k st = some (s, h) → Mono st s ∧ unseen s.seen < unseen st.seen ∧ h ≤ f ∧ 1 ≤ h
  | 0, k, st, s, h, hh => by cases hh
  | f + 1, k, st, s, h, hh => by
    unfold sLook at hh
    split at hh
    · rename_i hf
      split at hh
      · split at hh
        · cases hh
          obtain ⟨m1, m2⟩ := mono_tick (n := 0) (d := st.deep) hf.1.2 hf.2
          exact ⟨m1, m2, by omega, Nat.le_refl _⟩
        · cases hh
      · split at hh
        · obtain ⟨m1, m2⟩ := mono_tick0 hf.1.2
          split at hh
          · cases hh
          · rename_i s1 h1 hk
            cases hh
            obtain ⟨n1, n2, _⟩ := sKids_mono (f := f) (fun k st s h q => ⟨(sLook_mono q).1, (sLook_mono q).2.2.1⟩) (Nat.zero_le _) hk
            exact ⟨m1.trans n1, Nat.lt_of_le_of_lt n1.un m2, by omega, by omega⟩
        · cases hh
    · cases hh
def RS (t : ITree) (s : List Bool) : Prop := s.getD t.Root.toNat true = true
theorem RS.tick {t : ITree} {k : Int} {s : List Bool} (h : k = t.Root ∨ RS t s) : RS t (s.set k.toNat true) :=
  seen_set (h.elim (fun h => .inr (by rw [h])) .inl)
theorem fresh_ne {t : ITree} {k : Int} {s : List Bool} (h : RS t s) (hf : Fresh t k s) : k ≠ t.Root := fun q => by
  subst q
  have h1 := hf.2
  rw [show s.getD t.Root.toNat true = true from h] at h1
  cases h1
theorem sLook_fresh {t : ITree} {f : Nat} {k : Int} {st : LK Str} {p : LK Str × Nat} (h : sLook t f k st = some p) : Fresh t k st.seen := by
  cases f with
  | zero => cases h
  | succ f => unfold sLook at h; split at h; rename_i q; exact q.1; cases h
theorem iLook_fresh {t : ITree} {f d : Nat} {r : Bool} {k : Int} {st : LK Str} {p : LK Str} (h : iLook t f k d r st = some p) : Fresh t k st.seen := by
  cases f with
  | zero => cases h
  | succ f => unfold iLook at h; split at h; rename_i q; exact q; cases h
theorem kids_E1 {t : ITree} {f d : Nat} {keys : List Str} (hrec : ∀ kid st s h deep, sLook t f kid st = some (s, h) → RS t st.seen → (deep = 0 ∨ deep = d + h) → iLook t f kid (d + 1) false ⟨st.seen, st.keys, deep⟩ = some ⟨s.seen, s.keys, d + h⟩) :
    ∀ {ks : List Int} {i e : Nat} {st s : LK Str} {h deep : Nat}, e ≤ f → sKids (fun k st => sLook t f k st) keys i ks e st = some (s, h) → RS t st.seen → (i = 0 ∧ ks ≠ [] ∧ (deep = 0 ∨ deep = d + h) ∨ 0 < i ∧ deep = d + e) →
      iKids (fun k st => iLook t f k (d + 1) false st) keys i ks ⟨st.seen, st.keys, deep⟩ = some ⟨s.seen, s.keys, d + h⟩
  | [], i, e, st, s, h, deep, he, hh, hR, hi => by
    simp only [sKids, Option.some.injEq, Prod.mk.injEq] at hh
    obtain ⟨rfl, rfl⟩ := hh
    rcases hi with ⟨_, q, _⟩ | ⟨_, q⟩
    · exact absurd rfl q
    · rw [q]; rfl
  | k :: ks, i, e, st, s, h, deep, he, hh, hR, hi => by
    have hh0 := hh
    unfold sKids at hh
    cases hk : sLook t f k st with
    | none => rw [hk] at hh; cases hh
    | some p =>
      obtain ⟨s1, h1⟩ := p
      rw [hk] at hh
      simp only at hh
      split at hh
      · cases hh
      · rename_i hc
        obtain ⟨m1, _, m3, _⟩ := sLook_mono hk
        have heq : h = h1 := (sKids_mono (f := f) (fun k st s h q => ⟨(sLook_mono q).1, (sLook_mono q).2.2.1⟩) m3 hh).2.2 (by omega)
        have hd1 : deep = 0 ∨ deep = d + h1 := by
          rcases hi with ⟨_, _, q⟩ | ⟨q1, q2⟩
          · rwa [heq] at q
          · right
            have : h1 = e := Decidable.byContradiction (fun q => hc ⟨q1, fun w => q w.1⟩)
            rw [this]; exact q2
        unfold iKids
        rw [hrec k st s1 h1 deep hk hR hd1]
        simp only
        rw [if_neg (fun q => hc ⟨q.1, fun w => q.2 w.2.2⟩)]
        exact kids_E1 hrec m3 hh (m1.sn _ hR) (.inr ⟨by omega, rfl⟩)
theorem look_E1 {t : ITree} : ∀ {f : Nat} {k : Int} {st s : LK Str} {h d deep : Nat} {r : Bool}, sLook t f k st = some (s, h) → (k = t.Root ∨ RS t st.seen) → r = decide (k = t.Root) → (deep = 0 ∨ deep + 1 = d + h) →
    iLook t f k d r ⟨st.seen, st.keys, deep⟩ = some ⟨s.seen, s.keys, d + h - 1⟩
  | 0, k, st, s, h, d, deep, r, hh, hR, hr, hd => by cases hh
  | f + 1, k, st, s, h, d, deep, r, hh, hR, hr, hd => by
    unfold sLook at hh
    split at hh
    · rename_i hf
      unfold iLook
      rw [if_pos hf.1]
      split at hh
      · rename_i hl
        rw [if_pos hl]
        split at hh
        · rename_i ho
          cases hh
          rw [if_pos ⟨ho.1, hf.2, fun q => by rw [hr, decide_eq_true (ho.2 q)], by simp only; omega⟩]
          rfl
        · cases hh
      · rename_i hl
        rw [if_neg hl]
        split at hh
        · rename_i ho
          split at hh
          · cases hh
          · rename_i s1 h1 hk
            cases hh
            rw [if_pos ⟨hf.2, ho.1, ho.2⟩]
            have := kids_E1 (t := t) (f := f) (d := d) (keys := (nodeAt t k).Keys) (fun kid st s h deep q hR2 hd2 => by
              have := look_E1 (d := d + 1) (deep := deep) (r := false) q (.inr hR2) (decide_eq_false (fresh_ne hR2 (sLook_fresh q))).symm (by omega)
              rw [this]; congr 2; omega) (ks := (nodeAt t k).Kids) (i := 0) (e := 0) (deep := deep) (Nat.zero_le _) hk (RS.tick hR) (.inl ⟨rfl, fun q => by rw [q] at ho; have := ho.2; simp at this, by omega⟩)
            rw [this]; congr 2
        · cases hh
    · cases hh
theorem kids_E2 {t : ITree} {f d : Nat} {keys : List Str} (hrec : ∀ kid st s, iLook t f kid (d + 1) false st = some s → RS t st.seen → ∃ h, s.deep = d + h ∧ (st.deep = 0 ∨ st.deep = s.deep) ∧ 1 ≤ h ∧ ∀ x, sLook t f kid ⟨st.seen, st.keys, x⟩ = some (⟨s.seen, s.keys, x⟩, h)) :
    ∀ {ks : List Int} {i e : Nat} {st s : LK Str}, 0 < i → 1 ≤ e → st.deep = d + e → RS t st.seen → iKids (fun k st => iLook t f k (d + 1) false st) keys i ks st = some s →
      s.deep = d + e ∧ ∀ x, sKids (fun k st => sLook t f k st) keys i ks e ⟨st.seen, st.keys, x⟩ = some (⟨s.seen, s.keys, x⟩, e)
  | [], i, e, st, s, hi, he, hd, hR, hh => by
    simp only [iKids, Option.some.injEq] at hh
    subst hh
    exact ⟨hd, fun x => rfl⟩
  | k :: ks, i, e, st, s, hi, he, hd, hR, hh => by
    unfold iKids at hh
    cases hk : iLook t f k (d + 1) false st with
    | none => rw [hk] at hh; cases hh
    | some s1 =>
      rw [hk] at hh
      simp only at hh
      split at hh
      · cases hh
      · rename_i hc
        obtain ⟨m1, _, m3⟩ := iLook_mono hk
        have m3 := m3 rfl
        obtain ⟨h1, q1, q2, q3, q4⟩ := hrec k st s1 hk hR
        have hhe : h1 = e := by omega
        subst hhe
        obtain ⟨p1, p2⟩ := kids_E2 hrec (by omega) q3 q1 (m1.sn _ hR) hh
        refine ⟨p1, fun x => ?_⟩
        unfold sKids
        rw [q4 x]
        simp only
        rw [if_neg (fun q => q.2 ⟨by first | trivial | rfl, by omega, Decidable.byContradiction (fun w => hc ⟨hi, w⟩)⟩)]
        exact p2 x
theorem look_E2 {t : ITree} : ∀ {f : Nat} {k : Int} {st s : LK Str} {d : Nat} {r : Bool}, iLook t f k d r st = some s → (k = t.Root ∨ RS t st.seen) → r = decide (k = t.Root) → 1 ≤ d →
    ∃ h, s.deep + 1 = d + h ∧ (st.deep = 0 ∨ st.deep = s.deep) ∧ 1 ≤ h ∧ ∀ x, sLook t f k ⟨st.seen, st.keys, x⟩ = some (⟨s.seen, s.keys, x⟩, h)
  | 0, k, st, s, d, r, hh, hR, hr, hd => by cases hh
  | f + 1, k, st, s, d, r, hh, hR, hr, hd => by
    unfold iLook at hh
    split at hh
    · rename_i hf
      split at hh
      · rename_i hl
        split at hh
        · rename_i ho
          cases hh
          refine ⟨1, rfl, ho.2.2.2, Nat.le_refl _, fun x => ?_⟩
          unfold sLook
          rw [if_pos ⟨hf, ho.2.1⟩, if_pos hl, if_pos ⟨ho.1, fun q => by have := ho.2.2.1 q; rw [hr] at this; exact of_decide_eq_true this⟩]
        · cases hh
      · rename_i hl
        split at hh
        · rename_i ho
          have hrec : ∀ kid st s, iLook t f kid (d + 1) false st = some s → RS t st.seen → ∃ h, s.deep = d + h ∧ (st.deep = 0 ∨ st.deep = s.deep) ∧ 1 ≤ h ∧ ∀ x, sLook t f kid ⟨st.seen, st.keys, x⟩ = some (⟨s.seen, s.keys, x⟩, h) := fun kid st s q hR2 => by
            obtain ⟨h, g1, g2⟩ := look_E2 q (.inr hR2) (decide_eq_false (fresh_ne hR2 (iLook_fresh q))).symm (by omega)
            exact ⟨h, by omega, g2⟩
          match hks : (nodeAt t k).Kids with
          | [] =>
            have h1 := ho.2.2
            rw [hks] at h1; simp at h1
          | kid :: ks =>
            rw [hks] at hh
            unfold iKids at hh
            split at hh
            · cases hh
            · rename_i s1 hk
              rw [if_neg (by omega)] at hh
              obtain ⟨h1, q1, q2, q3, q4⟩ := hrec _ _ _ hk (RS.tick hR)
              obtain ⟨p1, p2⟩ := kids_E2 hrec (by omega) q3 q1 ((iLook_mono hk).1.sn _ (RS.tick hR)) hh
              refine ⟨h1 + 1, by omega, by rw [p1, ← q1]; exact q2, by omega, fun x => ?_⟩
              unfold sLook
              rw [if_pos ⟨hf, ho.1⟩, if_neg hl, if_pos ho.2, hks]
              unfold sKids
              rw [q4 x]
              simp only
              rw [if_neg (by omega), p2 x]
        · cases hh
    · cases hh
def goodK (l : List Str) : Bool := (List.range l.length).all (fun i => inR (l.getD i []).length 1 30 && (decide (i = 0) || Op.bytesLess (l.getD (i - 1) []) (l.getD i [])))
def st0 (t : ITree) : LK Str := ⟨List.replicate t.Nodes.length false, [], 0⟩
def keysOf (s : LK Str) : Option (List Str) := if (s.seen.all (fun b => b) = true ∧ s.keys.length ≤ 60) ∧ goodK s.keys = true then some s.keys else none
def keysI (t : ITree) : Option (List Str) := if t.Nodes.length ≤ 200 then (iLook t (t.Nodes.length + 1) t.Root 1 true (st0 t)).bind keysOf else none
def keysS (t : ITree) : Option (List Str) := if t.Nodes.length ≤ 200 then (sLook t (t.Nodes.length + 1) t.Root (st0 t)).bind (fun p => keysOf p.1) else none
theorem keysS_eq {t : ITree} : keysS t = keysI t := by
  unfold keysS keysI
  split
  · cases hs : sLook t (t.Nodes.length + 1) t.Root (st0 t) with
    | some p =>
      obtain ⟨s, h⟩ := p
      have := look_E1 (d := 1) (deep := 0) (r := true) hs (.inl rfl) (by simp) (.inl rfl)
      rw [show (⟨(st0 t).seen, (st0 t).keys, 0⟩ : LK Str) = st0 t from rfl] at this
      rw [this]
      rfl
    | none =>
      cases hi : iLook t (t.Nodes.length + 1) t.Root 1 true (st0 t) with
      | none => rfl
      | some s =>
        obtain ⟨h, _, _, _, q⟩ := look_E2 hi (.inl rfl) (by simp) (Nat.le_refl _)
        have := q 0
        rw [show (⟨(st0 t).seen, (st0 t).keys, 0⟩ : LK Str) = st0 t from rfl, hs] at this
        cases this
  · rfl
theorem goodK_at {l : List Str} (h : goodK l = true) {i : Nat} (hi : i < l.length) : (1 ≤ l[i].length ∧ l[i].length ≤ 30) ∧ (0 < i → Op.bytesLess (l.getD (i - 1) []) l[i] = true) := by
  have h := List.all_eq_true.1 h i (List.mem_range.2 hi)
  rw [show l.getD i [] = l[i] from by simp [hi], Bool.and_eq_true] at h
  refine ⟨by have := inR_iff.1 h.1; omega, fun h0 => ?_⟩
  have h2 := h.2
  rw [decide_eq_false (by omega), Bool.false_or] at h2
  exact h2
theorem goodK_ks {l : List Str} (h : goodK l = true) (hl : l.length ≤ 60) : KS l := by
  refine ⟨?_, hl, fun x hx => ?_⟩
  · unfold Asc
    rw [List.pairwise_iff_getElem]
    intro i j hi hj hij
    induction j with
    | zero => omega
    | succ j ih =>
      have h1 := (goodK_at h hj).2 (by omega)
      rw [Nat.add_sub_cancel, show l.getD j [] = l[j] from by simp [show j < l.length from by omega]] at h1
      by_cases q : i = j
      · subst q; exact h1
      · exact less_trans (ih (by omega) (by omega)) h1
  · obtain ⟨i, hi, rfl⟩ := List.mem_iff_getElem.1 hx
    exact (goodK_at h hi).1
theorem goodK_no {l : List Str} {i : Nat} (hi : i < l.length) (h : (inR l[i].length 1 30 && (decide (i = 0) || Op.bytesLess (l.getD (i - 1) []) l[i])) = false) : goodK l = false := by
  unfold goodK
  rw [List.all_eq_false]
  refine ⟨i, List.mem_range.2 hi, ?_⟩
  rw [show l.getD i [] = l[i] from by simp [hi], h]; simp
theorem goodK_all {l : List Str} (h : ∀ i (hi : i < l.length), (inR l[i].length 1 30 && (decide (i = 0) || Op.bytesLess (l.getD (i - 1) []) l[i])) = true) : goodK l = true := by
  unfold goodK
  rw [List.all_eq_true]
  intro i hi
  have hi := List.mem_range.1 hi
  rw [show l.getD i [] = l[i] from by simp [hi]]
  exact h i hi
theorem keysI_ks {t : ITree} {ks : List Str} (h : keysI t = some ks) : KS ks := by
  unfold keysI at h
  split at h
  · rw [Option.bind_eq_some_iff] at h
    obtain ⟨s, _, h⟩ := h
    unfold keysOf at h
    split at h
    · rename_i q
      cases h
      exact goodK_ks q.2 q.1.2
    · cases h
  · cases h
def embN (n : GNode) : INode := ⟨n.leaf, n.keys, n.kids.map (fun k : Nat => (k : Int))⟩
def emb (t : GTree) : ITree := ⟨(t.root : Int), t.nodes.map embN⟩
theorem emb_rows {ns : List GNode} : (ns.map embN).map INode.row = ns.map TN.row := by
  rw [List.map_map]
  refine List.map_congr_left (fun n _ => ?_)
  show [D.bool n.leaf, .sl 1 (n.keys.map strRow), .sl 1 ((n.kids.map (fun k : Nat => (k : Int))).map intRow)] = [D.bool n.leaf, .sl 1 (n.keys.map strRow), .sl 1 (n.kids.map kidRow)]
  rw [List.map_map]; rfl
def askF (t : ITree) (key : Str) : List Str × Int :=
  if 65536 < key.length then ([], 2) else match keysI t with
    | none => ([], 1)
    | some ks => if inR key.length 1 30 = true then (ks, 0) else ([], 4)
theorem askF_ks {t : ITree} {key : Str} (h : (askF t key).2 = 0) : KS (askF t key).1 ∧ 1 ≤ key.length ∧ key.length ≤ 30 := by
  unfold askF at h ⊢
  split at h
  · cases h
  · rename_i h1
    rw [if_neg h1]
    cases hk : keysI t with
    | none => rw [hk] at h; cases h
    | some ks =>
      rw [hk] at h
      simp only at h ⊢
      split at h
      · rename_i h2
        rw [if_pos h2]
        exact ⟨keysI_ks hk, by have := inR_iff.1 h2; omega⟩
      · cases h
def delF (t : ITree) (key : Str) : ITree × Int :=
  if (askF t key).2 = 0 then
    (if hitS (askF t key).1 key = true then (emb (treeT (delA (askF t key).1 (posS (askF t key).1 key))), 0) else (.zero, 5))
  else (.zero, (askF t key).2)
def INode.cnt (n : INode) : Nat := 1 + n.Keys.length + n.Kids.length
def INode.mk1 (k : Nat) (n : INode) : INode := ⟨decide ((k : Int) % 3 = 0), markL (fun k _ => mkT k) 1 (k + 1) n.Keys, markL (fun k _ => (k : Int)) 1 (k + 1 + 1 * n.Keys.length) n.Kids⟩
def mkNs : Nat → List INode → List INode
  | _, [] => []
  | k, n :: ns => n.mk1 k :: mkNs (k + n.cnt) ns
def cntN (k0 : Nat) (xs : List INode) : Nat := k0 + (xs.map INode.cnt).sum
theorem cntN_s {k0 k : Nat} {xs : List INode} (hk : k < xs.length) : cntN k0 (xs.take (k + 1)) = cntN k0 (xs.take k) + 1 + xs[k].Keys.length + xs[k].Kids.length := by
  unfold cntN; rw [List.take_succ_eq_append_getElem hk, List.map_append, List.sum_append]; simp [INode.cnt]; omega
theorem cntN_le {k0 k : Nat} {xs : List INode} : cntN k0 (xs.take k) ≤ cntN k0 xs := by
  unfold cntN
  conv => rhs; rw [← List.take_append_drop k xs, List.map_append, List.sum_append]
  omega
theorem cntN_ge {k0 : Nat} {xs : List INode} : k0 + xs.length ≤ cntN k0 xs := by
  unfold cntN
  induction xs with
  | nil => simp
  | cons x xs ih => simp only [List.map_cons, List.sum_cons, List.length_cons, INode.cnt]; omega
theorem cntN_sz {k0 : Nat} {xs : List INode} : cntN k0 xs ≤ k0 + szL INode.sz xs := by
  unfold cntN
  induction xs with
  | nil => simp
  | cons x xs ih =>
    simp only [List.map_cons, List.sum_cons]
    have e : szL INode.sz (x :: xs) = 1 + INode.sz x + szL INode.sz xs := by simp only [szL, sumBy, List.length_cons]; omega
    have e1 := @szL_len _ List.length x.Keys
    have e2 := @szL_len _ (fun _ => 0) x.Kids
    have e3 : INode.sz x = szL List.length x.Keys + szL (fun _ => 0) x.Kids := rfl
    have e4 : x.cnt = 1 + x.Keys.length + x.Kids.length := rfl
    omega
theorem mkNs_len : ∀ {xs : List INode} {k : Nat}, (mkNs k xs).length = xs.length
  | [], k => rfl
  | x :: xs, k => by simp [mkNs, mkNs_len (xs := xs)]
theorem mkNs_app : ∀ {xs ys : List INode} {k : Nat}, mkNs k (xs ++ ys) = mkNs k xs ++ mkNs (cntN k xs) ys
  | [], ys, k => by simp [mkNs, cntN]
  | x :: xs, ys, k => by
    simp only [List.cons_append, mkNs, mkNs_app (xs := xs)]
    rw [show cntN (k + x.cnt) xs = cntN k (x :: xs) from by simp [cntN]; omega]
theorem mkNs_s {k0 k : Nat} {xs : List INode} (hk : k < xs.length) : mkNs k0 (xs.take (k + 1)) = mkNs k0 (xs.take k) ++ [xs[k].mk1 (cntN k0 (xs.take k))] := by
  rw [List.take_succ_eq_append_getElem hk, mkNs_app]; rfl
theorem mkNs_at {k0 k : Nat} {xs : List INode} (hk : k < xs.length) : (mkNs k0 xs)[k]? = some (xs[k].mk1 (cntN k0 (xs.take k))) := by
  have h1 := mkNs_s (k0 := k0) hk
  have h2 : mkNs k0 xs = mkNs k0 (xs.take (k + 1)) ++ mkNs (cntN k0 (xs.take (k + 1))) (xs.drop (k + 1)) := by rw [← mkNs_app, List.take_append_drop]
  have h3 : (mkNs k0 (xs.take k)).length = k := by rw [mkNs_len, List.length_take]; omega
  rw [h2, h1, List.append_assoc]
  exact mid_get h3
end Go.AM

namespace Go.AM
set_option linter.unusedVariables false
set_option linter.unusedSimpArgs false
theorem leaf_bad {n : INode} {de dd : Nat} {r : Bool} : (decide ((0 : Int) < (n.Kids.length : Int)) || decide ((4 : Int) < (n.Keys.length : Int)) || decide ((n.Keys.length : Int) = 0) && !r || !decide ((de : Int) = 0) && !decide ((de : Int) = (dd : Int))) = !decide (LeafOK n r de dd) := by
  by_cases hL : LeafOK n r de dd
  · rw [decide_eq_true hL, leaf_ok hL.1 hL.2.1 hL.2.2.1 hL.2.2.2]; rfl
  · rw [decide_eq_false hL, Bool.not_false]
    refine Bool.not_eq_false _ |>.mp (fun h => hL ?_)
    simp only [Bool.or_eq_false_iff, Bool.and_eq_false_iff, decide_eq_false_iff_not, Bool.not_eq_false', decide_eq_true_eq] at h
    refine ⟨by omega, by omega, fun q => ?_, ?_⟩
    · rcases h.1.2 with w | w
      · omega
      · exact w
    · rcases h.2 with w | w
      · left; omega
      · right; omega
theorem inn_bad {n : INode} : (decide ((4 : Int) < (n.Keys.length : Int)) || !decide ((n.Kids.length : Int) = (n.Keys.length : Int) + 1) || decide ((n.Kids.length : Int) < 2)) = !decide (InnOK n) := by
  by_cases hL : InnOK n
  · rw [decide_eq_true hL, inner_ok hL.2.1 hL.1 hL.2.2]; rfl
  · rw [decide_eq_false hL, Bool.not_false]
    refine Bool.not_eq_false _ |>.mp (fun h => hL ?_)
    simp only [Bool.or_eq_false_iff, decide_eq_false_iff_not, Bool.not_eq_false', decide_eq_true_eq] at h
    exact ⟨by omega, by omega, by omega⟩
theorem inn_bad2 {n : INode} : (!decide ((n.Kids.length : Int) = (n.Keys.length : Int) + 1) || decide ((n.Kids.length : Int) < 2)) = !decide (n.Kids.length = n.Keys.length + 1 ∧ 2 ≤ n.Kids.length) := by
  rw [Bool.eq_iff_iff]
  simp only [Bool.or_eq_true, decide_eq_true_eq, Bool.not_eq_true', decide_eq_false_iff_not]
  omega
theorem wleaf_bad {n : INode} {k rt : Int} : (decide ((0 : Int) < (n.Kids.length : Int)) || decide ((n.Keys.length : Int) = 0) && !decide (k = rt)) = !decide (n.Kids.length = 0 ∧ (n.Keys.length = 0 → k = rt)) := by
  rw [Bool.eq_iff_iff]
  simp only [Bool.or_eq_true, Bool.and_eq_true, decide_eq_true_eq, Bool.not_eq_true', decide_eq_false_iff_not]
  generalize n.Kids.length = a; generalize n.Keys.length = b
  by_cases h : k = rt <;> simp only [h, not_true, and_false, implies_true, imp_false, and_true, or_false, not_false_eq_true] <;> omega
theorem fresh_or2 {t : ITree} {k : Int} {s : List Bool} : (!inR k 0 ((t.Nodes.length : Int) - 1) || s.getD k.toNat true) = !decide (Fresh t k s) := by
  by_cases hF : Fresh t k s
  · rw [decide_eq_true hF, inR_iff.2 ⟨hF.1.1, by have := hF.1.2; omega⟩, hF.2]; rfl
  · rw [decide_eq_false hF]
    cases h : inR k 0 ((t.Nodes.length : Int) - 1) with
    | false => rfl
    | true =>
      have h := inR_iff.1 h
      cases hs : s.getD k.toNat true with
      | true => rfl
      | false => exact absurd ⟨⟨h.1, by omega⟩, hs⟩ hF
theorem fresh_or {t : ITree} {k : Int} {s : List Bool} : ((false || !inR k 0 ((t.Nodes.length : Int) - 1)) || s.getD k.toNat true) = !decide (Fresh t k s) := by
  rw [Bool.false_or]; exact fresh_or2
structure NF (t : ITree) (k : Int) (n : INode) : Prop where
  row : (t.Nodes.map INode.row)[k.toNat]? = some (INode.row n)
  mem : n ∈ t.Nodes
  eq : nodeAt t k = n
theorem fresh_node {t : ITree} {k : Int} {s : List Bool} (h : Fresh t k s) : ∃ n, NF t k n := by
  have hk : k.toNat < t.Nodes.length := by have := h.1; omega
  refine ⟨t.Nodes[k.toNat], by rw [List.getElem?_map, List.getElem?_eq_getElem hk]; rfl, List.getElem_mem hk, ?_⟩
  unfold nodeAt
  simp [List.getD_eq_getElem?_getD, hk]
theorem iLook_at {t : ITree} {k : Int} {f d : Nat} {r : Bool} {st : LK Str} {n : INode} (h : Fresh t k st.seen) (hn : NF t k n) : iLook t (f + 1) k d r st = if n.Leaf = true then
        (if LeafOK n r st.deep d then some ⟨st.seen.set k.toNat true, st.keys ++ n.Keys, d⟩ else none)
      else if InnOK n then iKids (fun k st => iLook t f k (d + 1) false st) n.Keys 0 n.Kids ⟨st.seen.set k.toNat true, st.keys, st.deep⟩ else none := by
  rw [iLook, if_pos h, hn.eq]
theorem iLook_no {t : ITree} {k : Int} {f d : Nat} {r : Bool} {st : LK Str} (h : ¬ Fresh t k st.seen) : iLook t (f + 1) k d r st = none := by rw [iLook, if_neg h]
theorem iKids_s {rec : Int → LK Str → Option (LK Str)} {keys : List Str} {i : Nat} {ks : List Int} {st s2 : LK Str} {bad : Bool} (hi : i < ks.length) (ho : (bad = false ∧ rec ks[i] st = some s2) ∨ (bad = true ∧ rec ks[i] st = none)) :
    ((bad || decide ((0 : Int) < (i : Int)) && !decide (s2.keys.getD st.keys.length [] = keys.getD (i - 1) [])) = true → iKids rec keys i (ks.drop i) st = none) ∧
    ((bad || decide ((0 : Int) < (i : Int)) && !decide (s2.keys.getD st.keys.length [] = keys.getD (i - 1) [])) = false → bad = false ∧ rec ks[i] st = some s2 ∧ iKids rec keys i (ks.drop i) st = iKids rec keys (i + 1) (ks.drop (i + 1)) s2) := by
  rw [List.drop_eq_getElem_cons hi, iKids]
  rcases ho with ⟨rfl, hr⟩ | ⟨rfl, hr⟩
  · rw [hr]
    simp only [Bool.false_or]
    refine ⟨fun h => ?_, fun h => ?_⟩
    · simp only [Bool.and_eq_true, decide_eq_true_eq, Bool.not_eq_true', decide_eq_false_iff_not] at h
      rw [if_pos ⟨by omega, h.2⟩]
    · refine ⟨trivial, trivial, ?_⟩
      rw [if_neg]
      rintro ⟨h1, h2⟩
      rw [decide_eq_true (by omega), decide_eq_false h2] at h
      cases h
  · rw [hr]
    simp only [Bool.true_or]
    exact ⟨fun _ => trivial, fun h => by cases h⟩
theorem sLook_no {t : ITree} {k : Int} {f : Nat} {st : LK Str} (h : ¬ Fresh t k st.seen) : sLook t (f + 1) k st = none := by rw [sLook, if_neg (fun q => h q.1)]
theorem sLook_at {t : ITree} {k : Int} {f : Nat} {st : LK Str} {n : INode} (h : Fresh t k st.seen) (hn : NF t k n) : sLook t (f + 1) k st = if n.Keys.length ≤ 4 then
      (if n.Leaf = true then
        (if n.Kids.length = 0 ∧ (n.Keys.length = 0 → k = t.Root) then some (⟨st.seen.set k.toNat true, st.keys ++ n.Keys, st.deep⟩, 1) else none)
      else if n.Kids.length = n.Keys.length + 1 ∧ 2 ≤ n.Kids.length then
        (match sKids (fun k st => sLook t f k st) n.Keys 0 n.Kids 0 ⟨st.seen.set k.toNat true, st.keys, st.deep⟩ with
        | none => none
        | some (s, h) => some (s, h + 1))
      else none) else none := by
  rw [sLook, hn.eq]
  by_cases h4 : n.Keys.length ≤ 4
  · rw [if_pos ⟨h, h4⟩, if_pos h4] <;> rfl
  · rw [if_neg (fun q => h4 q.2), if_neg h4]
theorem sKids_s {rec : Int → LK Str → Option (LK Str × Nat)} {keys : List Str} {i e e2 : Nat} {ks : List Int} {st s2 : LK Str} {ok : Bool} (hi : i < ks.length) (ho : (ok = true ∧ rec ks[i] st = some (s2, e2)) ∨ (ok = false ∧ rec ks[i] st = none)) :
    ((decide ((0 : Int) < (i : Int)) && (!decide ((e2 : Int) = (e : Int)) || decide ((st.keys.length : Int) = (s2.keys.length : Int)) || !decide (s2.keys.getD st.keys.length [] = keys.getD (i - 1) []))) = true → sKids rec keys i (ks.drop i) e st = none) ∧
    ((decide ((0 : Int) < (i : Int)) && (!decide ((e2 : Int) = (e : Int)) || decide ((st.keys.length : Int) = (s2.keys.length : Int)) || !decide (s2.keys.getD st.keys.length [] = keys.getD (i - 1) []))) = false →
      (ok = true ∧ rec ks[i] st = some (s2, e2) ∧ sKids rec keys i (ks.drop i) e st = sKids rec keys (i + 1) (ks.drop (i + 1)) e2 s2) ∨ (ok = false ∧ sKids rec keys i (ks.drop i) e st = none)) := by
  rw [List.drop_eq_getElem_cons hi, sKids]
  rcases ho with ⟨rfl, hr⟩ | ⟨rfl, hr⟩
  · rw [hr]
    simp only
    refine ⟨fun h => ?_, fun h => .inl ⟨trivial, trivial, ?_⟩⟩
    · simp only [Bool.and_eq_true, Bool.or_eq_true, decide_eq_true_eq, Bool.not_eq_true', decide_eq_false_iff_not] at h
      rw [if_pos]
      refine ⟨by omega, fun q => ?_⟩
      rcases h.2 with (w | w) | w
      · exact w (by rw [q.1])
      · exact q.2.1 (by omega)
      · exact w q.2.2
    · rw [if_neg]
      rintro ⟨h1, h2⟩
      rw [decide_eq_true (show (0 : Int) < (i : Int) by omega), Bool.true_and] at h
      simp only [Bool.or_eq_false_iff, Bool.not_eq_false', decide_eq_true_eq, decide_eq_false_iff_not] at h
      exact h2 ⟨by omega, by omega, h.2⟩
  · rw [hr]
    exact ⟨fun _ => rfl, fun _ => .inr ⟨rfl, rfl⟩⟩
theorem any_seen {s : List Bool} : s.any (fun b => eqb false b) = !s.all (fun b => b) := by
  induction s with
  | nil => rfl
  | cons b s ih =>
    rw [List.any_cons, List.all_cons, ih]
    cases b
    · rw [eqb_rfl]; rfl
    · rw [eqb_f (by decide)]; rfl
theorem all_s {s : List Bool} {k : Nat} {o : Bool} (h : k < s.length) : ((o && (s.take k).all (fun b => b)) && s.getD k true) = (o && (s.take (k + 1)).all (fun b => b)) := by
  rw [List.take_succ_eq_append_getElem h, List.all_append, show s.getD k true = s[k] from by simp [h], Bool.and_assoc]
  simp
def goodN (l : List Str) (k : Nat) : Bool := (List.range k).all (fun i => inR (l.getD i []).length 1 30 && (decide (i = 0) || Op.bytesLess (l.getD (i - 1) []) (l.getD i [])))
theorem goodN_s {l : List Str} {k : Nat} {o : Bool} (h : k < l.length) : (((o && goodN l k) && inR l[k].length 1 30) && (decide ((k : Int) = 0) || Op.bytesLess (l.getD (k - 1) []) l[k])) = (o && goodN l (k + 1)) := by
  unfold goodN
  rw [List.range_succ, List.all_append, show l[k] = l.getD k [] from by simp [h], show decide ((k : Int) = 0) = decide (k = 0) from by simp, Bool.and_assoc, Bool.and_assoc]
  simp [Bool.and_assoc]
theorem goodN_0 {l : List Str} : goodN l 0 = true := rfl
theorem goodN_e {l : List Str} : goodN l l.length = goodK l := rfl
theorem key_no {l : List Str} {k : Nat} (h : k < l.length) (q : (!inR l[k].length 1 30 || decide ((0 : Int) < (k : Int)) && !Op.bytesLess (l.getD (k - 1) []) l[k]) = true) : goodK l = false := by
  refine goodK_no h ?_
  cases hr : inR l[k].length 1 30 with
  | false => rfl
  | true =>
    rw [hr] at q
    simp only [Bool.not_true, Bool.false_or, Bool.and_eq_true, decide_eq_true_eq, Bool.not_eq_true'] at q
    rw [q.2, decide_eq_false (by omega)]; rfl
theorem key_yes {l : List Str} {k : Nat} (h : k < l.length) (q : (!inR l[k].length 1 30 || decide ((0 : Int) < (k : Int)) && !Op.bytesLess (l.getD (k - 1) []) l[k]) = false) : (inR l[k].length 1 30 && (decide (k = 0) || Op.bytesLess (l.getD (k - 1) []) l[k])) = true := by
  simp only [Bool.or_eq_false_iff, Bool.not_eq_false'] at q
  rw [q.1, Bool.true_and]
  cases hb : Op.bytesLess (l.getD (k - 1) []) l[k] with
  | true => simp
  | false =>
    have := q.2
    rw [hb, Bool.not_false, Bool.and_true, decide_eq_false_iff_not] at this
    simp; omega
structure TB (t : ITree) : Prop where
  nd : t.Nodes.length ≤ 1048576
  ks : ∀ n ∈ t.Nodes, n.Keys.length ≤ 1048576
  kd : ∀ n ∈ t.Nodes, n.Kids.length ≤ 1048576
  wf : ITree.wf t
theorem tb_of {t : ITree} (w : t.wf) (h : ITree.sz t ≤ 1048576) : TB t := by
  have e : ITree.sz t = szL INode.sz t.Nodes := rfl
  have a0 := @szL_len _ INode.sz t.Nodes
  have key : ∀ n ∈ t.Nodes, INode.sz n ≤ szL INode.sz t.Nodes := by
    intro n hn
    have : ∀ (l : List INode), n ∈ l → INode.sz n ≤ sumBy INode.sz l := by
      intro l
      induction l with
      | nil => intro h; cases h
      | cons x l ih =>
        intro h
        rw [sumBy]
        rcases List.mem_cons.1 h with rfl | h
        · omega
        · have := ih h; omega
    have := this _ hn
    unfold szL; omega
  refine ⟨by omega, fun n hn => ?_, fun n hn => ?_, w⟩
  · have := key n hn
    have e1 : INode.sz n = szL List.length n.Keys + szL (fun _ => 0) n.Kids := rfl
    have a1 := @szL_len _ List.length n.Keys
    omega
  · have := key n hn
    have e1 : INode.sz n = szL List.length n.Keys + szL (fun _ => 0) n.Kids := rfl
    have a1 := @szL_len _ (fun _ => 0) n.Kids
    omega
theorem keysI_of {t : ITree} {s : LK Str} (hn : t.Nodes.length ≤ 200) (h : iLook t (t.Nodes.length + 1) t.Root 1 true (st0 t) = some s) : keysI t = keysOf s := by
  unfold keysI; rw [if_pos hn, h]; rfl
theorem keysI_no {t : ITree} (h : 200 < t.Nodes.length ∨ iLook t (t.Nodes.length + 1) t.Root 1 true (st0 t) = none) : keysI t = none := by
  unfold keysI
  rcases h with h | h
  · rw [if_neg (by omega)]
  · rw [h]; split <;> rfl
theorem keysS_of {t : ITree} {s : LK Str} {e : Nat} (hn : t.Nodes.length ≤ 200) (h : sLook t (t.Nodes.length + 1) t.Root (st0 t) = some (s, e)) : keysS t = keysOf s := by
  unfold keysS; rw [if_pos hn, h]; rfl
theorem keysS_no {t : ITree} (h : 200 < t.Nodes.length ∨ sLook t (t.Nodes.length + 1) t.Root (st0 t) = none) : keysS t = none := by
  unfold keysS
  rcases h with h | h
  · rw [if_neg (by omega)]
  · rw [h]; split <;> rfl
theorem keysOf_b {s : LK Str} : keysOf s = if ((s.seen.all (fun b => b) && goodK s.keys) && decide ((s.keys.length : Int) ≤ 60)) = true then some s.keys else none := by
  unfold keysOf
  by_cases h : (s.seen.all (fun b => b) = true ∧ s.keys.length ≤ 60) ∧ goodK s.keys = true
  · rw [if_pos h, if_pos (by rw [h.1.1, h.2, decide_eq_true (by have := h.1.2; omega)]; rfl)]
  · rw [if_neg h, if_neg (fun q => h ?_)]
    simp only [Bool.and_eq_true, decide_eq_true_eq] at q
    exact ⟨⟨q.1.1, by omega⟩, q.1.2⟩
theorem askF_long {t : ITree} {key : Str} (h : 65536 < key.length) : askF t key = ([], 2) := if_pos h
theorem askF_bad {t : ITree} {key : Str} (h : ¬ 65536 < key.length) (hk : keysI t = none) : askF t key = ([], 1) := by unfold askF; rw [if_neg h, hk]
theorem askF_some {t : ITree} {key : Str} {ks : List Str} (h : ¬ 65536 < key.length) (hk : keysI t = some ks) : askF t key = if inR key.length 1 30 = true then (ks, 0) else ([], 4) := by unfold askF; rw [if_neg h, hk]
theorem delF_no {t : ITree} {key : Str} (h : ¬ (askF t key).2 = 0) : delF t key = (.zero, (askF t key).2) := if_neg h
theorem delF_1 {t : ITree} {key : Str} {ks : List Str} (h : (askF t key).2 = 0) (hk : (askF t key).1 = ks) (h1 : hitS ks key = true) : delF t key = (emb (treeT (delA ks (posS ks key))), 0) := by
  subst hk; unfold delF; rw [if_pos h, if_pos h1]
theorem delF_2 {t : ITree} {key : Str} (h : (askF t key).2 = 0) (h1 : hitS (askF t key).1 key = false) : delF t key = (.zero, 5) := by unfold delF; rw [if_pos h, if_neg (by rw [h1]; simp)]
def smallT {α : Type} (t : TG α) : Bool := decide (t.nodes.length ≤ 200) && t.nodes.all (fun n => decide (n.keys.length ≤ 4) && decide (n.kids.length ≤ 5))
theorem smallT_map {α β : Type} (g : α → β) (t : TG α) : smallT (t.map g) = smallT t := by
  unfold smallT TG.map
  simp only [List.length_map, List.all_map]
  congr 1
  refine congrArg (fun f => t.nodes.all f) (funext fun n => ?_)
  show (decide ((n.keys.map g).length ≤ 4) && decide (n.kids.length ≤ 5)) = _
  rw [List.length_map]
theorem smallT_all : (List.range 62).all (fun n => smallT (treeT (List.range n))) = true := by decide +kernel
theorem tree_small {ks : List Str} (h : ks.length < 62) : smallT (treeT ks) = true := by
  have e : ks = (List.range ks.length).map (fun i => ks.getD i []) := by
    refine List.ext_getElem (by simp) (fun i h1 h2 => ?_)
    simp [h1]
  rw [e, treeT_map, smallT_map]
  have := List.all_eq_true.1 smallT_all ks.length (List.mem_range.2 h)
  simpa using this
structure SB (t : ITree) : Prop where
  nd : t.Nodes.length ≤ 1048576
  ns : ∀ n ∈ t.Nodes, n.Keys.length ≤ 1048576 ∧ n.Kids.length ≤ 1048576
  mx : cntN 1 t.Nodes ≤ 1000000000000000000
theorem sb_zero : SB .zero := ⟨by decide, fun n h => (by simp [ITree.zero] at h), by decide⟩
theorem sb_emb {t : GTree} (h : smallT t = true) : SB (emb t) := by
  unfold smallT at h
  rw [Bool.and_eq_true] at h
  have h1 := of_decide_eq_true h.1
  have h2 := List.all_eq_true.1 h.2
  have key : ∀ n ∈ (emb t).Nodes, n.Keys.length ≤ 4 ∧ n.Kids.length ≤ 5 := by
    intro n hn
    obtain ⟨m, hm, rfl⟩ := List.mem_map.1 hn
    have := h2 m hm
    simp only [Bool.and_eq_true, decide_eq_true_eq] at this
    exact ⟨this.1, by show (m.kids.map _).length ≤ 5; rw [List.length_map]; exact this.2⟩
  have hl : (emb t).Nodes.length ≤ 200 := by show (t.nodes.map embN).length ≤ 200; rw [List.length_map]; exact h1
  refine ⟨by omega, fun n hn => by have := key n hn; omega, ?_⟩
  have : ∀ (l : List INode), (∀ n ∈ l, n.Keys.length ≤ 4 ∧ n.Kids.length ≤ 5) → cntN 1 l ≤ 1 + 10 * l.length := by
    intro l
    induction l with
    | nil => intro _; decide
    | cons x l ih =>
      intro h
      have h3 := ih (fun n hn => h n (List.mem_cons_of_mem _ hn))
      have h4 := h x List.mem_cons_self
      unfold cntN at h3 ⊢
      simp only [List.map_cons, List.sum_cons, List.length_cons, INode.cnt]
      omega
  have := this _ key
  omega
theorem sb_del {t : ITree} {key : Str} : SB (delF t key).1 := by
  unfold delF
  split
  · rename_i h
    split
    · rename_i h1
      refine sb_emb (tree_small ?_)
      obtain ⟨hk, _⟩ := askF_ks h
      have := hk.ln
      obtain ⟨hp, _⟩ := (posS_mem hk.asc).1 (of_decide_eq_true h1)
      rw [delA_len hp]; omega
    · exact sb_zero
  · exact sb_zero
def ITree.mkN (k : Nat) (t : ITree) : Nat := cntN k t.Nodes
theorem TB.ns {t : ITree} (h : TB t) : ∀ n ∈ t.Nodes, n.Keys.length ≤ 1048576 ∧ n.Kids.length ≤ 1048576 := fun n hn => ⟨h.ks n hn, h.kd n hn⟩
theorem tree_mkN {t : ITree} (h : ITree.sz t ≤ 1048576) : ITree.mkN 1 t ≤ 1000000000000000000 := by
  have e : ITree.sz t = szL INode.sz t.Nodes := rfl
  have := @cntN_sz 1 t.Nodes
  unfold ITree.mkN; omega
end Go.AM
