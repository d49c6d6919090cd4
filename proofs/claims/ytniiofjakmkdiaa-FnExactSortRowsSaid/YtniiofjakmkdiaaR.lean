/- A function that ranges over an iterator, or of the library, at the level of worlds: what it computes, and its contract (part 0). -/
import Derived.Shelf.SlSortCmp.WholeK
import Derived.Test.YtniiofjakmkdiaaProg
import Derived.Test.YtniiofjakmkdiaaA2
namespace Go.Proofs.Ytniiofjakmkdiaa
open Go Go.AM Go.Shelf
/-- A row's cells. -/
def encR (r : GRow) : List Value := [.int .i64 r.Id, .int .i64 r.N.Kind, .int .i64 r.N.N, .string ⟨r.N.T.toArray⟩, .int .i64 r.Name.Kind, .int .i64 r.Name.N, .string ⟨r.Name.T.toArray⟩]
set_option maxRecDepth 100000 in
def sortR_ren : Go.Shelf.Ren := ⟨fun | 6 => 30 | 15 => 43 | 14 => 42 | 28 => 57 | 29 => 58 | 20 => 49 | 21 => 50 | 22 => 51 | 23 => 52 | 24 => 53 | 25 => 54 | 26 => 55 | 27 => 56 | 46 => 62 | 47 => 63 | 48 => 64 | 49 => 65 | 50 => 66 | 57 => 67 | n => n, fun | 22 => 24 | 24 => 41 | 25 => 55 | 3 => 3 | 39 => 64 | 0 => 0 | 53 => 79 | 55 => 81 | 4 => 4 | 46 => 72 | 45 => 71 | 50 => 76 | 5 => 5 | 9 => 9 | 66 => 83 | 70 => 87 | 76 => 89 | 77 => 90 | n => n, fun | n => n⟩
set_option maxRecDepth 100000 in
theorem sortR : Go.Proofs.SlLaysF0.n6 Try.prog sortR_ren := {
  mixed := by kernel_rfl
  f6 := ⟨Try.f30.name, by decide, Try.func30.trans (congrArg some (by kernel_rfl))⟩
  f14 := ⟨Try.f42.name, by decide, Try.func42.trans (congrArg some (by kernel_rfl))⟩
  f15 := Try.func43.trans (congrArg some (by kernel_rfl))
  f20 := ⟨Try.f49.name, by decide, Try.func49.trans (congrArg some (by kernel_rfl))⟩
  f21 := ⟨Try.f50.name, by decide, Try.func50.trans (congrArg some (by kernel_rfl))⟩
  f22 := ⟨Try.f51.name, by decide, Try.func51.trans (congrArg some (by kernel_rfl))⟩
  f23 := ⟨Try.f52.name, by decide, Try.func52.trans (congrArg some (by kernel_rfl))⟩
  f24 := ⟨Try.f53.name, by decide, Try.func53.trans (congrArg some (by kernel_rfl))⟩
  f25 := ⟨Try.f54.name, by decide, Try.func54.trans (congrArg some (by kernel_rfl))⟩
  f26 := ⟨Try.f55.name, by decide, Try.func55.trans (congrArg some (by kernel_rfl))⟩
  f27 := ⟨Try.f56.name, by decide, Try.func56.trans (congrArg some (by kernel_rfl))⟩
  f28 := Try.func57.trans (congrArg some (by kernel_rfl))
  f29 := Try.func58.trans (congrArg some (by kernel_rfl))
  f46 := ⟨Try.f62.name, by decide, Try.func62.trans (congrArg some (by kernel_rfl))⟩
  f47 := Try.func63.trans (congrArg some (by kernel_rfl))
  f48 := Try.func64.trans (congrArg some (by kernel_rfl))
  f49 := ⟨Try.f65.name, by decide, Try.func65.trans (congrArg some (by kernel_rfl))⟩
  f50 := ⟨Try.f66.name, by decide, Try.func66.trans (congrArg some (by kernel_rfl))⟩
  f57 := ⟨Try.f67.name, by decide, Try.func67.trans (congrArg some (by kernel_rfl))⟩
  t0 := Try.underlying0
  a0 := Try.isAgg0
  z0 := Try.sizeOf0
  v0 := Try.zeroValue0
  t3 := Try.underlying3
  a3 := Try.isAgg3
  z3 := Try.sizeOf3
  v3 := Try.zeroValue3
  t4 := Try.underlying4
  a4 := Try.isAgg4
  z4 := Try.sizeOf4
  v4 := Try.zeroValue4
  t5 := Try.underlying5
  a5 := Try.isAgg5
  z5 := Try.sizeOf5
  v5 := Try.zeroValue5
  t9 := Try.underlying9
  a9 := Try.isAgg9
  z9 := Try.sizeOf9
  v9 := Try.zeroValue9
  t22 := Try.underlying24
  a22 := Try.isAgg24
  z22 := Try.sizeOf24
  v22 := Try.zeroValue24
  t25 := Try.underlying55
  a25 := Try.isAgg55
  z25 := Try.sizeOf55
  v25 := Try.zeroValue55
  t39 := Try.underlying64
  a39 := Try.isAgg64
  z39 := Try.sizeOf64
  v39 := Try.zeroValue64
  t45 := Try.underlying71
  a45 := Try.isAgg71
  z45 := Try.sizeOf71
  v45 := Try.zeroValue71
  t46 := Try.underlying72
  a46 := Try.isAgg72
  z46 := Try.sizeOf72
  v46 := Try.zeroValue72
  t50 := Try.underlying76
  a50 := Try.isAgg76
  z50 := Try.sizeOf76
  v50 := Try.zeroValue76
  t53 := Try.underlying79
  a53 := Try.isAgg79
  z53 := Try.sizeOf79
  v53 := Try.zeroValue79
  t55 := Try.underlying81
  a55 := Try.isAgg81
  z55 := Try.sizeOf81
  v55 := Try.zeroValue81
  t66 := Try.underlying83
  a66 := Try.isAgg83
  z66 := Try.sizeOf83
  v66 := Try.zeroValue83
  t70 := Try.underlying87
  a70 := Try.isAgg87
  z70 := Try.sizeOf87
  v70 := Try.zeroValue87
  t76 := Try.underlying89
  a76 := Try.isAgg89
  z76 := Try.sizeOf89
  v76 := Try.zeroValue89
  t77 := Try.underlying90
  a77 := Try.isAgg90
  z77 := Try.sizeOf90
  v77 := Try.zeroValue90 }
instance : Inhabited GRow := ⟨.zero⟩
theorem encR_len (r : GRow) : (encR r).length = 7 := rfl
theorem encR_DR {w : World} {ok : Nat → Prop} (r : GRow) (j : Nat) (x : D) (h : (GRow.row r)[j]? = some x) : ∃ v, (encR r)[j]? = some v ∧ DR w ok x v := by
  have hj : j < 7 := (List.getElem?_eq_some_iff.1 h).1
  rcases (by omega : j = 0 ∨ j = 1 ∨ j = 2 ∨ j = 3 ∨ j = 4 ∨ j = 5 ∨ j = 6) with rfl | rfl | rfl | rfl | rfl | rfl | rfl <;> (cases h; exact ⟨_, rfl, by rw [DR]⟩)
theorem encR_un {w : World} {ok : Nat → Prop} (r : GRow) (j : Nat) (x : D) (v : Value) (h : (GRow.row r)[j]? = some x) (hv : DR w ok x v) : (encR r)[j]? = some v := by
  have hj : j < 7 := (List.getElem?_eq_some_iff.1 h).1
  rcases (by omega : j = 0 ∨ j = 1 ∨ j = 2 ∨ j = 3 ∨ j = 4 ∨ j = 5 ∨ j = 6) with rfl | rfl | rfl | rfl | rfl | rfl | rfl <;> (cases h; rw [DR] at hv; subst hv; rfl)
theorem encR_AR {X : Nat → Prop} {β : Names} {w : World} (r : GRow) : AR X β w r.av (.agg (encR r).toArray) := by
  rw [GRow.av, AR]
  exact ⟨_, rfl, by simp [encR, AL, AR, DR]⟩
theorem fr_grow {W W' : World} (F : Fr noN W W') : ∃ q os', W' = Go.Sort.grow (W.drewN q) os' := by
  refine ⟨W'.drawn - W.drawn, W'.heap.extract W.heap.size W'.heap.size, ?_⟩
  have hh : W'.heap = W.heap ++ W'.heap.extract W.heap.size W'.heap.size := by
    apply Array.ext_getElem?
    intro i
    rw [Array.getElem?_append]
    split
    · rename_i hi; exact F.same i hi (fun e h => by cases h)
    · rename_i hi
      rw [Array.getElem?_extract]
      have := F.size
      split
      · congr 1; omega
      · rename_i h2; exact Array.getElem?_eq_none (by omega)
  have h1 := F.os; have h2 := F.tape; have h3 := F.output; have h4 := F.drawn
  cases W' with
  | mk heap tape drawn os output =>
    simp only at hh h1 h2 h3 h4 ⊢
    unfold Go.Sort.grow World.drewN
    simp only [World.mk.injEq]
    exact ⟨hh, h2, by omega, h1, h3⟩
theorem putCells_size {α : Type} [Inhabited α] (enc : α → Value) (off : Nat) (d : Array α) (c : Array Value) : (Go.Sort.putCells enc off d c).size = c.size := by unfold Go.Sort.putCells; simp
/-- What has become of the world where the sort passes through. -/
theorem sw_heap {w : World} {b m : Nat} {dk : Array GRow} {os : Array Obj} : (Go.Proofs.sortWorldK encR 7 w b 0 m dk os).heap.size = w.heap.size + os.size ∧
    (∀ k, k < w.heap.size → k ≠ b → (Go.Proofs.sortWorldK encR 7 w b 0 m dk os).heap[k]? = w.heap[k]?) ∧
    (b < w.heap.size → ∀ c ty fr, w.heap[b]? = some (.cells c ty fr) → (Go.Proofs.sortWorldK encR 7 w b 0 m dk os).heap[b]? = some (.cells (Go.Sort.putCells id 0 (Go.Sort.flatK encR 7 dk) c) ty fr)) := by
  unfold Go.Proofs.sortWorldK Go.Sort.grow Go.Sort.putRowK Go.Sort.putRow Go.Sort.mapBlock Go.Sort.ahead
  refine ⟨by simp, fun k hk hb => ?_, fun hb c ty fr h => ?_⟩
  · simp only
    rw [Array.getElem?_append_left (by simpa using hk), Array.getElem?_modify, if_neg (fun e => hb e.symm)]
  · simp only
    rw [Array.getElem?_append_left (by simpa using hb), Array.getElem?_modify, if_pos rfl, h]
    rfl
theorem sw_rest {w : World} {b m : Nat} {dk : Array GRow} {os : Array Obj} : (Go.Proofs.sortWorldK encR 7 w b 0 m dk os).os = w.os ∧ (Go.Proofs.sortWorldK encR 7 w b 0 m dk os).tape = w.tape ∧ (Go.Proofs.sortWorldK encR 7 w b 0 m dk os).output = w.output ∧
    (Go.Proofs.sortWorldK encR 7 w b 0 m dk os).drawn = w.drawn + m := ⟨rfl, rfl, rfl, rfl⟩
theorem flat_at {l : List GRow} {i j : Nat} (hi : i < l.length) (hj : j < 7) : (Go.Sort.flatK encR 7 l.toArray)[i * 7 + j]! = (encR l[i])[j]! := by
  rw [Go.Sort.get_flatK _ _ _ _ (by simp; omega), show (i * 7 + j) / 7 = i from by omega, show (i * 7 + j) % 7 = j from by omega]
  congr 1
  simp [hi]
theorem put_at {l : List GRow} {c : Array Value} (hc : l.length * 7 ≤ c.size) {i j : Nat} (hi : i < l.length) (hj : j < 7) : (Go.Sort.putCells id 0 (Go.Sort.flatK encR 7 l.toArray) c)[i * 7 + j]? = (encR l[i])[j]? := by
  unfold Go.Sort.putCells
  have hlt : i * 7 + j < c.size := by omega
  rw [Array.getElem?_mapIdx, Array.getElem?_eq_getElem hlt, Option.map_some, if_pos (by simp; omega), Nat.sub_zero, flat_at hi hj]
  have : j < (encR l[i]).length := by rw [encR_len]; exact hj
  simp [this]
set_option maxHeartbeats 4000000 in
theorem c_SortBig {xs : List GRow} {cf : Nat} {ds : List D} {cmp : GRow → GRow → Int} (hl : xs.length ≤ 1048576) (h0 : 0 < xs.length) (hb : hasBody Try.prog cf = true) (hgc : GC cmp)
    (hf : ∀ a b : GRow, Con Try.prog noMv cf (a.av :: b.av :: ds.map AV.d) [] (fun r h => r = AM.int (cmp a b) ∧ h = [])) :
    Con Try.prog noMv 30 [.osl 1000 7 0 xs.length, .d (.fn (.func cf) ds)] [(1000, .rows 7 (xs.map GRow.row))]
      (fun r h => r = .tup [] ∧ ∃ l : List GRow, l.Perm xs ∧ l.Pairwise (fun a b => decide (cmp b a < 0) = false) ∧ h = [(1000, .rows 7 (l.map GRow.row))]) := by
  intro X β w us hX hd H A hG
  rw [AL] at A
  obtain ⟨v1, r1, rfl, A1, A⟩ := A
  rw [AL] at A
  obtain ⟨v2, r2, rfl, A2, A⟩ := A
  rw [AL] at A
  subst A
  rw [AR] at A1
  obtain ⟨a, cap, rfl, hcap, hc⟩ := A1
  have A2 : DR w (okf X β) (.fn (.func cf) ds) v2 := by rw [AR.eq_def] at A2; exact A2
  rw [DR] at A2
  obtain ⟨vs, rfl, hDL⟩ := A2
  obtain ⟨b, c, ty, fr, hβ, rfl, hcb, hsz⟩ := hc.resolve_left (by omega)
  have hob := H.own 1000 _ (get_cons_self _ _ _)
  rw [hβ] at hob
  obtain ⟨c', ty', fr', hcb', hth, hlen, hrows⟩ := hob
  rw [hcb] at hcb'
  obtain ⟨rfl, rfl, rfl⟩ : c = c' ∧ ty = ty' ∧ fr = fr' := by cases hcb'; exact ⟨rfl, rfl, rfl⟩
  have hblt := H.lt _ _ hβ
  have hln : xs.length * 7 ≤ c.size := by simpa using hlen
  -- the row holds what it should
  have hH : Go.Sort.HoldsK encR 7 w b 0 xs.toArray := by
    intro q hq
    rw [Go.Sort.size_flatK] at hq
    have hq : q < xs.length * 7 := by simpa using hq
    have hi : q / 7 < xs.length := by omega
    have hj : q % 7 < 7 := Nat.mod_lt _ (by decide)
    have e : q = q / 7 * 7 + q % 7 := by omega
    obtain ⟨_, hcells⟩ := hrows (q / 7) (GRow.row xs[q / 7]) (by simp [hi])
    have hx : ∃ x, (GRow.row xs[q / 7])[q % 7]? = some x := ⟨(GRow.row xs[q / 7])[q % 7]'(by show _ < 7; exact hj), List.getElem?_eq_getElem _⟩
    obtain ⟨x, hx⟩ := hx
    obtain ⟨v, hv, hdr⟩ := hcells (q % 7) x hx
    have hv2 := encR_un xs[q / 7] (q % 7) x v hx hdr
    rw [← e] at hv
    have hfl : (Go.Sort.flatK encR 7 xs.toArray)[q]! = (encR xs[q / 7])[q % 7]! := by
      have := flat_at (l := xs) hi hj
      rw [← e] at this; exact this
    constructor
    · unfold World.cell?
      simp only [Nat.zero_add]
      rw [hcb, hfl]
      simp only [hv, id]
      simp [hv2]
    · unfold World.frozen?
      simp only [hcb, Nat.zero_add]
      have := hth.1 q (by omega)
      simp only [Bool.and_eq_false_iff, decide_eq_false_iff_not]
      omega
  -- the comparison, where the sort passes through
  have hcmp : CmpLays Try.prog cf vs encR 7 cmp b 0 xs.toArray.size w := by
    intro m os dk hdk x y
    obtain ⟨s1, s2, s3⟩ := @sw_heap w b m dk os
    obtain ⟨t1, t2, t3, t4⟩ := @sw_rest w b m dk os
    generalize hW : sortWorldK encR 7 w b 0 m dk os = W at s1 s2 s3 t1 t2 t3 t4 ⊢
    have K : Keep (okf X β) (okf (fun z => z = b ∨ X z) noN) w W := ⟨by omega, fun k ⟨p1, p2⟩ hk => s2 k hk (fun e => p2 1000 (by rw [hβ, e])), fun k ⟨p1, p2⟩ _ => ⟨fun h => h.elim (fun e => p2 1000 (by rw [hβ, e])) p1, fun e he => by cases he⟩⟩
    have hD := DL.mono K _ _ hDL
    have := hf x y (fun z => z = b ∨ X z) noN W (.agg (encR x).toArray :: .agg (encR y).toArray :: vs.toList)
      (fun z hz => by rcases hz with rfl | hz; · omega
                      · have := hX z hz; omega) (fun e z h => by cases h)
      ⟨fun e e' z h => (by cases h), fun e z h => (by cases h), fun e z h => (by cases h), fun e ob h => (by simp [AM.get] at h)⟩
      (by rw [AL]; exact ⟨_, _, rfl, encR_AR x, by rw [AL]; exact ⟨_, _, rfl, encR_AR y, DL_AL hD⟩⟩)
      (fun p hp g hg => by
        obtain ⟨q1, q2, ty2, fr2, q3⟩ := hG p hp g hg
        have hne : g ≠ b := fun e => q2 1000 (by rw [hβ, e])
        exact ⟨fun h => h.elim hne q1, fun e he => (by cases he), ty2, fr2, by rw [s2 g (GOK.lt (P := Try.prog) (X := X) (β := β) q3) hne]; exact q3⟩)
    have e9 : (Value.agg (encR x).toArray :: Value.agg (encR y).toArray :: vs.toList).toArray = #[.agg (encR x).toArray, .agg (encR y).toArray] ++ vs := by
      apply Array.ext'; simp
    rw [e9] at this
    refine this.mono ?_
    rintro e w'' ⟨v, r, h', β', rfl, ⟨rfl, rfl⟩, hr, _, F, _⟩
    have hr : AR _ β' w'' (.d (.int .i64 (cmp x y))) v := hr
    rw [AR, DR] at hr
    subst hr
    exact ⟨rfl, fr_grow F⟩
  have hO : Go.Sort.SWO (ltOf cmp) := {
    irrefl := fun x => by unfold ltOf; have := hgc.anti x x; exact decide_eq_false (by omega)
    trans := fun x y z h1 h2 => by
      unfold ltOf at *
      have h1 := of_decide_eq_true h1; have h2 := of_decide_eq_true h2
      exact decide_eq_true (hgc.lt h1 (by omega))
    ntrans := fun x y z h1 h2 => by
      unfold ltOf at *
      have h1 := of_decide_eq_false h1; have h2 := of_decide_eq_false h2
      have e1 := hgc.anti x y; have e2 := hgc.anti y z; have e3 := hgc.anti x z
      have := hgc.le z y x (by omega) (by omega)
      exact decide_eq_false (by omega) }
  have hS := AnyQ.slices_SortFunc sortR 7 (by intro w; exact isRow_run (by kernel_rfl) w) (by intro w; exact szIs_some (by kernel_rfl) w) encR encR_len (fun r v hv => by
      simp only [encR, List.mem_cons, List.not_mem_nil, or_false] at hv
      rcases hv with rfl | rfl | rfl | rfl | rfl | rfl | rfl <;> rfl) cmp hO cf vs b 0 cap xs.toArray w (fun args w => callFunc_run hb args w) hcmp hH hblt (by simp; omega)
  change Calls Try.prog 30 _ _ _ at hS
  have e1 : ([Value.slice (some ⟨b, 0 * 7, none⟩) xs.length cap, Value.func (.func cf) #[] vs] : List Value).toArray = #[.slice (some ⟨b, 0, none⟩) xs.toArray.size cap, .func (.func cf) #[] vs] := by simp
  rw [e1]
  refine hS.mono ?_
  rintro e w' ⟨rfl, d', n, os, hperm, hsort, rfl⟩
  obtain ⟨hds, _, hpm⟩ := hperm
  have hds : d'.size = xs.length := by simpa using hds
  have hpm : d'.toList.Perm xs := by
    have e2 : d'.extract 0 xs.toArray.size = d' := by rw [List.size_toArray, ← hds]; exact Array.extract_size
    have e3 : xs.toArray.extract 0 xs.toArray.size = xs.toArray := Array.extract_size
    rw [e2, e3] at hpm
    simpa using hpm
  obtain ⟨s1, s2, s3⟩ := @sw_heap w b n d' os
  obtain ⟨t1, t2, t3, t4⟩ := @sw_rest w b n d' os
  have s3 := s3 hblt c ty fr hcb
  generalize sortWorldK encR 7 w b 0 n d' os = W at s1 s2 s3 t1 t2 t3 t4 ⊢
  have hl' : d'.toList.length = xs.length := by simpa using hds
  have hnb : ∀ k, (∀ e, β e ≠ some k) → k ≠ b := fun k hk e => hk 1000 (by rw [hβ, e])
  refine ⟨_, .tup [], [(1000, .rows 7 (d'.toList.map GRow.row))], β, rfl, ⟨rfl, d'.toList, hpm, ?_, rfl⟩, ?_, ?_, ?_, fun e z hz => ⟨?_, .inr ⟨e, hz⟩⟩, fun _ _ _ _ => rfl⟩
  · rw [List.pairwise_iff_getElem]
    intro i j hi hj hij
    have := hsort i j (Nat.zero_le _) hij (by simpa using (by omega : j < xs.length))
    have ei : d'[i]! = d'.toList[i] := by rw [getElem!_pos d' i (by simpa using hi)]; simp
    have ej : d'[j]! = d'.toList[j] := by rw [getElem!_pos d' j (by simpa using hj)]; simp
    rw [ei, ej] at this
    exact this
  · rw [AR]; exact ⟨#[], rfl, by rw [AL]⟩
  · exact {
      inj := H.inj
      lt := fun e z h => by have := H.lt e z h; omega
      notX := H.notX
      own := fun e ob ho => by
        rw [get_cons] at ho
        split at ho
        · rename_i h1; subst h1; cases ho
          rw [hβ]
          refine ⟨_, ty, fr, s3, by rw [putCells_size]; exact hth, by rw [putCells_size, List.length_map, hl']; exact hln, ?_⟩
          intro i r hi
          rw [List.getElem?_map] at hi
          rcases Nat.lt_or_ge i d'.toList.length with hlt | hge
          · rw [List.getElem?_eq_getElem hlt, Option.map_some] at hi
            cases hi
            refine ⟨rfl, fun j x hj => ?_⟩
            obtain ⟨v, hv, hdr⟩ := encR_DR (w := W) (ok := okf X β) d'.toList[i] j x hj
            have hj7 : j < 7 := (List.getElem?_eq_some_iff.1 hj).1
            refine ⟨v, ?_, hdr⟩
            have := put_at (l := d'.toList) (c := c) (by rw [hl']; exact hln) hlt hj7
            rw [Array.toArray_toList] at this
            rw [this, hv]
          · rw [List.getElem?_eq_none hge] at hi; cases hi
        · simp [AM.get] at ho }
  · exact ⟨t1, t2, t3, by omega, fun k hk hn => s2 k hk (hnb k hn), fun k c2 ty2 fr2 hk => by
      by_cases hkb : k = b
      · subst hkb
        rw [hcb] at hk; cases hk
        exact ⟨_, _, _, s3, putCells_size _ _ _ _⟩
      · exact ⟨c2, ty2, fr2, by rw [s2 k (Array.getElem?_eq_some_iff.1 hk).1 hkb]; exact hk, rfl⟩, by omega⟩
  · have := hd e z hz
    rw [get_cons] at this ⊢
    split
    · rfl
    · rename_i h1; rw [if_neg h1] at this; exact this
end Go.Proofs.Ytniiofjakmkdiaa
