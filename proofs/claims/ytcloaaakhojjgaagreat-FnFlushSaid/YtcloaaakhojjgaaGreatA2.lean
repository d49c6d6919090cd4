/- A layer over the calls (plain data, own blocks, code, contracts) and plain laws about what the functions compute (part 2). -/
import Derived.Test.YtcloaaakhojjgaaGreatA1
set_option linter.unusedVariables false
set_option linter.unusedSimpArgs false
namespace Go.AM
theorem stepL {C : Cx} {deps : List (List Nat)} {sl : List (Nat × AV)} {own : List (Nat × OB)} {k dk : Nat} {p : Nat → Bool} {q : AV → Bool} {FN : List Nat} {hk : List (Nat × OB)} {acc : List Dl} (g1 : accG deps k FN hk sl own acc = true) (hkh : ∀ y, acc[k]? = some y → y.h = [])
  {i : Nat} {x : XI} {dl : Dl} {ds ts bd : List Nat} {slv : List (Nat × AV)} {ownv : List (Nat × OB)} (hdl : acc[i]? = some dl) (hds : deps[i]? = some ds) (hstep : StepG C k dk p q FN hk (membN k ds) (membN i (depsAt deps k)) i slv ownv ts bd x dl)
  (hv1 : ∀ t y, get slv t = some y → (∃ m z, acc[m]? = some z ∧ membN m ds = true ∧ z.d = t ∧ z.r = y) ∨ get sl t = some y)
  (hv2 : ∀ e ob, get ownv e = some ob → (∃ m z, acc[m]? = some z ∧ membN m ds = true ∧ get z.h e = some ob) ∨ get own e = some ob)
  (L : Nat → Bool) (hLi : L i = false) (hdep : ∀ j, depOf deps i j = true → L j = true) (hcl : ∀ j m, L j = true → depOf deps j m = true → L m = true) :
  AXI C false [] [x] (stG k dk p q hk sl own acc L) (fun st' => Wk C st' (stG k dk p q hk sl own acc (fun j => Nat.beq i j || L j))) := by
 unfold accG at g1
 simp only [Bool.and_eq_true] at g1
 obtain ⟨⟨⟨⟨⟨⟨⟨⟨⟨a1, a2⟩, a3⟩, a4⟩, a5⟩, a6⟩, a8⟩, b1⟩, b2⟩, b3⟩ := g1
 have a8 := Nat.le_of_ble_eq_true a8
 have hmd : ∀ m, membN m ds = depOf deps i m := fun m => by unfold depOf; rw [hds]
 rw [hmd k, ← depsAt_eq] at hstep
 -- the views
 have hvS : ∀ t y, get slv t = some y → get (pickS L 0 acc ++ sl) t = some y := fun t y hy => pickS_mk a1 a2 (by
  rcases hv1 t y hy with ⟨j, z, q1, q2, q3, q4⟩ | q0
  ·
   rw [hmd] at q2
   exact .inl ⟨j, z, q1, by rw [Nat.zero_add]; exact hdep j q2, q3, q4⟩
  ·
   exact .inr q0)
 have hvO : ∀ e ob, get ownv e = some ob → get (pickH L 0 acc ++ own) e = some ob := fun e ob he => pickH_mk a3 a4 (by
  rcases hv2 e ob he with ⟨j, z, q1, q2, q3⟩ | q0
  ·
   rw [hmd] at q2
   exact .inl ⟨j, z, q1, by rw [Nat.zero_add]; exact hdep j q2, q3⟩
  ·
   exact .inr q0)
 let L' : Nat → Bool := fun j => Nat.beq i j || L j
 have hLL' : ∀ j, L j = true → L' j = true := fun j hj => by show (Nat.beq i j || L j) = true; rw [hj, Bool.or_true]
 have hL'i : L' i = true := by show (Nat.beq i i || L i) = true; simp
 have hL'o : ∀ j, L' j = true → j ≠ i → L j = true := fun j hj hne => by
  have : (Nat.beq i j || L j) = true := hj
  rw [beq_ne (fun h => hne h.symm), Bool.false_or] at this; exact this
 have hS : ∀ t y, get (pickS L' 0 acc ++ sl) t = some y → (t = dl.d ∧ y = dl.r) ∨ (t ≠ dl.d ∧ get (pickS L 0 acc ++ sl) t = some y) := by
  intro t y hy
  rcases pickS_of hy with ⟨j, z, q1, q2, q3, q4⟩ | q0
  ·
   rw [Nat.zero_add] at q2
   by_cases hij : j = i
   ·
    subst hij; rw [hdl] at q1; cases q1; exact .inl ⟨q3.symm, q4.symm⟩
   ·
    refine .inr ⟨fun he => ds_ne a1 hdl q1 (fun h => hij h.symm) (by rw [q3, he]), pickS_mk a1 a2 (.inl ⟨j, z, q1, by rw [Nat.zero_add]; exact hL'o j q2 hij, q3, q4⟩)⟩
  ·
   refine .inr ⟨fun he => ?_, pickS_mk a1 a2 (.inr q0)⟩
   subst he
   rw [frS_mem a2 dl.d (List.mem_map_of_mem (List.mem_of_getElem? hdl))] at q0; cases q0
 have hO : ∀ e ob, get (pickH L' 0 acc ++ own) e = some ob → get dl.h e = some ob ∨ (get dl.h e = none ∧ get (pickH L 0 acc ++ own) e = some ob) := by
  intro e ob he
  rcases pickH_of he with ⟨j, z, q1, q2, q3⟩ | q1
  ·
   rw [Nat.zero_add] at q2
   by_cases hij : j = i
   ·
    subst hij; rw [hdl] at q1; cases q1; exact .inl q3
   ·
    refine .inr ⟨?_, pickH_mk a3 a4 (.inl ⟨j, z, q1, by rw [Nat.zero_add]; exact hL'o j q2 hij, q3⟩)⟩
    cases hg : get dl.h e with
    | none => rfl
    | some o => exact absurd (get_mem_fst q3) (ns_ne a3 hdl q1 (fun h => hij h.symm) e (get_mem_fst hg))
  ·
   refine .inr ⟨?_, pickH_mk a3 a4 (.inr q1)⟩
   cases hg : get dl.h e with
   | none => rfl
   | some o =>
    have := noneIn_mem a4 ((ns_distinct a3 hdl).2 e (get_mem_fst hg))
    rw [this] at q1; cases q1
 -- new names are free
 have hnr : ∀ (ns : List Nat), indepI deps i ns 0 (withK k hk 0 acc) = true → nsOK sl own ns = true → ∀ n ∈ ns, n < 1000 ∧ nrS n (pickS L 0 acc ++ sl) = true ∧ nrOs n (pickH L 0 acc ++ own) = true ∧ (L k = true → nrOs n hk = true) := by
  intro ns hi hn n hm
  obtain ⟨c1, c2, c3⟩ := nsOK_spec hn hm
  have hind : ∀ j y, acc[j]? = some y → L j = true → nrA n y.r = true ∧ nrOs n (bif Nat.beq j k then hk else y.h) = true := fun j y hy hL => by
   have := indepI_spec (j := 0) (k := j) hi (withK_get (i := 0) hy) (by rw [Nat.zero_add]; rintro rfl; rw [hLi] at hL; cases hL) (by
    rw [Nat.zero_add]
    cases hh : depOf deps j i with
    | false => rfl
    | true => have := hcl j i hL hh; rw [hLi] at this; cases this) n hm
   rw [Nat.zero_add] at this
   cases hb : Nat.beq j k with
   | true => rw [hb] at this; exact this
   | false => rw [hb] at this; exact this
  refine ⟨c1, ?_, ?_, fun hLk => ?_⟩
  ·
   rw [nrS_append, c2, Bool.and_true]
   exact nrS_pick fun j y hy hL => (hind j y hy (by rw [Nat.zero_add] at hL; exact hL)).1
  ·
   rw [nrOs_append, c3, Bool.and_true]
   refine nrOs_pick fun j y hy hL => ?_
   rw [Nat.zero_add] at hL
   have := (hind j y hy hL).2
   cases hb : Nat.beq j k with
   | false => rw [hb] at this; exact this
   | true =>
    have hjk := Nat.eq_of_beq_eq_true hb
    subst hjk
    rw [hkh y hy]; rfl
  ·
   have := (hind k _ (by simp [show k < acc.length from a8]; rfl) hLk).2
   simpa using this
 show AXI C false [] [x] (stG k dk p q hk sl own acc L) (fun st' => Wk C st' (stG k dk p q hk sl own acc L'))
 rcases hstep with ⟨s1, sh, s2, s3⟩ | ⟨s1, slm, s2, s3, s5⟩
 ·
  have s1 := Nat.eq_of_beq_eq_true s1
  have s2 := Nat.eq_of_beq_eq_true s2
  subst s1 s2
  have e1 : stG i dl.d p q hk sl own acc L = ⟨pickS L 0 acc ++ sl, pickH L 0 acc ++ own⟩ := by unfold stG; rw [hLi]; rfl
  have e2 : stG i dl.d p q hk sl own acc L' = ⟨fltS q dl.d (pickS L' 0 acc ++ sl), hk ++ pgOs p (pickH L' 0 acc ++ own)⟩ := by unfold stG; rw [hL'i]; rfl
  rw [e1, e2]
  refine (s3 _ _ hvS hvO (freeN_mk b1 (fun n hn => ⟨(hnr FN b3 b2 n hn).1, (hnr FN b3 b2 n hn).2.1, (hnr FN b3 b2 n hn).2.2.1⟩))).mono ?_
  rintro st' ⟨u1, u2, u3, u4⟩
  refine wk_le2 (fun t y hy => ?_) (fun e ob he => ?_)
  ·
   rcases get_flt hy with rfl | ⟨h1, h2⟩
   ·
    exact .inl rfl
   ·
    rcases hS t y h1 with ⟨rfl, rfl⟩ | ⟨h3, h4⟩
    ·
     exact u1
    ·
     right
     rcases h2 with h2 | h2
     ·
      exact absurd h2 h3
     ·
      exact u2 t y h3 h4 h2
  ·
   rcases get_app _ _ _ _ he with h1 | ⟨h1, h2⟩
   ·
    exact u3 e ob h1
   ·
    obtain ⟨ob0, h3, rfl⟩ := get_pgOs_of h2
    rcases hO e ob0 h3 with h4 | ⟨_, h4⟩
    ·
     rw [sh] at h4; simp [get] at h4
    ·
     exact u4 e ob0 h1 h4
 ·
  have hik : i ≠ k := fun h => by subst h; simp at s1
  have hL'k : L' k = L k := by show (Nat.beq i k || L k) = L k; rw [s1, Bool.false_or]
  have hind : indepI deps i (dl.h.map Prod.fst) 0 (withK k hk 0 acc) = true := by
   have := indepB_spec (i := 0) a6 hdl
   rwa [Nat.zero_add] at this
  have hnsO : nsOK sl own (dl.h.map Prod.fst) = true := by
   have key : ∀ ns : List Nat, (∀ n ∈ ns, n ∈ allNs acc) → nsOK sl own ns = true := by
    intro ns
    induction ns with
    | nil => intro _; rfl
    | cons n ns ih =>
     intro hn
     obtain ⟨c1, c2, c3⟩ := nsOK_spec a5 (hn n List.mem_cons_self)
     rw [nsOK, c2, c3, ih (fun m hm => hn m (List.mem_cons_of_mem _ hm)), Nat.ble_eq_true_of_le c1]; rfl
   exact key _ (ns_distinct a3 hdl).2
  cases hLk : L k with
  | false =>
   have e1 : stG k dk p q hk sl own acc L = ⟨pickS L 0 acc ++ sl, pickH L 0 acc ++ own⟩ := by unfold stG; rw [hLk]; rfl
   have e2 : stG k dk p q hk sl own acc L' = ⟨pickS L' 0 acc ++ sl, pickH L' 0 acc ++ own⟩ := by unfold stG; rw [hL'k, hLk]; rfl
   rw [e1, e2]
   have hki : hkv (depOf deps i k) hk = [] := by
    unfold hkv
    cases hh : depOf deps i k with
    | false => rfl
    | true => have := hdep k hh; rw [hLk] at this; cases this
   rw [hki] at s5
   refine (s5 _ _ (fun t y hy => hvS t y (keepK_get s2 t y hy)) (fun e ob he => hvO e ob (outO_get he).2) (freeN_mk (ns_distinct a3 hdl).1 (fun n hn => ⟨(hnr _ hind hnsO n hn).1, (hnr _ hind hnsO n hn).2.1, (hnr _ hind hnsO n hn).2.2.1⟩))).mono ?_
   rintro st' ⟨u1, u2⟩
   refine wk_le2 (fun t y hy => .inr (u1 t y ?_)) (fun e ob he => u2 e ob ?_)
   ·
    rcases hS t y hy with ⟨rfl, rfl⟩ | ⟨h3, h4⟩
    ·
     exact get_cons_self _ _ _
    ·
     rw [get_cons_ne _ _ (fun h => h3 h.symm)]; exact h4
   ·
    rcases hO e ob he with h2 | ⟨h2, h3⟩
    ·
     rw [get_append, h2]
    ·
     rw [get_append, h2]; exact h3
  | true =>
   have e1 : stG k dk p q hk sl own acc L = ⟨fltS q dk (pickS L 0 acc ++ sl), hk ++ pgOs p (pickH L 0 acc ++ own)⟩ := by unfold stG; rw [hLk]; rfl
   have e2 : stG k dk p q hk sl own acc L' = ⟨fltS q dk (pickS L' 0 acc ++ sl), hk ++ pgOs p (pickH L' 0 acc ++ own)⟩ := by unfold stG; rw [hL'k, hLk]; rfl
   rw [e1, e2]
   have hdk : depOf deps k i = false := by
    cases hh : depOf deps k i with
    | false => rfl
    | true => have := hcl k i hLk hh; rw [hLi] at this; cases this
   rw [hdk] at s3
   obtain ⟨v1, v2, v3, v4, v5⟩ := s3.resolve_left (by simp)
   have hdis : ∀ e ob, get dl.h e = some ob → get hk e = none := fun e ob he => by
    cases hg : get hk e with
    | none => rfl
    | some o =>
     have := List.all_eq_true.1 v5 e (get_mem_fst he)
     rw [memb_iff.2 (get_mem_fst hg)] at this; cases this
   refine (s5 _ _ (fun t y hy => ?_) (fun e ob he => ?_) (freeN_mk (ns_distinct a3 hdl).1 (fun n hn => ?_))).mono ?_
   ·
    have h1 := hvS t y (keepK_get s2 t y hy)
    rw [← v1] at hy
    rcases get_flt hy with rfl | ⟨_, h2⟩
    ·
     rw [get_fltS, h1, Option.map_some]
     cases (Nat.beq t dk || q .dead) <;> rfl
    ·
     exact flt_get h1 h2
   ·
    have hob := allP_get v2 he
    obtain ⟨hb, he⟩ := outO_get he
    have hrest : get hk e = none → get ownv e = some ob → get (hk ++ pgOs p (pickH L 0 acc ++ own)) e = some ob := fun h1 h2 => by
     rw [get_append, h1, get_pgOs_some (hvO e ob h2), hob]
    unfold hkv at he
    cases hdk' : depOf deps i k with
    | true =>
     rw [hdk', cond_true] at he
     rcases get_app _ _ _ _ he with h1 | ⟨h1, h2⟩
     ·
      rw [get_append, h1]
     ·
      exact hrest h1 h2
    | false =>
     rw [hdk', cond_false, List.nil_append] at he
     refine hrest ?_ he
     rcases v3 with v3 | v3
     ·
      rw [hdk'] at v3; cases v3
     ·
      cases hg : get hk e with
      | none => rfl
      | some o => exact absurd (memb_iff.1 (List.all_eq_true.1 v3 e (get_mem_fst hg))) hb
   ·
    obtain ⟨c1, c2, c3, c4⟩ := hnr _ hind hnsO n hn
    refine ⟨c1, nrS_flt c2, ?_⟩
    show nrOs n (hk ++ pgOs p (pickH L 0 acc ++ own)) = true
    rw [nrOs_append, c4 hLk, nrOs_pgOs c3]; rfl
   ·
    rintro st' ⟨u1, u2⟩
    refine wk_le2 (fun t y hy => ?_) (fun e ob he => u2 e ob ?_)
    ·
     rcases get_flt hy with rfl | ⟨h1, h2⟩
     ·
      exact .inl rfl
     ·
      right
      refine u1 t y ?_
      rcases hS t y h1 with ⟨rfl, rfl⟩ | ⟨h3, h4⟩
      ·
       exact get_cons_self _ _ _
      ·
       rw [get_cons_ne _ _ (fun h => h3 h.symm)]
       exact flt_get h4 h2
    ·
     rcases get_app _ _ _ _ he with h1 | ⟨h1, h2⟩
     ·
      have : get dl.h e = none := by
       cases hg : get dl.h e with
       | none => rfl
       | some o => rw [hdis e o hg] at h1; cases h1
      rw [get_append, this]
      show get (hk ++ _) e = some ob
      rw [get_append, h1]
     ·
      obtain ⟨ob0, h3, rfl⟩ := get_pgOs_of h2
      rcases hO e ob0 h3 with h4 | ⟨h4, h5⟩
      ·
       rw [get_append, h4, allP_get v4 h4]
      ·
       rw [get_append, h4]
       show get (hk ++ _) e = _
       rw [get_append, h1]; exact get_pgOs_some h5
def flt2 (kp : Nat → Bool) (q : AV → Bool) : List (Nat × AV) → List (Nat × AV)
 | [] => []
 | (t, y) :: r => (t, bif kp t || q y then y else .dead) :: flt2 kp q r
theorem get_flt2 {kp : Nat → Bool} {q : AV → Bool} : ∀ (l : List (Nat × AV)) (t : Nat), get (flt2 kp q l) t = (get l t).map (fun y => bif kp t || q y then y else .dead)
 | [], _ => rfl
 | (k, y) :: r, t => by
  rw [flt2, get_cons, get_cons]
  split
  ·
   rename_i h; subst h; rfl
  ·
   exact get_flt2 r t
theorem get_flt2' {kp : Nat → Bool} {q : AV → Bool} {l : List (Nat × AV)} {t : Nat} {x : AV} (h : get (flt2 kp q l) t = some x) : x = .dead ∨ (get l t = some x ∧ (kp t = true ∨ q x = true)) := by
 rw [get_flt2] at h
 cases hg : get l t with
 | none => rw [hg] at h; cases h
 | some y =>
  rw [hg, Option.map_some, Option.some.injEq] at h
  cases hb : (kp t || q y) with
  | false => rw [hb] at h; exact .inl h.symm
  | true =>
   rw [hb, cond_true] at h
   subst h
   exact .inr ⟨rfl, by rw [Bool.or_eq_true] at hb; exact hb⟩
theorem flt2_get {kp : Nat → Bool} {q : AV → Bool} {l : List (Nat × AV)} {t : Nat} {x : AV} (h : get l t = some x) (hq : kp t = true ∨ q x = true) : get (flt2 kp q l) t = some x := by
 rw [get_flt2, h, Option.map_some]
 have : (kp t || q x) = true := by rw [Bool.or_eq_true]; exact hq
 rw [this]; rfl
theorem nrS_flt2 {n : Nat} {kp : Nat → Bool} {q : AV → Bool} : ∀ {l : List (Nat × AV)}, nrS n l = true → nrS n (flt2 kp q l) = true
 | [], _ => rfl
 | (k, y) :: r, h => by
  rw [nrS, Bool.and_eq_true] at h
  rw [flt2, nrS, Bool.and_eq_true]
  refine ⟨?_, nrS_flt2 h.2⟩
  cases (kp k || q y) with
  | true => exact h.1
  | false => rfl
def stB (kp p : Nat → Bool) (q : AV → Bool) (hk : List (Nat × OB)) (sl : List (Nat × AV)) (own : List (Nat × OB)) (acc : List Dl) (L : Nat → Bool) : St := ⟨flt2 kp q (pickS L 0 acc ++ sl), hk ++ pgOs p (pickH L 0 acc ++ own)⟩
theorem stepB {C : Cx} {deps : List (List Nat)} {sl : List (Nat × AV)} {own : List (Nat × OB)} {k dk : Nat} {kp p : Nat → Bool} {q : AV → Bool} {FN : List Nat} {hk : List (Nat × OB)} {acc : List Dl} (hkp : kp dk = true) (g1 : accG deps k FN hk sl own acc = true) (hkh : ∀ y, acc[k]? = some y → y.h = [])
  {i : Nat} {x : XI} {dl : Dl} {ds ts bd : List Nat} {slv : List (Nat × AV)} {ownv : List (Nat × OB)} (hdl : acc[i]? = some dl) (hds : deps[i]? = some ds) (hik : i ≠ k) (hstep : StepG C k dk p q FN hk (membN k ds) (membN i (depsAt deps k)) i slv ownv ts bd x dl)
  (hv1 : ∀ t y, get slv t = some y → (∃ m z, acc[m]? = some z ∧ membN m ds = true ∧ z.d = t ∧ z.r = y) ∨ get sl t = some y)
  (hv2 : ∀ e ob, get ownv e = some ob → (∃ m z, acc[m]? = some z ∧ membN m ds = true ∧ get z.h e = some ob) ∨ get own e = some ob)
  (L : Nat → Bool) (hLi : L i = false) (hLk : L k = true) (hdep : ∀ j, depOf deps i j = true → L j = true) (hcl : ∀ j m, L j = true → depOf deps j m = true → L m = true) :
  AXI C false [] [x] (stB kp p q hk sl own acc L) (fun st' => Wk C st' (stB kp p q hk sl own acc (fun j => Nat.beq i j || L j))) := by
 unfold accG at g1
 simp only [Bool.and_eq_true] at g1
 obtain ⟨⟨⟨⟨⟨⟨⟨⟨⟨a1, a2⟩, a3⟩, a4⟩, a5⟩, a6⟩, a8⟩, b1⟩, b2⟩, b3⟩ := g1
 have a8 := Nat.le_of_ble_eq_true a8
 have hmd : ∀ m, membN m ds = depOf deps i m := fun m => by unfold depOf; rw [hds]
 rw [hmd k, ← depsAt_eq] at hstep
 -- the views
 have hvS : ∀ t y, get slv t = some y → get (pickS L 0 acc ++ sl) t = some y := fun t y hy => pickS_mk a1 a2 (by
  rcases hv1 t y hy with ⟨j, z, q1, q2, q3, q4⟩ | q0
  ·
   rw [hmd] at q2
   exact .inl ⟨j, z, q1, by rw [Nat.zero_add]; exact hdep j q2, q3, q4⟩
  ·
   exact .inr q0)
 have hvO : ∀ e ob, get ownv e = some ob → get (pickH L 0 acc ++ own) e = some ob := fun e ob he => pickH_mk a3 a4 (by
  rcases hv2 e ob he with ⟨j, z, q1, q2, q3⟩ | q0
  ·
   rw [hmd] at q2
   exact .inl ⟨j, z, q1, by rw [Nat.zero_add]; exact hdep j q2, q3⟩
  ·
   exact .inr q0)
 let L' : Nat → Bool := fun j => Nat.beq i j || L j
 have hLL' : ∀ j, L j = true → L' j = true := fun j hj => by show (Nat.beq i j || L j) = true; rw [hj, Bool.or_true]
 have hL'i : L' i = true := by show (Nat.beq i i || L i) = true; simp
 have hL'o : ∀ j, L' j = true → j ≠ i → L j = true := fun j hj hne => by
  have : (Nat.beq i j || L j) = true := hj
  rw [beq_ne (fun h => hne h.symm), Bool.false_or] at this; exact this
 have hS : ∀ t y, get (pickS L' 0 acc ++ sl) t = some y → (t = dl.d ∧ y = dl.r) ∨ (t ≠ dl.d ∧ get (pickS L 0 acc ++ sl) t = some y) := by
  intro t y hy
  rcases pickS_of hy with ⟨j, z, q1, q2, q3, q4⟩ | q0
  ·
   rw [Nat.zero_add] at q2
   by_cases hij : j = i
   ·
    subst hij; rw [hdl] at q1; cases q1; exact .inl ⟨q3.symm, q4.symm⟩
   ·
    refine .inr ⟨fun he => ds_ne a1 hdl q1 (fun h => hij h.symm) (by rw [q3, he]), pickS_mk a1 a2 (.inl ⟨j, z, q1, by rw [Nat.zero_add]; exact hL'o j q2 hij, q3, q4⟩)⟩
  ·
   refine .inr ⟨fun he => ?_, pickS_mk a1 a2 (.inr q0)⟩
   subst he
   rw [frS_mem a2 dl.d (List.mem_map_of_mem (List.mem_of_getElem? hdl))] at q0; cases q0
 have hO : ∀ e ob, get (pickH L' 0 acc ++ own) e = some ob → get dl.h e = some ob ∨ (get dl.h e = none ∧ get (pickH L 0 acc ++ own) e = some ob) := by
  intro e ob he
  rcases pickH_of he with ⟨j, z, q1, q2, q3⟩ | q1
  ·
   rw [Nat.zero_add] at q2
   by_cases hij : j = i
   ·
    subst hij; rw [hdl] at q1; cases q1; exact .inl q3
   ·
    refine .inr ⟨?_, pickH_mk a3 a4 (.inl ⟨j, z, q1, by rw [Nat.zero_add]; exact hL'o j q2 hij, q3⟩)⟩
    cases hg : get dl.h e with
    | none => rfl
    | some o => exact absurd (get_mem_fst q3) (ns_ne a3 hdl q1 (fun h => hij h.symm) e (get_mem_fst hg))
  ·
   refine .inr ⟨?_, pickH_mk a3 a4 (.inr q1)⟩
   cases hg : get dl.h e with
   | none => rfl
   | some o =>
    have := noneIn_mem a4 ((ns_distinct a3 hdl).2 e (get_mem_fst hg))
    rw [this] at q1; cases q1
 -- new names are free
 have hnr : ∀ (ns : List Nat), indepI deps i ns 0 (withK k hk 0 acc) = true → nsOK sl own ns = true → ∀ n ∈ ns, n < 1000 ∧ nrS n (pickS L 0 acc ++ sl) = true ∧ nrOs n (pickH L 0 acc ++ own) = true ∧ (L k = true → nrOs n hk = true) := by
  intro ns hi hn n hm
  obtain ⟨c1, c2, c3⟩ := nsOK_spec hn hm
  have hind : ∀ j y, acc[j]? = some y → L j = true → nrA n y.r = true ∧ nrOs n (bif Nat.beq j k then hk else y.h) = true := fun j y hy hL => by
   have := indepI_spec (j := 0) (k := j) hi (withK_get (i := 0) hy) (by rw [Nat.zero_add]; rintro rfl; rw [hLi] at hL; cases hL) (by
    rw [Nat.zero_add]
    cases hh : depOf deps j i with
    | false => rfl
    | true => have := hcl j i hL hh; rw [hLi] at this; cases this) n hm
   rw [Nat.zero_add] at this
   cases hb : Nat.beq j k with
   | true => rw [hb] at this; exact this
   | false => rw [hb] at this; exact this
  refine ⟨c1, ?_, ?_, fun hLk => ?_⟩
  ·
   rw [nrS_append, c2, Bool.and_true]
   exact nrS_pick fun j y hy hL => (hind j y hy (by rw [Nat.zero_add] at hL; exact hL)).1
  ·
   rw [nrOs_append, c3, Bool.and_true]
   refine nrOs_pick fun j y hy hL => ?_
   rw [Nat.zero_add] at hL
   have := (hind j y hy hL).2
   cases hb : Nat.beq j k with
   | false => rw [hb] at this; exact this
   | true =>
    have hjk := Nat.eq_of_beq_eq_true hb
    subst hjk
    rw [hkh y hy]; rfl
  ·
   have := (hind k _ (by simp [show k < acc.length from a8]; rfl) hLk).2
   simpa using this
 show AXI C false [] [x] (stB kp p q hk sl own acc L) (fun st' => Wk C st' (stB kp p q hk sl own acc L'))
 obtain ⟨s1, slm, s2, s3, s5⟩ : Nat.beq i k = false ∧ ∃ slm, keepK ts slv = some slm ∧ (depOf deps k i = true ∨ (fltS q dk slm = slm ∧ pgOs p (outO bd (hkv (depOf deps i k) hk ++ ownv)) = outO bd (hkv (depOf deps i k) hk ++ ownv) ∧
   (depOf deps i k = true ∨ (hk.map Prod.fst).all (fun n => memb n bd) = true) ∧ pgOs p dl.h = dl.h ∧ (dl.h.map Prod.fst).all (fun n => !memb n (hk.map Prod.fst)) = true)) ∧
  Loc C slm (outO bd (hkv (depOf deps i k) hk ++ ownv)) x dl := by
  rcases hstep with ⟨s1, _⟩ | h
  ·
   exact absurd (Nat.eq_of_beq_eq_true s1) hik
  ·
   exact h
 have hind : indepI deps i (dl.h.map Prod.fst) 0 (withK k hk 0 acc) = true := by
  have := indepB_spec (i := 0) a6 hdl
  rwa [Nat.zero_add] at this
 have hnsO : nsOK sl own (dl.h.map Prod.fst) = true := by
  have key : ∀ ns : List Nat, (∀ n ∈ ns, n ∈ allNs acc) → nsOK sl own ns = true := by
   intro ns
   induction ns with
   | nil => intro _; rfl
   | cons n ns ih =>
    intro hn
    obtain ⟨c1, c2, c3⟩ := nsOK_spec a5 (hn n List.mem_cons_self)
    rw [nsOK, c2, c3, ih (fun m hm => hn m (List.mem_cons_of_mem _ hm)), Nat.ble_eq_true_of_le c1]; rfl
  exact key _ (ns_distinct a3 hdl).2
 have hdk : depOf deps k i = false := by
  cases hh : depOf deps k i with
  | false => rfl
  | true => have := hcl k i hLk hh; rw [hLi] at this; cases this
 rw [hdk] at s3
 obtain ⟨v1, v2, v3, v4, v5⟩ := s3.resolve_left (by simp)
 have hdis : ∀ e ob, get dl.h e = some ob → get hk e = none := fun e ob he => by
  cases hg : get hk e with
  | none => rfl
  | some o =>
   have := List.all_eq_true.1 v5 e (get_mem_fst he)
   rw [memb_iff.2 (get_mem_fst hg)] at this; cases this
 refine (s5 _ _ (fun t y hy => ?_) (fun e ob he => ?_) (freeN_mk (ns_distinct a3 hdl).1 (fun n hn => ?_))).mono ?_
 ·
  have h1 := hvS t y (keepK_get s2 t y hy)
  rw [← v1] at hy
  rcases get_flt hy with rfl | ⟨_, h2⟩
  ·
   rw [get_flt2, h1, Option.map_some]
   cases (kp t || q .dead) <;> rfl
  ·
   exact flt2_get h1 (h2.imp (fun e => by rw [e]; exact hkp) id)
 ·
  have hob := allP_get v2 he
  obtain ⟨hb, he⟩ := outO_get he
  have hrest : get hk e = none → get ownv e = some ob → get (hk ++ pgOs p (pickH L 0 acc ++ own)) e = some ob := fun h1 h2 => by
   rw [get_append, h1, get_pgOs_some (hvO e ob h2), hob]
  unfold hkv at he
  cases hdk' : depOf deps i k with
  | true =>
   rw [hdk', cond_true] at he
   rcases get_app _ _ _ _ he with h1 | ⟨h1, h2⟩
   ·
    rw [get_append, h1]
   ·
    exact hrest h1 h2
  | false =>
   rw [hdk', cond_false, List.nil_append] at he
   refine hrest ?_ he
   rcases v3 with v3 | v3
   ·
    rw [hdk'] at v3; cases v3
   ·
    cases hg : get hk e with
    | none => rfl
    | some o => exact absurd (memb_iff.1 (List.all_eq_true.1 v3 e (get_mem_fst hg))) hb
 ·
  obtain ⟨c1, c2, c3, c4⟩ := hnr _ hind hnsO n hn
  refine ⟨c1, nrS_flt2 c2, ?_⟩
  show nrOs n (hk ++ pgOs p (pickH L 0 acc ++ own)) = true
  rw [nrOs_append, c4 hLk, nrOs_pgOs c3]; rfl
 ·
  rintro st' ⟨u1, u2⟩
  refine wk_le2 (fun t y hy => ?_) (fun e ob he => u2 e ob ?_)
  ·
   rcases get_flt2' hy with rfl | ⟨h1, h2⟩
   ·
    exact .inl rfl
   ·
    right
    refine u1 t y ?_
    rcases hS t y h1 with ⟨rfl, rfl⟩ | ⟨h3, h4⟩
    ·
     exact get_cons_self _ _ _
    ·
     rw [get_cons_ne _ _ (fun h => h3 h.symm)]
     exact flt2_get h4 h2
  ·
   rcases get_app _ _ _ _ he with h1 | ⟨h1, h2⟩
   ·
    have : get dl.h e = none := by
     cases hg : get dl.h e with
     | none => rfl
     | some o => rw [hdis e o hg] at h1; cases h1
    rw [get_append, this]
    show get (hk ++ _) e = some ob
    rw [get_append, h1]
   ·
    obtain ⟨ob0, h3, rfl⟩ := get_pgOs_of h2
    rcases hO e ob0 h3 with h4 | ⟨h4, h5⟩
    ·
     rw [get_append, h4, allP_get v4 h4]
    ·
     rw [get_append, h4]
     show get (hk ++ _) e = _
     rw [get_append, h1]; exact get_pgOs_some h5
def delS (s : Nat) : List (Nat × AV) → List (Nat × AV)
 | [] => []
 | (k, x) :: r => bif Nat.beq k s then delS s r else (k, x) :: delS s r
theorem get_delS {s t : Nat} {y : AV} : ∀ {l : List (Nat × AV)}, get (delS s l) t = some y → get l t = some y ∧ t ≠ s
 | [], h => by simp [delS, get] at h
 | (k, x) :: r, h => by
  rw [delS] at h
  cases hb : Nat.beq k s with
  | true =>
   rw [hb, cond_true] at h
   obtain ⟨h1, h2⟩ := get_delS h
   have := Nat.eq_of_beq_eq_true hb
   exact ⟨by rw [get_cons_ne _ _ (fun e => h2 (by omega))]; exact h1, h2⟩
  | false =>
   rw [hb, cond_false, get_cons] at h
   rw [get_cons]
   split at h
   ·
    rename_i e; rw [if_pos e]
    exact ⟨h, fun e2 => by rw [e, e2] at hb; simp at hb⟩
   ·
    rename_i e; rw [if_neg e]; exact get_delS h
/-- The operations ahead: what is needed by the w-th sees all slots, the rest do not see the one that it writes. -/
def AXGW (C : Cx) (k dk : Nat) (p : Nat → Bool) (q : AV → Bool) (FN : List Nat) (hk : List (Nat × OB)) (slF slD : List (Nat × AV)) (own : List (Nat × OB)) (dk' dw : List Nat) : Nat → List Dl → List XI → List (List Nat) → List (List Nat) → List (List Nat) → (List Dl → Prop) → Prop
 | _, racc, [], _, _, _, K => K racc.reverse
 | i, racc, x :: xs, ds :: dss, ts :: tss, bd :: bds, K => ∃ dl, StepG C k dk p q FN hk (membN k ds) (membN i dk') i (pickSR ds i racc ++ (bif membN i dw then slF else slD)) (pickHR ds i racc ++ own) ts bd x dl ∧ AXGW C k dk p q FN hk slF slD own dk' dw (i + 1) (dl :: racc) xs dss tss bds K
 | _, _, _, _, _, _, _ => False
theorem axgw_out {C : Cx} {k dk : Nat} {p : Nat → Bool} {q : AV → Bool} {FN : List Nat} {hk : List (Nat × OB)} {slF slD : List (Nat × AV)} {own : List (Nat × OB)} {dk' dw : List Nat} {K : List Dl → Prop} : ∀ {xs : List XI} {dss tss bds : List (List Nat)} {i : Nat} {racc : List Dl}, i = racc.length → AXGW C k dk p q FN hk slF slD own dk' dw i racc xs dss tss bds K →
  ∃ more : List Dl, K (racc.reverse ++ more) ∧ more.length = xs.length ∧ ∀ (j : Nat) (x : XI), xs[j]? = some x → ∃ dl ds ts bd slv ownv, more[j]? = some dl ∧ dss[j]? = some ds ∧ StepG C k dk p q FN hk (membN k ds) (membN (i + j) dk') (i + j) slv ownv ts bd x dl ∧
   (∀ t y, get slv t = some y → (∃ m z, (racc.reverse ++ more)[m]? = some z ∧ membN m ds = true ∧ z.d = t ∧ z.r = y) ∨ get (bif membN (i + j) dw then slF else slD) t = some y) ∧
   (∀ e ob, get ownv e = some ob → (∃ m z, (racc.reverse ++ more)[m]? = some z ∧ membN m ds = true ∧ get z.h e = some ob) ∨ get own e = some ob)
 | [], dss, tss, bds, i, racc, _, h => ⟨[], by rw [List.append_nil]; simpa [AXGW] using h, rfl, fun j x hx => by simp at hx⟩
 | y :: ys, ds :: dss, ts :: tss, bd :: bds, i, racc, hi, h => by
  obtain ⟨dl, h1, h2⟩ := h
  obtain ⟨more, h3, h4, h5⟩ := axgw_out (by simp [hi]) h2
  have e : (dl :: racc).reverse ++ more = racc.reverse ++ dl :: more := by simp
  rw [e] at h3 h5
  refine ⟨dl :: more, h3, by simp [h4], fun j x hx => ?_⟩
  have left : ∀ (m : Nat) (z : Dl), racc.reverse[m]? = some z → (racc.reverse ++ dl :: more)[m]? = some z := fun m z hm => by
   rw [List.getElem?_append_left]
   ·
    exact hm
   ·
    rcases Nat.lt_or_ge m racc.reverse.length with h | h
    ·
     exact h
    ·
     rw [List.getElem?_eq_none h] at hm; cases hm
  cases j with
  | zero =>
   simp only [List.getElem?_cons_zero, Option.some.injEq] at hx
   subst hx
   refine ⟨dl, ds, ts, bd, _, _, rfl, rfl, h1, fun t y hy => ?_, fun e ob he => ?_⟩
   ·
    rcases pickSR_of hi hy with ⟨m, z, h6, h7⟩ | h6
    ·
     exact .inl ⟨m, z, left m z h6, h7⟩
    ·
     exact .inr h6
   ·
    rcases pickHR_of hi he with ⟨m, z, h6, h7⟩ | h6
    ·
     exact .inl ⟨m, z, left m z h6, h7⟩
    ·
     exact .inr h6
  | succ j =>
   obtain ⟨d', ds', ts', bd', sv, ov, h6, h7, h8, h9, h10⟩ := h5 j x (by simpa using hx)
   rw [show i + 1 + j = i + (j + 1) from by omega] at h8 h9
   exact ⟨d', ds', ts', bd', sv, ov, by simpa using h6, by simpa using h7, h8, h9, h10⟩
 | _ :: _, [], _, _, _, _, _, h => h.elim
 | _ :: _, _ :: _, [], _, _, _, _, h => h.elim
 | _ :: _, _ :: _, _ :: _, [], _, _, _, h => h.elim
def hNil (o : Option Dl) : Bool := match o with | some ⟨_, _, []⟩ => true | _ => false
theorem hNil_of {o : Option Dl} (h : hNil o = true) : ∀ y, o = some y → y.h = [] := fun y hy => by
 subst hy; obtain ⟨d, r, hh⟩ := y
 cases hh with
 | nil => rfl
 | cons _ _ => simp [hNil] at h
def dIs (o : Option Dl) (s : Nat) : Bool := match o with | some y => Nat.beq y.d s | none => false
theorem dIs_of {o : Option Dl} {s : Nat} (h : dIs o s = true) : ∀ y, o = some y → y.d = s := fun y hy => by subst hy; exact Nat.eq_of_beq_eq_true h
def accW (deps : List (List Nat)) (k w s z : Nat) (FN : List Nat) (hk : List (Nat × OB)) (slF : List (Nat × AV)) (own : List (Nat × OB)) (acc : List Dl) : Bool :=
 accG deps k FN hk (delS s slF) own acc && accG deps k FN hk slF own (acc.set w ⟨z, .dead, []⟩) && hNil acc[k]? && dIs acc[w]? s && !Nat.beq w k && depOf deps w k
theorem cx_drawW {C : Cx} {Kn Kr : Kont} {Ke : List (Nat × Kont)} {deps : List (List Nat)} {hd tl : List XI} {slF : List (Nat × AV)} {own : List (Nat × OB)} (k dk w s z : Nat) (p : Nat → Bool) (q : AV → Bool) (FN : List Nat) (hk : List (Nat × OB)) (tss bds : List (List Nat)) {dk' dw slD} (hdk' : depsAt deps k = dk') (hdw : depsAt deps w = dw) (hslD : delS s slF = slD)
  (h : AXGW C k dk p q FN hk slF slD own dk' dw 0 [] hd deps tss bds (fun acc => accW deps k w s z FN hk slF own acc = true ∧ AXI C false [] tl (stB (fun t => Nat.beq t dk || Nat.beq t s) p q hk slD own acc (fun _ => true)) Kn)) : AX C (.drawE deps hd tl) ⟨slF, own⟩ Kn Ke Kr := by
 subst hslD
 obtain ⟨acc, ⟨g1, gt⟩, g3, g4⟩ := axgw_out (racc := []) (i := 0) rfl h
 simp only [List.reverse_nil, List.nil_append, Nat.zero_add] at g1 gt g4
 subst hdk'; subst hdw
 unfold accW at g1
 simp only [Bool.and_eq_true, Bool.not_eq_true'] at g1
 obtain ⟨⟨⟨⟨⟨gB, gA⟩, hk0⟩, hw0⟩, hwk⟩, hkw⟩ := g1
 have hwk : w ≠ k := fun e => by subst e; simp at hwk
 obtain ⟨dw_, hdw_⟩ : ∃ dw, acc[w]? = some dw := by
  cases hh : acc[w]? with
  | none => rw [hh] at hw0; simp [dIs] at hw0
  | some y => exact ⟨y, rfl⟩
 have hwl : w < acc.length := (List.getElem?_eq_some_iff.1 hdw_).1
 have hA_ne : ∀ m, m ≠ w → (acc.set w ⟨z, .dead, []⟩)[m]? = acc[m]? := fun m hm => by rw [List.getElem?_set, if_neg (Ne.symm hm)]
 have hA_w : (acc.set w ⟨z, .dead, []⟩)[w]? = some ⟨z, .dead, []⟩ := by rw [List.getElem?_set, if_pos rfl, if_pos hwl]
 have hkA : ∀ y, (acc.set w ⟨z, .dead, []⟩)[k]? = some y → y.h = [] := fun y hy => by
  rw [hA_ne k (Ne.symm hwk)] at hy; exact hNil_of hk0 y hy
 let stX : (Nat → Bool) → St := fun L => bif L w then stB (fun t => Nat.beq t dk || Nat.beq t s) p q hk (delS s slF) own acc L else stG k dk p q hk slF own (acc.set w ⟨z, .dead, []⟩) L
 have gB' := gB; have gA' := gA
 unfold accG at gB' gA'
 simp only [Bool.and_eq_true] at gB' gA'
 obtain ⟨⟨⟨⟨⟨⟨⟨⟨⟨a1, a2⟩, a3⟩, a4⟩, _⟩, _⟩, _⟩, _⟩, _⟩, _⟩ := gB'
 obtain ⟨⟨⟨⟨⟨⟨⟨⟨⟨c1, c2⟩, c3⟩, c4⟩, _⟩, _⟩, _⟩, _⟩, _⟩, _⟩ := gA'
 refine cx_drawG stX (fun L L' hLL => ?_) ?_ ?_ (by show AXI C false [] tl (stX (fun _ => true)) Kn; exact gt)
 ·
  show (bif L w then _ else _) = (bif L' w then _ else _)
  have hkl : k < acc.length := by
   cases hh : acc[k]? with
   | none => rw [hh] at hk0; simp [hNil] at hk0
   | some y => exact (List.getElem?_eq_some_iff.1 hh).1
  rw [hLL w (by omega)]
  unfold stG stB
  rw [hLL k (by omega), pickS_congr (i := 0) (acc := acc) (L := L) (L' := L') (fun j hj => by rw [Nat.zero_add]; exact hLL j (by omega)), pickH_congr (i := 0) (acc := acc) (L := L) (L' := L') (fun j hj => by rw [Nat.zero_add]; exact hLL j (by omega)),
   pickS_congr (i := 0) (acc := acc.set w ⟨z, .dead, []⟩) (L := L) (L' := L') (fun j hj => by rw [Nat.zero_add]; exact hLL j (by rw [List.length_set] at hj; omega)), pickH_congr (i := 0) (acc := acc.set w ⟨z, .dead, []⟩) (L := L) (L' := L') (fun j hj => by rw [Nat.zero_add]; exact hLL j (by rw [List.length_set] at hj; omega))]
 ·
  have : stX (fun _ => false) = ⟨slF, own⟩ := by
   show stG k dk p q hk slF own (acc.set w ⟨z, .dead, []⟩) (fun _ => false) = _
   unfold stG; rw [cond_false, pickS_none, pickH_none]; rfl
  rw [this]; exact fun _ _ S => S
 ·
  intro i x hx L hLi hdep hcl
  obtain ⟨dl, ds, ts, bd, slv, ownv, hdl, hds, hstep, hv1, hv2⟩ := g4 i x hx
  have hmd : ∀ m, membN m ds = depOf deps i m := fun m => by unfold depOf; rw [hds]
  by_cases hiw : i = w
  ·
   -- the writer
   subst hiw
   have eX : stX L = stG k dk p q hk slF own (acc.set i ⟨z, .dead, []⟩) L := by show (bif L i then _ else _) = _; rw [hLi]; rfl
   have eX' : stX (fun j => Nat.beq i j || L j) = stB (fun t => Nat.beq t dk || Nat.beq t s) p q hk (delS s slF) own acc (fun j => Nat.beq i j || L j) := by show (bif (Nat.beq i i || L i) then _ else _) = _; simp
   rw [eX, eX']
   have hLk : L k = true := hdep k hkw
   have hB := stepB (kp := fun t => Nat.beq t dk || Nat.beq t s) (by simp) gB (hNil_of hk0) hdl hds hwk hstep (fun t y hy => by
    rcases hv1 t y hy with h1 | h1
    ·
     exact .inl h1
    ·
     right
     have hself : membN i (depsAt deps i) = false := by
      rw [← depsAt_eq]
      cases hh : depOf deps i i with
      | false => rfl
      | true => have := hdep i hh; rw [hLi] at this; cases this
     rw [hself] at h1; exact h1) hv2 L hLi hLk hdep hcl
   have hs1 : ∀ t y, get (pickS L 0 acc ++ delS s slF) t = some y → get (pickS L 0 (acc.set i ⟨z, .dead, []⟩) ++ slF) t = some y ∧ t ≠ s := fun t y hy => by
    rcases pickS_of hy with ⟨j, v, q1, q2, q3, q4⟩ | q0
    ·
     rw [Nat.zero_add] at q2
     have hji : j ≠ i := fun e => by subst e; rw [hLi] at q2; cases q2
     exact ⟨pickS_mk c1 c2 (.inl ⟨j, v, by rw [hA_ne j hji]; exact q1, by rw [Nat.zero_add]; exact q2, q3, q4⟩), fun e => ds_ne a1 q1 hdw_ hji (by rw [q3, e, dIs_of hw0 _ hdw_])⟩
    ·
     exact ⟨pickS_mk c1 c2 (.inr (get_delS q0).1), (get_delS q0).2⟩
   have hs2 : ∀ e ob, get (pickH L 0 acc ++ own) e = some ob → get (pickH L 0 (acc.set i ⟨z, .dead, []⟩) ++ own) e = some ob := fun e ob he => pickH_mk c3 c4 (by
    rcases pickH_of he with ⟨j, v, q1, q2, q3⟩ | q0
    ·
     rw [Nat.zero_add] at q2
     exact .inl ⟨j, v, by rw [hA_ne j (fun e => by subst e; rw [hLi] at q2; cases q2)]; exact q1, by rw [Nat.zero_add]; exact q2, q3⟩
    ·
     exact .inr q0)
   have hW : Wk C (stG k dk p q hk slF own (acc.set i ⟨z, .dead, []⟩) L) (stB (fun t => Nat.beq t dk || Nat.beq t s) p q hk (delS s slF) own acc L) := by
    unfold stG stB
    rw [hLk]
    refine wk_le2 (fun t y hy => ?_) (fun e ob he => ?_)
    ·
     rcases get_flt2' hy with rfl | ⟨h1, h2⟩
     ·
      exact .inl rfl
     ·
      obtain ⟨h3, h4⟩ := hs1 t y h1
      refine .inr (flt_get h3 (h2.imp (fun h => ?_) id))
      rw [Bool.or_eq_true] at h
      rcases h with h | h
      ·
       exact Nat.eq_of_beq_eq_true h
      ·
       exact absurd (Nat.eq_of_beq_eq_true h) h4
    ·
     show get (hk ++ pgOs p (pickH L 0 (acc.set i ⟨z, .dead, []⟩) ++ own)) e = some ob
     have he : get (hk ++ pgOs p (pickH L 0 acc ++ own)) e = some ob := he
     rw [get_append] at he ⊢
     cases hg : get hk e with
     | some o => rw [hg] at he; exact he
     | none =>
      rw [hg] at he
      obtain ⟨ob0, h3, rfl⟩ := get_pgOs_of he
      exact get_pgOs_some (hs2 e ob0 h3)
   exact ax_wk hW hB
  ·
   have hne : Nat.beq i w = false := by
    cases hb : Nat.beq i w with
    | false => rfl
    | true => exact absurd (Nat.eq_of_beq_eq_true hb) hiw
   cases hLw : L w with
   | true =>
    have eX : stX L = stB (fun t => Nat.beq t dk || Nat.beq t s) p q hk (delS s slF) own acc L := by show (bif L w then _ else _) = _; rw [hLw]; rfl
    have eX' : stX (fun j => Nat.beq i j || L j) = stB (fun t => Nat.beq t dk || Nat.beq t s) p q hk (delS s slF) own acc (fun j => Nat.beq i j || L j) := by show (bif (Nat.beq i w || L w) then _ else _) = _; rw [hLw, Bool.or_true]; rfl
    rw [eX, eX']
    have hLk : L k = true := hcl w k hLw hkw
    exact stepB (kp := fun t => Nat.beq t dk || Nat.beq t s) (by simp) gB (hNil_of hk0) hdl hds (fun e => by subst e; rw [hLi] at hLk; cases hLk) hstep (fun t y hy => by
     rcases hv1 t y hy with h1 | h1
     ·
      exact .inl h1
     ·
      right
      have hself : membN i (depsAt deps w) = false := by
       rw [← depsAt_eq]
       cases hh : depOf deps w i with
       | false => rfl
       | true => have := hcl w i hLw hh; rw [hLi] at this; cases this
      rw [hself] at h1; exact h1) hv2 L hLi hLk hdep hcl
   | false =>
    have eX : stX L = stG k dk p q hk slF own (acc.set w ⟨z, .dead, []⟩) L := by show (bif L w then _ else _) = _; rw [hLw]; rfl
    have eX' : stX (fun j => Nat.beq i j || L j) = stG k dk p q hk slF own (acc.set w ⟨z, .dead, []⟩) (fun j => Nat.beq i j || L j) := by show (bif (Nat.beq i w || L w) then _ else _) = _; rw [hne, hLw]; rfl
    rw [eX, eX']
    have hnw : ∀ m, membN m ds = true → m ≠ w := fun m hm e => by
     subst e; rw [hmd] at hm; have := hdep m hm; rw [hLw] at this; cases this
    exact stepL gA hkA (by rw [hA_ne i hiw]; exact hdl) hds hstep (fun t y hy => by
     rcases hv1 t y hy with ⟨m, v, q1, q2, q3⟩ | h1
     ·
      exact .inl ⟨m, v, by rw [hA_ne m (hnw m q2)]; exact q1, q2, q3⟩
     ·
      right
      cases hm : membN i (depsAt deps w) with
      | true => rw [hm] at h1; exact h1
      | false => rw [hm] at h1; exact (get_delS h1).1) (fun e ob he => by
     rcases hv2 e ob he with ⟨m, v, q1, q2, q3⟩ | h1
     ·
      exact .inl ⟨m, v, by rw [hA_ne m (hnw m q2)]; exact q1, q2, q3⟩
     ·
      exact .inr h1) L hLi hdep hcl
end Go.AM

namespace Go.AM
section
variable {P : Program} {ops : Array Oper}
theorem tie_get (k i : Nat) : (tieOp ops k)[i]? = if i = k then (ops[i]?).map (fun o => { o with after := o.after.push ⟨k - 1, .data⟩ }) else ops[i]? := by
 unfold tieOp
 rw [Array.getElem?_modify]
 by_cases h : k = i
 ·
  subst h; simp
 ·
  rw [if_neg h, if_neg (fun e => h e.symm)]
theorem tie_yield (k : Nat) (ts : Array Value) : yielded (tieOp ops k) ts = yielded ops ts := by
 funext j
 unfold yielded
 rw [tie_get]
 by_cases h : j = k
 ·
  subst h; rw [if_pos rfl]; cases ops[j]? <;> rfl
 ·
  rw [if_neg h]
theorem tie_wpOp {Q : Exit → Act → World → Prop} (k i : Nat) (K : Act → World → Prop) (a : Act) (w : World) : wpOp P (tieOp ops k) Q i K a w ↔ wpOp P ops Q i K a w := by
 unfold wpOp
 rw [tie_get, tie_yield]
 by_cases h : i = k
 ·
  subst h; rw [if_pos rfl]
  cases ops[i]? with
  | none => exact Iff.rfl
  | some o => exact Iff.rfl
 ·
  rw [if_neg h]
theorem tie_ready {k i : Nat} {listed : Array Bool} (hk : ops[k]? ≠ none) : i ∈ Region.ready .any (tieOp ops k) listed ↔ i ∈ Region.ready .any ops listed ∧ (i = k → listed.getD (k - 1) false = true) := by
 rw [mem_ready, mem_ready, tie_get]
 by_cases h : i = k
 ·
  subst h
  rw [if_pos rfl]
  cases ho : ops[i]? with
  | none => exact absurd ho hk
  | some o =>
   simp only [Option.map_some, Option.some.injEq, exists_eq_left', Array.mem_push]
   constructor
   ·
    rintro ⟨h1, h2⟩
    exact ⟨⟨h1, fun e he hb => h2 e (.inl he) hb⟩, fun _ => h2 ⟨i - 1, .data⟩ (.inr rfl) rfl⟩
   ·
    rintro ⟨⟨h1, h2⟩, h3⟩
    refine ⟨h1, fun e he hb => ?_⟩
    rcases he with he | rfl
    ·
     exact h2 e he hb
    ·
     exact h3 trivial
 ·
  rw [if_neg h]
  exact ⟨fun g => ⟨g, fun e => absurd e h⟩, fun g => g.1⟩
theorem eval_free {d : Nat} {v : Value} {a : Act} {x : Operand} (h : notTmp d x = true) : (a.put (some d) v).eval x = a.eval x := by
 cases x with
 | tmp t =>
  unfold notTmp at h
  have hne : d ≠ t := fun e => by subst e; simp at h
  simp only [Act.eval, Act.put, Array.getD_eq_getD_getElem?, Array.getElem?_setIfInBounds_ne hne]
 | _ => rfl
/-- An operation without a destination, ahead of a put or behind it. -/
theorem upon_swap {o : Oper} {Q : Exit → Act → World → Prop} {a : Act} {d : Nat} {v : Value} {K K' : Act → World → Prop} {r : Result Next} (hd : o.dst = none)
  (hp : ∀ chain a w, ¬ Q (.panic chain) a w) (hL : ¬ LetsOut Q) (hK : ∀ ds w, K' { a.put (some d) v with defers := ds } w → K { a with defers := ds } w)
  (h : o.upon P (a.put (some d) v) K' Q r) : o.upon P a K Q r := by
 cases r with
 | halt x w =>
  cases x <;> simp only [Oper.upon] at h ⊢ <;> first | exact h | exact absurd h (hp _ _ _)
 | ok n w =>
  cases n with
  | value u => simp only [Oper.upon, hd] at h ⊢; exact hK a.defers w h
  | skip => simp only [Oper.upon, hd] at h ⊢; exact hK a.defers w h
  | defer u => simp only [Oper.upon, hd] at h ⊢; exact hK (u :: a.defers) w h
  | enter f args =>
   simp only [Oper.upon, hd] at h ⊢
   refine h.mono (fun e w' he => ?_)
   cases e with
   | returned u => exact hK a.defers w' he
   | panicked c => exact absurd he (hp _ _ _)
   | outgrown => exact absurd he hL
  | row row args =>
   simp only [Oper.upon, hd] at h ⊢
   exact h.mono (fun u w' he => hK a.defers w' he)
  | _ => exact h
theorem pick_run {o : Oper} {c x y : Operand} (ho : o.op = .pick c x y) (ρ : Operand → Value) (w : World) : (∃ v, ∀ w', (execOp ρ o).run P w' = .ok (.value v) w') ∨ (∀ w', ∃ s, (execOp ρ o).run P w' = .halt (.stuck s) w') := by
 simp only [execOp, ho]
 cases hc : ρ c with
 | bool b => exact .inl ⟨_, fun w' => by simp [asBool]; rfl⟩
 | _ => exact .inr (fun w' => ⟨_, by simp [asBool]; rfl⟩)
theorem upon_stuck {o : Oper} {a : Act} {K : Act → World → Prop} {Q : Exit → Act → World → Prop} {s : String} {w : World} (h : o.upon P a K Q (.halt (.stuck s) w)) : False := h
/-- Whatever order is picked, behind one more edge: the store at k waits for the pick ahead of it. -/
theorem wpAny_tie {m d : Nat} {o1 o2 : Oper} {c x y p q : Operand} {t : TypeId} {Q : Exit → Act → World → Prop} {deps : List (List Nat)} (hD : depsOK ops deps (m + 2) = true)
  (h1 : ops[m]? = some o1) (e1 : o1.op = .pick c x y) (g1 : o1.guard = none) (d1 : o1.dst = some d)
  (h2 : ops[m + 1]? = some o2) (e2 : o2.op = .store t p q) (g2 : o2.guard = none) (d2 : o2.dst = none) (hpf : notTmp d p = true) (hqf : notTmp d q = true)
  (hcl : ∀ j, j < m → depOf deps (m + 1) j = true)
  (hp : ∀ chain a w, ¬ Q (.panic chain) a w) (hL : ¬ LetsOut Q) :
  ∀ (f : Nat) (listed : Array Bool) (a : Act) (w : World), Closed deps ops listed → wpAny P .any (tieOp ops (m + 1)) Q f listed a w → wpAny P .any ops Q f listed a w := by
 have hk : ops[m + 1]? ≠ none := by rw [h2]; simp
 have key : ∀ listed, Closed deps ops listed → m + 1 ∈ Region.ready .any ops listed → listed.getD m false = false → m ∈ Region.ready .any (tieOp ops (m + 1)) listed := by
  intro listed hc hr hm
  have hall : ∀ j, j < m → listed.getD j false = true := fun j hj => ready_deps hD hc hr j (hcl j hj)
  rw [tie_ready hk, mem_ready]
  refine ⟨⟨?_, o1, h1, fun e he hb => ?_⟩, fun e => by omega⟩
  ·
   have hms : m < listed.size := by rw [hc.1]; exact (Array.getElem?_eq_some_iff.1 h1).1
   simp [hms] at hm ⊢; exact hm
  ·
   obtain ⟨ds, _, q1, _, _⟩ := depsOK_spec hD h1
   exact hall _ (q1 e he hb)
 have run1 : ∀ (f : Nat) (K : Act → World → Prop) (a : Act) (w : World), wpOp P ops Q m K a w → ∃ v, (∀ w', (execOp a.eval o1).run P w' = .ok (.value v) w') ∧ K (a.put (some d) v) w := by
  intro _ K a w h
  unfold wpOp at h
  rw [h1] at h
  simp only [Region.wanted, g1, if_true] at h
  have h := h.resolve_right (fun h => hL h.2)
  unfold Oper.wp at h
  rcases pick_run (P := P) e1 a.eval w with ⟨v, hv⟩ | hs
  ·
   rw [hv w, Oper.upon_value, d1] at h
   exact ⟨v, hv, h⟩
  ·
   obtain ⟨s, hs⟩ := hs w
   rw [hs] at h
   exact (upon_stuck h).elim
 have run1' : ∀ (K : Act → World → Prop) (a : Act) (w : World) (v : Value), (∀ w', (execOp a.eval o1).run P w' = .ok (.value v) w') → K (a.put (some d) v) w → wpOp P ops Q m K a w := by
  intro K a w v hv hK
  unfold wpOp
  rw [h1]
  simp only [Region.wanted, g1, if_true]
  refine .inl ?_
  unfold Oper.wp
  rw [hv w, Oper.upon_value, d1]
  exact hK
 intro f
 induction f using Nat.strongRecOn with
 | ind f ih =>
  intro listed a w hc h
  have sub : ∀ i, i ∈ Region.ready .any (tieOp ops (m + 1)) listed → i ∈ Region.ready .any ops listed := fun i hi => ((tie_ready hk).1 hi).1
  have nil : Region.ready .any ops listed = [] → Region.ready .any (tieOp ops (m + 1)) listed = [] := fun h0 => by
   rw [List.eq_nil_iff_forall_not_mem] at h0 ⊢
   exact fun i hi => h0 i (sub i hi)
  have in_or : ∀ i, i ∈ Region.ready .any ops listed → i ∈ Region.ready .any (tieOp ops (m + 1)) listed ∨ (i = m + 1 ∧ listed.getD m false = false) := fun i hi => by
   by_cases hh : i = m + 1 ∧ listed.getD m false = false
   ·
    exact .inr hh
   ·
    refine .inl ((tie_ready hk).2 ⟨hi, fun e => ?_⟩)
    cases hg : listed.getD (m + 1 - 1) false with
    | true => rfl
    | false => exact absurd ⟨e, hg⟩ hh
  cases f with
  | zero =>
   refine ⟨?_, h.2⟩
   rw [List.eq_nil_iff_forall_not_mem]
   intro i hi
   have h0 := h.1
   rw [List.eq_nil_iff_forall_not_mem] at h0
   rcases in_or i hi with hi' | ⟨rfl, hm⟩
   ·
    exact h0 i hi'
   ·
    exact h0 m (key listed hc hi hm)
  | succ f =>
   refine ⟨fun h0 => h.1 (nil h0), fun i hi => ?_⟩
   rcases in_or i hi with hi' | ⟨rfl, hm⟩
   ·
    have g := h.2 i hi'
    rw [tie_wpOp] at g
    exact wpOp_mono (fun a' w' h' => ih f (Nat.lt_succ_self f) _ a' w' (hc.step hD hi) h') g
   ·
    have hmr := key listed hc hi hm
    have hmr' := sub m hmr
    have hms : m < listed.size := by rw [hc.1]; exact (Array.getElem?_eq_some_iff.1 h1).1
    have hks : m + 1 < listed.size := by rw [hc.1]; exact (Array.getElem?_eq_some_iff.1 h2).1
    have g := h.2 m hmr
    rw [tie_wpOp] at g
    obtain ⟨v, hv, g⟩ := run1 0 _ a w g
    have hready : m + 1 ∈ Region.ready .any (tieOp ops (m + 1)) (listed.setIfInBounds m true) := (tie_ready hk).2 ⟨ready_mono hi (by omega), fun _ => by
     show (listed.setIfInBounds m true).getD m false = true
     rw [getD_set hms]; simp⟩
    cases f with
    | zero =>
     have := g.1
     rw [this] at hready; cases hready
    | succ f =>
     have g := g.2 (m + 1) hready
     rw [tie_wpOp] at g
     unfold wpOp at g ⊢
     rw [h2] at g ⊢
     simp only [Region.wanted, g2, if_true] at g ⊢
     have g := g.resolve_right (fun h => hL h.2)
     refine .inl ?_
     unfold Oper.wp at g ⊢
     have he : (execOp (a.put (some d) v).eval o2) = execOp a.eval o2 := by
      unfold execOp; rw [e2]; simp only [eval_free hpf, eval_free hqf]
     rw [he] at g
     refine upon_swap d2 hp hL (fun ds w' hq => ?_) g
     have hlast : ∀ i, i ∈ Region.ready .any ops (listed.setIfInBounds (m + 1) true) → i = m := fun i hi' => by
      have hc' := hc.step hD hi
      rcases Nat.lt_trichotomy i m with hlt | rfl | hgt
      ·
       have hu := unl (mem_ready.1 hi').1
       rw [getD_set_ne false (by omega)] at hu
       have := ready_deps hD hc hi i (hcl i hlt)
       rw [hu.1] at this; cases this
      ·
       rfl
      ·
       by_cases hik : i = m + 1
       ·
        subst hik
        have hu := unl (mem_ready.1 hi').1
        rw [getD_set hks] at hu; simp at hu
       ·
        obtain ⟨_, oi, hoi, _⟩ := mem_ready.1 hi'
        obtain ⟨ds', h4, _, _, h5⟩ := depsOK_spec hD hoi
        have := ready_deps hD hc' hi' m (by unfold depOf; rw [h4]; exact membN_iff.2 (h5 (by omega) m (by omega)))
        rw [getD_set_ne false (by omega), hm] at this; cases this
     refine ⟨fun h0 => ?_, fun i hi' => ?_⟩
     ·
      have : m ∈ Region.ready .any ops (listed.setIfInBounds (m + 1) true) := ready_mono hmr' (by omega)
      rw [h0] at this; cases this
     ·
      obtain rfl := hlast i hi'
      refine run1' _ _ w' v (fun w'' => ?_) ?_
      ·
       have : ({ a with defers := ds } : Act).eval = a.eval := rfl
       rw [this]; exact hv w''
      ·
       have hc2 := (hc.step hD hi).step hD hi'
       refine ih f (by omega) _ _ w' hc2 ?_
       rw [Array.setIfInBounds_comm _ _ (by omega)]
       exact hq
end
theorem pickAt_some {ops : Array Oper} {m d : Nat} (h : pickAt ops m = some d) : ∃ o c x y, ops[m]? = some o ∧ o.op = .pick c x y ∧ o.guard = none ∧ o.dst = some d := by
 unfold pickAt at h
 split at h
 ·
  rename_i o ho
  split at h
  ·
   rename_i c x y d' e1 e2 e3
   cases h
   exact ⟨o, c, x, y, ho, e1, e2, e3⟩
  ·
   cases h
 ·
  cases h
theorem storeFree_some {ops : Array Oper} {k d : Nat} (h : storeFree ops k d = true) : ∃ o t p q, ops[k]? = some o ∧ o.op = .store t p q ∧ o.guard = none ∧ o.dst = none ∧ notTmp d p = true ∧ notTmp d q = true := by
 unfold storeFree at h
 split at h
 ·
  rename_i o ho
  split at h
  ·
   rename_i t p q e1 e2 e3
   rw [Bool.and_eq_true] at h
   exact ⟨o, t, p, q, ho, e1, e2, e3, h.1, h.2⟩
  ·
   cases h
 ·
  cases h
theorem cx_drawS {C : Cx} {st : St} {Kn : Kont} {Ke : List (Nat × Kont)} {Kr : Kont} {deps : List (List Nat)} {hd tl : List XI}
  (h : AXI C true [] hd st (fun st' => AXI C false [] tl st' Kn)) : AX C (.drawS deps hd tl) st Kn Ke Kr := by
 intro c hf a w S
 simp only [fitsC] at hf
 split at hf
 ·
  rename_i id ops0
  unfold fitsDS at hf
  split at hf
  ·
   rename_i m hn0
   simp only [Bool.and_eq_true] at hf
   obtain ⟨⟨⟨⟨⟨⟨⟨⟨g1, g2⟩, f3⟩, f0⟩, f5⟩, f6⟩, f4⟩, g3⟩, g4⟩ := hf
   have hn := sizeIs_eq g1
   have f2 := sizeIs_eq g2
   split at g3
   ·
    rename_i d hd'
    obtain ⟨o1, c1, x1, y1, h1, e1, q1, d1⟩ := pickAt_some hd'
    obtain ⟨o2, t2, p2, q2, h2, e2, r2, d2, hp2, hq2⟩ := storeFree_some g3
    have hcl : ∀ j, j < m → depOf deps (m + 1) j = true := fun j hj => by
     unfold depOf
     split at g4
     ·
      rename_i l hl; rw [hl]; exact List.all_eq_true.1 g4 j (List.mem_range.2 hj)
     ·
      cases g4
    refine wp_region_any f3 ?_
    have hsz : (tieOp ops0 (m + 1)).size = ops0.size := by unfold tieOp; simp
    have hc00 : Closed deps ops0 (Array.replicate ops0.size false) := ⟨by simp, fun i j hi _ => by
     rcases Nat.lt_or_ge i ops0.size with h' | h'
     ·
      simp [h'] at hi
     ·
      simp [Array.getElem?_eq_none (xs := Array.replicate ops0.size false) (i := i) (by simpa using h')] at hi⟩
    refine wpAny_tie f0 h1 e1 q1 d1 h2 e2 r2 d2 hp2 hq2 hcl (fun _ _ _ hh => hh) (fun ⟨_, _, hh⟩ => hh) _ _ _ _ hc00 ?_
    rw [← hsz]
    generalize tieOp ops0 (m + 1) = ops at *
    generalize deps.set (m + 1) (List.range (m + 1)) = deps' at *
    have hns : m + 1 ≤ ops.size := fitIs_le _ _ _ _ _ _ _ _ f2
    have hq := h ops _ (Rn.quiet C ops (fun a w => ∃ st', AXI C false [] tl st' Kn ∧ Sat C st' a w)) 0 0 (m + 1) hn [] a w S (fun g hg => by cases hg)
     (fun st' a' w' hw hK S' _ => by
      have := hw rfl
      subst this
      exact fun w'' hw'' => ⟨st', hK, S'.ext hw''⟩)
    unfold WQ at hq
    rw [List.append_nil, Nat.sub_zero] at hq
    have hl : (ops.toList.take (m + 1)).length = m + 1 := by simp; omega
    have e : (List.range' 0 (m + 1)).filterMap (fun i => ops[i]?) = ops.toList.take (m + 1) := by
     have := filterMap_range' (ops.toList.take (m + 1)) 0 (fun i => ops[i]?) (fun j hj => by
      rw [hl] at hj
      simp [List.getElem?_take, hj])
     rwa [hl] at this
    rw [e] at hq
    have hc0 : Closed deps' ops (Array.replicate ops.size false) := ⟨by simp, fun i j hi _ => by
     rcases Nat.lt_or_ge i ops.size with h' | h'
     ·
      simp [h'] at hi
     ·
      simp [Array.getElem?_eq_none (xs := Array.replicate ops.size false) (i := i) (by simpa using h')] at hi⟩
    have hz : ∀ k, (Array.replicate ops.size false).getD k false = false := fun k => by
     rcases Nat.lt_or_ge k ops.size with h' | h'
     ·
      simp [h']
     ·
      simp [Array.getElem?_eq_none (xs := Array.replicate ops.size false) (i := k) (by simpa using h')]
    have hpq := PQ_lex (C := Ext w) (deps := deps') (n := m + 1) f4 f5 (ops.toList.take (m + 1)) 0 (Array.replicate ops.size false) a hc0 (fun j hj => by omega) (by rw [hl]; omega) (fun j hj => by
     rw [hl] at hj
     simp [List.getElem?_take, hj]) (by rw [hl]; exact f6) hq
    rw [hl] at hpq
    have := wpAny_of_PQ (C := Ext w) (Q' := lift C Kn Ke Kr) (M := ops.size - (m + 1)) f4 (fun listed a' w' hw' hc hl' hq' => by
     obtain ⟨st', hK, S'⟩ := hq' w' hw'
     refine wpAny_forced f4 (ops.size - (m + 1)) (m + 1) listed a' w' (Nat.le_refl _) (by omega) hc hl' ?_
     have := hK ops _ (Rn.text C ops (lift C Kn Ke Kr)) 0 (m + 1) ops.size f2 [] a' w' S' (fun g hg => by cases hg) (fun st'' a'' w'' _ hK S'' _ => ⟨st'', hK, S''⟩)
     simpa using this) (m + 1) _ a _ (Ext.drew w) hc0 (fun k _ => hz k) hpq
    rw [show m + 1 + (ops.size - (m + 1)) = ops.size from by omega] at this
    exact this
   ·
    cases g3
  ·
   cases hf
 ·
  cases hf
end Go.AM

namespace Go.AM
abbrev Str := List UInt8
def strRow (s : Str) : List D := [.str s]
def strs (xs : List Str) : D := .sl 1 (xs.map strRow)
theorem take_succ {α : Type} {xs : List α} {k : Nat} (h : k < xs.length) : xs.take (k + 1) = xs.take k ++ [xs[k]] := by
 rw [List.take_add_one, List.getElem?_eq_getElem h]; rfl
/-- Lengths that Go has. -/
def wfStrs (xs : List Str) : Prop := xs.length ≤ 9223372036854775807 ∧ ∀ s ∈ xs, s.length ≤ 9223372036854775807
theorem eq_of_take {α : Type} {xs ys : List α} (hl : xs.length = ys.length) (h : xs.take xs.length = ys.take xs.length) : xs = ys := by
 rw [List.take_length] at h
 rw [h, hl, List.take_length]
theorem take_step {α : Type} {xs ys : List α} {k : Nat} (hx : k < xs.length) (hy : k < ys.length) (h : xs.take k = ys.take k) (he : xs[k] = ys[k]) : xs.take (k + 1) = ys.take (k + 1) := by
 rw [take_succ hx, take_succ hy, h, he]
structure Page where
 lsn : Int
 slots : List Str
def Page.av (p : Page) : AV := .agg [int p.lsn, .d (strs p.slots)]
theorem lend_whole {own : List (Nat × OB)} {e sz len : Nat} {rs : List (List D)} (h : get own e = some (.rows sz rs)) (hl : len = rs.length) : Lend own (.osl e sz 0 len) (.sl sz rs) :=
 .osl h (by omega) (by rw [List.drop_zero, hl, List.take_length])
end Go.AM

namespace Go.AM
def inR (n lo hi : Int) : Bool := decide (lo ≤ n) && decide (n ≤ hi)
def Page.zero : Page := ⟨0, []⟩
def pageOK (p : Page) : Bool := inR p.lsn 0 1000 && decide (p.slots.length = 4) && !p.slots.any (fun s => decide (30 < s.length))
def idxOf {α : Type} (p : α → Bool) : List α → Nat → Int
 | [], _ => -1
 | x :: xs, k => if p x then k else idxOf p xs (k + 1)
/-- Not found so far. -/
theorem idxOf_step {α : Type} {p : α → Bool} : ∀ {xs : List α} {k j : Nat}, (∀ i, i < k → ∀ x, xs[i]? = some x → p x = false) → idxOf p xs j = idxOf p (xs.drop k) (j + k)
 | xs, 0, j, _ => by simp
 | [], k + 1, j, _ => by simp [idxOf]
 | x :: xs, k + 1, j, h => by
  rw [idxOf, h 0 (by omega) x rfl, List.drop_succ_cons, if_neg (by simp)]
  rw [idxOf_step (k := k) (j := j + 1) (fun i hi y hy => h (i + 1) (by omega) y (by simpa using hy))]
  congr 1; omega
theorem idxOf_hit {α : Type} {p : α → Bool} {xs : List α} {k : Nat} (hk : k < xs.length) (h : ∀ i, i < k → ∀ x, xs[i]? = some x → p x = false) (hp : p xs[k] = true) : idxOf p xs 0 = k := by
 rw [idxOf_step h, List.drop_eq_getElem_cons hk, idxOf, if_pos hp]; simp
theorem idxOf_none {α : Type} {p : α → Bool} {xs : List α} (h : ∀ i, i < xs.length → ∀ x, xs[i]? = some x → p x = false) : idxOf p xs 0 = -1 := by
 rw [idxOf_step h, List.drop_length, idxOf]
theorem before_step {α : Type} {p : α → Bool} {xs : List α} {k : Nat} (hk : k < xs.length) (h : ∀ i, i < k → ∀ x, xs[i]? = some x → p x = false) (hp : p xs[k] = false) : ∀ i, i < k + 1 → ∀ x, xs[i]? = some x → p x = false := by
 intro i hi x hx
 rcases Nat.lt_or_ge i k with h' | h'
 ·
  exact h i h' x hx
 ·
  have : i = k := by omega
  subst this
  rw [List.getElem?_eq_getElem hk] at hx; cases hx; exact hp
theorem any_idxOf {α : Type} {p : α → Bool} : ∀ {xs : List α} {k : Nat}, decide (0 ≤ idxOf p xs k) = xs.any p
 | [], k => by simp [idxOf]
 | x :: xs, k => by
  rw [idxOf, List.any_cons]
  cases hp : p x with
  | true => simp
  | false => rw [if_neg (by simp), any_idxOf, Bool.false_or]
theorem idxOf_lt {α : Type} {p : α → Bool} : ∀ {xs : List α} {k : Nat}, idxOf p xs k < k + xs.length ∧ -1 ≤ idxOf p xs k
 | [], k => by simp [idxOf]; omega
 | x :: xs, k => by
  rw [idxOf]
  split
  ·
   simp; omega
  ·
   have := idxOf_lt (p := p) (xs := xs) (k := k + 1)
   simp only [List.length_cons]
   omega
theorem any_all {α : Type} {p : α → Bool} {xs : List α} (h : ∀ i, i < xs.length → ∀ x, xs[i]? = some x → p x = false) : xs.any p = false := by
 rw [← any_idxOf (k := 0), idxOf_none h]; rfl
theorem any_hit {α : Type} {p : α → Bool} {xs : List α} {k : Nat} (hk : k < xs.length) (hp : p xs[k] = true) : xs.any p = true :=
 List.any_eq_true.2 ⟨_, List.getElem_mem hk, hp⟩
end Go.AM

namespace Go.AM
noncomputable def eqb {α : Type} (a b : α) : Bool := @decide (a = b) (Classical.propDecidable _)
theorem eqb_t {α : Type} {a b : α} (h : a = b) : eqb a b = true := by unfold eqb; simp [h]
theorem eqb_f {α : Type} {a b : α} (h : a ≠ b) : eqb a b = false := by unfold eqb; simp [h]
theorem eqb_iff {α : Type} {a b : α} : eqb a b = true ↔ a = b := by unfold eqb; simp
theorem eqb_rfl {α : Type} (a : α) : eqb a a = true := eqb_t rfl
end Go.AM

namespace Go.AM
section
variable {P : Program} {t e : TypeId} {ds : List D}
theorem hasC_int {k : IntKind} (h : P.underlying t = some (.int k)) (hc : HasC P t ds) : ∃ n, ds = [.int k n] ∧ (Lit.int k n).wf = true := by
 cases hc with
 | int n h' hw => rw [h] at h'; cases h'; exact ⟨n, rfl, hw⟩
 | bool b h' => rw [h] at h'; cases h'
 | str s h' hl => rw [h] at h'; cases h'
 | nilp h' => rw [h] at h'; cases h'
 | ptr h' hr => rw [h] at h'; cases h'
 | slice rows h' hl hr => rw [h] at h'; cases h'
 | struct h' hf => rw [h] at h'; cases h'
theorem hasC_slice (h : P.underlying t = some (.slice e)) (hc : HasC P t ds) : ∃ rows, ds = [.sl (P.cellsOf e) rows] ∧ rows.length ≤ 9223372036854775807 ∧ HasRs P e rows := by
 cases hc with
 | slice rows h' hl hr => rw [h] at h'; cases h'; exact ⟨rows, rfl, hl, hr⟩
 | bool b h' => rw [h] at h'; cases h'
 | int n h' hw => rw [h] at h'; cases h'
 | str s h' hl => rw [h] at h'; cases h'
 | nilp h' => rw [h] at h'; cases h'
 | ptr h' hr => rw [h] at h'; cases h'
 | struct h' hf => rw [h] at h'; cases h'
theorem hasRs_map {α : Type} {f : α → List D} {ok : α → Prop} (hf : ∀ ds, HasC P e ds → ∃ x, ds = f x ∧ ok x) : ∀ {rows : List (List D)}, HasRs P e rows → ∃ xs : List α, rows = xs.map f ∧ ∀ x ∈ xs, ok x
 | [], _ => ⟨[], rfl, fun x hx => by cases hx⟩
 | r :: rs, h => by
  cases h with
  | cons h1 h2 =>
   obtain ⟨x, rfl, h3⟩ := hf r h1
   obtain ⟨xs, rfl, h4⟩ := hasRs_map hf h2
   exact ⟨x :: xs, rfl, fun y hy => by
    rcases List.mem_cons.1 hy with rfl | hy
    ·
     exact h3
    ·
     exact h4 y hy⟩
end
end Go.AM

namespace Go.AM
theorem and_T {a b : Bool} (h : (a && b) = true) : a = true ∧ b = true := by simpa using h
theorem and_F {a b : Bool} (h : (a && b) = false) : a = false ∨ b = false := by cases a <;> cases b <;> simp_all
theorem mem1 {p : Nat → Prop} {n : Nat} (h : p n) : ∀ e ∈ [n], p e := fun e he => by
 rw [List.mem_singleton] at he; subst he; exact h
theorem mem2 {p : Nat → Prop} {n m : Nat} (h : p n) (h2 : p m) : ∀ e ∈ [n, m], p e := fun e he => by
 rcases List.mem_cons.1 he with rfl | he
 ·
  exact h
 ·
  exact mem1 h2 e he
theorem mem3 {p : Nat → Prop} {n m k : Nat} (h : p n) (h2 : p m) (h3 : p k) : ∀ e ∈ [n, m, k], p e := fun e he => by
 rcases List.mem_cons.1 he with rfl | he
 ·
  exact h
 ·
  exact mem2 h2 h3 e he
theorem mem4 {p : Nat → Prop} {n m k l : Nat} (h : p n) (h2 : p m) (h3 : p k) (h4 : p l) : ∀ e ∈ [n, m, k, l], p e := fun e he => by
 rcases List.mem_cons.1 he with rfl | he
 ·
  exact h
 ·
  exact mem3 h2 h3 h4 e he
section
variable {C : Cx} {q : Bool} {gs : List Gd} {K : St → Prop}
theorem ax_and {d j c : Nat} {t y : Bool} {grp : List XI} {s : XA} {its : List XI} {sl : List (Nat × AV)} {own : List (Nat × OB)}
  (hc : get sl c = some (.d (.bool t))) (hfr : frS (dstsL grp) sl = true)
  (hgrp : t = true → AXI C q (⟨j, true, c⟩ :: gs) grp ⟨sl, own⟩ (fun st' => evA st'.sl s = some (.d (.bool y)) ∧ St.le ⟨sl, own⟩ st'))
  (h : AXI C q gs its ⟨(d, .d (.bool (t && y))) :: sl, own⟩ K) : AXI C q gs (.andor d true j c grp s :: its) ⟨sl, own⟩ K := ax_andor hc hfr hgrp h
theorem ax_or {d j c : Nat} {t y : Bool} {grp : List XI} {s : XA} {its : List XI} {sl : List (Nat × AV)} {own : List (Nat × OB)}
  (hc : get sl c = some (.d (.bool t))) (hfr : frS (dstsL grp) sl = true)
  (hgrp : t = false → AXI C q (⟨j, false, c⟩ :: gs) grp ⟨sl, own⟩ (fun st' => evA st'.sl s = some (.d (.bool y)) ∧ St.le ⟨sl, own⟩ st'))
  (h : AXI C q gs its ⟨(d, .d (.bool (t || y))) :: sl, own⟩ K) : AXI C q gs (.andor d false j c grp s :: its) ⟨sl, own⟩ K := ax_andor hc hfr hgrp h
end
theorem bneF {a b : Bool} (h : (a != b) = false) : a = b := by simpa using h
theorem or_T {a b : Bool} (h : (a || b) = true) : a = true ∨ b = true := by simpa using h
theorem or_F {a b : Bool} (h : (a || b) = false) : a = false ∧ b = false := by simpa using h
theorem q_lenS_map {C : Cx} {st : St} {x : XA} {sz : Nat} {α : Type} {f : α → List D} {xs : List α} (hx : evA st.sl x = some (.d (.sl sz (xs.map f)))) : QStep C st (.lenS x) (int xs.length) :=
 q_as (q_lenS hx) (by rw [List.length_map])
theorem noisl_map {α : Type} {f : α → List D} {sz : Nat} {xs : List α} (hf : ∀ x, (f x).all scD = true) : noIslO (.rows sz (xs.map f)) := by
 intro r hr x hx
 obtain ⟨y, _, rfl⟩ := List.mem_map.1 hr
 exact List.all_eq_true.1 (hf y) x hx
def noislL : List (Nat × OB) → Prop
 | [] => True
 | (_, ob) :: r => noIslO ob ∧ noislL r
theorem noisl_of : ∀ {h : List (Nat × OB)}, noislL h → ∀ e ob, get h e = some ob → noIslO ob
 | (k, o) :: r, hh, e, ob, h => by
  rw [get_cons] at h
  split at h
  ·
   cases h; exact hh.1
  ·
   exact noisl_of hh.2 e ob h
def intRow (n : Int) : List D := [.int .i64 n]
def wfL {α : Type} (wf : α → Prop) (xs : List α) : Prop := xs.length ≤ 9223372036854775807 ∧ ∀ x ∈ xs, wf x
section
variable {α : Type} {row : α → List D} {mk : Nat → α → α} {c k0 k : Nat} {xs : List α}
end
section
variable {α : Type} {row : α → List D} {xs : List α} {k : Nat} {z : List D}
end
theorem eqbL_step {α : Type} {xs ys : List α} {k : Nat} (hx : k < xs.length) (hy : k < ys.length) (h : xs.take k = ys.take k) (he : eqb xs[k] ys[k] = true) : xs.take (k + 1) = ys.take (k + 1) :=
 take_step hx hy h (eqb_iff.1 he)
theorem eqbL_no {α : Type} {xs ys : List α} {k : Nat} (hx : k < xs.length) (hy : k < ys.length) (he : eqb xs[k] ys[k] = false) : eqb xs ys = false := by
 refine eqb_f fun h => ?_
 subst h
 rw [eqb_rfl] at he; cases he
end Go.AM
namespace Go.AM
theorem refs_map : ∀ (ds : List D), refsInL [] (ds.map AV.d) = true
 | [] => rfl
 | d :: ds => by rw [List.map_cons, refsInL, refs_map ds]; rfl
theorem refs_cons {x : AV} (h : refsIn [] x = true) (ds : List D) : refsInL [] (x :: ds.map AV.d) = true := by rw [refsInL, h, refs_map]; rfl
/-- A function value among the data is called. -/
theorem ax_callvD {C : Cx} {gs : List Gd} {K : St → Prop} {st : St} {d : Option Nat} {x : XA} {f : Nat} {args : List XA} {its : List XI} {vs : List AV} {ds : List D} (hx : evA st.sl x = some (.d (.fn (.func f) ds))) (hb : hasBody C.P f = true) (ha : evL st.sl args = some vs)
  (h : VCall C st f (vs ++ ds.map AV.d) (fun r st' => AXI C false gs its (putR d r st') K)) : AXI C false gs (.callv d x args :: its) st K := by
 refine ax_callv_gen (hv := fun {β w u} hA => ?_) hx hb ha h
 rw [AR, DR] at hA
 obtain ⟨us, h1, h2⟩ := hA
 exact ⟨us, h1, DL_AL h2⟩
theorem hbnd {len n bytes : Nat} (h1 : len ≤ 2097152) (h2 : n ≤ 2097152) (hb : bytes ≤ 1024) : (2 * (len + n) + 256) * bytes ≤ 2 ^ 48 := by
 have h3 : (2 * (len + n) + 256) * bytes ≤ (2 * (2097152 + 2097152) + 256) * 1024 := Nat.mul_le_mul (by omega) hb
 omega
theorem app1 {α : Type} {row : α → List D} {xs : List α} {y : α} {r : List D} (h : r = row y) : (xs.map row).take xs.length ++ ([r].drop 0).take 1 = (xs ++ [y]).map row := by
 subst h; simp [List.take_of_length_le]
section
variable {α : Type} {q : α → Bool}
theorem idxOf_some {p : α → Bool} {xs : List α} (h : idxOf p xs 0 ≠ -1) : ∃ i : Nat, idxOf p xs 0 = (i : Int) ∧ ∃ hi : i < xs.length, p xs[i] = true ∧ (∀ j, j < i → ∀ x, xs[j]? = some x → p x = false) := by
 have key : ∀ (xs : List α) (k : Nat), idxOf p xs k = -1 ∨ ∃ i : Nat, idxOf p xs k = ((k + i : Nat) : Int) ∧ ∃ hi : i < xs.length, p xs[i] = true ∧ (∀ j, j < i → ∀ x, xs[j]? = some x → p x = false) := by
  intro xs
  induction xs with
  | nil => intro k; exact .inl rfl
  | cons x xs ih =>
   intro k
   rw [idxOf]
   cases hp : p x with
   | true => exact .inr ⟨0, by simp, by simp, hp, fun j hj => by omega⟩
   | false =>
    rw [if_neg (by simp)]
    rcases ih (k + 1) with h | ⟨i, h1, h2, h3, h4⟩
    ·
     exact .inl h
    ·
     refine .inr ⟨i + 1, by rw [h1]; congr 1; omega, by simpa using h2, by simpa using h3, fun j hj y hy => ?_⟩
     cases j with
     | zero => simp at hy; subst hy; exact hp
     | succ j => exact h4 j (by omega) y (by simpa using hy)
 rcases key xs 0 with h1 | ⟨i, h1, h2⟩
 ·
  exact absurd h1 h
 ·
  exact ⟨i, by rw [h1, Nat.zero_add], h2⟩
theorem idxOf_neg {p : α → Bool} : ∀ {xs : List α} {k : Nat}, idxOf p xs k = -1 → ∀ x ∈ xs, p x = false
 | x :: xs, k, h, y, hy => by
  rw [idxOf] at h
  cases hp : p x with
  | true => rw [hp, if_pos rfl] at h; omega
  | false =>
   rw [hp, if_neg (by simp)] at h
   rcases List.mem_cons.1 hy with rfl | hy
   ·
    exact hp
   ·
    exact idxOf_neg h y hy
end
end Go.AM
namespace Go.AM
section
variable {P : Program} {t e : TypeId}
def Dec {α : Type} (P : Program) (t : TypeId) (row : α → List D) (wf : α → Prop) : Prop := ∀ {ds : List D}, HasC P t ds → ∃ x, ds = row x ∧ wf x
theorem dec_byte (h : P.underlying t = some (.int .u8)) : Dec P t byteRow (fun _ => True) := fun hc => by
 obtain ⟨n, rfl, hw⟩ := hasC_int h hc
 simp [Lit.wf, IntKind.min, IntKind.max, IntKind.signed, IntKind.bits] at hw
 refine ⟨byteOf n, ?_, trivial⟩
 unfold byteRow
 rw [byteOf_nat]
 congr 2; omega
theorem dec_slice {α : Type} {row : α → List D} {wf : α → Prop} {sz : Nat} (h : P.underlying t = some (.slice e)) (hz : P.cellsOf e = sz) (he : Dec P e row wf) : Dec P t (fun xs => [.sl sz (xs.map row)]) (wfL wf) := fun hc => by
 obtain ⟨rows, rfl, h1, h2⟩ := hasC_slice h hc
 obtain ⟨xs, rfl, h3⟩ := hasRs_map (f := row) (ok := wf) (fun ds hd => he hd) h2
 exact ⟨xs, by rw [hz], by simpa using h1, h3⟩
end
end Go.AM

namespace Go.AM
set_option linter.unusedVariables false
structure GLock where
 Tx : Int
 Table : Int
 Row : Int
 Mode : Int
def GLock.zero : GLock := ⟨0, 0, 0, 0⟩
structure GWait where
 Tx : Int
 For : Int
def GWait.zero : GWait := ⟨0, 0⟩
structure GLocks where
 Held : List GLock
 Waits : List GWait
def GLocks.zero : GLocks := ⟨[], []⟩
structure GPending where
 At : Int
 Data : Str
def GPending.av (x : GPending) : AV := .agg [.d (.int .i64 x.At), .d (.str x.Data)]
def GPending.row (x : GPending) : List D := [.int .i64 x.At, .str x.Data]
def GPending.zero : GPending := ⟨0, []⟩
theorem GPending.eq_iff {a b : GPending} : a = b ↔ (a.At = b.At ∧ a.Data = b.Data) := by
 constructor
 ·
  rintro rfl; exact ⟨rfl, rfl⟩
 ·
  intro h; cases a; cases b; simp_all
theorem GPending.q_eqs {C : Cx} {st : St} {neg : Bool} {x y : XA} {a b : GPending} (hx : evA st.sl x = some a.av) (hy : evA st.sl y = some b.av) : QStep C st (.eqs neg [0, 2] x y) (bool (bif neg then !eqb a b else eqb a b)) := by
 refine q_as (Go.AM.q_eqs hx hy rfl) ?_
 have e : (decide (a.At = b.At) && (decide (a.Data = b.Data) && true)) = eqb a b := by
  rw [Bool.eq_iff_iff, eqb_iff, GPending.eq_iff]; simp [Bool.and_eq_true]
 show bool (bif neg then !(decide (a.At = b.At) && (decide (a.Data = b.Data) && true)) else (decide (a.At = b.At) && (decide (a.Data = b.Data) && true))) = _
 rw [e]
structure GDisk where
 Sectors : List Str
 Cache : List GPending
 Armed : Bool
 Keep : List Int
def GDisk.av (x : GDisk) : AV := .agg [.d (.sl 1 (x.Sectors.map strRow)), .d (.sl 2 (x.Cache.map GPending.row)), .d (.bool x.Armed), .d (.sl 1 (x.Keep.map intRow))]
theorem GDisk.ext1 {a b : GDisk} (h0 : a.Sectors = b.Sectors) (h1 : a.Cache = b.Cache) (h2 : a.Armed = b.Armed) (h3 : a.Keep = b.Keep) : a = b := by cases a; cases b; simp_all
def GDisk.row (x : GDisk) : List D := [.sl 1 (x.Sectors.map strRow), .sl 2 (x.Cache.map GPending.row), .bool x.Armed, .sl 1 (x.Keep.map intRow)]
def GDisk.zero : GDisk := ⟨[], [], false, []⟩
abbrev GDisk.avO (e0 e1 e2 : Nat) (x : GDisk) : AV := .agg [.osl e0 1 0 x.Sectors.length, .osl e1 2 0 x.Cache.length, .d (.bool x.Armed), .osl e2 1 0 x.Keep.length]
abbrev GDisk.hO (e0 e1 e2 : Nat) (x : GDisk) : List (Nat × OB) := [(e0, .rows 1 (x.Sectors.map strRow)), (e1, .rows 2 (x.Cache.map GPending.row)), (e2, .rows 1 (x.Keep.map intRow))]
abbrev Page.avO (e0 : Nat) (x : Page) : AV := .agg [.d (.int .i64 x.lsn), .osl e0 1 0 x.slots.length]
abbrev Page.hO (e0 : Nat) (x : Page) : List (Nat × OB) := [(e0, .rows 1 (x.slots.map strRow))]
structure GValue where
 Kind : Int
 N : Int
 T : Str
def GValue.zero : GValue := ⟨0, 0, []⟩
theorem GValue.eq_iff {a b : GValue} : a = b ↔ (a.Kind = b.Kind ∧ a.N = b.N ∧ a.T = b.T) := by
 constructor
 ·
  rintro rfl; exact ⟨rfl, rfl, rfl⟩
 ·
  intro h; cases a; cases b; simp_all
structure GExprNode where
 Op : Int
 A : Int
 B : Int
 Column : Int
 V : GValue
def GExprNode.zero : GExprNode := ⟨0, 0, 0, 0, GValue.zero⟩
structure GExpr where
 Nodes : List GExprNode
def GExpr.zero : GExpr := ⟨[]⟩
structure GIns where
 Op : Int
 N : Int
 V : GValue
def GIns.zero : GIns := ⟨0, 0, GValue.zero⟩
structure GRow where
 Id : Int
 N : GValue
 Name : GValue
def GRow.zero : GRow := ⟨0, GValue.zero, GValue.zero⟩
structure GStmt where
 Kind : Int
 Table : Int
 Row : GRow
 Column : Int
 Set : GExpr
 Where : GExpr
 Order : Int
 Down : Bool
def GStmt.zero : GStmt := ⟨0, 0, GRow.zero, 0, GExpr.zero, GExpr.zero, 0, false⟩
structure GAnswer where
 Rows : List GRow
 Count : Int
def GAnswer.zero : GAnswer := ⟨[], 0⟩
structure GChange where
 Session : Int
 Table : Int
 Row : GRow
 Gone : Bool
def GChange.zero : GChange := ⟨0, 0, GRow.zero, false⟩
end Go.AM

namespace Go.AM
structure Src where
 code : Str
 pos : Int
 seed : Int
abbrev Src.box (s : Src) : OB := .box [.d (.sl 1 (s.code.map byteRow)), int s.pos, int s.seed]
abbrev Src.h (e : Nat) (s : Src) : List (Nat × OB) := [(e, s.box)]
structure Src.ok (s : Src) (n : Nat) : Prop where
 pos : 0 ≤ s.pos ∧ s.pos + n ≤ 1000000000
 seed : 0 ≤ s.seed ∧ s.seed < 2147483648
 len : s.code.length ≤ 1048576
theorem Src.ok.mono {s : Src} {n m : Nat} (h : s.ok n) (hm : m ≤ n) : s.ok m := ⟨by have := h.pos; omega, h.seed, h.len⟩
def srcOf (code : Str) : Src := ⟨code, 0, (code.length : Int) % 1000⟩
theorem srcOf_ok {code : Str} (h : code.length ≤ 1048576) : (srcOf code).ok 1000000000 := ⟨by simp [srcOf], by unfold srcOf; dsimp only; omega, h⟩
def byteF (s : Src) : Int × Src :=
 if s.pos + 1 ≤ s.code.length then ((s.code.getD s.pos.toNat 0).toNat, ⟨s.code, s.pos + 1, (s.seed * 31 + (s.code.getD s.pos.toNat 0).toNat + 7) % 2147483648⟩)
 else if 3000 < s.pos + 1 then (0, ⟨s.code, s.pos + 1, s.seed⟩)
 else ((s.seed * 1103515245 + 12345) % 2147483648 / 65536 % 256, ⟨s.code, s.pos + 1, (s.seed * 1103515245 + 12345) % 2147483648⟩)
theorem byteF_1 {s : Src} (h : s.pos + 1 ≤ s.code.length) : byteF s = (((s.code.getD s.pos.toNat 0).toNat : Int), ⟨s.code, s.pos + 1, (s.seed * 31 + (s.code.getD s.pos.toNat 0).toNat + 7) % 2147483648⟩) := by unfold byteF; rw [if_pos h]
theorem byteF_2 {s : Src} (h : ¬ s.pos + 1 ≤ s.code.length) (h1 : 3000 < s.pos + 1) : byteF s = (0, ⟨s.code, s.pos + 1, s.seed⟩) := by unfold byteF; rw [if_neg h, if_pos h1]
theorem byteF_3 {s : Src} (h : ¬ s.pos + 1 ≤ s.code.length) (h1 : ¬ 3000 < s.pos + 1) : byteF s = ((s.seed * 1103515245 + 12345) % 2147483648 / 65536 % 256, ⟨s.code, s.pos + 1, (s.seed * 1103515245 + 12345) % 2147483648⟩) := by unfold byteF; rw [if_neg h, if_neg h1]
theorem byteF_ok {s : Src} {n : Nat} (h : s.ok (n + 1)) : (byteF s).2.ok n ∧ 0 ≤ (byteF s).1 ∧ (byteF s).1 < 256 := by
 have h1 := h.pos
 have h2 := h.seed
 have h3 := h.len
 have h4 := (s.code.getD s.pos.toNat 0).toNat_lt
 unfold byteF
 split
 ·
  exact ⟨⟨by dsimp only; omega, by dsimp only; omega, h3⟩, by dsimp only; omega, by dsimp only; omega⟩
 ·
  split
  ·
   exact ⟨⟨by dsimp only; omega, h2, h3⟩, by dsimp only; omega, by dsimp only; omega⟩
  ·
   exact ⟨⟨by dsimp only; omega, by dsimp only; omega, h3⟩, by dsimp only; omega, by dsimp only; omega⟩
def nextF (s : Src) (n : Int) : Int × Src :=
 if n ≤ 1 then (0, s) else if n ≤ 256 then ((byteF s).1 % n, (byteF s).2)
 else (((byteF s).1 * 65536 + (byteF (byteF s).2).1 * 256 + (byteF (byteF (byteF s).2).2).1) % n, (byteF (byteF (byteF s).2).2).2)
theorem nextF_1 {s : Src} {n : Int} (h : n ≤ 1) : nextF s n = (0, s) := by unfold nextF; rw [if_pos h]
theorem nextF_2 {s : Src} {n : Int} (h : ¬ n ≤ 1) (h1 : n ≤ 256) : nextF s n = ((byteF s).1 % n, (byteF s).2) := by unfold nextF; rw [if_neg h, if_pos h1]
theorem nextF_3 {s : Src} {n : Int} (h : ¬ n ≤ 1) (h1 : ¬ n ≤ 256) : nextF s n = (((byteF s).1 * 65536 + (byteF (byteF s).2).1 * 256 + (byteF (byteF (byteF s).2).2).1) % n, (byteF (byteF (byteF s).2).2).2) := by unfold nextF; rw [if_neg h, if_neg h1]
theorem nextF_ok {s : Src} {n : Int} {k : Nat} (h : s.ok (k + 3)) : (nextF s n).2.ok k ∧ 0 ≤ (nextF s n).1 ∧ (1 ≤ n → (nextF s n).1 < n) := by
 unfold nextF
 split
 ·
  exact ⟨h.mono (by omega), by dsimp only; omega, fun _ => by dsimp only; omega⟩
 ·
  rename_i h1
  split
  ·
   obtain ⟨h2, h3, h4⟩ := byteF_ok (n := k) (h.mono (by omega))
   exact ⟨h2, Int.emod_nonneg _ (by omega), fun _ => Int.emod_lt_of_pos _ (by omega)⟩
  ·
   obtain ⟨h2, h3, h4⟩ := byteF_ok (n := k + 2) h
   obtain ⟨h5, h6, h7⟩ := byteF_ok (n := k + 1) h2
   obtain ⟨h8, h9, h10⟩ := byteF_ok (n := k) h5
   exact ⟨h8, Int.emod_nonneg _ (by omega), fun _ => Int.emod_lt_of_pos _ (by omega)⟩
theorem getD_at {l : Str} {i : Nat} (h : i < l.length) : l.getD i 0 = l[i] := by simp [List.getD, h]
/-- The i-th choice out of n that some bytes make. -/
def atF (more : Str) (i n : Int) : Int :=
 if n ≤ 1 then 0 else if more = [] then i * 7 % n else
 (((more.getD (i % more.length).toNat 0).toNat * 31 + (more.getD ((i + 1) % more.length).toNat 0).toNat : Int) + i / more.length) % n
theorem atF_bounds {more : Str} {i n : Int} (hn : 1 ≤ n) : 0 ≤ atF more i n ∧ atF more i n < n := by
 unfold atF
 split
 ·
  omega
 ·
  split
  ·
   exact ⟨Int.emod_nonneg _ (by omega), Int.emod_lt_of_pos _ (by omega)⟩
  ·
   exact ⟨Int.emod_nonneg _ (by omega), Int.emod_lt_of_pos _ (by omega)⟩
end Go.AM

namespace Go.AM
def badCh (b : UInt8) : Bool := !inR (b.toNat : Int) 97 122
def isWord (s : Str) : Bool := !s.any badCh && decide ((s.length : Int) ≤ 10)
def valueOK (v : GValue) : Bool := if v.Kind = 0 then decide (v.N = 0) && decide (v.T = []) else if v.Kind = 1 then inR v.N (-1000000000) 1000000000 && decide (v.T = []) else decide (v.Kind = 2) && decide (v.N = 0) && isWord v.T
theorem valueOK_0 {v : GValue} (h : v.Kind = 0) : valueOK v = (decide (v.N = 0) && decide (v.T = [])) := by unfold valueOK; rw [if_pos h]
theorem valueOK_1 {v : GValue} (h : v.Kind = 1) : valueOK v = (inR v.N (-1000000000) 1000000000 && decide (v.T = [])) := by unfold valueOK; rw [if_neg (by omega), if_pos h]
theorem valueOK_2 {v : GValue} (h : ¬ v.Kind = 0) (h1 : ¬ v.Kind = 1) : valueOK v = (decide (v.Kind = 2) && decide (v.N = 0) && isWord v.T) := by unfold valueOK; rw [if_neg h, if_neg h1]
end Go.AM

namespace Go.AM
def zeroV (v : GValue) : Bool := decide (v.Kind = 0) && (decide (v.N = 0) && (decide (v.T = []) && true))
def mxI (a b : Int) : Int := if b > a then b else a
abbrev W3 := Int × Int × Bool
def nodeW (rec : Int → W3) (i : Int) (x : GExprNode) : W3 :=
 if x.Op = 1 then (i, 1, ((decide (x.A = 0) && decide (x.B = 0)) && decide (x.Column = 0)) && valueOK x.V)
 else if x.Op = 2 then (i, 1, ((decide (x.A = 0) && decide (x.B = 0)) && inR x.Column 0 2) && zeroV x.V)
 else if inR x.Op 3 5 = true then ((rec (i - 1)).1, (rec (i - 1)).2.1 + 1, ((((rec (i - 1)).2.2 && decide (x.A = i - 1)) && decide (x.B = 0)) && decide (x.Column = 0)) && zeroV x.V)
 else if inR x.Op 6 13 = true then
  (if (rec (i - 1)).2.2 = false then (0, 0, false)
   else ((rec ((rec (i - 1)).1 - 1)).1, mxI (rec ((rec (i - 1)).1 - 1)).2.1 (rec (i - 1)).2.1 + 1,
    ((((rec ((rec (i - 1)).1 - 1)).2.2 && decide (x.A = (rec (i - 1)).1 - 1)) && decide (x.B = i - 1)) && decide (x.Column = 0)) && zeroV x.V))
 else (0, 0, false)
def walkF (ns : List GExprNode) : Nat → Int → W3
 | 0, _ => (0, 0, false)
 | f + 1, i => if i < 0 then (0, 0, false) else match ns[i.toNat]? with
  | none => (0, 0, false)
  | some x => nodeW (walkF ns f) i x
section
variable {ns : List GExprNode} {f : Nat} {i : Int} {j : Nat} {x : GExprNode} {rec : Int → W3}
end
def exprOK (e : GExpr) : Bool := if inR (e.Nodes.length : Int) 1 40 = false then false else
 ((walkF e.Nodes (e.Nodes.length + 1) ((e.Nodes.length : Int) - 1)).2.2 && decide ((walkF e.Nodes (e.Nodes.length + 1) ((e.Nodes.length : Int) - 1)).1 = 0)) && decide ((walkF e.Nodes (e.Nodes.length + 1) ((e.Nodes.length : Int) - 1)).2.1 ≤ 12)
theorem inR_iff {n lo hi : Int} : inR n lo hi = true ↔ lo ≤ n ∧ n ≤ hi := by unfold inR; simp
end Go.AM

namespace Go.AM
abbrev IDp := Int × Int
section
variable {ns : List GExprNode}
/-- The walk, with enough steps. -/
def T (ns : List GExprNode) (i : Int) : W3 := walkF ns (i + 2).toNat i
/-- What stands on the stack: trees side by side. -/
inductive Segs (ns : List GExprNode) : List IDp → Nat → Prop
 | nil : Segs ns [] 0
 | snoc {S : List IDp} {a i : Nat} {d : Int} : Segs ns S a → T ns i = ((a : Int), d, true) → Segs ns (S ++ [((i : Int), d)]) (i + 1)
theorem Segs.zero {S : List IDp} (h : Segs ns S 0) : S = [] := by cases h; rfl
end
end Go.AM

namespace Go.AM
section
variable {S : List IDp} {x : GExprNode}
end
section
variable {ns : List GExprNode} {S : List IDp} {k : Nat}
end
def noneE (e : GExpr) : Bool := decide ((e.Nodes.length : Int) = 0)
section
variable {s : GStmt} (h1 : inR s.Table 1 3 = true) (h2 : (noneE s.Where || exprOK s.Where) = true)
include h1 h2
end
end Go.AM

namespace Go.AM
structure RV (v : GValue) : Prop where
 k : v.Kind = 0 ∨ v.Kind = 1 ∨ v.Kind = 2
 z : v.Kind = 0 → v = .zero
 n : -1000000000 ≤ v.N ∧ v.N ≤ 1000000000
 t : v.Kind = 1 → v.T = []
 l : v.T.length ≤ 1048576
theorem RV.zero : RV .zero := ⟨.inl rfl, fun _ => rfl, by decide, fun h => rfl, Nat.zero_le _⟩
theorem RV.of {v : GValue} (h : valueOK v = true) : RV v := by
 by_cases h0 : v.Kind = 0
 ·
  rw [valueOK_0 h0] at h
  simp only [Bool.and_eq_true, decide_eq_true_eq] at h
  have : v = .zero := GValue.eq_iff.2 ⟨h0, h.1, h.2⟩
  rw [this]; exact .zero
 ·
  by_cases h1 : v.Kind = 1
  ·
   rw [valueOK_1 h1] at h
   simp only [Bool.and_eq_true, decide_eq_true_eq, inR_iff] at h
   exact ⟨.inr (.inl h1), fun h => absurd h h0, h.1, fun _ => h.2, by rw [h.2]; exact Nat.zero_le _⟩
  ·
   rw [valueOK_2 h0 h1] at h
   simp only [Bool.and_eq_true, decide_eq_true_eq] at h
   obtain ⟨⟨h2, h3⟩, h4⟩ := h
   unfold isWord at h4
   simp only [Bool.and_eq_true, decide_eq_true_eq] at h4
   refine ⟨.inr (.inr h2), fun h => absurd h h0, ?_, fun h => absurd h h1, by omega⟩
   show -1000000000 ≤ v.N ∧ v.N ≤ 1000000000
   omega
section
variable {ns : List GExprNode} {r : GRow} {f : Nat} {j : Nat}
end
section
variable {op a b n : Int}
end
end Go.AM

namespace Go.AM
def pickF (s : Src) (ts : List Str) : Str × Src := (ts.getD (nextF s ts.length).1.toNat [], (nextF s ts.length).2)
theorem pickF_ok {s : Src} {ts : List Str} {n : Nat} (h : s.ok (n + 3)) (ht : 1 ≤ ts.length) : (pickF s ts).2.ok n ∧ (pickF s ts).1 ∈ ts := by
 obtain ⟨h1, h2, h3⟩ := nextF_ok (n := ts.length) (k := n) h
 have h3 := h3 (by omega)
 refine ⟨h1, ?_⟩
 have hk : (nextF s ts.length).1.toNat < ts.length := by omega
 have : (pickF s ts).1 = ts[(nextF s ts.length).1.toNat] := by unfold pickF; simp [List.getD_eq_getElem?_getD, hk]
 rw [this]; exact List.getElem_mem hk
theorem strAt {ts : List Str} {k : Nat} (h : k < ts.length) : (ts.map strRow)[k]? = some (strRow (ts.getD k [])) := by
 rw [mapAt h]; simp [List.getD_eq_getElem?_getD, h]
section
variable {s : Src} {out : List GExprNode} {d n : Nat}
end
end Go.AM

namespace Go.AM
def badAt (n : Nat) (p : GPending) : Bool := !inR p.At 0 ((n : Int) - 1) || decide (160 < (p.Data.length : Int))
def long160 (s : Str) : Bool := decide (160 < (s.length : Int))
def badHead (d : GDisk) : Bool := ((!inR (d.Sectors.length : Int) 1 100 || decide (500 < (d.Cache.length : Int))) || decide (500 < (d.Keep.length : Int))) || (!d.Armed && decide (0 < (d.Keep.length : Int)))
def diskOK (d : GDisk) : Bool := !badHead d && (!d.Sectors.any long160 && !d.Cache.any (badAt d.Sectors.length))
theorem diskOK_head {d : GDisk} (h : diskOK d = true) : d.Sectors.length ≤ 100 ∧ d.Cache.length ≤ 500 ∧ d.Keep.length ≤ 500 := by
 unfold diskOK badHead inR at h
 simp only [Bool.and_eq_true, Bool.not_eq_true', Bool.or_eq_false_iff, decide_eq_false_iff_not, Bool.not_eq_false', decide_eq_true_eq] at h
 omega
theorem diskOK_at {d : GDisk} (h : diskOK d = true) : ∀ p ∈ d.Cache, 0 ≤ p.At ∧ p.At.toNat < d.Sectors.length := fun p hp => by
 unfold diskOK at h
 simp only [Bool.and_eq_true, Bool.not_eq_true'] at h
 have h1 : badAt d.Sectors.length p = false := by
  cases hh : badAt d.Sectors.length p with
  | false => rfl
  | true => exact absurd (List.any_eq_true.2 ⟨p, hp, hh⟩) (by rw [h.2.2]; simp)
 unfold badAt inR at h1
 simp only [Bool.or_eq_false_iff, Bool.not_eq_false', Bool.and_eq_true, decide_eq_true_eq] at h1
 omega
theorem getD_atI {l : List Int} {i : Nat} (h : i < l.length) : l.getD i 0 = l[i] := by simp [List.getD, h]
def putP (S : List Str) (p : GPending) : List Str := S.set p.At.toNat p.Data
def keepAt (keep : List Int) (k : Nat) : Bool := decide ((k : Int) < (keep.length : Int)) && !decide (keep.getD k 0 = 0)
def keptTo (S : List Str) (ps : List GPending) (keep : List Int) : Nat → List Str
 | 0 => S
 | k + 1 => match ps[k]? with
  | none => keptTo S ps keep k
  | some p => bif keepAt keep k then putP (keptTo S ps keep k) p else keptTo S ps keep k
theorem keptTo_len {S : List Str} {ps : List GPending} {keep : List Int} : ∀ {k : Nat}, (keptTo S ps keep k).length = S.length
 | 0 => rfl
 | k + 1 => by
  rw [keptTo]
  split
  ·
   exact keptTo_len
  ·
   cases keepAt keep k
   ·
    exact keptTo_len
   ·
    show (putP _ _).length = _
    unfold putP; rw [List.length_set]; exact keptTo_len
theorem keptTo_t {S : List Str} {ps : List GPending} {keep : List Int} {k : Nat} (hk : k < ps.length) (h : keepAt keep k = true) : keptTo S ps keep (k + 1) = (keptTo S ps keep k).set ps[k].At.toNat ps[k].Data := by
 rw [keptTo, List.getElem?_eq_getElem hk]; simp only [h, cond_true]; rfl
theorem keptTo_f {S : List Str} {ps : List GPending} {keep : List Int} {k : Nat} (hk : k < ps.length) (h : keepAt keep k = false) : keptTo S ps keep (k + 1) = keptTo S ps keep k := by
 rw [keptTo, List.getElem?_eq_getElem hk]; simp only [h, cond_false]
def syncTo (S : List Str) (ps : List GPending) (k : Nat) : List Str := (ps.take k).foldl putP S
theorem syncTo_len {S : List Str} {ps : List GPending} {k : Nat} : (syncTo S ps k).length = S.length := by
 unfold syncTo
 generalize ps.take k = l
 induction l generalizing S with
 | nil => rfl
 | cons p l ih => rw [List.foldl_cons, ih]; unfold putP; rw [List.length_set]
theorem syncTo_succ {S : List Str} {ps : List GPending} {k : Nat} (hk : k < ps.length) : syncTo S ps (k + 1) = (syncTo S ps k).set ps[k].At.toNat ps[k].Data := by
 unfold syncTo; rw [take_succ hk, List.foldl_append]; rfl
def crashD (d : GDisk) (keep : List Int) : GDisk := ⟨keptTo d.Sectors d.Cache keep d.Cache.length, [], false, []⟩
def syncD (d : GDisk) : GDisk × Bool := if d.Armed = true then (crashD d d.Keep, false) else (⟨syncTo d.Sectors d.Cache d.Cache.length, [], d.Armed, d.Keep⟩, true)
theorem syncD_1 {d : GDisk} (h : d.Armed = true) : syncD d = (crashD d d.Keep, false) := by unfold syncD; rw [if_pos h]
theorem syncD_2 {d : GDisk} (h : d.Armed = false) : syncD d = (⟨syncTo d.Sectors d.Cache d.Cache.length, [], d.Armed, d.Keep⟩, true) := by unfold syncD; rw [if_neg (by rw [h]; simp)]
def wrD (d : GDisk) (a : Int) (x : Str) : GDisk := ⟨d.Sectors, d.Cache ++ [⟨a, x⟩], d.Armed, d.Keep⟩
section
variable {d : GDisk} {a : Int} {x : Str}
end
theorem crashD_len {d : GDisk} {keep : List Int} : (crashD d keep).Sectors.length = d.Sectors.length := keptTo_len
abbrev GDisk.pO (e e0 e1 e2 : Nat) (x : GDisk) : List (Nat × OB) := (e, .box [.osl e0 1 0 x.Sectors.length, .osl e1 2 0 x.Cache.length, .d (.bool x.Armed), .osl e2 1 0 x.Keep.length]) :: x.hO e0 e1 e2
end Go.AM

namespace Go.AM
structure DOK (d : GDisk) : Prop where
 s0 : 1 ≤ d.Sectors.length
 s1 : d.Sectors.length ≤ 100
 c1 : d.Cache.length ≤ 500
 k1 : d.Keep.length ≤ 500
 ka : d.Armed = false → d.Keep = []
 st : ∀ t ∈ d.Sectors, t.length ≤ 160
 ct : ∀ p ∈ d.Cache, 0 ≤ p.At ∧ p.At < (d.Sectors.length : Int) ∧ p.Data.length ≤ 160
theorem DOK.ok {d : GDisk} (h : DOK d) : diskOK d = true := by
 have h0 := h.s0; have h1 := h.s1; have h2 := h.c1; have h3 := h.k1
 unfold diskOK
 have e1 : badHead d = false := by
  unfold badHead inR
  cases ha : d.Armed with
  | false => rw [h.ka ha]; simp; omega
  | true => simp; omega
 have e2 : d.Sectors.any long160 = false := by
  rw [List.any_eq_false]; intro t ht; have := h.st t ht; unfold long160; simp; omega
 have e3 : d.Cache.any (badAt d.Sectors.length) = false := by
  rw [List.any_eq_false]; intro p hp; have := h.ct p hp; unfold badAt inR; simp; omega
 rw [e1, e2, e3]; rfl
theorem wrD_ok {d : GDisk} {a : Int} {x : Str} (h : DOK d) (ha : 0 ≤ a ∧ a < (d.Sectors.length : Int)) (hx : x.length ≤ 160) (hc : d.Cache.length < 500) : DOK (wrD d a x) :=
 ⟨h.s0, h.s1, by show (d.Cache ++ _).length ≤ _; simp; omega, h.k1, h.ka, h.st, fun p hp => by
  rcases List.mem_append.1 hp with q | q
  ·
   exact h.ct p q
  ·
   rw [List.mem_singleton] at q; subst q; exact ⟨ha.1, ha.2, hx⟩⟩
theorem putP_st {S : List Str} {p : GPending} (hs : ∀ t ∈ S, t.length ≤ 160) (hp : p.Data.length ≤ 160) : ∀ t ∈ putP S p, t.length ≤ 160 := fun t ht => by
 unfold putP at ht
 rcases List.mem_or_eq_of_mem_set ht with q | q
 ·
  exact hs t q
 ·
  rw [q]; exact hp
theorem keptTo_st {S : List Str} {C : List GPending} {keep : List Int} (hs : ∀ t ∈ S, t.length ≤ 160) (hc : ∀ p ∈ C, p.Data.length ≤ 160) : ∀ k, ∀ t ∈ keptTo S C keep k, t.length ≤ 160
 | 0 => hs
 | k + 1 => by
  rw [keptTo]
  split
  ·
   exact keptTo_st hs hc k
  ·
   rename_i p hp
   cases keepAt keep k with
   | false => exact keptTo_st hs hc k
   | true => exact putP_st (keptTo_st hs hc k) (hc p (List.mem_of_getElem? hp))
theorem syncTo_st {S : List Str} {C : List GPending} (hs : ∀ t ∈ S, t.length ≤ 160) (hc : ∀ p ∈ C, p.Data.length ≤ 160) (k : Nat) : ∀ t ∈ syncTo S C k, t.length ≤ 160 := by
 unfold syncTo
 have hc2 : ∀ p ∈ C.take k, p.Data.length ≤ 160 := fun p hp => hc p (List.mem_of_mem_take hp)
 generalize C.take k = l at hc2
 induction l generalizing S with
 | nil => exact hs
 | cons p l ih => rw [List.foldl_cons]; exact ih (putP_st hs (hc2 p (List.mem_cons_self ..))) (fun q hq => hc2 q (List.mem_cons_of_mem _ hq))
theorem crashD_ok {d : GDisk} {keep : List Int} (h : DOK d) : DOK (crashD d keep) :=
 ⟨by rw [crashD_len]; exact h.s0, by rw [crashD_len]; exact h.s1, Nat.zero_le _, Nat.zero_le _, fun _ => rfl, keptTo_st h.st (fun p hp => (h.ct p hp).2.2) _, fun p hp => by cases hp⟩
theorem syncD_ok {d : GDisk} (h : DOK d) : DOK (syncD d).1 := by
 unfold syncD; split
 ·
  exact crashD_ok h
 ·
  exact ⟨by show 1 ≤ (syncTo _ _ _).length; rw [syncTo_len]; exact h.s0, by show (syncTo _ _ _).length ≤ _; rw [syncTo_len]; exact h.s1, Nat.zero_le _, h.k1, h.ka, syncTo_st h.st (fun p hp => (h.ct p hp).2.2) _, fun p hp => by cases hp⟩
/-- What a sector tells: what was written last. -/
def lastW (C : List GPending) (i : Int) (t : Str) : Str := C.foldl (fun t p => if p.At = i then p.Data else t) t
theorem lastW_app {C : List GPending} {p : GPending} {i : Int} {t : Str} : lastW (C ++ [p]) i t = if p.At = i then p.Data else lastW C i t := by
 unfold lastW; rw [List.foldl_append]; rfl
theorem lastW_no {C : List GPending} {i : Int} {t : Str} {k : Nat} (hk : k < C.length) (h : C[k].At ≠ i) : lastW (C.take (k + 1)) i t = lastW (C.take k) i t := by
 rw [take_succ hk, lastW_app, if_neg h]
theorem lastW_yes {C : List GPending} {i : Int} {t : Str} {k : Nat} (hk : k < C.length) (h : C[k].At = i) : lastW (C.take (k + 1)) i t = C[k].Data := by
 rw [take_succ hk, lastW_app, if_pos h]
theorem putP_get {S : List Str} {p : GPending} {i : Nat} (hi : i < S.length) (hp : 0 ≤ p.At) : (putP S p).getD i [] = if p.At = (i : Int) then p.Data else S.getD i [] := by
 unfold putP
 split
 ·
  rename_i h
  rw [show p.At.toNat = i from by omega]
  simp [List.getD, hi]
 ·
  rename_i h
  rw [List.getD_eq_getElem?_getD, List.getElem?_set_ne (by omega), List.getD_eq_getElem?_getD]
theorem syncTo_get {S : List Str} {C : List GPending} {i : Nat} (hi : i < S.length) (hC : ∀ p ∈ C, 0 ≤ p.At) : ∀ k, k ≤ C.length → (syncTo S C k).getD i [] = lastW (C.take k) i (S.getD i [])
 | 0, _ => rfl
 | k + 1, hk => by
  have e : syncTo S C (k + 1) = putP (syncTo S C k) C[k] := syncTo_succ (by omega)
  rw [e, putP_get (by rw [syncTo_len]; exact hi) (hC _ (List.getElem_mem (by omega))), syncTo_get hi hC k (by omega), take_succ (by omega), lastW_app]
theorem keptTo_get {S : List Str} {C : List GPending} {keep : List Int} {i : Nat} (hi : i < S.length) (hC : ∀ p ∈ C, 0 ≤ p.At) : ∀ k, k ≤ C.length → (keptTo S C keep k).getD i [] = S.getD i [] ∨ ∃ p ∈ C, p.At = (i : Int) ∧ (keptTo S C keep k).getD i [] = p.Data
 | 0, _ => .inl rfl
 | k + 1, hk => by
  cases hh : keepAt keep k with
  | false => rw [keptTo_f (by omega) hh]; exact keptTo_get hi hC k (by omega)
  | true =>
   have e : keptTo S C keep (k + 1) = putP (keptTo S C keep k) C[k] := keptTo_t (by omega) hh
   rw [e, putP_get (by rw [keptTo_len]; exact hi) (hC _ (List.getElem_mem (by omega)))]
   split
   ·
    rename_i h
    exact .inr ⟨_, List.getElem_mem (by omega), h, rfl⟩
   ·
    exact keptTo_get hi hC k (by omega)
/-- What is kept, drawn. -/
def keepsL : Nat → Src → List Int → List Int × Src
 | 0, s, l => (l, s)
 | n + 1, s, l => keepsL n (nextF s 2).2 (l ++ [(nextF s 2).1])
def keepsF (s : Src) : List Int × Src := keepsL (nextF s 12).1.toNat (nextF s 12).2 []
theorem keepsL_ok : ∀ {m : Nat} {s : Src} {l : List Int} {k : Nat}, s.ok (k + 3 * m) → (keepsL m s l).2.ok k ∧ (keepsL m s l).1.length = l.length + m
 | 0, _, _, _, h => ⟨h, rfl⟩
 | m + 1, s, l, k, h => by
  obtain ⟨h1, h2⟩ := keepsL_ok (m := m) (l := l ++ [(nextF s 2).1]) (k := k) (nextF_ok (s := s) (n := 2) (k := k + 3 * m) (h.mono (by omega))).1
  exact ⟨h1, by rw [keepsL, h2]; simp; omega⟩
theorem keepsF_ok {s : Src} {k : Nat} (h : s.ok (k + 36)) : (keepsF s).2.ok k ∧ (keepsF s).1.length ≤ 11 := by
 obtain ⟨h1, h2, h3⟩ := nextF_ok (s := s) (n := 12) (k := k + 33) h
 have h3 := h3 (by omega)
 obtain ⟨h4, h5⟩ := keepsL_ok (m := (nextF s 12).1.toNat) (l := []) (k := k) (h1.mono (by omega))
 exact ⟨h4, by unfold keepsF; rw [h5, List.length_nil]; omega⟩
def newDk (n : Int) : GDisk := ⟨List.replicate n.toNat [], [], false, []⟩
theorem newDk_len {n : Int} : (newDk n).Sectors.length = n.toNat := by simp [newDk]
theorem newDk_rows {n : Int} : (newDk n).Sectors.map strRow = List.replicate n.toNat [D.str []] := by simp [newDk]; exact .inr rfl
noncomputable def difD (x y : GDisk) : Bool := ((!eqb x.Sectors y.Sectors || !decide ((x.Cache.length : Int) = y.Cache.length)) || !(x.Armed == y.Armed)) || !eqb x.Keep y.Keep
theorem difD_no {x y : GDisk} (h : difD x y = false) : x.Sectors = y.Sectors ∧ x.Cache.length = y.Cache.length ∧ x.Armed = y.Armed ∧ x.Keep = y.Keep := by
 unfold difD at h
 simp only [Bool.or_eq_false_iff, Bool.not_eq_false', beq_iff_eq, decide_eq_true_eq] at h
 obtain ⟨⟨⟨h1, h2⟩, h3⟩, h4⟩ := h
 exact ⟨eqb_iff.1 h1, by omega, h3, eqb_iff.1 h4⟩
theorem difD_ne {x y : GDisk} (h : difD x y = true) : x ≠ y := fun e => by
 subst e; unfold difD at h; rw [eqb_rfl, eqb_rfl] at h; simp at h
end Go.AM

namespace Go.AM
theorem wr_u32 {n : Int} (h : 0 ≤ n) (h2 : n < 4294967296) : wr .u32 n = n := by
 unfold wr; simp [IntKind.wrap, IntKind.bits, IntKind.signed]; omega
theorem wr_u64 {n : Int} (h : 0 ≤ n) (h2 : n < 18446744073709551616) : wr .u64 n = n := by
 unfold wr; simp [IntKind.wrap, IntKind.bits, IntKind.signed]; omega
theorem bvI {w a : Nat} (h : a < 2 ^ w) : (BitVec.ofInt w (a : Int)).toNat = a := by
 rw [BitVec.toNat_ofInt]
 have : ((a : Int) % ((2 ^ w : Nat) : Int)) = a := Int.emod_eq_of_lt (by omega) (by omega)
 rw [this]; rfl
theorem x32 {a b : Nat} (ha : a < 4294967296) (hb : b < 4294967296) : wr .u32 ((BitVec.ofInt IntKind.u32.bits (a : Int) ^^^ BitVec.ofInt IntKind.u32.bits (b : Int)).toNat) = ((a ^^^ b : Nat) : Int) := by
 have h : a ^^^ b < 2 ^ 32 := Nat.xor_lt_two_pow ha hb
 rw [BitVec.toNat_xor, bvI (w := IntKind.u32.bits) (show a < 2 ^ 32 from ha), bvI (w := IntKind.u32.bits) (show b < 2 ^ 32 from hb)]
 exact wr_u32 (by omega) (by omega)
theorem x64 {a b : Nat} (ha : a < 4294967296) (hb : b < 4294967296) : wr .i64 ((BitVec.ofInt IntKind.i64.bits (a : Int) ^^^ BitVec.ofInt IntKind.i64.bits (b : Int)).toNat) = ((a ^^^ b : Nat) : Int) := by
 have h : a ^^^ b < 2 ^ 32 := Nat.xor_lt_two_pow ha hb
 rw [BitVec.toNat_xor, bvI (w := IntKind.i64.bits) (show a < 2 ^ 64 by omega), bvI (w := IntKind.i64.bits) (show b < 2 ^ 64 by omega)]
 exact wr_ok (by omega) (by omega)
theorem a32 {a : Nat} (ha : a < 4294967296) : wr .u32 ((BitVec.ofInt IntKind.u32.bits (a : Int) &&& BitVec.ofInt IntKind.u32.bits 1).toNat) = ((a % 2 : Nat) : Int) := by
 rw [BitVec.toNat_and, bvI (w := IntKind.u32.bits) (show a < 2 ^ 32 from ha), show (1 : Int) = ((1 : Nat) : Int) from rfl, bvI (show 1 < 2 ^ IntKind.u32.bits by decide), Nat.and_one_is_mod]
 exact wr_u32 (by omega) (by omega)
theorem a64 {a : Nat} (ha : a < 4294967296) : wr .i64 ((BitVec.ofInt IntKind.i64.bits (a : Int) &&& BitVec.ofInt IntKind.i64.bits 1).toNat) = ((a % 2 : Nat) : Int) := by
 rw [BitVec.toNat_and, bvI (w := IntKind.i64.bits) (show a < 2 ^ 64 by omega), show (1 : Int) = ((1 : Nat) : Int) from rfl, bvI (show 1 < 2 ^ IntKind.i64.bits by decide), Nat.and_one_is_mod]
 exact wr_ok (by omega) (by omega)
theorem sh1 {a : Nat} : (a : Int).fdiv 2 = ((a / 2 : Nat) : Int) := by
 rw [Int.fdiv_eq_ediv_of_nonneg _ (by omega)]; omega
/-- One bit, so many bits, bytes. -/
def bit1 (s : Nat) : Nat := if s % 2 = 1 then (s / 2) ^^^ 3988292384 else s / 2
def bitsN : Nat → Nat → Nat
 | 0, s => s
 | k + 1, s => bit1 (bitsN k s)
def crcS (l : Str) : Nat := l.foldl (fun s c => bitsN 8 (s ^^^ c.toNat)) 4294967295
def crcN (l : Str) : Nat := crcS l ^^^ 4294967295
theorem bit1_lt {s : Nat} (h : s < 4294967296) : bit1 s < 4294967296 := by
 unfold bit1; split
 ·
  exact Nat.xor_lt_two_pow (n := 32) (by omega) (by omega)
 ·
  omega
theorem bit1_t {s : Nat} (h : s % 2 = 1) : bit1 s = (s / 2) ^^^ 3988292384 := by unfold bit1; rw [if_pos h]
theorem bit1_f {s : Nat} (h : ¬ s % 2 = 1) : bit1 s = s / 2 := by unfold bit1; rw [if_neg h]
theorem slc_drop {l : Str} {n : Nat} : AV.d (.sl 1 (((l.map byteRow).drop (n : Int).toNat).take (((l.map byteRow).length : Int).toNat - (n : Int).toNat))) = .d (.sl 1 ((l.drop n).map byteRow)) := by
 rw [Int.toNat_natCast, Int.toNat_natCast, List.take_of_length_le (by simp), List.map_drop]
theorem slc_take {l : Str} {a : Int} {n : Nat} (h : a.toNat = n) : AV.d (.sl 1 (((l.map byteRow).drop (0 : Int).toNat).take (a.toNat - (0 : Int).toNat))) = .d (.sl 1 ((l.take n).map byteRow)) := by
 rw [h]; simp [List.map_take]
theorem slc_drop2 {l : Str} {a : Int} {n : Nat} (h : a.toNat = n) : AV.d (.sl 1 (((l.map byteRow).drop a.toNat).take (((l.map byteRow).length : Int).toNat - a.toNat))) = .d (.sl 1 ((l.drop n).map byteRow)) := by
 rw [h, Int.toNat_natCast, List.take_of_length_le (by simp), List.map_drop]
theorem app_rows {x y : Str} : (x.map byteRow).take x.length ++ (((y.map byteRow).drop 0).take y.length) = (x ++ y).map byteRow := by
 rw [List.take_of_length_le (by simp), List.drop_zero, List.take_of_length_le (by simp), List.map_append]
theorem app_str {x y : Str} : (x.map byteRow).take x.length ++ y.map byteRow = (x ++ y).map byteRow := by
 rw [List.take_of_length_le (by simp), List.map_append]
theorem len_rows {y : Str} : (((y.map byteRow).drop 0).take y.length).length = y.length := by simp
theorem bitsN_lt {s : Nat} (h : s < 4294967296) : ∀ k, bitsN k s < 4294967296
 | 0 => h
 | k + 1 => bit1_lt (bitsN_lt h k)
theorem bit1_mul {s : Nat} : (s / 2) ^^^ (s % 2 * 3988292384) = bit1 s := by
 unfold bit1
 rcases Nat.mod_two_eq_zero_or_one s with h | h
 ·
  rw [h, if_neg (by omega)]; simp
 ·
  rw [h, if_pos rfl]
theorem bit1_x64 {s : Nat} (h : s < 4294967296) : wr .i64 ((BitVec.ofInt IntKind.i64.bits ((s / 2 : Nat) : Int) ^^^ BitVec.ofInt IntKind.i64.bits ((s % 2 * 3988292384 : Nat) : Int)).toNat) = ((bit1 s : Nat) : Int) := by
 rw [x64 (by omega) (Nat.lt_of_le_of_lt (Nat.mul_le_mul_right 3988292384 (show s % 2 ≤ 1 by omega)) (by decide)), bit1_mul]
theorem xb_lt {s : Nat} {c : UInt8} (h : s < 4294967296) : s ^^^ c.toNat < 4294967296 := Nat.xor_lt_two_pow (n := 32) h (by have := c.toNat_lt; omega)
theorem crcS_lt {l : Str} : crcS l < 4294967296 := by
 unfold crcS
 suffices h : ∀ (l : Str) (s : Nat), s < 4294967296 → l.foldl (fun s c => bitsN 8 (s ^^^ c.toNat)) s < 4294967296 from h l _ (by omega)
 intro l
 induction l with
 | nil => exact fun s h => h
 | cons c l ih => exact fun s h => ih _ (bitsN_lt (xb_lt h) 8)
theorem crcN_lt {l : Str} : crcN l < 4294967296 := Nat.xor_lt_two_pow (n := 32) crcS_lt (by omega)
theorem crcS_succ {l : Str} {k : Nat} (hk : k < l.length) : crcS (l.take (k + 1)) = bitsN 8 (crcS (l.take k) ^^^ l[k].toNat) := by
 rw [take_succ hk]; unfold crcS; rw [List.foldl_append]; rfl
def shB (n : Int) (s : Int) : UInt8 := byteOf (n.fdiv (2 ^ (min s.toNat 64)))
theorem shB_0 {n : Int} : shB n 0 = byteOf n := by
 show byteOf (n.fdiv 1) = _
 rw [Int.fdiv_one]
theorem shB_8 {n : Int} : shB n 8 = byteOf (n / 256) := by
 show byteOf (n.fdiv 256) = _
 rw [Int.fdiv_eq_ediv_of_nonneg _ (by omega)]
theorem shB_16 {n : Int} : shB n 16 = byteOf (n / 65536) := by
 show byteOf (n.fdiv 65536) = _
 rw [Int.fdiv_eq_ediv_of_nonneg _ (by omega)]
theorem shB_24 {n : Int} : shB n 24 = byteOf (n / 16777216) := by
 show byteOf (n.fdiv 16777216) = _
 rw [Int.fdiv_eq_ediv_of_nonneg _ (by omega)]
def fourB (n : Int) : Str := [shB n 24, shB n 16, shB n 8, byteOf n]
def twoB (n : Int) : Str := [shB n 8, byteOf n]
def numT (n : Int) (size : Nat) (k : Nat) : Str := (List.range k).map (fun j => shB n (8 * (((size - 1 - j : Nat)) : Int)))
theorem numT_len {n : Int} {size k : Nat} : (numT n size k).length = k := by simp [numT]
theorem numT_succ {n : Int} {size k : Nat} : numT n size (k + 1) = numT n size k ++ [shB n (8 * (((size - 1 - k : Nat)) : Int))] := by
 unfold numT; rw [List.range_succ, List.map_append]; rfl
theorem numT_4 {n : Int} : numT n 4 4 = fourB n := by
 unfold fourB; rw [← shB_0]; rfl
theorem numT_2 {n : Int} : numT n 2 2 = twoB n := by
 unfold twoB; rw [← shB_0]; rfl
def bigN (l : Str) : Nat := l.foldl (fun n c => n * 256 + c.toNat) 0
theorem bigN_lt : ∀ {l : Str}, bigN l < 256 ^ l.length := by
 suffices h : ∀ (l : Str) (n : Nat), l.foldl (fun n c => n * 256 + c.toNat) n + 1 ≤ (n + 1) * 256 ^ l.length from fun {l} => by have := h l 0; unfold bigN; omega
 intro l
 induction l with
 | nil => intro n; simp
 | cons c l ih =>
  intro n
  have := ih (n * 256 + c.toNat)
  have hc := c.toNat_lt
  rw [List.foldl_cons, List.length_cons, Nat.pow_succ]
  refine Nat.le_trans this ?_
  rw [Nat.mul_comm (256 ^ l.length) 256, ← Nat.mul_assoc]
  exact Nat.mul_le_mul_right _ (by omega)
theorem bigN_four {n : Nat} (h : n < 4294967296) : bigN (fourB n) = n := by
 unfold bigN fourB; rw [shB_24, shB_16, shB_8]; simp only [List.foldl_cons, List.foldl_nil]
 have h1 := byteOf_nat ((n : Int) / 16777216); have h2 := byteOf_nat ((n : Int) / 65536); have h3 := byteOf_nat ((n : Int) / 256); have h4 := byteOf_nat n
 omega
theorem bigN_two {n : Nat} (h : n < 65536) : bigN (twoB n) = n := by
 unfold bigN twoB; rw [shB_8]; simp only [List.foldl_cons, List.foldl_nil]
 have h3 := byteOf_nat ((n : Int) / 256); have h4 := byteOf_nat n
 omega
theorem bigN_succ {l : Str} {k : Nat} (hk : k < l.length) : bigN (l.take (k + 1)) = bigN (l.take k) * 256 + l[k].toNat := by
 rw [take_succ hk]; unfold bigN; rw [List.foldl_append]; rfl
theorem bigN_lt3 {l : Str} (h : l.length ≤ 4) {k : Nat} (hk : k < l.length) : bigN (l.take k) < 16777216 := by
 have h1 := @bigN_lt (l.take k)
 have h2 : (l.take k).length ≤ 3 := by rw [List.length_take]; omega
 exact Nat.lt_of_lt_of_le h1 (Nat.pow_le_pow_right (n := 256) (by omega) h2)
theorem orW {a : Nat} {c : UInt8} (h : a < 16777216) : wr .i64 ((BitVec.ofInt IntKind.i64.bits ((a * 256 : Nat) : Int) ||| BitVec.ofInt IntKind.i64.bits (c.toNat : Int)).toNat) = ((a * 256 + c.toNat : Nat) : Int) := by
 have hc := c.toNat_lt
 rw [BitVec.toNat_or, bvI (w := IntKind.i64.bits) (show a * 256 < 2 ^ 64 by omega), bvI (w := IntKind.i64.bits) (show c.toNat < 2 ^ 64 by omega), Nat.mul_comm a 256, show (256 : Nat) = 2 ^ 8 from rfl, ← Nat.two_pow_add_eq_or_of_lt (show c.toNat < 2 ^ 8 by omega) a]
 exact wr_ok (by omega) (by omega)
theorem shlW {a : Nat} (h : a < 16777216) : wr .i64 ((a : Int) * 2 ^ (min (8 : Int).toNat IntKind.i64.bits)) = ((a * 256 : Nat) : Int) := by
 rw [wr_ok (by show _ ≤ (a : Int) * 256; omega) (by show (a : Int) * 256 ≤ _; omega)]
 show (a : Int) * 256 = _
 omega
def sealB (l : Str) : Str := l ++ fourB (crcN l)
/-- The bytes that are sealed, if they are. -/
def unsealF (l : Str) : Str × Bool := if (l.length : Int) - 4 < 0 ∨ ¬ (crcN (l.take (l.length - 4)) : Int) = bigN (l.drop (l.length - 4)) then ([], false) else (l.take (l.length - 4), true)
theorem unseal_1 {l : Str} (h : (l.length : Int) - 4 < 0 ∨ ¬ (crcN (l.take (l.length - 4)) : Int) = bigN (l.drop (l.length - 4))) : unsealF l = ([], false) := by unfold unsealF; rw [if_pos h]
theorem unseal_2 {l : Str} (h : ¬ ((l.length : Int) - 4 < 0 ∨ ¬ (crcN (l.take (l.length - 4)) : Int) = bigN (l.drop (l.length - 4)))) : unsealF l = (l.take (l.length - 4), true) := by unfold unsealF; rw [if_neg h]
theorem seal_len {l : Str} : (sealB l).length = l.length + 4 := by unfold sealB fourB; simp
theorem unseal_seal {l : Str} : unsealF (sealB l) = (l, true) := by
 have e : (sealB l).length - 4 = l.length := by rw [seal_len]; omega
 have e1 : (sealB l).take l.length = l := by unfold sealB; simp
 have e2 : (sealB l).drop l.length = fourB (crcN l) := by unfold sealB; simp
 have := @unseal_2 (sealB l) (by rw [e, e1, e2, bigN_four crcN_lt, seal_len]; omega)
 rw [this, e, e1]
theorem unseal_len {l : Str} : (unsealF l).1.length ≤ l.length := by
 unfold unsealF; split
 ·
  exact Nat.zero_le _
 ·
  simp
/-- Fields, put behind bytes. -/
def fieldB (t : Str) : Str := byteOf t.length :: t
def putK (b : Str) (ts : List Str) (k : Nat) : Str := (b ++ [byteOf ts.length]) ++ (ts.take k).flatMap fieldB
def putFs (b : Str) (ts : List Str) : Str := putK b ts ts.length
theorem putK_0 {b : Str} {ts : List Str} : putK b ts 0 = b ++ [byteOf ts.length] := by unfold putK; simp
theorem fm_succ {ts : List Str} {k : Nat} (hk : k < ts.length) : (ts.take (k + 1)).flatMap fieldB = (ts.take k).flatMap fieldB ++ (byteOf ts[k].length :: ts[k]) := by
 rw [take_succ hk, List.flatMap_append]; simp only [List.flatMap_cons, List.flatMap_nil, List.append_nil]; rfl
theorem putK_succ {b : Str} {ts : List Str} {k : Nat} (hk : k < ts.length) : putK b ts (k + 1) = (putK b ts k ++ [byteOf ts[k].length]) ++ ts[k] := by
 unfold putK; rw [fm_succ hk]; simp only [List.append_assoc, List.cons_append, List.nil_append]
def lenK (ts : List Str) (k : Nat) : Nat := ((ts.take k).flatMap fieldB).length
theorem putK_len {b : Str} {ts : List Str} {k : Nat} : (putK b ts k).length = b.length + 1 + lenK ts k := by unfold putK lenK; simp only [List.length_append, List.length_cons, List.length_nil]
theorem lenK_le {ts : List Str} {m : Nat} (h : ∀ t ∈ ts, t.length ≤ m) : ∀ k, lenK ts k ≤ (m + 1) * k
 | 0 => by simp [lenK]
 | k + 1 => by
  have ih := lenK_le h k
  rw [Nat.mul_succ]
  rcases Nat.lt_or_ge k ts.length with hk | hk
  ·
   have := h _ (List.getElem_mem hk)
   unfold lenK at ih ⊢
   rw [fm_succ hk, List.length_append, List.length_cons]; omega
  ·
   unfold lenK at ih ⊢
   rw [List.take_of_length_le (by omega)] at ih ⊢; omega
/-- Who takes bytes. -/
structure Rd where
 rest : Str
 fail : Bool
abbrev Rd.box (r : Rd) : OB := .box [.d (.sl 1 (r.rest.map byteRow)), .d (.bool r.fail)]
def takeF (r : Rd) (n : Nat) : Str × Rd := if (r.rest.length : Int) < (n : Int) then (List.replicate n 0, ⟨r.rest, true⟩) else (r.rest.take n, ⟨r.rest.drop n, r.fail⟩)
theorem takeF_1 {r : Rd} {n : Nat} (h : (r.rest.length : Int) < (n : Int)) : takeF r n = (List.replicate n 0, ⟨r.rest, true⟩) := by unfold takeF; rw [if_pos h]
theorem takeF_2 {r : Rd} {n : Nat} (h : ¬ (r.rest.length : Int) < (n : Int)) : takeF r n = (r.rest.take n, ⟨r.rest.drop n, r.fail⟩) := by unfold takeF; rw [if_neg h]
theorem takeF_len {r : Rd} {n : Nat} : (takeF r n).1.length = n ∧ (takeF r n).2.rest.length ≤ r.rest.length := by
 unfold takeF; split
 ·
  exact ⟨by simp, Nat.le_refl _⟩
 ·
  exact ⟨by simp; omega, by simp⟩
def numF (r : Rd) : Nat × Rd := (((takeF r 1).1.getD 0 0).toNat, (takeF r 1).2)
theorem numF_lt {r : Rd} : (numF r).1 < 256 ∧ (numF r).2.rest.length ≤ r.rest.length := ⟨(((takeF r 1).1.getD 0 0)).toNat_lt, takeF_len.2⟩
def fldL : Nat → Rd → List Str → List Str × Rd
 | 0, r, l => (l, r)
 | n + 1, r, l => fldL n (takeF (numF r).2 (numF r).1).2 (l ++ [(takeF (numF r).2 (numF r).1).1])
def fieldsF (r : Rd) : List Str × Rd := fldL (numF r).1 (numF r).2 []
theorem fldL_len : ∀ {n : Nat} {r : Rd} {l : List Str}, (fldL n r l).1.length = l.length + n ∧ (fldL n r l).2.rest.length ≤ r.rest.length
 | 0, r, l => ⟨rfl, Nat.le_refl _⟩
 | n + 1, r, l => by
  obtain ⟨h1, h2⟩ := @fldL_len n (takeF (numF r).2 (numF r).1).2 (l ++ [(takeF (numF r).2 (numF r).1).1])
  have h3 := @takeF_len (numF r).2 (numF r).1
  have h4 := @numF_lt r
  exact ⟨by rw [fldL, h1]; simp; omega, by rw [fldL]; omega⟩
theorem fields_len {r : Rd} : (fieldsF r).1.length ≤ 255 ∧ (fieldsF r).2.rest.length ≤ r.rest.length := by
 obtain ⟨h1, h2⟩ := @fldL_len (numF r).1 (numF r).2 []
 have := @numF_lt r
 unfold fieldsF
 exact ⟨by rw [h1, List.length_nil]; omega, by omega⟩
def doneF (r : Rd) : Bool := !r.fail && decide ((r.rest.length : Int) = 0)
theorem byteOf_len {t : Str} (h : t.length ≤ 255) : (byteOf t.length).toNat = t.length := by have := byteOf_nat t.length; omega
theorem numF_cons {c : UInt8} {b : Str} : numF ⟨c :: b, false⟩ = (c.toNat, ⟨b, false⟩) := by
 unfold numF; rw [takeF_2 (by simp; omega)]; simp
theorem fldL_put : ∀ {ts : List Str} {l : List Str} {b : Str}, (∀ t ∈ ts, t.length ≤ 255) → fldL ts.length ⟨ts.flatMap fieldB ++ b, false⟩ l = (l ++ ts, ⟨b, false⟩)
 | [], l, b, _ => by simp [fldL]
 | t :: ts, l, b, h => by
  have e : (t :: ts).flatMap fieldB ++ b = byteOf t.length :: (t ++ (ts.flatMap fieldB ++ b)) := by simp [fieldB]
  have ht := h t (List.mem_cons_self ..)
  rw [e, List.length_cons, fldL, numF_cons, byteOf_len ht]
  dsimp only
  rw [takeF_2 (by simp only [List.length_append]; omega)]
  dsimp only
  rw [List.take_left, List.drop_left, fldL_put (fun t ht => h t (List.mem_cons_of_mem _ ht))]
  simp
theorem fieldsF_put {ts : List Str} (hl : ts.length ≤ 255) (h : ∀ t ∈ ts, t.length ≤ 255) : fieldsF ⟨byteOf ts.length :: ts.flatMap fieldB, false⟩ = (ts, ⟨[], false⟩) := by
 have hb : (byteOf (ts.length : Int)).toNat = ts.length := by have := byteOf_nat ts.length; omega
 unfold fieldsF
 rw [numF_cons, hb]
 have := fldL_put (l := []) (b := []) h
 simpa using this
end Go.AM

namespace Go.AM
structure PG (p : Page) : Prop where
 ln : p.slots.length = 4
 st : ∀ t ∈ p.slots, t.length ≤ 30
 ls : 0 ≤ p.lsn ∧ p.lsn ≤ 1000
theorem PG.ok {p : Page} (h : PG p) : pageOK p = true := by
 unfold pageOK
 have h1 : inR p.lsn 0 1000 = true := inR_iff.2 h.ls
 have h2 : p.slots.any (fun s => decide (30 < s.length)) = false := by
  rw [List.any_eq_false]; intro t ht; have := h.st t ht; simp; omega
 rw [h1, h2, h.ln]; rfl
theorem set_st {l : List Str} {k m : Nat} {x : Str} (h : ∀ t ∈ l, t.length ≤ m) (hx : x.length ≤ m) : ∀ t ∈ l.set k x, t.length ≤ m := fun t ht => by
 rcases List.mem_or_eq_of_mem_set ht with q | q
 ·
  exact h t q
 ·
  rw [q]; exact hx
theorem nil4 : ∀ t ∈ ([[], [], [], []] : List Str), t.length ≤ 30 := by decide
def hdP (p : Page) : Bool := !inR p.lsn 0 1000 || !decide ((p.slots.length : Int) = 4)
theorem hdP_len {p : Page} (h : hdP p = false) : p.slots.length = 4 := by
 unfold hdP at h; simp only [Bool.or_eq_false_iff, Bool.not_eq_false', decide_eq_true_eq] at h; omega
theorem pageOK_int {p : Page} : pageOK p = ((inR p.lsn 0 1000 && decide ((p.slots.length : Int) = 4)) && !p.slots.any (fun s => decide ((30 : Int) < (s.length : Int)))) := by
 unfold pageOK
 rw [show decide ((p.slots.length : Int) = 4) = decide (p.slots.length = 4) from decide_eq_decide.2 (by omega), show (fun s : Str => decide ((30 : Int) < (s.length : Int))) = fun s => decide (30 < s.length) from funext fun s => decide_eq_decide.2 (by omega)]
theorem hdP_in {p : Page} (h : hdP p = false) : (inR p.lsn 0 1000 && decide ((p.slots.length : Int) = 4)) = true := by
 unfold hdP at h; simp only [Bool.or_eq_false_iff, Bool.not_eq_false'] at h; rw [h.1, h.2]; rfl
theorem pageOK_hd {p : Page} (h : hdP p = true) : pageOK p = false := by
 rw [pageOK_int]; unfold hdP at h
 cases h1 : inR p.lsn 0 1000 with
 | false => rfl
 | true => rw [h1] at h; simp only [Bool.not_true, Bool.false_or, Bool.not_eq_true'] at h; rw [h]; rfl
noncomputable def samP (x y : Page) : Bool := decide (x.lsn = y.lsn) && eqb x.slots y.slots
theorem samP_rfl {x : Page} : samP x x = true := by unfold samP; rw [eqb_rfl]; simp
theorem rows_all {l : Str} : (((l.map byteRow).drop 0).take l.length) = l.map byteRow := by simp [List.take_of_length_le]
theorem putFs_app {b : Str} {ts : List Str} : b ++ putFs [] ts = putFs b ts := by
 unfold putFs putK; simp
theorem putFs_len {b : Str} {ts : List Str} : (putFs b ts).length = b.length + (putFs [] ts).length := by rw [← putFs_app (b := b), List.length_append]
/-- The bytes of a page. -/
def pbF (no : Int) (p : Page) : Str := sealB (putFs [112, byteOf no, shB p.lsn 8, byteOf p.lsn] p.slots)
def hdF (b : Str) : Str := (takeF ⟨b, false⟩ 4).1
def rdP (b : Str) : Page := ⟨bigN ((hdF b).drop 2), (fieldsF (takeF ⟨b, false⟩ 4).2).1⟩
def rdE (b : Str) : Rd := (fieldsF (takeF ⟨b, false⟩ 4).2).2
def badP (no : Int) (b : Str) : Bool := ((!doneF (rdE b) || !decide ((((hdF b).getD 0 0).toNat : Int) = 112)) || !decide ((((hdF b).getD 1 0).toNat : Int) = no)) || !pageOK (rdP b)
def rpF (no : Int) (b : Str) : Page × Int := if 65536 < (b.length : Int) then (.zero, 2) else if (unsealF b).2 = false then (.zero, 8) else if badP no (unsealF b).1 = true then (.zero, 3) else (rdP (unsealF b).1, 0)
section
variable {no : Int} {b : Str}
theorem rpF_1 (h : 65536 < (b.length : Int)) : rpF no b = (.zero, 2) := by unfold rpF; rw [if_pos h]
theorem rpF_2 (h : ¬ 65536 < (b.length : Int)) (h1 : (unsealF b).2 = false) : rpF no b = (.zero, 8) := by unfold rpF; rw [if_neg h, if_pos h1]
theorem rpF_3 (h : ¬ 65536 < (b.length : Int)) (h1 : (unsealF b).2 = true) (h2 : badP no (unsealF b).1 = true) : rpF no b = (.zero, 3) := by unfold rpF; rw [if_neg h, if_neg (by rw [h1]; simp), if_pos h2]
theorem rpF_4 (h : ¬ 65536 < (b.length : Int)) (h1 : (unsealF b).2 = true) (h2 : badP no (unsealF b).1 = false) : rpF no b = (rdP (unsealF b).1, 0) := by unfold rpF; rw [if_neg h, if_neg (by rw [h1]; simp), if_neg (by rw [h2]; simp)]
end
theorem hdF_len {b : Str} : (hdF b).length = 4 := takeF_len.1
theorem pb_len {no : Int} {p : Page} (h : PG p) : (pbF no p).length ≤ 160 := by
 unfold pbF putFs; rw [seal_len, putK_len]
 have := lenK_le (k := p.slots.length) h.st
 rw [h.ln] at this ⊢
 simp only [List.length_cons, List.length_nil]; omega
theorem rp_pb {no nx : Int} {p : Page} (h : PG p) (hn : 0 ≤ no ∧ no ≤ 255) : rpF nx (pbF no p) = if no = nx then (p, 0) else (.zero, 3) := by
 have hl := pb_len (no := no) h
 have hu : unsealF (pbF no p) = (putFs [112, byteOf no, shB p.lsn 8, byteOf p.lsn] p.slots, true) := unseal_seal
 have e : putFs [112, byteOf no, shB p.lsn 8, byteOf p.lsn] p.slots = [112, byteOf no, shB p.lsn 8, byteOf p.lsn] ++ (byteOf p.slots.length :: p.slots.flatMap fieldB) := by
  unfold putFs putK; rw [List.take_of_length_le (Nat.le_refl _)]; simp
 have et : takeF ⟨putFs [112, byteOf no, shB p.lsn 8, byteOf p.lsn] p.slots, false⟩ 4 = ([112, byteOf no, shB p.lsn 8, byteOf p.lsn], ⟨byteOf p.slots.length :: p.slots.flatMap fieldB, false⟩) := by
  rw [e, takeF_2 (by simp; omega)]; rfl
 have ef : fieldsF ⟨byteOf p.slots.length :: p.slots.flatMap fieldB, false⟩ = (p.slots, ⟨[], false⟩) := fieldsF_put (by have := h.ln; omega) (fun t ht => by have := h.st t ht; omega)
 have ep : rdP (unsealF (pbF no p)).1 = p := by
  rw [hu]; unfold rdP hdF; rw [et, ef]
  show (⟨(bigN (twoB p.lsn) : Int), p.slots⟩ : Page) = p
  have hls := h.ls
  have : ((p.lsn.toNat : Nat) : Int) = p.lsn := by omega
  rw [← this, bigN_two (by omega), this]
 have eb : badP nx (unsealF (pbF no p)).1 = !decide (no = nx) := by
  unfold badP; rw [ep, h.ok]; rw [hu]; unfold rdE hdF; rw [et, ef]
  have hb := byteOf_nat no
  rw [show no % 256 = no from by omega] at hb
  show (((!true || !true) || !decide (((byteOf no).toNat : Int) = nx)) || false) = _
  rw [hb]; simp
 by_cases hx : no = nx
 ·
  rw [rpF_4 (by omega) (by rw [hu]) (by rw [eb, decide_eq_true hx]; rfl), ep, if_pos hx]
 ·
  rw [rpF_3 (by omega) (by rw [hu]) (by rw [eb, decide_eq_false hx]; rfl), if_neg hx]
end Go.AM

namespace Go.AM
section
variable {α : Type}
variable {lt : α → α → Bool} {x : α} {l : List α}
/-- None is ahead of the one in front of it. -/
def chain (lt : α → α → Bool) : List α → Prop
 | [] => True
 | [_] => True
 | a :: b :: r => lt b a = false ∧ chain lt (b :: r)
end
end Go.AM

namespace Go.AM
theorem keepsOf_len {code : Str} (hl : code.length ≤ 1048576) : (keepsF (srcOf code)).1.length ≤ 11 := (keepsF_ok (k := 0) ((srcOf_ok hl).mono (by omega))).2
end Go.AM

namespace Go.AM
set_option linter.unusedVariables false
structure GLogRecord where
 Epoch : Int
 Lsn : Int
 Tx : Int
 Kind : Int
 Prev : Int
 Next : Int
 Page : Int
 Slot : Int
 Before : Str
 After : Str
def GLogRecord.av (x : GLogRecord) : AV := .agg [.d (.int .i64 x.Epoch), .d (.int .i64 x.Lsn), .d (.int .i64 x.Tx), .d (.int .i64 x.Kind), .d (.int .i64 x.Prev), .d (.int .i64 x.Next), .d (.int .i64 x.Page), .d (.int .i64 x.Slot), .d (.str x.Before), .d (.str x.After)]
def GLogRecord.row (x : GLogRecord) : List D := [.int .i64 x.Epoch, .int .i64 x.Lsn, .int .i64 x.Tx, .int .i64 x.Kind, .int .i64 x.Prev, .int .i64 x.Next, .int .i64 x.Page, .int .i64 x.Slot, .str x.Before, .str x.After]
def GLogRecord.zero : GLogRecord := ⟨0, 0, 0, 0, 0, 0, 0, 0, [], []⟩
theorem GLogRecord.eq_iff {a b : GLogRecord} : a = b ↔ (a.Epoch = b.Epoch ∧ a.Lsn = b.Lsn ∧ a.Tx = b.Tx ∧ a.Kind = b.Kind ∧ a.Prev = b.Prev ∧ a.Next = b.Next ∧ a.Page = b.Page ∧ a.Slot = b.Slot ∧ a.Before = b.Before ∧ a.After = b.After) := by
 constructor
 ·
  rintro rfl; exact ⟨rfl, rfl, rfl, rfl, rfl, rfl, rfl, rfl, rfl, rfl⟩
 ·
  intro h; cases a; cases b; simp_all
theorem GLogRecord.q_eqs {C : Cx} {st : St} {neg : Bool} {x y : XA} {a b : GLogRecord} (hx : evA st.sl x = some a.av) (hy : evA st.sl y = some b.av) : QStep C st (.eqs neg [0, 0, 0, 0, 0, 0, 0, 0, 2, 2] x y) (bool (bif neg then !eqb a b else eqb a b)) := by
 refine q_as (Go.AM.q_eqs hx hy rfl) ?_
 have e : (decide (a.Epoch = b.Epoch) && (decide (a.Lsn = b.Lsn) && (decide (a.Tx = b.Tx) && (decide (a.Kind = b.Kind) && (decide (a.Prev = b.Prev) && (decide (a.Next = b.Next) && (decide (a.Page = b.Page) && (decide (a.Slot = b.Slot) && (decide (a.Before = b.Before) && (decide (a.After = b.After) && true)))))))))) = eqb a b := by
  rw [Bool.eq_iff_iff, eqb_iff, GLogRecord.eq_iff]; simp [Bool.and_eq_true]
 show bool (bif neg then !(decide (a.Epoch = b.Epoch) && (decide (a.Lsn = b.Lsn) && (decide (a.Tx = b.Tx) && (decide (a.Kind = b.Kind) && (decide (a.Prev = b.Prev) && (decide (a.Next = b.Next) && (decide (a.Page = b.Page) && (decide (a.Slot = b.Slot) && (decide (a.Before = b.Before) && (decide (a.After = b.After) && true)))))))))) else (decide (a.Epoch = b.Epoch) && (decide (a.Lsn = b.Lsn) && (decide (a.Tx = b.Tx) && (decide (a.Kind = b.Kind) && (decide (a.Prev = b.Prev) && (decide (a.Next = b.Next) && (decide (a.Page = b.Page) && (decide (a.Slot = b.Slot) && (decide (a.Before = b.Before) && (decide (a.After = b.After) && true))))))))))) = _
 rw [e]
structure GDirty where
 No : Int
 First : Int
def GDirty.zero : GDirty := ⟨0, 0⟩
structure GTx where
 Id : Int
 Last : Int
def GTx.zero : GTx := ⟨0, 0⟩
end Go.AM

namespace Go.AM
def chkL (high lsn : Int) : Nat → Rd → Bool → Int → Bool × Rd
 | 0, r, ok, _ => (ok, r)
 | n + 1, r, ok, b => chkL high lsn n (numF (numF r).2).2 ((ok && inR (numF r).1 (b + 1) high) && inR (numF (numF r).2).1 1 (lsn - 1)) (numF r).1
def chkF (most low high lsn : Int) (r : Rd) : Bool × Rd :=
 let p := chkL high lsn (numF r).1 (numF r).2 (decide (((numF r).1 : Int) ≤ most)) (low - 1)
 (p.1 && !p.2.fail, p.2)
def isCheckF (t : Str) (lsn : Int) : Bool :=
 ((chkF 8 0 7 lsn ⟨t, false⟩).1 && (chkF 10 1 60 lsn (chkF 8 0 7 lsn ⟨t, false⟩).2).1) && doneF (chkF 10 1 60 lsn (chkF 8 0 7 lsn ⟨t, false⟩).2).2
theorem chkL_len {high lsn : Int} : ∀ {n : Nat} {r : Rd} {ok : Bool} {b : Int}, (chkL high lsn n r ok b).2.rest.length ≤ r.rest.length
 | 0, _, _, _ => Nat.le_refl _
 | n + 1, r, ok, b => by
  rw [chkL]
  exact Nat.le_trans chkL_len (Nat.le_trans numF_lt.2 numF_lt.2)
theorem chkF_len {most low high lsn : Int} {r : Rd} : (chkF most low high lsn r).2.rest.length ≤ r.rest.length := Nat.le_trans chkL_len numF_lt.2
abbrev Pr := Nat × Nat
def prs : Nat → Str → Option (List Pr × Str)
 | 0, s => some ([], s)
 | n + 1, a :: b :: s => (prs n s).map (fun p => ((a.toNat, b.toNat) :: p.1, p.2))
 | _ + 1, _ => none
def readC (t : Str) : Option (List Pr × List Pr) :=
 match t with
 | [] => none
 | n :: s => match prs n.toNat s with
  | none => none
  | some (_, []) => none
  | some (l1, m :: s2) => match prs m.toNat s2 with
   | some (l2, []) => some (l1, l2)
   | _ => none
/-- They rise, and stand between. -/
def okL (high lsn : Int) : List Pr → Int → Bool
 | [], _ => true
 | p :: l, b => (inR p.1 (b + 1) high && inR p.2 1 (lsn - 1)) && okL high lsn l p.1
theorem numF_fail {s : Str} : numF ⟨s, true⟩ = (((s.take 1).getD 0 0).toNat, ⟨s.drop 1, true⟩) := by
 cases s with
 | nil => rfl
 | cons c s => unfold numF; rw [takeF_2 (by simp; omega)]
theorem numF_nil : numF ⟨[], false⟩ = (0, ⟨[], true⟩) := rfl
theorem chkL_fail {high lsn : Int} : ∀ {n : Nat} {r : Rd} {ok : Bool} {b : Int}, r.fail = true → (chkL high lsn n r ok b).2.fail = true
 | 0, _, _, _, h => h
 | n + 1, r, ok, b, h => by
  have hf : ∀ r : Rd, r.fail = true → (numF r).2.fail = true := fun r hr => by
   obtain ⟨s, f⟩ := r
   simp only at hr; subst hr; rw [numF_fail]
  rw [chkL]
  exact chkL_fail (hf _ (hf _ h))
theorem chkL_prs {high lsn : Int} : ∀ {n : Nat} {s : Str} {ok : Bool} {b : Int}, match prs n s with
  | none => (chkL high lsn n ⟨s, false⟩ ok b).2.fail = true
  | some (l, s') => chkL high lsn n ⟨s, false⟩ ok b = (ok && okL high lsn l b, ⟨s', false⟩) ∧ l.length = n
 | 0, s, ok, b => by simp [prs, chkL, okL]
 | n + 1, [], ok, b => by
  simp only [prs]
  rw [chkL, numF_nil]
  exact chkL_fail (by rw [numF_fail])
 | n + 1, [c], ok, b => by
  simp only [prs]
  rw [chkL, numF_cons, numF_nil]
  exact chkL_fail rfl
 | n + 1, c :: d :: s, ok, b => by
  simp only [prs]
  have ih := @chkL_prs high lsn n s ((ok && inR c.toNat (b + 1) high) && inR d.toNat 1 (lsn - 1)) c.toNat
  rw [chkL, numF_cons, numF_cons]
  cases hp : prs n s with
  | none => rw [hp] at ih; exact ih
  | some p =>
   obtain ⟨l, s'⟩ := p
   rw [hp] at ih
   simp only [Option.map_some] at ih ⊢
   refine ⟨?_, by rw [List.length_cons, ih.2]⟩
   rw [ih.1, okL]
   simp only [Bool.and_assoc]
def checkOK (t : Str) (lsn : Int) : Bool := match readC t with
 | none => false
 | some (l1, l2) => ((decide (l1.length ≤ 8) && okL 7 lsn l1 (-1)) && (decide (l2.length ≤ 10) && okL 60 lsn l2 0))
theorem isCheck_ok {t : Str} {lsn : Int} : isCheckF t lsn = checkOK t lsn := by
 have chkF_fail : ∀ {a b c d : Int} {r : Rd}, r.fail = true → (chkF a b c d r).1 = false := fun {a b c d r} h => by
  obtain ⟨s, f⟩ := r
  simp only at h; subst h
  unfold chkF
  simp only
  rw [chkL_fail (by rw [numF_fail]), Bool.not_true, Bool.and_false]
 have chkF_none : ∀ {a b c d : Int} {n : UInt8} {s : Str}, prs n.toNat s = none → (chkF a b c d ⟨n :: s, false⟩).1 = false := fun {a b c d n s} h => by
  unfold chkF
  simp only [numF_cons]
  have := @chkL_prs c d n.toNat s (decide ((n.toNat : Int) ≤ a)) (b - 1)
  rw [h] at this
  rw [this, Bool.not_true, Bool.and_false]
 have chkF_some : ∀ {a b c d : Int} {n : UInt8} {s s' : Str} {l : List Pr}, prs n.toNat s = some (l, s') → chkF a b c d ⟨n :: s, false⟩ = (decide ((l.length : Int) ≤ a) && okL c d l (b - 1), ⟨s', false⟩) := fun {a b c d n s s' l} h => by
  unfold chkF
  simp only [numF_cons]
  have := @chkL_prs c d n.toNat s (decide ((n.toNat : Int) ≤ a)) (b - 1)
  rw [h] at this
  rw [this.1, this.2]; simp
 have chkF_nil : ∀ {a b c d : Int}, (chkF a b c d ⟨[], false⟩).1 = false := fun {a b c d} => by
  unfold chkF
  simp only [numF_nil]
  rw [chkL_fail rfl, Bool.not_true, Bool.and_false]
 unfold isCheckF checkOK readC
 cases t with
 | nil => rw [chkF_nil, Bool.false_and, Bool.false_and]
 | cons n s =>
  simp only
  cases hp : prs n.toNat s with
  | none => rw [chkF_none hp, Bool.false_and, Bool.false_and]
  | some p =>
   obtain ⟨l1, s1⟩ := p
   rw [chkF_some hp]
   cases s1 with
   | nil => simp only; rw [chkF_nil, Bool.and_false, Bool.false_and]
   | cons m s2 =>
    simp only
    cases hq : prs m.toNat s2 with
    | none => rw [chkF_none hq, Bool.and_false, Bool.false_and]
    | some q =>
     obtain ⟨l2, s3⟩ := q
     rw [chkF_some hq]
     cases s3 with
     | nil =>
      simp only [doneF]
      rw [show decide ((l1.length : Int) ≤ 8) = decide (l1.length ≤ 8) from by congr 1; exact propext (by omega), show decide ((l2.length : Int) ≤ 10) = decide (l2.length ≤ 10) from by congr 1; exact propext (by omega)]
      simp
     | cons _ _ => simp [doneF]; intros; omega
def recP (r : GLogRecord) : Prop := (1 ≤ r.Epoch ∧ r.Epoch ≤ 60 ∧ 1 ≤ r.Lsn ∧ r.Lsn ≤ 60) ∧
 ((r.Kind = 6 ∧ r.Tx = 0 ∧ r.Prev = 0 ∧ r.Next = 0 ∧ r.Page = 0 ∧ r.Slot = 0 ∧ r.Before = [] ∧ isCheckF r.After r.Lsn = true) ∨
  ((1 ≤ r.Kind ∧ r.Kind ≤ 5 ∧ 1 ≤ r.Tx ∧ r.Tx ≤ 60 ∧ 0 ≤ r.Prev ∧ r.Prev ≤ r.Lsn - 1 ∧ (r.Prev = 0 ↔ r.Kind = 1)) ∧
   ((r.Kind = 2 ∧ 0 ≤ r.Page ∧ r.Page ≤ 7 ∧ 0 ≤ r.Slot ∧ r.Slot ≤ 3 ∧ r.Before.length ≤ 30 ∧ r.After.length ≤ 30 ∧ r.Next = 0) ∨
    (r.Kind = 3 ∧ 0 ≤ r.Page ∧ r.Page ≤ 7 ∧ 0 ≤ r.Slot ∧ r.Slot ≤ 3 ∧ r.Before = [] ∧ r.After.length ≤ 30 ∧ 0 ≤ r.Next ∧ r.Next ≤ r.Lsn - 1) ∨
    (r.Kind ≠ 2 ∧ r.Kind ≠ 3 ∧ r.Next = 0 ∧ r.Page = 0 ∧ r.Slot = 0 ∧ r.Before = [] ∧ r.After = []))))
instance recP_dec (r : GLogRecord) : Decidable (recP r) := by unfold recP; infer_instance
def recOK (r : GLogRecord) : Bool := decide (recP r)
theorem recOK_t {r : GLogRecord} (h : recP r) : recOK r = true := by unfold recOK; exact decide_eq_true h
theorem recOK_f {r : GLogRecord} (h : ¬ recP r) : recOK r = false := by unfold recOK; exact decide_eq_false h
def rest6 (r : GLogRecord) : GLogRecord := ⟨0, 0, 0, 0, 0, r.Next, r.Page, r.Slot, r.Before, []⟩
def restO (r : GLogRecord) : GLogRecord := ⟨0, 0, 0, 0, 0, r.Next, r.Page, r.Slot, r.Before, r.After⟩
def rest2 (r : GLogRecord) : GLogRecord := ⟨0, 0, 0, 0, 0, r.Next, 0, 0, [], []⟩
def rest3 (r : GLogRecord) : GLogRecord := ⟨0, 0, 0, 0, 0, 0, 0, 0, r.Before, []⟩
def badU (r : GLogRecord) : Bool := ((!(inR r.Page 0 (8 - 1) && inR r.Slot 0 (4 - 1)) || decide ((30 : Int) < (r.Before.length : Int))) || decide ((30 : Int) < (r.After.length : Int))) || (decide (r.Kind = 3) && !inR r.Next 0 (r.Lsn - 1))
noncomputable def tailR (r x : GLogRecord) : Bool := (((inR r.Kind 1 5 && eqb x .zero) && inR r.Tx 1 60) && inR r.Prev 0 (r.Lsn - 1)) && (bif false then decide (r.Prev = 0) != decide (r.Kind = 1) else decide (r.Prev = 0) == decide (r.Kind = 1))
noncomputable def val6 (r : GLogRecord) : Bool := ((decide (r.Tx = 0) && decide (r.Prev = 0)) && eqb (rest6 r) .zero) && isCheckF r.After r.Lsn
theorem zero_iff {x : GLogRecord} : eqb x .zero = true ↔ x = .zero := eqb_iff
theorem tailR_iff {r x : GLogRecord} : tailR r x = true ↔ (1 ≤ r.Kind ∧ r.Kind ≤ 5) ∧ x = .zero ∧ (1 ≤ r.Tx ∧ r.Tx ≤ 60) ∧ (0 ≤ r.Prev ∧ r.Prev ≤ r.Lsn - 1) ∧ (r.Prev = 0 ↔ r.Kind = 1) := by
 unfold tailR
 rw [Bool.and_eq_true, Bool.and_eq_true, Bool.and_eq_true, Bool.and_eq_true, inR_iff, inR_iff, inR_iff, zero_iff, cond_false, beq_iff_eq, decide_eq_decide]
 constructor
 ·
  rintro ⟨⟨⟨⟨a, b⟩, c⟩, d⟩, e⟩; exact ⟨a, b, c, d, e⟩
 ·
  rintro ⟨a, b, c, d, e⟩; exact ⟨⟨⟨⟨a, b⟩, c⟩, d⟩, e⟩
theorem badU_no {r : GLogRecord} : badU r = false ↔ (0 ≤ r.Page ∧ r.Page ≤ 7) ∧ (0 ≤ r.Slot ∧ r.Slot ≤ 3) ∧ r.Before.length ≤ 30 ∧ r.After.length ≤ 30 ∧ (r.Kind = 3 → 0 ≤ r.Next ∧ r.Next ≤ r.Lsn - 1) := by
 unfold badU
 rw [Bool.or_eq_false_iff, Bool.or_eq_false_iff, Bool.or_eq_false_iff, Bool.not_eq_false', Bool.and_eq_true, inR_iff, inR_iff, decide_eq_false_iff_not, decide_eq_false_iff_not, Bool.and_eq_false_iff, decide_eq_false_iff_not, Bool.not_eq_false', inR_iff]
 constructor
 ·
  rintro ⟨⟨⟨⟨a, b⟩, c⟩, d⟩, e⟩
  exact ⟨by omega, by omega, by omega, by omega, fun h => e.elim (fun q => absurd h q) id⟩
 ·
  rintro ⟨a, b, c, d, e⟩
  refine ⟨⟨⟨⟨by omega, by omega⟩, by omega⟩, by omega⟩, ?_⟩
  by_cases h : r.Kind = 3
  ·
   exact .inr (e h)
  ·
   exact .inl h
theorem hd_in {r : GLogRecord} (h : ¬ (1 ≤ r.Epoch ∧ r.Epoch ≤ 60) ∨ ¬ (1 ≤ r.Lsn ∧ r.Lsn ≤ 60)) : recOK r = false := recOK_f (fun q => by have := q.1; omega)
theorem rec_bool {r : GLogRecord} {b : Bool} (h : b = true ↔ recP r) : b = recOK r := by
 cases b with
 | true => exact (recOK_t (h.1 rfl)).symm
 | false => exact (recOK_f (fun q => by have := h.2 q; cases this)).symm
theorem recI_6 {r : GLogRecord} (h : (1 ≤ r.Epoch ∧ r.Epoch ≤ 60) ∧ (1 ≤ r.Lsn ∧ r.Lsn ≤ 60)) (hk : r.Kind = 6) : val6 r = recOK r := rec_bool (by
 unfold val6 recP
 rw [Bool.and_eq_true, Bool.and_eq_true, Bool.and_eq_true, decide_eq_true_eq, decide_eq_true_eq, zero_iff, GLogRecord.eq_iff]
 simp only [rest6, GLogRecord.zero, true_and, and_true]
 constructor
 ·
  rintro ⟨⟨⟨a, b⟩, c, d, e, f⟩, g⟩
  exact ⟨by omega, .inl ⟨hk, a, b, c, d, e, f, g⟩⟩
 ·
  rintro ⟨_, h1 | ⟨h1, _⟩⟩
  ·
   exact ⟨⟨⟨h1.2.1, h1.2.2.1⟩, h1.2.2.2.1, h1.2.2.2.2.1, h1.2.2.2.2.2.1, h1.2.2.2.2.2.2.1⟩, h1.2.2.2.2.2.2.2⟩
  ·
   omega)
theorem recI_bad {r : GLogRecord} (hk : r.Kind = 2 ∨ r.Kind = 3) (hb : badU r = true) : recOK r = false := recOK_f (fun q => by
 have hn : ¬ badU r = false := by rw [hb]; simp
 rw [badU_no] at hn
 apply hn
 rcases q.2 with h1 | ⟨h1, h2 | h2 | h2⟩
 ·
  omega
 ·
  exact ⟨by omega, by omega, by omega, by omega, fun h => by omega⟩
 ·
  exact ⟨by omega, by omega, by rw [h2.2.2.2.2.2.1]; simp, by omega, fun h => by omega⟩
 ·
  omega)
theorem recI_2 {r : GLogRecord} (h : (1 ≤ r.Epoch ∧ r.Epoch ≤ 60) ∧ (1 ≤ r.Lsn ∧ r.Lsn ≤ 60)) (hk : r.Kind = 2) (hb : badU r = false) : tailR r (rest2 r) = recOK r := rec_bool (by
 rw [badU_no] at hb
 rw [tailR_iff]; unfold recP
 rw [GLogRecord.eq_iff]
 simp only [rest2, GLogRecord.zero, true_and, and_true]
 constructor
 ·
  rintro ⟨a, b, c, d, e⟩
  exact ⟨by omega, .inr ⟨⟨by omega, by omega, by omega, by omega, by omega, by omega, e⟩, .inl ⟨hk, by omega, by omega, by omega, by omega, by omega, by omega, b⟩⟩⟩
 ·
  rintro ⟨_, h1 | ⟨h1, h2 | h2 | h2⟩⟩
  ·
   omega
  ·
   exact ⟨by omega, h2.2.2.2.2.2.2.2, by omega, by omega, h1.2.2.2.2.2.2⟩
  ·
   omega
  ·
   omega)
theorem recI_3 {r : GLogRecord} (h : (1 ≤ r.Epoch ∧ r.Epoch ≤ 60) ∧ (1 ≤ r.Lsn ∧ r.Lsn ≤ 60)) (hk : r.Kind = 3) (hb : badU r = false) : tailR r (rest3 r) = recOK r := rec_bool (by
 rw [badU_no] at hb
 rw [tailR_iff]; unfold recP
 rw [GLogRecord.eq_iff]
 simp only [rest3, GLogRecord.zero, true_and, and_true]
 have hn := hb.2.2.2.2 hk
 constructor
 ·
  rintro ⟨a, b, c, d, e⟩
  exact ⟨by omega, .inr ⟨⟨by omega, by omega, by omega, by omega, by omega, by omega, e⟩, .inr (.inl ⟨hk, by omega, by omega, by omega, by omega, b, by omega, by omega, by omega⟩)⟩⟩
 ·
  rintro ⟨_, h1 | ⟨h1, h2 | h2 | h2⟩⟩
  ·
   omega
  ·
   omega
  ·
   exact ⟨by omega, h2.2.2.2.2.2.1, by omega, by omega, h1.2.2.2.2.2.2⟩
  ·
   omega)
theorem recI_o {r : GLogRecord} (h : (1 ≤ r.Epoch ∧ r.Epoch ≤ 60) ∧ (1 ≤ r.Lsn ∧ r.Lsn ≤ 60)) (h6 : ¬ r.Kind = 6) (h2 : ¬ r.Kind = 2) (h3 : ¬ r.Kind = 3) : tailR r (restO r) = recOK r := rec_bool (by
 rw [tailR_iff]; unfold recP
 rw [GLogRecord.eq_iff]
 simp only [restO, GLogRecord.zero, true_and]
 constructor
 ·
  rintro ⟨a, ⟨b1, b2, b3, b4, b5⟩, c, d, e⟩
  exact ⟨by omega, .inr ⟨⟨by omega, by omega, by omega, by omega, by omega, by omega, e⟩, .inr (.inr ⟨h2, h3, b1, b2, b3, b4, b5⟩)⟩⟩
 ·
  rintro ⟨_, q | ⟨h1, q | q | q⟩⟩
  ·
   omega
  ·
   omega
  ·
   omega
  ·
   exact ⟨by omega, ⟨q.2.2.1, q.2.2.2.1, q.2.2.2.2.1, q.2.2.2.2.2.1, q.2.2.2.2.2.2⟩, by omega, by omega, h1.2.2.2.2.2.2⟩)
def badS0 (r : GLogRecord) : Bool := (((((((!inR r.Epoch 1 60 || !inR r.Lsn 1 60) || !inR r.Kind 1 6) || !inR r.Prev 0 (r.Lsn - 1)) || !inR r.Next 0 (r.Lsn - 1)) || !inR r.Page 0 7) || !inR r.Slot 0 3) || decide ((30 : Int) < (r.Before.length : Int)))
def valS6 (r : GLogRecord) : Bool := ((((((decide (r.Tx = 0) && decide (r.Prev = 0)) && decide (r.Next = 0)) && decide (r.Page = 0)) && decide (r.Slot = 0)) && decide (r.Before = [])) && checkOK r.After r.Lsn)
def badS2 (r : GLogRecord) : Bool := !inR r.Tx 1 60 || decide ((30 : Int) < (r.After.length : Int))
def badS3 (r : GLogRecord) : Bool := ((!(decide (r.Kind = 2) || decide (r.Kind = 3)) && (((!decide (r.Page = 0) || !decide (r.Slot = 0)) || !decide (r.Before = [])) || !decide (r.After = []))) || (!decide (r.Kind = 3) && !decide (r.Next = 0))) || (decide (r.Kind = 3) && !decide (r.Before = []))
def valS4 (r : GLogRecord) : Bool := bif false then decide (r.Kind = 1) != decide (r.Prev = 0) else decide (r.Kind = 1) == decide (r.Prev = 0)
structure InS (r : GLogRecord) : Prop where
 e : 1 ≤ r.Epoch ∧ r.Epoch ≤ 60
 l : 1 ≤ r.Lsn ∧ r.Lsn ≤ 60
 k : 1 ≤ r.Kind ∧ r.Kind ≤ 6
 p : 0 ≤ r.Prev ∧ r.Prev ≤ r.Lsn - 1
 n : 0 ≤ r.Next ∧ r.Next ≤ r.Lsn - 1
 g : 0 ≤ r.Page ∧ r.Page ≤ 7
 s : 0 ≤ r.Slot ∧ r.Slot ≤ 3
 b : r.Before.length ≤ 30
theorem badS0_no {r : GLogRecord} : badS0 r = false ↔ InS r := by
 unfold badS0
 simp only [Bool.or_eq_false_iff, Bool.not_eq_false', inR_iff, decide_eq_false_iff_not]
 constructor
 ·
  rintro ⟨⟨⟨⟨⟨⟨⟨a, b⟩, c⟩, d⟩, e⟩, f⟩, g⟩, h⟩; exact ⟨a, b, c, d, e, f, g, by omega⟩
 ·
  rintro ⟨a, b, c, d, e, f, g, h⟩; exact ⟨⟨⟨⟨⟨⟨⟨a, b⟩, c⟩, d⟩, e⟩, f⟩, g⟩, by omega⟩
theorem recP_in {r : GLogRecord} (h : recP r) : InS r := by
 obtain ⟨h0, h1 | ⟨h1, h2 | h2 | h2⟩⟩ := h
 ·
  exact ⟨by omega, by omega, by omega, by omega, by omega, by omega, by omega, by rw [h1.2.2.2.2.2.2.1]; simp⟩
 ·
  exact ⟨by omega, by omega, by omega, by omega, by omega, by omega, by omega, by omega⟩
 ·
  exact ⟨by omega, by omega, by omega, by omega, by omega, by omega, by omega, by rw [h2.2.2.2.2.2.1]; simp⟩
 ·
  exact ⟨by omega, by omega, by omega, by omega, by omega, by omega, by omega, by rw [h2.2.2.2.2.2.1]; simp⟩
theorem recS_0 {r : GLogRecord} (h : badS0 r = true) : recOK r = false := recOK_f (fun q => by have := badS0_no.2 (recP_in q); rw [h] at this; cases this)
theorem recS_6 {r : GLogRecord} (h : InS r) (hk : r.Kind = 6) : valS6 r = recOK r := rec_bool (by
 unfold valS6 recP
 simp only [Bool.and_eq_true, decide_eq_true_eq]
 have h1 := h.e; have h2 := h.l
 rw [← isCheck_ok]
 constructor
 ·
  rintro ⟨⟨⟨⟨⟨⟨a, b⟩, c⟩, d⟩, e⟩, f⟩, g⟩
  exact ⟨by omega, .inl ⟨hk, a, b, c, d, e, f, g⟩⟩
 ·
  rintro ⟨_, q | ⟨q, _⟩⟩
  ·
   exact ⟨⟨⟨⟨⟨⟨q.2.1, q.2.2.1⟩, q.2.2.2.1⟩, q.2.2.2.2.1⟩, q.2.2.2.2.2.1⟩, q.2.2.2.2.2.2.1⟩, q.2.2.2.2.2.2.2⟩
  ·
   omega)
theorem recS_2 {r : GLogRecord} (h6 : ¬ r.Kind = 6) (h : badS2 r = true) : recOK r = false := recOK_f (fun q => by
 have hn : ¬ badS2 r = false := by rw [h]; simp
 apply hn
 unfold badS2
 simp only [Bool.or_eq_false_iff, Bool.not_eq_false', inR_iff, decide_eq_false_iff_not]
 obtain ⟨h0, h1 | ⟨h1, h2 | h2 | h2⟩⟩ := q
 ·
  omega
 ·
  exact ⟨by omega, by omega⟩
 ·
  exact ⟨by omega, by omega⟩
 ·
  exact ⟨by omega, by rw [h2.2.2.2.2.2.2]; simp⟩)
theorem badS3_no {r : GLogRecord} : badS3 r = false ↔ (¬ r.Kind = 2 → ¬ r.Kind = 3 → r.Page = 0 ∧ r.Slot = 0 ∧ r.Before = [] ∧ r.After = []) ∧ (¬ r.Kind = 3 → r.Next = 0) ∧ (r.Kind = 3 → r.Before = []) := by
 unfold badS3
 simp only [Bool.or_eq_false_iff, Bool.and_eq_false_iff, Bool.not_eq_false', Bool.or_eq_true, decide_eq_true_eq, decide_eq_false_iff_not]
 constructor
 ·
  rintro ⟨⟨a, b⟩, c⟩
  refine ⟨fun h2 h3 => ?_, fun h3 => ?_, fun h3 => ?_⟩
  ·
   rcases a with (a | a) | ⟨⟨⟨a1, a2⟩, a3⟩, a4⟩
   ·
    exact absurd a h2
   ·
    exact absurd a h3
   ·
    exact ⟨a1, a2, a3, a4⟩
  ·
   exact b.resolve_left h3
  ·
   exact c.resolve_left (fun q => q h3)
 ·
  rintro ⟨a, b, c⟩
  refine ⟨⟨?_, ?_⟩, ?_⟩
  ·
   by_cases h2 : r.Kind = 2
   ·
    exact .inl (.inl h2)
   ·
    by_cases h3 : r.Kind = 3
    ·
     exact .inl (.inr h3)
    ·
     obtain ⟨a1, a2, a3, a4⟩ := a h2 h3
     exact .inr ⟨⟨⟨a1, a2⟩, a3⟩, a4⟩
  ·
   by_cases h3 : r.Kind = 3
   ·
    exact .inl h3
   ·
    exact .inr (b h3)
  ·
   by_cases h3 : r.Kind = 3
   ·
    exact .inr (c h3)
   ·
    exact .inl h3
theorem recS_3 {r : GLogRecord} (h6 : ¬ r.Kind = 6) (h : badS3 r = true) : recOK r = false := recOK_f (fun q => by
 have hn : ¬ badS3 r = false := by rw [h]; simp
 apply hn
 rw [badS3_no]
 obtain ⟨h0, h1 | ⟨h1, h2 | h2 | h2⟩⟩ := q
 ·
  omega
 ·
  exact ⟨fun a b => by omega, fun _ => by omega, fun _ => by omega⟩
 ·
  exact ⟨fun a b => by omega, fun _ => by omega, fun _ => h2.2.2.2.2.2.1⟩
 ·
  exact ⟨fun _ _ => ⟨h2.2.2.2.1, h2.2.2.2.2.1, h2.2.2.2.2.2.1, h2.2.2.2.2.2.2⟩, fun _ => h2.2.2.1, fun _ => h2.2.2.2.2.2.1⟩)
theorem recS_4 {r : GLogRecord} (h : InS r) (h6 : ¬ r.Kind = 6) (hb2 : badS2 r = false) (hb3 : badS3 r = false) : valS4 r = recOK r := rec_bool (by
 unfold badS2 at hb2
 simp only [Bool.or_eq_false_iff, Bool.not_eq_false', inR_iff, decide_eq_false_iff_not] at hb2
 rw [badS3_no] at hb3
 obtain ⟨h1, h2, h3, h4, h5, h7, h8, h9⟩ := h
 obtain ⟨a, b, c⟩ := hb3
 unfold valS4 recP
 rw [cond_false, beq_iff_eq, decide_eq_decide]
 constructor
 ·
  intro e
  refine ⟨by omega, .inr ⟨⟨by omega, by omega, by omega, by omega, by omega, by omega, e.symm⟩, ?_⟩⟩
  by_cases k2 : r.Kind = 2
  ·
   exact .inl ⟨k2, by omega, by omega, by omega, by omega, by omega, by omega, b (by omega)⟩
  ·
   by_cases k3 : r.Kind = 3
   ·
    exact .inr (.inl ⟨k3, by omega, by omega, by omega, by omega, c k3, by omega, by omega, by omega⟩)
   ·
    obtain ⟨a1, a2, a3, a4⟩ := a k2 k3
    exact .inr (.inr ⟨k2, k3, b k3, a1, a2, a3, a4⟩)
 ·
  rintro ⟨_, q | ⟨q, _⟩⟩
  ·
   omega
  ·
   exact q.2.2.2.2.2.2.symm)
end Go.AM

namespace Go.AM
def prRow (p : Pr) : List D := [.int .i64 (p.1 : Int), .int .i64 (p.2 : Int)]
theorem prs_some : ∀ {n : Nat} {s : Str}, 2 * n ≤ s.length → ∃ l, prs n s = some (l, s.drop (2 * n)) ∧ l.length = n ∧ ∀ i (hi : 2 * i + 1 < s.length), i < n → l[i]? = some (s[2 * i].toNat, s[2 * i + 1].toNat)
 | 0, s, _ => ⟨[], by simp [prs], rfl, fun i _ h => by omega⟩
 | n + 1, a :: b :: s, h => by
  obtain ⟨l, h1, h2, h3⟩ := @prs_some n s (by simp only [List.length_cons] at h; omega)
  refine ⟨(a.toNat, b.toNat) :: l, ?_, by rw [List.length_cons, h2], ?_⟩
  ·
   rw [prs, h1, show 2 * (n + 1) = 2 * n + 1 + 1 from by omega]; rfl
  ·
   intro i hi hin
   cases i with
   | zero => rfl
   | succ i =>
    have hi' : 2 * i + 1 < s.length := by simp only [List.length_cons] at hi; omega
    have e1 : (a :: b :: s)[2 * (i + 1)] = s[2 * i] := by simp only [show 2 * (i + 1) = 2 * i + 1 + 1 from by omega]; rfl
    have e2 : (a :: b :: s)[2 * (i + 1) + 1] = s[2 * i + 1] := by simp only [show 2 * (i + 1) + 1 = 2 * i + 1 + 1 + 1 from by omega]; rfl
    rw [List.getElem?_cons_succ, h3 i hi' (by omega), e1, e2]
 | n + 1, [], h => by simp only [List.length_nil] at h; omega
 | n + 1, [_], h => by simp only [List.length_cons, List.length_nil] at h; omega
theorem prs_none : ∀ {n : Nat} {s : Str}, s.length < 2 * n → prs n s = none
 | 0, s, h => by omega
 | n + 1, a :: b :: s, h => by
  rw [prs, prs_none (by simp only [List.length_cons] at h; omega)]; rfl
 | n + 1, [], _ => rfl
 | n + 1, [_], _ => rfl
def stage2 (l1 : List Pr) (u : Str) : List Pr × List Pr × Bool := match u with
 | [] => (l1, [], false)
 | m :: s => match prs m.toNat s with
  | none => (l1, [], false)
  | some (l2, s3) => (l1, l2, decide (s3 = []))
def readX (t : Str) : List Pr × List Pr × Bool := match t with
 | [] => ([], [], false)
 | n :: s => match prs n.toNat s with
  | none => ([], [], false)
  | some (l1, u) => stage2 l1 u
theorem readX_C {t : Str} : readC t = if (readX t).2.2 = true then some ((readX t).1, (readX t).2.1) else none := by
 unfold readC readX
 cases t with
 | nil => rfl
 | cons n s =>
  simp only
  cases prs n.toNat s with
  | none => rfl
  | some p =>
   obtain ⟨l1, u⟩ := p
   simp only
   unfold stage2
   cases u with
   | nil => rfl
   | cons m s2 =>
    simp only
    cases prs m.toNat s2 with
    | none => rfl
    | some q =>
     obtain ⟨l2, s3⟩ := q
     cases s3 with
     | nil => simp
     | cons _ _ => simp
/-- Two lists are read one behind the other: the state ahead of the one of number k. -/
def CkInv (t : Str) (k : Nat) (l1 l2 : List Pr) (p : Nat) : Prop := p ≤ t.length ∧ l1.length ≤ 255 ∧ l2.length ≤ 255 ∧
 ((k = 0 ∧ l1 = [] ∧ l2 = [] ∧ p = 0) ∨ (k = 1 ∧ l2 = [] ∧ readX t = stage2 l1 (t.drop p)) ∨ (k = 2 ∧ readX t = (l1, l2, decide (p = t.length))))
theorem ck0 {t : Str} : CkInv t 0 [] [] 0 := ⟨Nat.zero_le _, Nat.zero_le _, Nat.zero_le _, .inl ⟨rfl, rfl, rfl, rfl⟩⟩
theorem drop_some {t : Str} {p : Nat} (h : p < t.length) : t.drop p = t[p] :: t.drop (p + 1) := List.drop_eq_getElem_cons h
theorem ck_a0 {t : Str} (h : t.length ≤ 0) : readX t = ([], [], false) := by
 obtain rfl : t = [] := List.eq_nil_of_length_eq_zero (by omega)
 rfl
theorem ck_a1 {t : Str} {h : 0 < t.length} (h2 : t.length < 0 + 1 + 2 * t[0].toNat) : readX t = ([], [], false) := by
 cases t with
 | nil => cases h
 | cons n s =>
  simp only [List.length_cons, List.getElem_cons_zero] at h2
  unfold readX
  simp only
  rw [prs_none (by omega)]
theorem ck_a2 {t : Str} {l : List Pr} {h : 0 < t.length} (hl : prs t[0].toNat (t.drop 1) = some (l, (t.drop 1).drop (2 * t[0].toNat))) (hn : l.length = t[0].toNat) (h2 : 1 + 2 * t[0].toNat ≤ t.length) : CkInv t 1 l [] (1 + 2 * t[0].toNat) := by
 have hb := t[0].toNat_lt
 refine ⟨h2, by omega, Nat.zero_le _, .inr (.inl ⟨rfl, rfl, ?_⟩)⟩
 cases t with
 | nil => cases h
 | cons n s =>
  simp only [List.getElem_cons_zero, List.drop_succ_cons, List.drop_zero] at hl ⊢
  unfold readX
  simp only
  rw [hl]
  simp only
  rw [show 1 + 2 * n.toNat = 2 * n.toNat + 1 from by omega, List.drop_succ_cons]
theorem ck_b0 {t : Str} {l : List Pr} {p : Nat} (e : readX t = stage2 l (t.drop p)) (h : t.length ≤ p) : readX t = (l, [], false) := by
 rw [e, List.drop_eq_nil_of_le h]; rfl
theorem ck_b1 {t : Str} {l : List Pr} {p : Nat} (e : readX t = stage2 l (t.drop p)) {h : p < t.length} (h2 : t.length < p + 1 + 2 * t[p].toNat) : readX t = (l, [], false) := by
 rw [e, drop_some h]
 unfold stage2
 simp only
 rw [prs_none (by rw [List.length_drop]; omega)]
theorem ck_b2 {t : Str} {l l2 : List Pr} {p : Nat} (e : readX t = stage2 l (t.drop p)) (hll : l.length ≤ 255) {h : p < t.length} (hl : prs t[p].toNat (t.drop (p + 1)) = some (l2, (t.drop (p + 1)).drop (2 * t[p].toNat))) (hn : l2.length = t[p].toNat) (h2 : p + 1 + 2 * t[p].toNat ≤ t.length) :
  CkInv t 2 l l2 (p + 1 + 2 * t[p].toNat) := by
 have hb := t[p].toNat_lt
 refine ⟨h2, hll, by omega, .inr (.inr ⟨rfl, ?_⟩)⟩
 rw [e, drop_some h]
 unfold stage2
 simp only
 rw [hl]
 simp only [List.drop_drop]
 rw [show decide (t.drop (p + 1 + 2 * t[p].toNat) = []) = decide (p + 1 + 2 * t[p].toNat = t.length) from by
  congr 1; rw [List.drop_eq_nil_iff]; exact propext (by omega)]
/-- What the list of number k is, all at once. -/
theorem ck_list {t : Str} {p n : Nat} (h2 : p + 2 * n ≤ t.length) : ∃ l, prs n (t.drop p) = some (l, (t.drop p).drop (2 * n)) ∧ l.length = n ∧ ∀ i (hi : p + 2 * i + 1 < t.length), i < n → l[i]? = some (t[p + 2 * i].toNat, t[p + 2 * i + 1].toNat) := by
 obtain ⟨l, a, b, c⟩ := @prs_some n (t.drop p) (by rw [List.length_drop]; omega)
 refine ⟨l, a, b, fun i hi hin => ?_⟩
 rw [c i (by rw [List.length_drop]; omega) hin]
 simp only [List.getElem_drop]
 rfl
theorem take_pr {l : List Pr} {i : Nat} {a b : Nat} (h : l[i]? = some (a, b)) : (l.take i).map prRow ++ [[D.int .i64 (a : Int), D.int .i64 (b : Int)]] = (l.take (i + 1)).map prRow := by
 rw [List.take_add_one, h]; simp [prRow]
def prevP (l : List Pr) (b : Int) (i : Nat) : Int := if i = 0 then b else ((l[i - 1]?.map (·.1)).getD 0 : Nat)
def badPr (lo high lsn : Int) (l : List Pr) (i : Nat) (hi : i < l.length) : Bool :=
 (!inR (l[i].1 : Int) lo high || !inR (l[i].2 : Int) 1 (lsn - 1)) || (decide ((0 : Int) < (i : Int)) && decide ((l[i].1 : Int) ≤ ((l[i - 1]'(by omega)).1 : Int)))
theorem okL_step {high lsn b : Int} {l : List Pr} {i : Nat} (hi : i < l.length) (hb : b + 1 ≤ 1) : okL high lsn (l.drop i) (prevP l b i) = (!badPr (b + 1) high lsn l i hi && okL high lsn (l.drop (i + 1)) (prevP l b (i + 1))) := by
 rw [List.drop_eq_getElem_cons hi, okL]
 have e : prevP l b (i + 1) = (l[i].1 : Int) := by unfold prevP; rw [if_neg (by omega), Nat.add_sub_cancel, List.getElem?_eq_getElem hi]; rfl
 rw [e]
 congr 1
 unfold badPr
 rw [Bool.not_or, Bool.not_or, Bool.not_not, Bool.not_not]
 have key : inR (l[i].1 : Int) (prevP l b i + 1) high = (inR (l[i].1 : Int) (b + 1) high && !(decide ((0 : Int) < (i : Int)) && decide ((l[i].1 : Int) ≤ ((l[i - 1]'(by omega)).1 : Int)))) := by
  rw [Bool.eq_iff_iff, Bool.and_eq_true, inR_iff, inR_iff, Bool.not_eq_true', Bool.and_eq_false_iff, decide_eq_false_iff_not, decide_eq_false_iff_not]
  unfold prevP
  by_cases h0 : i = 0
  ·
   rw [if_pos h0]
   constructor
   ·
    rintro h; exact ⟨h, .inl (by omega)⟩
   ·
    rintro ⟨h, _⟩; exact h
  ·
   rw [if_neg h0, List.getElem?_eq_getElem (by omega)]
   simp only [Option.map_some, Option.getD_some]
   constructor
   ·
    rintro ⟨h, h'⟩; exact ⟨⟨by omega, h'⟩, .inr (by omega)⟩
   ·
    rintro ⟨⟨h, h'⟩, q | q⟩
    ·
     omega
    ·
     exact ⟨by omega, h'⟩
 rw [key]
 cases inR (l[i].1 : Int) (b + 1) high <;> cases inR (l[i].2 : Int) 1 (lsn - 1) <;> cases (decide ((0 : Int) < (i : Int)) && decide ((l[i].1 : Int) ≤ ((l[i - 1]'(by omega)).1 : Int))) <;> rfl
theorem okL_end {high lsn b : Int} {l : List Pr} : okL high lsn (l.drop l.length) b = true := by rw [List.drop_length]; rfl
def badX (p : List Pr × List Pr × Bool) : Bool := (!p.2.2 || decide ((8 : Int) < (p.1.length : Int))) || decide ((10 : Int) < (p.2.1.length : Int))
theorem checkX {t : Str} {lsn : Int} : checkOK t lsn = (!badX (readX t) && (okL 7 lsn (readX t).1 (-1) && okL 60 lsn (readX t).2.1 0)) := by
 unfold checkOK badX
 rw [readX_C]
 split
 ·
  rename_i h
  split at h
  ·
   cases h
  ·
   rename_i h'
   rw [Bool.not_eq_true] at h'
   rw [h']; rfl
 ·
  rename_i l1 l2 h
  split at h
  ·
   rename_i h'
   simp only [Option.some.injEq, Prod.mk.injEq] at h
   rw [h', h.1, h.2]
   simp only [Bool.not_true, Bool.false_or, Bool.not_or]
   rw [show (!decide ((8 : Int) < (l1.length : Int))) = decide (l1.length ≤ 8) from by rw [← decide_not]; congr 1; exact propext (by omega), show (!decide ((10 : Int) < (l2.length : Int))) = decide (l2.length ≤ 10) from by rw [← decide_not]; congr 1; exact propext (by omega)]
   cases decide (l1.length ≤ 8) <;> cases decide (l2.length ≤ 10) <;> cases okL 7 lsn l1 (-1) <;> cases okL 60 lsn l2 0 <;> rfl
  ·
   cases h
theorem readX_len {t : Str} : (readX t).1.length ≤ 255 ∧ (readX t).2.1.length ≤ 255 := by
 have h : ∀ {n : UInt8} {s u : Str} {l : List Pr}, prs n.toNat s = some (l, u) → l.length ≤ 255 := fun {n s u l} h => by
  have hb := n.toNat_lt
  rcases Nat.lt_or_ge s.length (2 * n.toNat) with q | q
  ·
   rw [prs_none q] at h; cases h
  ·
   obtain ⟨l', a, b, _⟩ := prs_some q
   rw [a] at h; cases h; omega
 unfold readX
 cases t with
 | nil => simp
 | cons n s =>
  simp only
  cases hp : prs n.toNat s with
  | none => simp
  | some p =>
   obtain ⟨l1, u⟩ := p
   simp only
   unfold stage2
   cases u with
   | nil => simp [h hp]
   | cons m s2 =>
    simp only
    cases hq : prs m.toNat s2 with
    | none => simp [h hp]
    | some q =>
     obtain ⟨l2, s3⟩ := q
     simp [h hp, h hq]
end Go.AM

namespace Go.AM
theorem rec_lsn {r : GLogRecord} (h : recOK r = true) : 1 ≤ r.Lsn ∧ r.Lsn ≤ 60 := by
 have h := (of_decide_eq_true h).1
 exact ⟨h.2.2.1, h.2.2.2⟩
theorem mapAtZ {α : Type} {row : α → List D} {xs : List α} {z : α} {k : Nat} (h : k < xs.length) : (xs.map row)[k]? = some (row (xs.getD k z)) := by
 rw [mapAt h]; simp [List.getD_eq_getElem?_getD, h]
theorem getD_z {α : Type} {xs : List α} {z : α} {k : Nat} (h : k < xs.length) : xs.getD k z = xs[k] := by simp [List.getD_eq_getElem?_getD, h]
end Go.AM

namespace Go.AM
section
variable {α : Type} (κ : α → Int)
variable {κ}
variable (κ)
variable {κ}
end
def okAtA (l : List GLogRecord) (i : Nat) : Bool := match l[i]? with
 | none => true
 | some r => recOK r && decide (r.Lsn = ((i + 1 : Nat) : Int))
def goodA (l : List GLogRecord) : Bool := (List.range l.length).all (okAtA l)
theorem goodA_iff {l : List GLogRecord} : goodA l = true ↔ ∀ i (h : i < l.length), recOK l[i] = true ∧ l[i].Lsn = ((i + 1 : Nat) : Int) := by
 unfold goodA
 rw [List.all_eq_true]
 constructor
 ·
  intro h i hi
  have := h i (List.mem_range.2 hi)
  unfold okAtA at this
  rw [List.getElem?_eq_getElem hi, Bool.and_eq_true, decide_eq_true_eq] at this
  exact this
 ·
  intro h i hi
  have hi := List.mem_range.1 hi
  unfold okAtA
  rw [List.getElem?_eq_getElem hi, Bool.and_eq_true, decide_eq_true_eq]
  exact h i hi
theorem goodA_no {l : List GLogRecord} {i : Nat} (h : i < l.length) (hb : ¬ (recOK l[i] = true ∧ l[i].Lsn = ((i + 1 : Nat) : Int))) : goodA l = false := by
 cases e : goodA l with
 | false => rfl
 | true => exact absurd (goodA_iff.1 e i h) hb
end Go.AM
namespace Go.AM
theorem goodA_lsn {l : List GLogRecord} (h : goodA l = true) : l.any (fun r => decide ((60 : Int) < r.Lsn)) = false := by
 rw [List.any_eq_false]
 intro r hr
 obtain ⟨i, hi, rfl⟩ := List.mem_iff_getElem.1 hr
 have := rec_lsn (goodA_iff.1 h i hi).1
 rw [decide_eq_true_eq]; omega
end Go.AM

namespace Go.AM
def getN (u : Str) (i : Nat) : Nat := (u.getD i 0).toNat
theorem getN_at {u : Str} {i : Nat} (h : i < u.length) : getN u i = u[i].toNat := by unfold getN; simp [List.getD_eq_getElem?_getD, h]
def loopR : Nat → Str → List Str → List Str × Bool
 | 0, r, l => if r = [] then (l, true) else ([], false)
 | _ + 1, [], _ => ([], false)
 | n + 1, c :: r, l => if r.length < c.toNat then ([], false) else loopR n (r.drop c.toNat) (l ++ [r.take c.toNat])
def l01F : Str → List Str × Bool
 | [] => ([], false)
 | c :: r => if 100 < c.toNat then ([], false) else loopR c.toNat r []
theorem l01_cons {c : UInt8} {r : Str} : l01F (c :: r) = if 100 < c.toNat then ([], false) else loopR c.toNat r [] := rfl
theorem loopR_len : ∀ {n : Nat} {r : Str} {l : List Str}, (loopR n r l).2 = true → (loopR n r l).1.length = l.length + n
 | 0, r, l, h => by
  rw [loopR] at h ⊢; split at h
  ·
   rename_i e; rw [if_pos e]; rfl
  ·
   cases h
 | n + 1, [], l, h => by rw [loopR] at h; cases h
 | n + 1, c :: r, l, h => by
  rw [loopR] at h ⊢
  split at h
  ·
   cases h
  ·
   rename_i e; rw [if_neg e, loopR_len h]; simp; omega
theorem take_fail {r : Rd} {n : Nat} (h : r.fail = true) : (takeF r n).2.fail = true := by
 unfold takeF; split
 ·
  rfl
 ·
  exact h
theorem num_fail {r : Rd} (h : r.fail = true) : (numF r).2.fail = true := take_fail h
theorem fld_fail : ∀ {n : Nat} {r : Rd} {l : List Str}, r.fail = true → (fldL n r l).2.fail = true
 | 0, _, _, h => h
 | n + 1, r, l, h => by rw [fldL]; exact fld_fail (take_fail (num_fail h))
theorem flds_fail {r : Rd} (h : r.fail = true) : (fieldsF r).2.fail = true := fld_fail (num_fail h)
theorem done_fail {r : Rd} (h : r.fail = true) : doneF r = false := by unfold doneF; rw [h]; rfl
theorem num_nil {b : Bool} : numF ⟨[], b⟩ = (0, ⟨[], true⟩) := by
 unfold numF; rw [takeF_1 (by simp)]; rfl
theorem loop_fld : ∀ {n : Nat} {r : Str} {l : List Str}, loopR n r l = if doneF (fldL n ⟨r, false⟩ l).2 = true then ((fldL n ⟨r, false⟩ l).1, true) else ([], false)
 | 0, r, l => by
  rw [loopR, fldL]; unfold doneF
  cases r with
  | nil => simp
  | cons c r => rw [if_neg (by simp), if_neg (by simp; omega)]
 | n + 1, [], l => by
  rw [loopR, fldL, num_nil, if_neg]
  rw [done_fail (fld_fail (take_fail rfl))]; simp
 | n + 1, c :: r, l => by
  rw [loopR, fldL, numF_cons]
  dsimp only
  split
  ·
   rename_i h
   rw [takeF_1 (by simp only; omega), if_neg]
   rw [done_fail (fld_fail rfl)]; simp
  ·
   rename_i h
   rw [takeF_2 (by simp only; omega), loop_fld]
theorem flds_l01 {s : Str} (h : (fieldsF ⟨s, false⟩).1.length = 2 ∨ ((l01F s).2 = true ∧ (l01F s).1.length = 2)) :
  (doneF (fieldsF ⟨s, false⟩).2 = (l01F s).2) ∧ (doneF (fieldsF ⟨s, false⟩).2 = true → (fieldsF ⟨s, false⟩).1 = (l01F s).1) := by
 cases s with
 | nil =>
  have e : doneF (fieldsF ⟨[], false⟩).2 = false := done_fail (fld_fail (by rw [num_nil]))
  rw [e]; exact ⟨rfl, fun h => by cases h⟩
 | cons c r =>
  have hf : fieldsF ⟨c :: r, false⟩ = fldL c.toNat ⟨r, false⟩ [] := by unfold fieldsF; rw [numF_cons]
  rw [hf] at h ⊢
  have hc : ¬ 100 < c.toNat := by
   rcases h with h | h
   ·
    rw [fldL_len.1] at h; simp at h; omega
   ·
    intro hh
    have := h.1
    rw [l01_cons, if_pos hh] at this; cases this
  have e : l01F (c :: r) = loopR c.toNat r [] := by rw [l01_cons, if_neg hc]
  rw [e, loop_fld]
  cases hd : doneF (fldL c.toNat ⟨r, false⟩ []).2 with
  | true => rw [if_pos rfl]; exact ⟨rfl, fun _ => rfl⟩
  | false => rw [if_neg (by simp)]; exact ⟨rfl, fun h => by cases h⟩
theorem l01_len {s : Str} (h : (l01F s).2 = true) : (l01F s).1.length = getN s 0 := by
 cases s with
 | nil => cases h
 | cons c r =>
  rw [l01_cons] at h ⊢
  split at h
  ·
   cases h
  ·
   rename_i e; rw [if_neg e, loopR_len h]; simp [getN]
theorem flds_n {s : Str} (h : 0 < s.length) : (fieldsF ⟨s, false⟩).1.length = getN s 0 := by
 cases s with
 | nil => simp at h
 | cons c r =>
  have hf : fieldsF ⟨c :: r, false⟩ = fldL c.toNat ⟨r, false⟩ [] := by unfold fieldsF; rw [numF_cons]
  rw [hf, fldL_len.1]; simp [getN]
def Nn (u : Str) : Nat → Rd
 | 0 => ⟨u, false⟩
 | i + 1 => (numF (Nn u i)).2
theorem Nn_len {u : Str} : ∀ i, (Nn u i).rest.length ≤ u.length
 | 0 => Nat.le_refl _
 | i + 1 => by rw [Nn]; exact Nat.le_trans numF_lt.2 (Nn_len i)
theorem Nn_ok {u : Str} : ∀ {i : Nat}, i ≤ u.length → Nn u i = ⟨u.drop i, false⟩
 | 0, _ => rfl
 | i + 1, h => by
  rw [Nn, Nn_ok (by omega), List.drop_eq_getElem_cons (by omega), numF_cons]
theorem Nn_val {u : Str} {i : Nat} (h : i < u.length) : (numF (Nn u i)).1 = getN u i := by
 rw [Nn_ok (by omega), List.drop_eq_getElem_cons h, numF_cons, getN_at h]
theorem Nn_fail1 {u : Str} : ∀ k, (Nn u (u.length + 1 + k)).fail = true
 | 0 => by
  rw [Nat.add_zero, Nn, Nn_ok (Nat.le_refl _), List.drop_length, num_nil]
 | k + 1 => num_fail (Nn_fail1 k)
theorem Nn_fail {u : Str} {i : Nat} (h : u.length < i) : (Nn u i).fail = true := by
 have := @Nn_fail1 u (i - (u.length + 1))
 rwa [show u.length + 1 + (i - (u.length + 1)) = i from by omega] at this
def fsI (u : Str) : List Str × Rd := fieldsF (Nn u 9)
abbrev vN (u : Str) (i : Nat) : Int := (numF (Nn u i)).1
def recI (u : Str) : GLogRecord := ⟨vN u 1, vN u 2, vN u 3, vN u 4, vN u 5, vN u 6, vN u 7, vN u 8, (fsI u).1.getD 0 [], (fsI u).1.getD 1 []⟩
def badI (u : Str) : Bool := (!doneF (fsI u).2 || !decide (vN u 0 = 108)) || !decide (((fsI u).1.length : Int) = 2)
def recF (t : Str) : GLogRecord × Int := if 65536 < (t.length : Int) then (.zero, 2) else if (unsealF t).2 = false then (.zero, 8) else if badI (unsealF t).1 = true then (.zero, 3) else if recOK (recI (unsealF t).1) = false then (.zero, 3) else (recI (unsealF t).1, 0)
section
variable {t : Str}
theorem recF_1 (h : 65536 < (t.length : Int)) : recF t = (.zero, 2) := by unfold recF; rw [if_pos h]
theorem recF_2 (h : ¬ 65536 < (t.length : Int)) (h1 : (unsealF t).2 = false) : recF t = (.zero, 8) := by unfold recF; rw [if_neg h, if_pos h1]
theorem recF_3 (h : ¬ 65536 < (t.length : Int)) (h1 : (unsealF t).2 = true) (h2 : badI (unsealF t).1 = true) : recF t = (.zero, 3) := by unfold recF; rw [if_neg h, if_neg (by rw [h1]; simp), if_pos h2]
theorem recF_4 (h : ¬ 65536 < (t.length : Int)) (h1 : (unsealF t).2 = true) (h2 : badI (unsealF t).1 = false) (h3 : recOK (recI (unsealF t).1) = false) : recF t = (.zero, 3) := by unfold recF; rw [if_neg h, if_neg (by rw [h1]; simp), if_neg (by rw [h2]; simp), if_pos h3]
theorem recF_5 (h : ¬ 65536 < (t.length : Int)) (h1 : (unsealF t).2 = true) (h2 : badI (unsealF t).1 = false) (h3 : recOK (recI (unsealF t).1) = true) : recF t = (recI (unsealF t).1, 0) := by unfold recF; rw [if_neg h, if_neg (by rw [h1]; simp), if_neg (by rw [h2]; simp), if_neg (by rw [h3]; simp)]
end
def recS (u : Str) : GLogRecord := ⟨getN u 1, getN u 2, getN u 3, getN u 4, getN u 5, getN u 6, getN u 7, getN u 8, (l01F (u.drop 9)).1.getD 0 [], (l01F (u.drop 9)).1.getD 1 []⟩
def badS (t : Str) : Bool := (!(unsealF t).2 || decide (((unsealF t).1.length : Int) < 10)) || !decide ((getN (unsealF t).1 0 : Int) = 108)
def badL (u : Str) : Bool := !(l01F (u.drop 9)).2 || !decide (((l01F (u.drop 9)).1.length : Int) = 2)
def l04F (t : Str) : GLogRecord × Bool := if badS t = true then (.zero, false) else if badL (unsealF t).1 = true then (.zero, false) else (recS (unsealF t).1, recOK (recS (unsealF t).1))
theorem l04F_1 {t : Str} (h : badS t = true) : l04F t = (.zero, false) := by unfold l04F; rw [if_pos h]
theorem l04F_2 {t : Str} (h : badS t = false) (h1 : badL (unsealF t).1 = true) : l04F t = (.zero, false) := by unfold l04F; rw [if_neg (by rw [h]; simp), if_pos h1]
theorem l04F_3 {t : Str} (h : badS t = false) (h1 : badL (unsealF t).1 = false) : l04F t = (recS (unsealF t).1, recOK (recS (unsealF t).1)) := by unfold l04F; rw [if_neg (by rw [h]; simp), if_neg (by rw [h1]; simp)]
theorem l04_true {t : Str} (h : (l04F t).2 = true) : badS t = false ∧ badL (unsealF t).1 = false ∧ (l04F t).1 = recS (unsealF t).1 ∧ recOK (recS (unsealF t).1) = true := by
 unfold l04F at h ⊢
 split at h
 ·
  cases h
 ·
  rename_i h1
  rw [if_neg h1]
  split at h
  ·
   cases h
  ·
   rename_i h2
   rw [if_neg h2]
   exact ⟨by simpa using h1, by simpa using h2, rfl, h⟩
theorem rec_eq {u : Str} (h : 10 ≤ u.length) (hf : (fsI u).1 = (l01F (u.drop 9)).1) : recI u = recS u := by
 unfold recI recS vN
 rw [hf, Nn_val (by omega), Nn_val (by omega), Nn_val (by omega), Nn_val (by omega), Nn_val (by omega), Nn_val (by omega), Nn_val (by omega), Nn_val (by omega)]
theorem rec_same {t : Str} (hl : t.length ≤ 65536) : (recF t).2 = 0 ↔ (l04F t).2 = true := by
 have hnl : ¬ 65536 < (t.length : Int) := by omega
 cases hu : (unsealF t).2 with
 | false =>
  rw [recF_2 hnl hu, l04F_1 (by unfold badS; rw [hu]; rfl)]; simp
 | true =>
  by_cases h10 : (unsealF t).1.length < 10
  ·
   rw [l04F_1 (by unfold badS; rw [hu, decide_eq_true (by omega)]; rfl)]
   have hb : badI (unsealF t).1 = true := by
    have hd : doneF (fsI (unsealF t).1).2 = false := by
     unfold fsI
     by_cases h9 : (unsealF t).1.length < 9
     ·
      exact done_fail (flds_fail (Nn_fail h9))
     ·
      have e9 : (unsealF t).1.length = 9 := by omega
      rw [Nn_ok (by omega), List.drop_of_length_le (by omega)]
      refine done_fail (fld_fail ?_); rw [num_nil]
    unfold badI; rw [hd]; rfl
   rw [recF_3 hnl hu hb]; simp
  ·
   have hv := @Nn_val (unsealF t).1 0 (by omega)
   have hfs : fsI (unsealF t).1 = fieldsF ⟨(unsealF t).1.drop 9, false⟩ := by unfold fsI; rw [Nn_ok (by omega)]
   have hn : (fsI (unsealF t).1).1.length = getN ((unsealF t).1.drop 9) 0 := by rw [hfs]; exact flds_n (by rw [List.length_drop]; omega)
   by_cases h0 : getN (unsealF t).1 0 = 108
   ·
    have hS : badS t = false := by unfold badS; rw [hu, decide_eq_false (show ¬ ((unsealF t).1.length : Int) < 10 by omega), h0]; rfl
    have hV : vN (unsealF t).1 0 = 108 := by unfold vN; rw [hv, h0]; rfl
    cases hL : badL (unsealF t).1 with
    | true =>
     rw [l04F_2 hS hL]
     have hb : badI (unsealF t).1 = true := by
      unfold badI
      by_cases h2 : ((fsI (unsealF t).1).1.length : Int) = 2
      ·
       have h2' : (fieldsF ⟨(unsealF t).1.drop 9, false⟩).1.length = 2 := by rw [← hfs]; omega
       obtain ⟨q1, q2⟩ := flds_l01 (.inl h2')
       unfold badL at hL
       rw [Bool.or_eq_true, Bool.not_eq_true', Bool.not_eq_true', decide_eq_false_iff_not] at hL
       have hd : doneF (fsI (unsealF t).1).2 = false := by
        rw [hfs]
        cases hdd : doneF (fieldsF ⟨(unsealF t).1.drop 9, false⟩).2 with
        | false => rfl
        | true =>
         exfalso
         have q3 := q2 hdd
         rw [hdd] at q1
         rcases hL with h | h
         ·
          rw [← q1] at h; cases h
         ·
          rw [← q3, h2'] at h; exact h rfl
       rw [hd]; rfl
      ·
       rw [decide_eq_false h2]; simp
     rw [recF_3 hnl hu hb]; simp
    | false =>
     unfold badL at hL
     rw [Bool.or_eq_false_iff, Bool.not_eq_false', Bool.not_eq_false', decide_eq_true_eq] at hL
     obtain ⟨q1, q2⟩ := flds_l01 (s := (unsealF t).1.drop 9) (.inr ⟨hL.1, by omega⟩)
     rw [hL.1] at q1
     have q3 := q2 q1
     rw [← hfs] at q1 q3
     have hb : badI (unsealF t).1 = false := by unfold badI; rw [q1, hV, q3, hL.2]; rfl
     have hL' : badL (unsealF t).1 = false := by unfold badL; rw [hL.1, hL.2]; rfl
     rw [l04F_3 hS hL']
     have he := rec_eq (by omega) q3
     cases hr : recOK (recS (unsealF t).1) with
     | true => rw [recF_5 hnl hu hb (by rw [he]; exact hr)]; simp
     | false => rw [recF_4 hnl hu hb (by rw [he]; exact hr)]; simp
   ·
    rw [l04F_1 (by unfold badS; rw [decide_eq_false (show ¬ (getN (unsealF t).1 0 : Int) = 108 by omega)]; simp)]
    have hb : badI (unsealF t).1 = true := by
     unfold badI vN; rw [hv, decide_eq_false (show ¬ (getN (unsealF t).1 0 : Int) = 108 by omega)]; simp
    rw [recF_3 hnl hu hb]; simp
theorem rec_got {t : Str} (hl : t.length ≤ 65536) (h : (l04F t).2 = true) : recF t = ((l04F t).1, 0) := by
 have hnl : ¬ 65536 < (t.length : Int) := by omega
 have h0 := (rec_same hl).2 h
 obtain ⟨h1, h2, h3, h4⟩ := l04_true h
 have hu : (unsealF t).2 = true := by
  unfold badS at h1; rw [Bool.or_eq_false_iff, Bool.or_eq_false_iff, Bool.not_eq_false'] at h1; exact h1.1.1
 have h10 : 10 ≤ (unsealF t).1.length := by
  unfold badS at h1; rw [Bool.or_eq_false_iff, Bool.or_eq_false_iff, decide_eq_false_iff_not] at h1; have := h1.1.2; omega
 have hfs : fsI (unsealF t).1 = fieldsF ⟨(unsealF t).1.drop 9, false⟩ := by unfold fsI; rw [Nn_ok (by omega)]
 unfold badL at h2
 rw [Bool.or_eq_false_iff, Bool.not_eq_false', Bool.not_eq_false', decide_eq_true_eq] at h2
 obtain ⟨q1, q2⟩ := flds_l01 (s := (unsealF t).1.drop 9) (.inr ⟨h2.1, by omega⟩)
 rw [h2.1] at q1
 have q3 := q2 q1
 rw [← hfs] at q1 q3
 have he := rec_eq h10 q3
 have e0 : (getN (unsealF t).1 0 : Int) = 108 := by
  unfold badS at h1; rw [Bool.or_eq_false_iff, Bool.not_eq_false', decide_eq_true_eq] at h1; exact h1.2
 have hb : badI (unsealF t).1 = false := by
  unfold badI vN
  rw [q1, Nn_val (by omega), e0, q3, h2.2]; rfl
 rw [recF_5 hnl hu hb (by rw [he]; exact h4), h3, he]
def txtD (d : GDisk) (i : Nat) : Str := lastW d.Cache i (d.Sectors.getD i [])
def takesR (top : Int) (k : Nat) (low : Int) (t : Str) : Bool := (l04F t).2 && (decide ((l04F t).1.Lsn = ((k + 1 : Nat) : Int)) && inR (l04F t).1.Epoch low top)
def logR (d : GDisk) (top : Int) : Nat → Nat → Int → List GLogRecord
 | 0, _, _ => []
 | f + 1, k, low => if takesR top k low (txtD d (9 + k)) = true then (l04F (txtD d (9 + k))).1 :: logR d top f (k + 1) (l04F (txtD d (9 + k))).1.Epoch else []
def logF (d : GDisk) (top : Int) : List GLogRecord := logR d top (d.Sectors.length - 9) 0 1
theorem logR_t {d : GDisk} {top low : Int} {f k : Nat} (h : takesR top k low (txtD d (9 + k)) = true) : logR d top (f + 1) k low = (l04F (txtD d (9 + k))).1 :: logR d top f (k + 1) (l04F (txtD d (9 + k))).1.Epoch := by rw [logR, if_pos h]
theorem logR_f {d : GDisk} {top low : Int} {f k : Nat} (h : takesR top k low (txtD d (9 + k)) = false) : logR d top f k low = [] := by
 cases f with
 | zero => rfl
 | succ f => rw [logR, if_neg (by rw [h]; simp)]
theorem takes_ok {top low : Int} {k : Nat} {t : Str} (h : takesR top k low t = true) : (l04F t).2 = true ∧ recOK (l04F t).1 = true ∧ (l04F t).1.Lsn = ((k + 1 : Nat) : Int) ∧ k < 60 ∧ low ≤ (l04F t).1.Epoch ∧ (l04F t).1.Epoch ≤ top := by
 unfold takesR at h
 rw [Bool.and_eq_true, Bool.and_eq_true, decide_eq_true_eq, inR_iff] at h
 obtain ⟨h1, h2, h3⟩ := h
 obtain ⟨_, _, q3, q4⟩ := l04_true h1
 rw [← q3] at q4
 have := rec_lsn q4
 exact ⟨h1, q4, h2, by omega, h3⟩
theorem rec_epoch {r : GLogRecord} (h : recOK r = true) : 1 ≤ r.Epoch ∧ r.Epoch ≤ 60 := by
 have h := (of_decide_eq_true h).1
 exact ⟨h.1, h.2.1⟩
def readF (d : GDisk) (top : Int) : List GLogRecord × Int := if diskOK d = false then ([], 1) else if inR top 0 60 = false then ([], 4) else (logF d top, 0)
theorem readF_1 {d : GDisk} {top : Int} (h : diskOK d = false) : readF d top = ([], 1) := by unfold readF; rw [if_pos h]
theorem readF_2 {d : GDisk} {top : Int} (h : diskOK d = true) (h1 : inR top 0 60 = false) : readF d top = ([], 4) := by unfold readF; rw [if_neg (by rw [h]; simp), if_pos h1]
theorem readF_3 {d : GDisk} {top : Int} (h : diskOK d = true) (h1 : inR top 0 60 = true) : readF d top = (logF d top, 0) := by unfold readF; rw [if_neg (by rw [h]; simp), if_neg (by rw [h1]; simp)]
theorem lastW_len {C : List GPending} {i : Int} {m : Nat} (hc : ∀ p ∈ C, p.Data.length ≤ m) : ∀ {t : Str}, t.length ≤ m → (lastW C i t).length ≤ m := by
 unfold lastW
 induction C with
 | nil => intro t h; exact h
 | cons p C ih =>
  intro t h
  rw [List.foldl_cons]
  refine ih (fun q hq => hc q (List.mem_cons_of_mem _ hq)) ?_
  split
  ·
   exact hc p (List.mem_cons_self ..)
  ·
   exact h
theorem diskOK_txt {d : GDisk} (h : diskOK d = true) (i : Nat) : (txtD d i).length ≤ 160 := by
 unfold diskOK at h
 rw [Bool.and_eq_true, Bool.and_eq_true, Bool.not_eq_true', Bool.not_eq_true', Bool.not_eq_true'] at h
 obtain ⟨_, h2, h3⟩ := h
 rw [List.any_eq_false] at h2 h3
 refine lastW_len (fun p hp => ?_) ?_
 ·
  have := h3 p hp
  unfold badAt at this
  simp at this; omega
 ·
  rcases Nat.lt_or_ge i d.Sectors.length with hi | hi
  ·
   have := h2 d.Sectors[i] (List.getElem_mem hi)
   unfold long160 at this
   simp at this
   simp [List.getD_eq_getElem?_getD, hi]; omega
  ·
   simp [List.getD_eq_getElem?_getD, hi]
theorem slcT_take {l : Str} {a : Int} {n : Nat} (h : a.toNat = n) : AV.d (.str ((l.drop (0 : Int).toNat).take (a.toNat - (0 : Int).toNat))) = .d (.str (l.take n)) := by subst h; simp
theorem slcT_drop {l : Str} {a : Int} {n : Nat} (h : a.toNat = n) : AV.d (.str ((l.drop a.toNat).take ((l.length : Int).toNat - a.toNat))) = .d (.str (l.drop n)) := by
 subst h; rw [List.take_of_length_le (by simp)]
theorem slcT_mid {l : Str} {a b : Int} {n m : Nat} (h : a.toNat = n) (h2 : b.toNat - n = m) : AV.d (.str ((l.drop a.toNat).take (b.toNat - a.toNat))) = .d (.str ((l.drop n).take m)) := by subst h; subst h2; rfl
theorem l01_bad {s : Str} (h : s = [] ∨ (100 : Int) < (getN s 0 : Nat)) : l01F s = ([], false) := by
 cases s with
 | nil => rfl
 | cons c r =>
  rw [l01_cons, if_pos]
  rcases h with h | h
  ·
   cases h
  ·
   have : getN (c :: r) 0 = c.toNat := rfl
   omega
theorem l01_go {s : Str} (h : ¬ s = [] ∧ ¬ (100 : Int) < (getN s 0 : Nat)) : loopR (getN s 0) (s.drop 1) [] = l01F s := by
 cases s with
 | nil => exact absurd rfl h.1
 | cons c r =>
  have e : getN (c :: r) 0 = c.toNat := rfl
  rw [l01_cons, if_neg (by omega), e]; rfl
theorem getN_lt {s : Str} {i : Nat} : getN s i < 256 := (s.getD i 0).toNat_lt
theorem loopR_bad {s : Str} {pos n : Nat} {l : List Str} (h : (s.length : Int) ≤ (pos : Int) ∨ (s.length : Int) < ((pos + 1 + getN s pos : Nat) : Int)) : loopR (n + 1) (s.drop pos) l = ([], false) := by
 rcases Nat.lt_or_ge pos s.length with hp | hp
 ·
  rw [List.drop_eq_getElem_cons hp, loopR, if_pos]
  rw [List.length_drop, ← getN_at hp]; omega
 ·
  rw [List.drop_of_length_le hp, loopR]
theorem loopR_go {s : Str} {pos n : Nat} {l : List Str} (hp : pos < s.length) (h : ¬ (s.length : Int) < ((pos + 1 + getN s pos : Nat) : Int)) : loopR (n + 1) (s.drop pos) l = loopR n (s.drop (pos + 1 + getN s pos)) (l ++ [(s.drop (pos + 1)).take (getN s pos)]) := by
 rw [List.drop_eq_getElem_cons hp, loopR, ← getN_at hp, if_neg (by rw [List.length_drop]; omega), List.drop_drop]
theorem loopR_0f {s : Str} {pos : Nat} {l : List Str} (hp : pos < s.length) : loopR 0 (s.drop pos) l = ([], false) := by
 rw [loopR, if_neg]
 intro h
 have := congrArg List.length h
 rw [List.length_drop] at this; simp at this; omega
theorem loopR_0t {s : Str} {pos : Nat} {l : List Str} (hp : s.length ≤ pos) : loopR 0 (s.drop pos) l = (l, true) := by
 rw [List.drop_of_length_le hp, loopR, if_pos rfl]
theorem getD_le {l : List Str} {m : Nat} (h : ∀ x ∈ l, x.length ≤ m) (k : Nat) : (l.getD k []).length ≤ m := by
 rw [List.getD_eq_getElem?_getD]
 rcases Nat.lt_or_ge k l.length with hk | hk
 ·
  simp only [List.getElem?_eq_getElem hk, Option.getD_some]; exact h _ (List.getElem_mem hk)
 ·
  simp [List.getElem?_eq_none hk]
theorem fld_mem : ∀ {n : Nat} {r : Rd} {l : List Str} {m : Nat}, r.rest.length ≤ m → 255 ≤ m → (∀ x ∈ l, x.length ≤ m) → ∀ x ∈ (fldL n r l).1, x.length ≤ m
 | 0, _, _, _, _, _, hl => hl
 | n + 1, r, l, m, hr, hm, hl => by
  rw [fldL]
  have h1 := @numF_lt r
  have h2 := @takeF_len (numF r).2 (numF r).1
  refine fld_mem (by omega) hm (fun x hx => ?_)
  rcases List.mem_append.1 hx with q | q
  ·
   exact hl x q
  ·
   rw [List.mem_singleton.1 q, h2.1]; omega
theorem fsI_mem {u : Str} {m : Nat} (h : u.length ≤ m) (hm : 255 ≤ m) : ∀ x ∈ (fsI u).1, x.length ≤ m := by
 have h1 := @Nn_len u 9
 have h2 := @numF_lt (Nn u 9)
 have e : (fsI u).1 = (fldL (numF (Nn u 9)).1 (numF (Nn u 9)).2 []).1 := by unfold fsI fieldsF; rfl
 rw [e]
 generalize Nn u 9 = r at h1 h2 ⊢
 exact fld_mem (by omega) hm (fun x hx => by cases hx)
theorem recI_a {u : Str} : (recI u).After = (fsI u).1.getD 1 [] := by simp only [recI]
theorem recI_After {u : Str} {m : Nat} (h : u.length ≤ m) (hm : 255 ≤ m) : (recI u).After.length ≤ m := by
 rw [recI_a]; exact getD_le (fsI_mem h hm) 1
theorem takesR_t {t : Str} {top low : Int} {k : Nat} (hl : t.length ≤ 65536) (h : ((recF t).2 = 0 ∧ (recF t).1.Lsn = ((k + 1 : Nat) : Int)) ∧ inR (recF t).1.Epoch low top = true) : takesR top k low t = true ∧ (recF t).1 = (l04F t).1 := by
 have h1 := (rec_same hl).1 h.1.1
 have h2 := rec_got hl h1
 rw [h2] at h
 refine ⟨?_, by rw [h2]⟩
 unfold takesR
 rw [h1, decide_eq_true h.1.2, h.2]; rfl
theorem takesR_f {t : Str} {top low : Int} {k : Nat} (hl : t.length ≤ 65536) (h : (¬ (recF t).2 = 0 ∨ ¬ (recF t).1.Lsn = ((k + 1 : Nat) : Int)) ∨ inR (recF t).1.Epoch low top = false) : takesR top k low t = false := by
 cases e : takesR top k low t with
 | false => rfl
 | true =>
  obtain ⟨h1, h2, h3, h4, h5, h6⟩ := takes_ok e
  have h7 := rec_got hl h1
  rw [h7] at h
  rcases h with (h | h) | h
  ·
   exact absurd rfl h
  ·
   exact absurd h3 h
  ·
   rw [inR_iff.2 ⟨h5, h6⟩] at h; cases h
theorem app_one {α : Type} {row : α → List D} {xs : List α} {y : α} : (xs.map row).take xs.length ++ [row y] = (xs ++ [y]).map row := by
 rw [List.take_of_length_le (by simp), List.map_append]; rfl
theorem Nn_next {u : Str} {i v : Nat} {r r' : Rd} (h : Nn u i = r) (e : numF r = (v, r')) (hl : r.rest.length ≤ 1048576) : Nn u (i + 1) = r' ∧ vN u i = (v : Int) ∧ r'.rest.length ≤ 1048576 := by
 subst h
 exact ⟨by rw [Nn, e], by unfold vN; rw [e], by have := (@numF_lt (Nn u i)).2; rw [e] at this; exact Nat.le_trans this hl⟩
theorem badI_of {u : Str} {v : Nat} {F : List Str} {r9 r10 : Rd} (h : Nn u 9 = r9) (e : fieldsF r9 = (F, r10)) (h0 : vN u 0 = (v : Int)) : badI u = ((!doneF r10 || !decide ((v : Int) = 108)) || !decide ((F.length : Int) = 2)) := by
 unfold badI fsI; rw [h, e, h0]
theorem recI_of {u : Str} {v1 v2 v3 v4 v5 v6 v7 v8 : Nat} {F : List Str} {r9 r10 : Rd} (h : Nn u 9 = r9) (e : fieldsF r9 = (F, r10)) (h1 : vN u 1 = (v1 : Int)) (h2 : vN u 2 = (v2 : Int)) (h3 : vN u 3 = (v3 : Int)) (h4 : vN u 4 = (v4 : Int)) (h5 : vN u 5 = (v5 : Int)) (h6 : vN u 6 = (v6 : Int)) (h7 : vN u 7 = (v7 : Int)) (h8 : vN u 8 = (v8 : Int)) :
  recI u = ⟨v1, v2, v3, v4, v5, v6, v7, v8, F.getD 0 [], F.getD 1 []⟩ := by
 unfold recI fsI; rw [h, e, h1, h2, h3, h4, h5, h6, h7, h8]
end Go.AM

namespace Go.AM
/-- The reference's reading of a page. -/
def pgR (u : Str) : Page := ⟨bigN ((u.drop 2).take 2), (l01F (u.drop 4)).1⟩
def bad3 (no : Int) (t : Str) : Bool := ((!(unsealF t).2 || decide (((unsealF t).1.length : Int) < 5)) || !decide ((getN (unsealF t).1 0 : Int) = 112)) || !decide ((getN (unsealF t).1 1 : Int) = no)
def l3F (no : Int) (t : Str) : Page × Bool := if bad3 no t = true then (.zero, false) else (pgR (unsealF t).1, (l01F ((unsealF t).1.drop 4)).2 && pageOK (pgR (unsealF t).1))
theorem l3F_1 {no : Int} {t : Str} (h : bad3 no t = true) : l3F no t = (.zero, false) := by unfold l3F; rw [if_pos h]
theorem l3F_2 {no : Int} {t : Str} (h : bad3 no t = false) : l3F no t = (pgR (unsealF t).1, (l01F ((unsealF t).1.drop 4)).2 && pageOK (pgR (unsealF t).1)) := by unfold l3F; rw [if_neg (by rw [h]; simp)]
theorem flds_le {s : Str} (h : (fieldsF ⟨s, false⟩).1.length ≤ 100 ∨ (l01F s).2 = true) :
  (doneF (fieldsF ⟨s, false⟩).2 = (l01F s).2) ∧ (doneF (fieldsF ⟨s, false⟩).2 = true → (fieldsF ⟨s, false⟩).1 = (l01F s).1) := by
 cases s with
 | nil =>
  have e : doneF (fieldsF ⟨[], false⟩).2 = false := done_fail (fld_fail (by rw [num_nil]))
  rw [e]; exact ⟨rfl, fun h => (by cases h)⟩
 | cons c r =>
  have hf : fieldsF ⟨c :: r, false⟩ = fldL c.toNat ⟨r, false⟩ [] := by unfold fieldsF; rw [numF_cons]
  rw [hf] at h ⊢
  have hc : ¬ 100 < c.toNat := by
   rcases h with h | h
   ·
    rw [fldL_len.1] at h; simp at h; omega
   ·
    intro hh
    rw [l01_cons, if_pos hh] at h; cases h
  have e : l01F (c :: r) = loopR c.toNat r [] := by rw [l01_cons, if_neg hc]
  rw [e, loop_fld]
  cases hd : doneF (fldL c.toNat ⟨r, false⟩ []).2 with
  | true => rw [if_pos rfl]; exact ⟨rfl, fun _ => rfl⟩
  | false => rw [if_neg (by simp)]; exact ⟨rfl, fun h => (by cases h)⟩
theorem pageOK_4 {p : Page} (h : pageOK p = true) : p.slots.length = 4 := by
 unfold pageOK at h
 rw [Bool.and_eq_true, Bool.and_eq_true, decide_eq_true_eq] at h
 exact h.1.2
theorem pg_same {no : Int} {t : Str} (hl : t.length ≤ 65536) : ((rpF no t).2 = 0 ↔ (l3F no t).2 = true) ∧ ((l3F no t).2 = true → (rpF no t).1 = (l3F no t).1) := by
 by_cases hu : (unsealF t).2 = true
 ·
  obtain ⟨u, eu⟩ : ∃ u, (unsealF t).1 = u := ⟨_, rfl⟩
  by_cases h5 : u.length < 5
  ·
   -- too short: the fields fail
   have hb : bad3 no t = true := by
    unfold bad3; rw [eu, show decide ((u.length : Int) < 5) = true from decide_eq_true (by omega), Bool.or_true, Bool.true_or, Bool.true_or]
   have hf : (rdE u).fail = true := by
    unfold rdE
    by_cases h4 : u.length < 4
    ·
     rw [takeF_1 (by simp only; omega)]; exact flds_fail rfl
    ·
     rw [takeF_2 (by simp only; omega)]
     have e0 : u.drop 4 = [] := List.drop_eq_nil_of_le (by omega)
     simp only [e0]
     unfold fieldsF; rw [num_nil]; exact fld_fail rfl
   have hp : badP no u = true := by unfold badP; rw [done_fail hf]; rfl
   have e1 : rpF no t = (.zero, 3) := rpF_3 (by omega) hu (by rw [eu]; exact hp)
   rw [e1, l3F_1 hb]
   exact ⟨⟨fun h => (by cases h), fun h => (by cases h)⟩, fun h => by cases h⟩
  ·
   have et : takeF ⟨u, false⟩ 4 = (u.take 4, ⟨u.drop 4, false⟩) := takeF_2 (by simp only; omega)
   have eh : hdF u = u.take 4 := by unfold hdF; rw [et]
   have g0 : (((hdF u).getD 0 0).toNat : Int) = getN u 0 := by rw [eh]; unfold getN; simp [List.getD_eq_getElem?_getD, List.getElem?_take]
   have g1 : (((hdF u).getD 1 0).toNat : Int) = getN u 1 := by rw [eh]; unfold getN; simp [List.getD_eq_getElem?_getD, List.getElem?_take]
   have gd : (hdF u).drop 2 = (u.drop 2).take 2 := by rw [eh, List.drop_take]
   have e9 : (fieldsF (takeF ⟨u, false⟩ 4).2) = fieldsF ⟨u.drop 4, false⟩ := by rw [et]
   have hbad : bad3 no t = (!decide ((getN u 0 : Int) = 112) || !decide ((getN u 1 : Int) = no)) := by
    unfold bad3; rw [eu, hu, show decide ((u.length : Int) < 5) = false from decide_eq_false (by omega)]; simp
   have hbp : badP no u = (((!doneF (fieldsF ⟨u.drop 4, false⟩).2 || !decide ((getN u 0 : Int) = 112)) || !decide ((getN u 1 : Int) = no)) || !pageOK (rdP u)) := by
    unfold badP rdE; rw [e9, g0, g1]
   have hrd : rdP u = ⟨bigN ((u.drop 2).take 2), (fieldsF ⟨u.drop 4, false⟩).1⟩ := by unfold rdP; rw [e9, gd]
   by_cases hh : bad3 no t = true
   ·
    have hp : badP no u = true := by
     rw [hbad] at hh; rw [hbp]
     rw [Bool.or_eq_true] at hh
     rcases hh with hh | hh <;> rw [hh] <;> simp
    rw [rpF_3 (by omega) hu (by rw [eu]; exact hp), l3F_1 hh]
    exact ⟨⟨fun h => (by cases h), fun h => (by cases h)⟩, fun h => by cases h⟩
   ·
    have hh : bad3 no t = false := by simpa using hh
    have hh2 := hh; rw [hbad, Bool.or_eq_false_iff] at hh2
    have hbp2 : badP no u = (!doneF (fieldsF ⟨u.drop 4, false⟩).2 || !pageOK (rdP u)) := by rw [hbp, hh2.1, hh2.2]; simp
    rw [l3F_2 hh, eu]
    have key : badP no u = false ↔ ((l01F (u.drop 4)).2 && pageOK (pgR u)) = true := by
     rw [hbp2, Bool.or_eq_false_iff, Bool.not_eq_false', Bool.not_eq_false', Bool.and_eq_true]
     constructor
     ·
      rintro ⟨a, b⟩
      have h4 := pageOK_4 b
      rw [hrd] at h4
      obtain ⟨p1, p2⟩ := flds_le (s := u.drop 4) (.inl (by simp only at h4; omega))
      rw [← p1]
      refine ⟨a, ?_⟩
      rw [hrd, p2 a] at b; exact b
     ·
      rintro ⟨a, b⟩
      obtain ⟨p1, p2⟩ := flds_le (s := u.drop 4) (.inr a)
      rw [p1]
      refine ⟨a, ?_⟩
      rw [hrd, p2 (by rw [p1]; exact a)]; exact b
    cases hq : badP no u with
    | true =>
     rw [rpF_3 (by omega) hu (by rw [eu]; exact hq)]
     have : ¬ ((l01F (u.drop 4)).2 && pageOK (pgR u)) = true := fun h => by rw [key.2 h] at hq; cases hq
     exact ⟨⟨fun h => (by cases h), fun h => absurd h this⟩, fun h => absurd h this⟩
    | false =>
     rw [rpF_4 (by omega) hu (by rw [eu]; exact hq), eu]
     have hk := key.1 hq
     refine ⟨⟨fun _ => hk, fun _ => rfl⟩, fun _ => ?_⟩
     rw [Bool.and_eq_true] at hk
     obtain ⟨p1, p2⟩ := flds_le (s := u.drop 4) (.inr hk.1)
     show rdP u = pgR u
     rw [hrd, p2 (by rw [p1]; exact hk.1)]; rfl
 ·
  have hu : (unsealF t).2 = false := by simpa using hu
  have hb : bad3 no t = true := by unfold bad3; rw [hu]; rfl
  rw [rpF_2 (by omega) hu, l3F_1 hb]
  exact ⟨⟨fun h => (by cases h), fun h => (by cases h)⟩, fun h => by cases h⟩
/-- What a disk tells of a page, and whether it is right. -/
def pageT (no : Nat) (t : Str) : Page × Bool := if t = [] then (⟨0, List.replicate 4 []⟩, true) else (l3F no t)
def pageD (d : GDisk) (no : Nat) : Page × Bool := pageT no (txtD d (1 + no))
theorem pageT_0 {no : Nat} {t : Str} (h : t = []) : pageT no t = (⟨0, List.replicate 4 []⟩, true) := by unfold pageT; rw [if_pos h]
theorem pageT_1 {no : Nat} {t : Str} (h : ¬ t = []) : pageT no t = l3F no t := by unfold pageT; rw [if_neg h]
end Go.AM

namespace Go.AM
set_option linter.unusedVariables false
structure GFrame where
 No : Int
 Page : Page
 Dirty : Bool
 First : Int
def GFrame.av (x : GFrame) : AV := .agg [.d (.int .i64 x.No), .d (.int .i64 x.Page.lsn), .d (.sl 1 (x.Page.slots.map strRow)), .d (.bool x.Dirty), .d (.int .i64 x.First)]
def GFrame.row (x : GFrame) : List D := [.int .i64 x.No, .int .i64 x.Page.lsn, .sl 1 (x.Page.slots.map strRow), .bool x.Dirty, .int .i64 x.First]
def GFrame.zero : GFrame := ⟨0, Page.zero, false, 0⟩
structure GStore where
 Disk : GDisk
 Epoch : Int
 Log : List GLogRecord
 Sure : Int
 Frames : List GFrame
 Hand : Int
def GStore.av (x : GStore) : AV := .agg [.d (.sl 1 (x.Disk.Sectors.map strRow)), .d (.sl 2 (x.Disk.Cache.map GPending.row)), .d (.bool x.Disk.Armed), .d (.sl 1 (x.Disk.Keep.map intRow)), .d (.int .i64 x.Epoch), .d (.sl 10 (x.Log.map GLogRecord.row)), .d (.int .i64 x.Sure), .d (.sl 5 (x.Frames.map GFrame.row)), .d (.int .i64 x.Hand)]
def GStore.row (x : GStore) : List D := [.sl 1 (x.Disk.Sectors.map strRow), .sl 2 (x.Disk.Cache.map GPending.row), .bool x.Disk.Armed, .sl 1 (x.Disk.Keep.map intRow), .int .i64 x.Epoch, .sl 10 (x.Log.map GLogRecord.row), .int .i64 x.Sure, .sl 5 (x.Frames.map GFrame.row), .int .i64 x.Hand]
def GStore.zero : GStore := ⟨GDisk.zero, 0, [], 0, [], 0⟩
structure GEngine where
 Store : GStore
 Up : Bool
 Txs : List GTx
 Locks : GLocks
 Next : Int
def GEngine.zero : GEngine := ⟨GStore.zero, false, [], GLocks.zero, 0⟩
structure GWorld where
 Engine : GEngine
 Sessions : List Int
 Open : List GChange
 Done : List GChange
 Doubt : List GChange
 Lost : Bool
def GWorld.zero : GWorld := ⟨GEngine.zero, [], [], [], [], false⟩
end Go.AM

namespace Go.AM
def epochsOK (top : Int) : Int → List GLogRecord → Bool
 | _, [] => true
 | low, r :: l => inR r.Epoch low top && epochsOK top r.Epoch l
theorem epochs_end {top low : Int} {l : List GLogRecord} : epochsOK top low (l.drop l.length) = true := by rw [List.drop_length]; rfl
theorem epochs_step {top low : Int} {l : List GLogRecord} {k : Nat} (h : k < l.length) : epochsOK top low (l.drop k) = (inR l[k].Epoch low top && epochsOK top l[k].Epoch (l.drop (k + 1))) := by
 rw [List.drop_eq_getElem_cons h]; rfl
/-- The least epoch of the record at a place. -/
def lowAt (l : List GLogRecord) (k : Nat) : Int := if k = 0 then 1 else (l.getD (k - 1) .zero).Epoch
theorem lowAt_s {l : List GLogRecord} {k : Nat} (h : k < l.length) : lowAt l (k + 1) = l[k].Epoch := by
 unfold lowAt; rw [if_neg (Nat.succ_ne_zero k)]; simp [List.getD_eq_getElem?_getD, h]
def pageBad (s : GStore) (no : Nat) : Bool := !(pageD s.Disk no).2 || decide (s.Sure < (pageD s.Disk no).1.lsn)
def pagesOK (s : GStore) : Bool := (List.range 8).all (fun no => !pageBad s no)
theorem pagesOK_no {s : GStore} {k : Nat} (hk : k < 8) (h : pageBad s k = true) : pagesOK s = false := by
 unfold pagesOK
 rw [List.all_eq_false]
 exact ⟨k, List.mem_range.2 hk, by rw [h]; simp⟩
theorem pagesOK_all {s : GStore} (h : ∀ k, k < 8 → pageBad s k = false) : pagesOK s = true := by
 unfold pagesOK
 rw [List.all_eq_true]
 exact fun k hk => by rw [h k (List.mem_range.1 hk)]; rfl
def frameAt (s : GStore) (no : Int) : Int := idxOf (fun f => decide (f.No = no)) s.Frames 0
def frameBad (s : GStore) (i : Nat) (f : GFrame) : Bool :=
 ((((!inR f.No 0 (8 - 1) || !decide (frameAt s f.No = (i : Int))) || !pageOK f.Page) || decide ((s.Log.length : Int) < f.Page.lsn)) || !inR f.First 0 s.Log.length) || (decide (0 < f.First) != f.Dirty)
def frameBad2 (s : GStore) (i : Nat) (f : GFrame) : Bool :=
 ((((!inR f.No 0 7 || !pageOK f.Page) || decide ((s.Log.length : Int) < f.Page.lsn)) || !inR f.First 0 s.Log.length) || (f.Dirty != decide (0 < f.First))) || !decide (frameAt s f.No = (i : Int))
theorem frameBad_eq {s : GStore} {i : Nat} {f : GFrame} : frameBad2 s i f = frameBad s i f := by
 unfold frameBad frameBad2
 rw [show ((8 : Int) - 1) = 7 from rfl]
 generalize inR f.No 0 7 = a; generalize decide (frameAt s f.No = (i : Int)) = b; generalize pageOK f.Page = c; generalize decide ((s.Log.length : Int) < f.Page.lsn) = d; generalize inR f.First 0 s.Log.length = e
 generalize decide (0 < f.First) = g; generalize f.Dirty = h
 cases a <;> cases b <;> cases c <;> cases d <;> cases e <;> cases g <;> cases h <;> rfl
def framesOK (s : GStore) : Bool := (List.range s.Frames.length).all (fun i => !frameBad s i (s.Frames.getD i .zero))
theorem frames_no {s : GStore} {k : Nat} (hk : k < s.Frames.length) (h : frameBad s k s.Frames[k] = true) : framesOK s = false := by
 unfold framesOK
 rw [List.all_eq_false]
 refine ⟨k, List.mem_range.2 hk, ?_⟩
 rw [show s.Frames.getD k .zero = s.Frames[k] from by simp [List.getD_eq_getElem?_getD, hk], h]; simp
theorem frames_all {s : GStore} (h : ∀ k (hk : k < s.Frames.length), frameBad s k s.Frames[k] = false) : framesOK s = true := by
 unfold framesOK
 rw [List.all_eq_true]
 intro k hk
 have hk := List.mem_range.1 hk
 rw [show s.Frames.getD k .zero = s.Frames[k] from by simp [List.getD_eq_getElem?_getD, hk], h k hk]; rfl
def badHd (s : GStore) : Bool := ((((!diskOK s.Disk || !decide ((s.Disk.Sectors.length : Int) = 69)) || !inR s.Epoch 1 60) || decide ((60 : Int) < (s.Log.length : Int))) || !goodA s.Log) || !inR s.Sure 0 s.Log.length
def badHd2 (s : GStore) : Bool := (((((!diskOK s.Disk || !decide ((s.Disk.Sectors.length : Int) = 69)) || !inR s.Epoch 1 60) || decide ((60 : Int) < (s.Log.length : Int))) || !inR s.Sure 0 s.Log.length) || decide ((3 : Int) < (s.Frames.length : Int))) || !inR s.Hand 0 2
def storeOK (s : GStore) : Bool := !badHd s && (epochsOK s.Epoch 1 s.Log && (pagesOK s && ((framesOK s && decide ((s.Frames.length : Int) ≤ 3)) && inR s.Hand 0 (3 - 1))))
structure StB (s : GStore) : Prop where
 se : s.Disk.Sectors.length ≤ 1048576
 ca : s.Disk.Cache.length ≤ 1048576
 ke : s.Disk.Keep.length ≤ 1048576
 lo : s.Log.length ≤ 1048576
 af : ∀ i (h : i < s.Log.length), s.Log[i].After.length ≤ 1048576
 fr : s.Frames.length ≤ 1048576
 sl : ∀ f ∈ s.Frames, f.Page.slots.length ≤ 1048576
 sw : ∀ f ∈ s.Frames, wfStrs f.Page.slots
theorem loopR_f : ∀ {n : Nat} {r : Str} {l : List Str}, (loopR n r l).2 = false → (loopR n r l).1 = []
 | n, r, l, h => by
  rw [loop_fld] at h ⊢
  split at h
  ·
   cases h
  ·
   rename_i e; rw [if_neg e]
theorem l01_255 {s : Str} : (l01F s).1.length ≤ 255 := by
 cases hq : (l01F s).2 with
 | true => rw [l01_len hq]; have := @getN_lt s 0; omega
 | false =>
  cases s with
  | nil => simp [l01F]
  | cons c r =>
   rw [l01_cons] at hq ⊢
   split at hq
   ·
    rename_i e; rw [if_pos e]; simp
   ·
    rename_i e; rw [if_neg e, loopR_f hq]; simp
structure HdOK (s : GStore) : Prop where
 di : diskOK s.Disk = true
 se : s.Disk.Sectors.length = 69
 ep : 1 ≤ s.Epoch ∧ s.Epoch ≤ 60
 lo : s.Log.length ≤ 60
 su : 0 ≤ s.Sure ∧ s.Sure ≤ s.Log.length
theorem hd_of {s : GStore} (h : badHd s = false) : HdOK s ∧ goodA s.Log = true := by
 unfold badHd at h
 simp only [Bool.or_eq_false_iff, Bool.not_eq_false', decide_eq_true_eq, decide_eq_false_iff_not] at h
 obtain ⟨⟨⟨⟨⟨h1, h2⟩, h3⟩, h4⟩, h5⟩, h6⟩ := h
 exact ⟨⟨h1, by omega, inR_iff.1 h3, by omega, inR_iff.1 h6⟩, h5⟩
theorem hd2_of {s : GStore} (h : badHd2 s = false) : HdOK s ∧ s.Frames.length ≤ 3 ∧ 0 ≤ s.Hand ∧ s.Hand ≤ 2 := by
 unfold badHd2 at h
 simp only [Bool.or_eq_false_iff, Bool.not_eq_false', decide_eq_true_eq, decide_eq_false_iff_not] at h
 obtain ⟨⟨⟨⟨⟨⟨h1, h2⟩, h3⟩, h4⟩, h5⟩, h6⟩, h7⟩ := h
 exact ⟨⟨h1, by omega, inR_iff.1 h3, by omega, inR_iff.1 h5⟩, by omega, inR_iff.1 h7⟩
theorem storeOK_0 {s : GStore} (h : badHd s = true) : storeOK s = false := by unfold storeOK; rw [h]; rfl
theorem storeOK_e {s : GStore} (h : epochsOK s.Epoch 1 s.Log = false) : storeOK s = false := by unfold storeOK; rw [h]; simp
theorem storeOK_p {s : GStore} (h : pagesOK s = false) : storeOK s = false := by unfold storeOK; rw [h]; simp
theorem storeOK_f {s : GStore} (h : framesOK s = false) : storeOK s = false := by unfold storeOK; rw [h]; simp
theorem storeOK_t {s : GStore} (h : badHd s = false) (h1 : epochsOK s.Epoch 1 s.Log = true) (h2 : pagesOK s = true) : storeOK s = ((framesOK s && decide ((s.Frames.length : Int) ≤ 3)) && inR s.Hand 0 (3 - 1)) := by
 unfold storeOK; rw [h, h1, h2]; simp
theorem storeOK_h2 {s : GStore} (h : badHd2 s = true) : storeOK s = false := by
 cases hq : storeOK s with
 | false => rfl
 | true =>
  exfalso
  unfold storeOK at hq
  simp only [Bool.and_eq_true, Bool.not_eq_true', decide_eq_true_eq] at hq
  obtain ⟨q0, _, _, ⟨_, q3⟩, q4⟩ := hq
  obtain ⟨H, _⟩ := hd_of q0
  unfold badHd2 at h
  rw [H.di, inR_iff.2 H.ep, inR_iff.2 H.su, show inR s.Hand 0 2 = true from q4, decide_eq_true (show (s.Disk.Sectors.length : Int) = 69 by have := H.se; omega), decide_eq_false (show ¬ (60 : Int) < (s.Log.length : Int) by have := H.lo; omega),
   decide_eq_false (show ¬ (3 : Int) < (s.Frames.length : Int) by omega)] at h
  cases h
theorem badHd_f {s : GStore} (H : HdOK s) (hg : goodA s.Log = true) : badHd s = false := by
 unfold badHd
 rw [H.di, inR_iff.2 H.ep, inR_iff.2 H.su, hg, decide_eq_true (show (s.Disk.Sectors.length : Int) = 69 by have := H.se; omega), decide_eq_false (show ¬ (60 : Int) < (s.Log.length : Int) by have := H.lo; omega)]; rfl
theorem badHd_g {s : GStore} (hg : goodA s.Log = false) : badHd s = true := by
 unfold badHd; rw [hg]; simp
/-- What the reference looks at of a record. -/
def rec2Bad (s : GStore) (k : Nat) (r : GLogRecord) (prev : Int) : Bool := ((!recOK r || !decide (r.Lsn = ((k + 1 : Nat) : Int))) || decide (s.Epoch < r.Epoch)) || (decide ((0 : Int) < (k : Int)) && decide (r.Epoch < prev))
theorem pageBad_eq {s : GStore} {k : Nat} {ok : Bool} {p : Page} (hok : ok = (pageD s.Disk k).2) (hpp : ok = true → p = (pageD s.Disk k).1) : (!ok || decide (s.Sure < p.lsn)) = pageBad s k := by
 unfold pageBad
 cases ok with
 | false => rw [← hok]; rfl
 | true => rw [← hok, hpp rfl]
theorem rec2_f {s : GStore} {k : Nat} (hk : k < s.Log.length) (h : rec2Bad s k s.Log[k] (s.Log.getD (k - 1) .zero).Epoch = false) :
  recOK s.Log[k] = true ∧ s.Log[k].Lsn = ((k + 1 : Nat) : Int) ∧ inR s.Log[k].Epoch (lowAt s.Log k) s.Epoch = true := by
 unfold rec2Bad at h
 simp only [Bool.or_eq_false_iff, Bool.not_eq_false', decide_eq_true_eq, decide_eq_false_iff_not, Bool.and_eq_false_iff] at h
 obtain ⟨⟨⟨h1, h2⟩, h3⟩, h4⟩ := h
 refine ⟨h1, h2, inR_iff.2 ⟨?_, by omega⟩⟩
 unfold lowAt
 split
 ·
  exact (rec_epoch h1).1
 ·
  rcases h4 with h4 | h4 <;> omega
theorem rec2_t {s : GStore} {k : Nat} (hk : k < s.Log.length) (he : epochsOK s.Epoch 1 s.Log = epochsOK s.Epoch (lowAt s.Log k) (s.Log.drop k)) (h : rec2Bad s k s.Log[k] (s.Log.getD (k - 1) .zero).Epoch = true) : storeOK s = false := by
 have bad : goodA s.Log = false → storeOK s = false := fun hg => storeOK_0 (badHd_g hg)
 by_cases h1 : recOK s.Log[k] = true
 ·
  by_cases h2 : s.Log[k].Lsn = ((k + 1 : Nat) : Int)
  ·
   refine storeOK_e ?_
   rw [he, epochs_step hk]
   have : inR s.Log[k].Epoch (lowAt s.Log k) s.Epoch = false := by
    unfold rec2Bad at h
    rw [h1, decide_eq_true h2] at h
    simp only [Bool.not_true, Bool.false_or, Bool.or_eq_true, Bool.and_eq_true, decide_eq_true_eq] at h
    cases hq : inR s.Log[k].Epoch (lowAt s.Log k) s.Epoch with
    | false => rfl
    | true =>
     have hq := inR_iff.1 hq
     unfold lowAt at hq
     split at hq <;> omega
   rw [this, Bool.false_and]
  ·
   exact bad (goodA_no hk (fun hh => h2 hh.2))
 ·
  exact bad (goodA_no hk (fun hh => h1 hh.1))
end Go.AM

namespace Go.AM
section
variable {C : Cx} {st : St}
end
theorem q_idx1 {C : Cx} {st : St} {n : Nat} {x i : XA} {cs : List AV} {k : IntKind} {j : Int} {v : AV} (hx : evA st.sl x = some (.agg cs)) (hi : evA st.sl i = some (.d (.int k j))) (h0 : 0 ≤ j ∧ j < n) (hv : cs[j.toNat]? = some v) :
  QStep C st (.idx1 n x i) v := by
 intro op hf ac w β S
 simp only [fits] at hf
 split at hf
 ·
  rename_i t y z ho
  simp only [Bool.and_eq_true] at hf
  obtain ⟨⟨h1, h2⟩, h3⟩ := hf
  have h4 := AR_of_fitA S h2 hx
  have h5 := AR_of_fitA S h3 hi
  rw [AR] at h4
  rw [AR, DR] at h5
  obtain ⟨vs, h4, h6⟩ := h4
  obtain ⟨u, h8, h9⟩ := AL_get h6 j.toNat v hv
  refine ⟨u, h9, fun w' _ => ?_⟩
  split at h1
  ·
   rename_i m e hu
   simp only [Bool.and_eq_true] at h1
   have h7 := Nat.eq_of_beq_eq_true h1.1.1
   subst h7
   simp only [Array.getElem?_toList] at h8
   simp [execOp, ho, h4, h5, Instr.index, asIntOf, run_underlying hu, h0, part, isOne_run h1.2, szIs_some h1.1.2, h8]
  ·
   cases h1
 ·
  cases hf
end Go.AM

namespace Go.AM
/-- What may be turned ahead of the operation 'i'. -/
def NI (deps : List (List Nat)) (i : Nat) : List (Nat × HK) → List Nat
 | [] => []
 | (k, hk) :: r => bif depOf deps k i then NI deps i r else hk.map Prod.fst ++ NI deps i r
theorem get_notin {h : HK} {e : Nat} (he : e ∉ h.map Prod.fst) : get h e = none := by
 cases hg : get h e with
 | none => rfl
 | some o => exact absurd (get_mem_fst hg) he
theorem NI_none {deps : List (List Nat)} {i : Nat} {L : Nat → Bool} (hLi : L i = false) (hcl : ∀ j m, L j = true → depOf deps j m = true → L m = true) {e : Nat} : ∀ {ks : List (Nat × HK)} {h : HK}, e ∉ NI deps i ks → get h e = none → get (curM ks L h) e = none
 | [], _, _, hh => hh
 | (k, hk) :: r, h, hn, hh => by
  rw [curM]
  cases hL : L k with
  | false => exact hh
  | true =>
   have hd : depOf deps k i = false := by
    cases hd : depOf deps k i with
    | false => rfl
    | true => have := hcl k i hL hd; rw [hLi] at this; cases this
   rw [NI, hd, cond_false, List.mem_append, not_or] at hn
   exact NI_none hLi hcl hn.2 (get_notin hn.1)
def StepM2 (C : Cx) (deps : List (List Nat)) (ks : List (Nat × HK)) (N : List Nat) (i : Nat) (slv : List (Nat × AV)) (ownv : List (Nat × OB)) (ts : List Nat) (x : XI) (dl : Dl) : Prop :=
 (∃ hp hn, prevM ks i [] = some (hp, hn) ∧ subM hp hn = true ∧ dl.h = [] ∧ LocL C (fun _ => false) (fun _ => true) [] slv (hp ++ ownv) x dl.d dl.r hn) ∨
 (prevM ks i [] = none ∧ (dl.h.map Prod.fst).all (fun n => !memb n N) = true ∧ ∃ slm, keepK ts slv = some slm ∧ Loc C slm (outO (NI deps i ks) ownv) x dl)
def AXM2 (C : Cx) (deps : List (List Nat)) (ks : List (Nat × HK)) (N : List Nat) (sl : List (Nat × AV)) (own : List (Nat × OB)) : Nat → List Dl → List XI → List (List Nat) → List (List Nat) → (List Dl → Prop) → Prop
 | _, racc, [], _, _, K => K racc.reverse
 | i, racc, x :: xs, ds :: dss, ts :: tss, K => ∃ dl, StepM2 C deps ks N i (pickSR ds i racc ++ sl) (pickHR ds i racc ++ own) ts x dl ∧ AXM2 C deps ks N sl own (i + 1) (dl :: racc) xs dss tss K
 | _, _, _, _, _, _ => False
theorem axm2_out {C : Cx} {deps : List (List Nat)} {ks : List (Nat × HK)} {N : List Nat} {sl : List (Nat × AV)} {own : List (Nat × OB)} {K : List Dl → Prop} : ∀ {xs : List XI} {dss tss : List (List Nat)} {i : Nat} {racc : List Dl}, i = racc.length → AXM2 C deps ks N sl own i racc xs dss tss K →
  ∃ more, K (racc.reverse ++ more) ∧ more.length = xs.length ∧ ∀ j x, xs[j]? = some x → ∃ dl ds ts slv ownv, more[j]? = some dl ∧ dss[j]? = some ds ∧ StepM2 C deps ks N (i + j) slv ownv ts x dl ∧
   (∀ t y, get slv t = some y → (∃ m z, (racc.reverse ++ more)[m]? = some z ∧ membN m ds = true ∧ z.d = t ∧ z.r = y) ∨ get sl t = some y) ∧
   (∀ e ob, get ownv e = some ob → (∃ m z, (racc.reverse ++ more)[m]? = some z ∧ membN m ds = true ∧ get z.h e = some ob) ∨ get own e = some ob)
 | [], dss, tss, i, racc, _, h => ⟨[], by rw [List.append_nil]; simpa [AXM2] using h, rfl, fun j x hx => by simp at hx⟩
 | y :: ys, ds :: dss, ts :: tss, i, racc, hi, h => by
  obtain ⟨dl, h1, h2⟩ := h
  obtain ⟨more, h3, h4, h5⟩ := axm2_out (by simp [hi]) h2
  have e : (dl :: racc).reverse ++ more = racc.reverse ++ dl :: more := by simp
  rw [e] at h3 h5
  refine ⟨dl :: more, h3, by simp [h4], fun j x hx => ?_⟩
  have left : ∀ (m : Nat) (z : Dl), racc.reverse[m]? = some z → (racc.reverse ++ dl :: more)[m]? = some z := fun m z hm => by
   rw [List.getElem?_append_left]
   ·
    exact hm
   ·
    rcases Nat.lt_or_ge m racc.reverse.length with h | h
    ·
     exact h
    ·
     rw [List.getElem?_eq_none h] at hm; cases hm
  cases j with
  | zero =>
   simp only [List.getElem?_cons_zero, Option.some.injEq] at hx
   subst hx
   refine ⟨dl, ds, ts, _, _, rfl, rfl, h1, fun t y hy => ?_, fun e ob he => ?_⟩
   ·
    rcases pickSR_of hi hy with ⟨m, z, h6, h7⟩ | h6
    ·
     exact .inl ⟨m, z, left m z h6, h7⟩
    ·
     exact .inr h6
   ·
    rcases pickHR_of hi he with ⟨m, z, h6, h7⟩ | h6
    ·
     exact .inl ⟨m, z, left m z h6, h7⟩
    ·
     exact .inr h6
  | succ j =>
   obtain ⟨d', ds', ts', sv, ov, h6, h7, h8, h9, h10⟩ := h5 j x (by simpa using hx)
   rw [show i + 1 + j = i + (j + 1) from by omega] at h8
   exact ⟨d', ds', ts', sv, ov, by simpa using h6, by simpa using h7, h8, h9, h10⟩
 | _ :: _, [], _, _, _, _, h => h.elim
 | _ :: _, _ :: _, [], _, _, _, h => h.elim
theorem cx_drawM2 {C : Cx} {Kn Kr : Kont} {Ke : List (Nat × Kont)} {deps : List (List Nat)} {hd tl : List XI} {sl : List (Nat × AV)} {own : List (Nat × OB)} (ks : List (Nat × HK)) (N : List Nat) (tss : List (List Nat))
  (h : AXM2 C deps ks N sl own 0 [] hd deps tss (fun acc => accM deps ks N hd.length sl own acc = true ∧ AXI C false [] tl (stM ks sl own acc (fun _ => true)) Kn)) : AX C (.drawE deps hd tl) ⟨sl, own⟩ Kn Ke Kr := by
 obtain ⟨acc, ⟨g1, gt⟩, g3, g4⟩ := axm2_out (racc := []) (i := 0) rfl h
 simp only [List.reverse_nil, List.nil_append, Nat.zero_add] at g1 gt g4
 unfold accM at g1
 simp only [Bool.and_eq_true] at g1
 obtain ⟨⟨⟨⟨⟨⟨⟨⟨⟨a1, a2⟩, a3⟩, a4⟩, a5⟩, a6⟩, b1⟩, b2⟩, b3⟩, b4⟩ := g1
 refine cx_drawG (stM ks sl own acc) (fun L L' hLL => ?_) ?_ ?_ gt
 ·
  unfold stM
  rw [curM_congr hLL b3, pickS_congr (i := 0) (L := L) (L' := L') (fun j hj => by rw [Nat.zero_add]; exact hLL j (by omega)), pickH_congr (i := 0) (L := L) (L' := L') (fun j hj => by rw [Nat.zero_add]; exact hLL j (by omega))]
 ·
  have : stM ks sl own acc (fun _ => false) = ⟨sl, own⟩ := by
   unfold stM; rw [pickS_none, pickH_none]
   cases ks <;> rfl
  rw [this]; exact fun _ _ S => S
 ·
  intro i x hx L hLi hdep hcl
  obtain ⟨dl, ds, ts, slv, ownv, hdl, hds, hstep, hv1, hv2⟩ := g4 i x hx
  have hmd : ∀ m, membN m ds = depOf deps i m := fun m => by unfold depOf; rw [hds]
  have hvS : ∀ t y, get slv t = some y → get (pickS L 0 acc ++ sl) t = some y := fun t y hy => pickS_mk a1 a2 (by
   rcases hv1 t y hy with ⟨j, z, q1, q2, q3, q4⟩ | q0
   ·
    rw [hmd] at q2
    exact .inl ⟨j, z, q1, by rw [Nat.zero_add]; exact hdep j q2, q3, q4⟩
   ·
    exact .inr q0)
  have hvO : ∀ e ob, get ownv e = some ob → get (pickH L 0 acc ++ own) e = some ob := fun e ob he => pickH_mk a3 a4 (by
   rcases hv2 e ob he with ⟨j, z, q1, q2, q3⟩ | q0
   ·
    rw [hmd] at q2
    exact .inl ⟨j, z, q1, by rw [Nat.zero_add]; exact hdep j q2, q3⟩
   ·
    exact .inr q0)
  let L' : Nat → Bool := fun j => Nat.beq i j || L j
  have hL'o : ∀ j, L' j = true → j ≠ i → L j = true := fun j hj hne => by
   have : (Nat.beq i j || L j) = true := hj
   rw [beq_ne (fun h => hne h.symm), Bool.false_or] at this; exact this
  have hS : ∀ t y, get (pickS L' 0 acc ++ sl) t = some y → (t = dl.d ∧ y = dl.r) ∨ (t ≠ dl.d ∧ get (pickS L 0 acc ++ sl) t = some y) := by
   intro t y hy
   rcases pickS_of hy with ⟨j, z, q1, q2, q3, q4⟩ | q0
   ·
    rw [Nat.zero_add] at q2
    by_cases hij : j = i
    ·
     subst hij; rw [hdl] at q1; cases q1; exact .inl ⟨q3.symm, q4.symm⟩
    ·
     refine .inr ⟨fun he => ds_ne a1 hdl q1 (fun h => hij h.symm) (by rw [q3, he]), pickS_mk a1 a2 (.inl ⟨j, z, q1, by rw [Nat.zero_add]; exact hL'o j q2 hij, q3, q4⟩)⟩
   ·
    refine .inr ⟨fun he => ?_, pickS_mk a1 a2 (.inr q0)⟩
    subst he
    rw [frS_mem a2 dl.d (List.mem_map_of_mem (List.mem_of_getElem? hdl))] at q0; cases q0
  have hO : ∀ e ob, get (pickH L' 0 acc ++ own) e = some ob → get dl.h e = some ob ∨ (get dl.h e = none ∧ get (pickH L 0 acc ++ own) e = some ob) := by
   intro e ob he
   rcases pickH_of he with ⟨j, z, q1, q2, q3⟩ | q1
   ·
    rw [Nat.zero_add] at q2
    by_cases hij : j = i
    ·
     subst hij; rw [hdl] at q1; cases q1; exact .inl q3
    ·
     refine .inr ⟨?_, pickH_mk a3 a4 (.inl ⟨j, z, q1, by rw [Nat.zero_add]; exact hL'o j q2 hij, q3⟩)⟩
     cases hg : get dl.h e with
     | none => rfl
     | some o => exact absurd (get_mem_fst q3) (ns_ne a3 hdl q1 (fun h => hij h.symm) e (get_mem_fst hg))
   ·
    refine .inr ⟨?_, pickH_mk a3 a4 (.inr q1)⟩
    cases hg : get dl.h e with
    | none => rfl
    | some o =>
     have := noneIn_mem a4 ((ns_distinct a3 hdl).2 e (get_mem_fst hg))
     rw [this] at q1; cases q1
  show AXI C false [] [x] (stM ks sl own acc L) (fun st' => Wk C st' (stM ks sl own acc L'))
  rcases hstep with ⟨hp, hn, s1, s2, sh, s3⟩ | ⟨s1, s2, slm, s3, s5⟩
  ·
   obtain ⟨c1, c2⟩ := curM_at hLi hdep hcl b1 s1
   have e1 : stM ks sl own acc L = ⟨pickS L 0 acc ++ sl, hp ++ (pickH L 0 acc ++ own)⟩ := by unfold stM; rw [c1]
   have e2 : stM ks sl own acc L' = ⟨pickS L' 0 acc ++ sl, hn ++ (pickH L' 0 acc ++ own)⟩ := by unfold stM; rw [c2]
   rw [e1, e2]
   refine (s3 _ _ hvS (fun e ob he => ?_) rfl).mono ?_
   ·
    rcases get_app _ _ _ _ he with h1 | ⟨h1, h2⟩
    ·
     rw [get_append, h1]
    ·
     rw [get_append, h1]; exact hvO e ob h2
   rintro st' ⟨u1, u2, u3, u4⟩
   refine wk_le2 (fun t y hy => ?_) (fun e ob he => ?_)
   ·
    rcases hS t y hy with ⟨rfl, rfl⟩ | ⟨h3, h4⟩
    ·
     exact u1
    ·
     exact .inr (u2 t y h3 h4 rfl)
   ·
    rcases get_app _ _ _ _ he with h1 | ⟨h1, h2⟩
    ·
     exact u3 e ob h1
    ·
     rcases hO e ob h2 with h4 | ⟨_, h4⟩
     ·
      rw [sh] at h4; simp [get] at h4
     ·
      have := u4 e ob h1 (by rw [get_append, subM_none s2 h1]; exact h4)
      rwa [pgO_id _ (fun _ => rfl)] at this
  ·
   have e1 : stM ks sl own acc L = ⟨pickS L 0 acc ++ sl, curM ks L [] ++ (pickH L 0 acc ++ own)⟩ := rfl
   have e2 : stM ks sl own acc L' = ⟨pickS L' 0 acc ++ sl, curM ks L [] ++ (pickH L' 0 acc ++ own)⟩ := by unfold stM; rw [curM_quiet s1]
   rw [e1, e2]
   have hdm : domM N (curM ks L []) = true := curM_dom b2 rfl
   have hfresh : ∀ n ∈ dl.h.map Prod.fst, n < 1000 ∧ nrS n (pickS L 0 acc ++ sl) = true ∧ nrOs n (curM ks L [] ++ (pickH L 0 acc ++ own)) = true := by
    intro n hm
    have hmem := (ns_distinct a3 hdl).2 n hm
    obtain ⟨c1, c2, c3⟩ := nsOK_spec a5 hmem
    have hi : indepI deps i (dl.h.map Prod.fst) 0 acc = true := by
     have := indepB_spec (i := 0) a6 hdl
     rwa [Nat.zero_add] at this
    have hind : ∀ j y, acc[j]? = some y → L j = true → nrA n y.r = true ∧ nrOs n y.h = true := fun j y hy hL => by
     have := indepI_spec (j := 0) (k := j) hi hy (by rw [Nat.zero_add]; rintro rfl; rw [hLi] at hL; cases hL) (by
      rw [Nat.zero_add]
      cases hh : depOf deps j i with
      | false => rfl
      | true => have := hcl j i hL hh; rw [hLi] at this; cases this) n hm
     exact this
    refine ⟨c1, ?_, ?_⟩
    ·
     rw [nrS_append, c2, Bool.and_true]
     exact nrS_pick fun j y hy hL => (hind j y hy (by rw [Nat.zero_add] at hL; exact hL)).1
    ·
     rw [nrOs_append, nrOs_append, c3, Bool.and_true, Bool.and_eq_true]
     refine ⟨curM_nr (List.all_eq_true.1 b4 n hmem) rfl, nrOs_pick fun j y hy hL => (hind j y hy (by rw [Nat.zero_add] at hL; exact hL)).2⟩
   refine (s5 _ _ (fun t y hy => hvS t y (keepK_get s3 t y hy)) (fun e ob he => ?_) (freeN_mk (ns_distinct a3 hdl).1 hfresh)).mono ?_
   ·
    obtain ⟨hb, he⟩ := outO_get he
    rw [get_append, NI_none hLi hcl hb rfl]; exact hvO e ob he
   rintro st' ⟨u1, u2⟩
   refine wk_le2 (fun t y hy => .inr (u1 t y ?_)) (fun e ob he => u2 e ob ?_)
   ·
    rcases hS t y hy with ⟨rfl, rfl⟩ | ⟨h3, h4⟩
    ·
     exact get_cons_self _ _ _
    ·
     rw [get_cons_ne _ _ (fun h => h3 h.symm)]; exact h4
   ·
    have hno : ∀ e ob, get dl.h e = some ob → get (curM ks L []) e = none := fun e ob he => by
     refine domM_none hdm (fun hm => ?_)
     have := List.all_eq_true.1 s2 e (get_mem_fst he)
     rw [memb_iff.2 hm] at this; cases this
    rcases get_app _ _ _ _ he with h1 | ⟨h1, h2⟩
    ·
     have : get dl.h e = none := by
      cases hg : get dl.h e with
      | none => rfl
      | some o => rw [hno e o hg] at h1; cases h1
     rw [get_append, this]
     show get (curM ks L [] ++ _) e = some ob
     rw [get_append, h1]
    ·
     rcases hO e ob h2 with h4 | ⟨h4, h5⟩
     ·
      rw [get_append, h4]
     ·
      rw [get_append, h4]
      show get (curM ks L [] ++ _) e = some ob
      rw [get_append, h1]; exact h5
theorem locl_keep {C : Cx} {slm : List (Nat × AV)} {ownm : List (Nat × OB)} {x : XI} {d : Nat} {r : AV} {hk : List (Nat × OB)} (e : Nat) {ob : OB} (h : LocL C (fun _ => false) (fun _ => true) [] slm ownm x d r hk) (hg : get ownm e = some ob) (hn : get hk e = none) :
  LocL C (fun _ => false) (fun _ => true) [] slm ownm x d r (hk ++ [(e, ob)]) := by
 intro sl own g1 g2 g3
 refine (h sl own g1 g2 g3).mono ?_
 rintro st' ⟨u1, u2, u3, u4⟩
 refine ⟨u1, u2, fun k o hk1 => ?_, fun k o hk1 h2 => ?_⟩
 ·
  rcases get_app _ _ _ _ hk1 with h1 | ⟨h1, h2⟩
  ·
   exact u3 k o h1
  ·
   rw [get_cons] at h2
   split at h2
   ·
    rename_i e2
    cases h2
    have e2 : e = k := by simpa using e2
    subst e2
    have := u4 e ob hn (g2 e ob hg)
    rwa [pgO_id _ (fun _ => rfl)] at this
   ·
    cases h2
 ·
  rw [get_append] at hk1
  cases hq : get hk k with
  | none => exact u4 k o hq h2
  | some o2 => rw [hq] at hk1; cases hk1
end Go.AM

namespace Go.AM
set_option linter.unusedVariables false
/-- A record's bytes. -/
def rbF (r : GLogRecord) : Str := sealB (putFs [108, byteOf r.Epoch, byteOf r.Lsn, byteOf r.Tx, byteOf r.Kind, byteOf r.Prev, byteOf r.Next, byteOf r.Page, byteOf r.Slot] [r.Before, r.After])
/-- The disk behind the writing of the records lo+1 .. lo+k. -/
def wrL (d : GDisk) (log : List GLogRecord) (lo : Nat) : Nat → GDisk
 | 0 => d
 | k + 1 => wrD (wrL d log lo k) (9 + ((lo + k : Nat) : Int)) (rbF (log.getD (lo + k) .zero))
/-- The store while its log is written. -/
def wrS (s : GStore) (k : Nat) : GStore := ⟨wrL s.Disk s.Log s.Sure.toNat k, s.Epoch, s.Log, s.Sure, s.Frames, s.Hand⟩
/-- The disk behind a flush that has something to do. -/
def flD (s : GStore) (n : Int) : GDisk := (syncD (wrL s.Disk s.Log s.Sure.toNat (n - s.Sure).toNat)).1
def flF (s : GStore) (n : Int) : GStore :=
 if n ≤ s.Sure then s else ⟨flD s n, s.Epoch, s.Log, n, s.Frames, s.Hand⟩
theorem flF_1 {s : GStore} {n : Int} (h : n ≤ s.Sure) : flF s n = s := by unfold flF; rw [if_pos h]
theorem flF_2 {s : GStore} {n : Int} (h : ¬ n ≤ s.Sure) : flF s n = ⟨flD s n, s.Epoch, s.Log, n, s.Frames, s.Hand⟩ := by unfold flF; rw [if_neg h]
def header1 : Str := sealB [104, byteOf 1]
def newS : GStore := ⟨⟨(List.replicate 69 ([] : Str)).set 0 header1, [], false, []⟩, 1, [], 0, [], 0⟩
def appR (s : GStore) (r : GLogRecord) : GLogRecord := ⟨s.Epoch, (s.Log.length : Int) + 1, r.Tx, r.Kind, r.Prev, r.Next, r.Page, r.Slot, r.Before, r.After⟩
def appS (s : GStore) (r : GLogRecord) : GStore := ⟨s.Disk, s.Epoch, s.Log ++ [appR s r], s.Sure, s.Frames, s.Hand⟩
theorem two_len {a b : Str} {n : Nat} (ha : a.length ≤ n) (hb : b.length ≤ n) : ∀ t ∈ [a, b], t.length ≤ n := fun t ht => by
 simp only [List.mem_cons, List.not_mem_nil, or_false] at ht
 rcases ht with rfl | rfl
 ·
  exact ha
 ·
  exact hb
/-- The eight numbers of a record, by their places. -/
def recI8 (r : GLogRecord) (k : Nat) : Int := ([r.Epoch, r.Lsn, r.Tx, r.Kind, r.Prev, r.Next, r.Page, r.Slot] : List Int).getD k 0
theorem recI8_at {r : GLogRecord} {k : Nat} (h : k < 8) : ([int r.Epoch, int r.Lsn, int r.Tx, int r.Kind, int r.Prev, int r.Next, int r.Page, int r.Slot] : List AV)[(k : Int).toNat]? = some (int (recI8 r k)) := by
 rcases k with _ | _ | _ | _ | _ | _ | _ | _ | k
 all_goals first | rfl | omega
def hd9 (r : GLogRecord) : Str := [108, byteOf r.Epoch, byteOf r.Lsn, byteOf r.Tx, byteOf r.Kind, byteOf r.Prev, byteOf r.Next, byteOf r.Page, byteOf r.Slot]
theorem rec_take {r : GLogRecord} {k : Nat} (h : k < 8) : (hd9 r).take (k + 2) = (hd9 r).take (k + 1) ++ [byteOf (recI8 r k)] := by
 rcases k with _ | _ | _ | _ | _ | _ | _ | _ | k
 all_goals first | rfl | omega
theorem hd9_len {r : GLogRecord} {k : Nat} (h : k ≤ 8) : ((hd9 r).take (k + 1)).length = k + 1 := by rw [List.length_take]; show min (k + 1) 9 = _; omega
def fAt (s : GStore) (k : Nat) : GFrame := s.Frames.getD k .zero
/-- A frame's page goes out. -/
def outF (s : GStore) (k : Nat) : GStore :=
 if (fAt s k).Dirty = false then s else
 ⟨wrD (flF s (fAt s k).Page.lsn).Disk (1 + (fAt s k).No) (pbF (fAt s k).No (fAt s k).Page), s.Epoch, s.Log, (flF s (fAt s k).Page.lsn).Sure, s.Frames.set k ⟨(fAt s k).No, (fAt s k).Page, false, 0⟩, s.Hand⟩
theorem outF_1 {s : GStore} {k : Nat} (h : (fAt s k).Dirty = false) : outF s k = s := by unfold outF; rw [if_pos h]
theorem outF_2 {s : GStore} {k : Nat} (h : (fAt s k).Dirty = true) : outF s k = ⟨wrD (flF s (fAt s k).Page.lsn).Disk (1 + (fAt s k).No) (pbF (fAt s k).No (fAt s k).Page), s.Epoch, s.Log, (flF s (fAt s k).Page.lsn).Sure, s.Frames.set k ⟨(fAt s k).No, (fAt s k).Page, false, 0⟩, s.Hand⟩ := by
 unfold outF; rw [if_neg (by rw [h]; simp)]
def putF (s : GStore) (no : Nat) : GStore := ⟨(outF s s.Hand.toNat).Disk, s.Epoch, s.Log, (outF s s.Hand.toNat).Sure, (outF s s.Hand.toNat).Frames.set s.Hand.toNat ⟨no, (pageD (outF s s.Hand.toNat).Disk no).1, false, 0⟩, (s.Hand + 1) % 3⟩
def addF (s : GStore) (no : Nat) : GStore := ⟨s.Disk, s.Epoch, s.Log, s.Sure, s.Frames ++ [⟨no, (pageD s.Disk no).1, false, 0⟩], s.Hand⟩
/-- A page's fetching: the store behind it, and the frame's place. -/
def fetchF (s : GStore) (no : Nat) : GStore × Int :=
 if 0 ≤ frameAt s no then (s, frameAt s no) else if (s.Frames.length : Int) = 3 then (putF s no, s.Hand) else (addF s no, (s.Frames.length : Int))
theorem fetchF_1 {s : GStore} {no : Nat} (h : 0 ≤ frameAt s no) : fetchF s no = (s, frameAt s no) := by unfold fetchF; rw [if_pos h]
theorem fetchF_2 {s : GStore} {no : Nat} (h : ¬ 0 ≤ frameAt s no) (h1 : (s.Frames.length : Int) = 3) : fetchF s no = (putF s no, s.Hand) := by unfold fetchF; rw [if_neg h, if_pos h1]
theorem fetchF_3 {s : GStore} {no : Nat} (h : ¬ 0 ≤ frameAt s no) (h1 : ¬ (s.Frames.length : Int) = 3) : fetchF s no = (addF s no, (s.Frames.length : Int)) := by unfold fetchF; rw [if_neg h, if_neg h1]
def delF (s : GStore) (k : Nat) : GStore := ⟨(outF s k).Disk, s.Epoch, s.Log, (outF s k).Sure, (outF s k).Frames.take k ++ (outF s k).Frames.drop (k + 1), 0⟩
def evictF (s : GStore) (no : Nat) : GStore × Int := if frameAt s no < 0 then (s, 5) else (delF s (frameAt s no).toNat, 0)
theorem outW {s : GStore} {k : Nat} (h : (fAt s k).Dirty = true) : outF s k = ⟨wrD (flF s (fAt s k).Page.lsn).Disk (1 + (fAt s k).No) (pbF (fAt s k).No (fAt s k).Page), (flF s (fAt s k).Page.lsn).Epoch, (flF s (fAt s k).Page.lsn).Log, (flF s (fAt s k).Page.lsn).Sure, (flF s (fAt s k).Page.lsn).Frames.set k ⟨(fAt s k).No, (fAt s k).Page, false, 0⟩, (flF s (fAt s k).Page.lsn).Hand⟩ := by
 rw [outF_2 h]
 by_cases q : (fAt s k).Page.lsn ≤ s.Sure
 ·
  rw [flF_1 q]
 ·
  rw [flF_2 q]
theorem putW {s : GStore} {no : Nat} : putF s no = ⟨(outF s s.Hand.toNat).Disk, (outF s s.Hand.toNat).Epoch, (outF s s.Hand.toNat).Log, (outF s s.Hand.toNat).Sure, (outF s s.Hand.toNat).Frames.set s.Hand.toNat ⟨no, (pageD (outF s s.Hand.toNat).Disk no).1, false, 0⟩, (s.Hand + 1) % 3⟩ := by
 unfold putF
 cases q : (fAt s s.Hand.toNat).Dirty with
 | false => rw [outF_1 q]
 | true => rw [outF_2 q]
theorem delW {s : GStore} {k : Nat} : delF s k = ⟨(outF s k).Disk, (outF s k).Epoch, (outF s k).Log, (outF s k).Sure, (outF s k).Frames.take k ++ (outF s k).Frames.drop (k + 1), 0⟩ := by
 unfold delF
 cases q : (fAt s k).Dirty with
 | false => rw [outF_1 q]
 | true => rw [outF_2 q]
theorem evictF_1 {s : GStore} {no : Nat} (h : frameAt s no < 0) : evictF s no = (s, 5) := by unfold evictF; rw [if_pos h]
theorem evictF_2 {s : GStore} {no k : Nat} (h : frameAt s no = k) : evictF s no = (delF s k, 0) := by unfold evictF; rw [if_neg (by omega), h]; rfl
theorem set_row {α : Type} {xs : List α} {row : α → List D} {k : Nat} {x : α} (h : k < xs.length) : ((xs.set k x).map row)[k]? = some (row x) := by simp [h]
theorem appz_at {α : Type} {xs : List α} {row : α → List D} {z : α} : ((xs ++ [z]).map row)[xs.length]? = some (row z) := by simp
theorem appz_set {α : Type} {xs : List α} {row : α → List D} {z y : α} : ((xs ++ [z]).map row).set xs.length (row y) = (xs ++ [y]).map row := by
 rw [← List.map_set, List.set_append_right _ _ (Nat.le_refl _), Nat.sub_self]; rfl
theorem slcR_take {α : Type} {row : α → List D} {n k : Nat} {xs : List α} : AV.d (.sl n (((xs.map row).drop (0 : Int).toNat).take ((k : Int).toNat - (0 : Int).toNat))) = .d (.sl n ((xs.take k).map row)) := by simp [List.map_take]
theorem slcR_drop {α : Type} {row : α → List D} {n k : Nat} {xs : List α} : AV.d (.sl n (((xs.map row).drop (k : Int).toNat).take (((xs.map row).length : Int).toNat - (k : Int).toNat))) = .d (.sl n ((xs.drop k).map row)) := by
 rw [show (k : Int).toNat = k from by omega, show ((xs.map row).length : Int).toNat = (xs.map row).length from by omega, List.take_of_length_le (by simp), List.map_drop]
theorem app_row2 {α : Type} {row : α → List D} {xs ys : List α} : (xs.map row).take xs.length ++ ys.map row = (xs ++ ys).map row := by rw [List.take_of_length_le (by simp), List.map_append]
theorem del_len {α : Type} {xs : List α} {k : Nat} (h : k < xs.length) : (xs.take k ++ xs.drop (k + 1)).length = xs.length - 1 := by
 rw [List.length_append, List.length_take, List.length_drop]; omega
def cgF (f : GFrame) (slot : Nat) (x : Str) (lsn : Int) : GFrame := ⟨f.No, ⟨lsn, f.Page.slots.set slot x⟩, true, if f.Dirty = true then f.First else lsn⟩
def putC (s : GStore) (k : Nat) (slot : Nat) (x : Str) (lsn : Int) : GStore := ⟨s.Disk, s.Epoch, s.Log, s.Sure, s.Frames.set k (cgF (fAt s k) slot x lsn), s.Hand⟩
def recAt (s : GStore) (k : Nat) : GLogRecord := s.Log.getD k .zero
/-- What the record at k (from 0) says is done. -/
def applyF (s : GStore) (k : Nat) : GStore := putC (fetchF s (recAt s k).Page.toNat).1 (fetchF s (recAt s k).Page.toNat).2.toNat (recAt s k).Slot.toNat (recAt s k).After ((k : Int) + 1)
end Go.AM

namespace Go.AM
set_option linter.unusedVariables false
set_option linter.unusedSimpArgs false
/-- What a page's sector tells, below what is sure. -/
def PT (no : Nat) (su : Int) (t : Str) : Prop := t = [] ∨ ∃ p : Page, PG p ∧ p.lsn ≤ su ∧ t = pbF no p
theorem PT.mono {no : Nat} {su sv : Int} {t : Str} (h : PT no su t) (hs : su ≤ sv) : PT no sv t := by
 rcases h with h | ⟨p, h1, h2, h3⟩
 ·
  exact .inl h
 ·
  exact .inr ⟨p, h1, by omega, h3⟩
/-- A drawn record. -/
structure DrR (r : GLogRecord) (i : Nat) : Prop where
 ok : recP r
 ls : r.Lsn = (i : Int) + 1
 ep : r.Epoch = 1
 kd : r.Kind ≤ 5
theorem DrR.sh {r : GLogRecord} {i : Nat} (h : DrR r i) : r.Before.length ≤ 30 ∧ r.After.length ≤ 30 := by
 have h1 := h.ok; have h2 := h.kd
 unfold recP at h1
 obtain ⟨_, h1 | ⟨_, h1 | h1 | h1⟩⟩ := h1
 ·
  omega
 ·
  exact ⟨h1.2.2.2.2.2.1, h1.2.2.2.2.2.2.1⟩
 ·
  obtain ⟨_, _, _, _, _, h3, h4, _⟩ := h1; rw [h3]; exact ⟨Nat.zero_le _, h4⟩
 ·
  obtain ⟨_, _, _, _, _, h3, h4⟩ := h1; rw [h3, h4]; exact ⟨Nat.zero_le _, Nat.zero_le _⟩
theorem rb_len {r : GLogRecord} {m : Nat} (h : r.Before.length ≤ m ∧ r.After.length ≤ m) : (rbF r).length ≤ 2 * m + 16 := by
 unfold rbF putFs; rw [seal_len, putK_len]
 have := lenK_le (two_len h.1 h.2) 2
 show 9 + 1 + lenK [r.Before, r.After] 2 + 4 ≤ _
 omega
structure FR (n : Nat) (f : GFrame) : Prop where
 no : 0 ≤ f.No ∧ f.No ≤ 7
 pg : PG f.Page
 ls : f.Page.lsn ≤ n
 fi : 0 ≤ f.First ∧ f.First ≤ n
 di : f.Dirty = decide (0 < f.First)
structure DKs (d : GDisk) (log : List GLogRecord) (su : Int) (m : Nat) : Prop where
 dok : DOK d
 ar : d.Armed = false
 se : d.Sectors.length = 69
 sg : ∀ i, i < 60 → d.Sectors.getD (9 + i) [] = if (i : Int) < su then rbF (log.getD i .zero) else []
 ca : ∀ p ∈ d.Cache, 1 ≤ p.At ∧ p.At ≤ 8
 cm : d.Cache.length ≤ m
 pg : ∀ no, no < 8 → PT no su (d.Sectors.getD (1 + no) [])
 pc : ∀ no, no < 8 → ∀ p ∈ d.Cache, p.At = ((1 + no : Nat) : Int) → PT no su p.Data
structure FKs (fs : List GFrame) (n : Nat) : Prop where
 fr : ∀ f ∈ fs, FR n f
 nd : (fs.map GFrame.No).Nodup
 fl : fs.length ≤ 3
structure DI (s : GStore) (m : Nat) : Prop where
 dk : DKs s.Disk s.Log s.Sure m
 ep : s.Epoch = 1
 lm : s.Log.length ≤ m
 su : 0 ≤ s.Sure ∧ s.Sure ≤ s.Log.length
 rc : ∀ i (h : i < s.Log.length), DrR s.Log[i] i
 fk : FKs s.Frames s.Log.length
 hd : 0 ≤ s.Hand ∧ s.Hand ≤ 2
theorem DI.mono {s : GStore} {m n : Nat} (h : DI s m) (hm : m ≤ n) : DI s n :=
 ⟨⟨h.dk.dok, h.dk.ar, h.dk.se, h.dk.sg, h.dk.ca, Nat.le_trans h.dk.cm hm, h.dk.pg, h.dk.pc⟩, h.ep, Nat.le_trans h.lm hm, h.su, h.rc, h.fk, h.hd⟩
theorem getD_repl {n i : Nat} : (List.replicate n ([] : Str)).getD i [] = [] := by
 rw [List.getD_eq_getElem?_getD, List.getElem?_replicate]; split <;> rfl
theorem newS_get {i : Nat} (h : 0 < i) : newS.Disk.Sectors.getD i [] = [] := by
 show ((List.replicate 69 ([] : Str)).set 0 header1).getD i [] = []
 rw [List.getD_eq_getElem?_getD, List.getElem?_set_ne (by omega), ← List.getD_eq_getElem?_getD, getD_repl]
theorem header1_len : header1.length = 6 := by unfold header1; rw [seal_len]; rfl
theorem newS_di : DI newS 0 := by
 have hl : newS.Disk.Sectors.length = 69 := by show ((List.replicate 69 ([] : Str)).set 0 header1).length = 69; simp
 have hd : DOK newS.Disk := by
  refine ⟨by omega, by omega, Nat.zero_le _, Nat.zero_le _, fun _ => rfl, fun t ht => ?_, fun p hp => (by cases hp)⟩
  rcases List.mem_or_eq_of_mem_set ht with q | q
  ·
   rw [(List.mem_replicate.1 q).2]; exact Nat.zero_le _
  ·
   rw [q, header1_len]; omega
 refine ⟨⟨hd, rfl, hl, fun i hi => ?_, fun p hp => (by cases hp), Nat.zero_le _, fun no hn => .inl (newS_get (by omega)), fun no hn p hp => (by cases hp)⟩, rfl, Nat.le_refl _, ⟨Int.le_refl _, Int.le_refl _⟩, fun i h => absurd h (Nat.not_lt_zero _), ⟨fun f hf => (by cases hf), List.nodup_nil, Nat.zero_le _⟩, ⟨Int.le_refl _, by show (0 : Int) ≤ 2; omega⟩⟩
 rw [newS_get (by omega)]
 show [] = if (i : Int) < 0 then _ else _
 rw [if_neg (by omega)]
def wrs (log : List GLogRecord) (lo : Nat) : Nat → List GPending
 | 0 => []
 | k + 1 => wrs log lo k ++ [⟨9 + ((lo + k : Nat) : Int), rbF (log.getD (lo + k) .zero)⟩]
theorem wrL_eq {d : GDisk} {log : List GLogRecord} {lo : Nat} : ∀ k, wrL d log lo k = ⟨d.Sectors, d.Cache ++ wrs log lo k, d.Armed, d.Keep⟩
 | 0 => by rw [wrL, wrs, List.append_nil]
 | k + 1 => by rw [wrL, wrL_eq k, wrs, ← List.append_assoc]; rfl
theorem wrs_len {log : List GLogRecord} {lo : Nat} : ∀ k, (wrs log lo k).length = k
 | 0 => rfl
 | k + 1 => by rw [wrs, List.length_append, wrs_len k]; rfl
theorem wrs_at {log : List GLogRecord} {lo : Nat} : ∀ {k : Nat}, ∀ p ∈ wrs log lo k, ∃ j, j < k ∧ p = ⟨9 + ((lo + j : Nat) : Int), rbF (log.getD (lo + j) .zero)⟩
 | 0, p, hp => by cases hp
 | k + 1, p, hp => by
  rw [wrs] at hp
  rcases List.mem_append.1 hp with q | q
  ·
   obtain ⟨j, h1, h2⟩ := wrs_at p q; exact ⟨j, by omega, h2⟩
  ·
   exact ⟨k, by omega, List.mem_singleton.1 q⟩
theorem lastW_none {C : List GPending} {i : Int} {t : Str} (h : ∀ p ∈ C, p.At ≠ i) : lastW C i t = t := by
 unfold lastW
 induction C generalizing t with
 | nil => rfl
 | cons p C ih => rw [List.foldl_cons, if_neg (h p (List.mem_cons_self ..))]; exact ih (fun q hq => h q (List.mem_cons_of_mem _ hq))
theorem lastW_all {C : List GPending} {i : Int} {P : Str → Prop} (h : ∀ p ∈ C, p.At = i → P p.Data) : ∀ {t : Str}, P t → P (lastW C i t) := by
 unfold lastW
 induction C with
 | nil => exact fun ht => ht
 | cons p C ih =>
  intro t ht
  rw [List.foldl_cons]
  refine ih (fun q hq => h q (List.mem_cons_of_mem _ hq)) ?_
  split
  ·
   rename_i e; exact h p (List.mem_cons_self ..) e
  ·
   exact ht
theorem lastW_app2 {C1 C2 : List GPending} {i : Int} {t : Str} : lastW (C1 ++ C2) i t = lastW C2 i (lastW C1 i t) := by
 unfold lastW; rw [List.foldl_append]
theorem lastW_wrs {log : List GLogRecord} {lo i : Nat} {t : Str} : ∀ k, lastW (wrs log lo k) ((9 + i : Nat) : Int) t = if lo ≤ i ∧ i < lo + k then rbF (log.getD i .zero) else t
 | 0 => by rw [if_neg (by omega)]; rfl
 | k + 1 => by
  rw [wrs, lastW_app, lastW_wrs k]
  by_cases h : i = lo + k
  ·
   subst h; rw [if_pos (show (9 : Int) + ((lo + k : Nat) : Int) = ((9 + (lo + k) : Nat) : Int) by omega), if_pos (by omega)]
  ·
   rw [if_neg (show ¬ (9 : Int) + ((lo + k : Nat) : Int) = ((9 + i : Nat) : Int) by omega)]
   by_cases h2 : lo ≤ i ∧ i < lo + k
   ·
    rw [if_pos h2, if_pos (by omega)]
   ·
    rw [if_neg h2, if_neg (by omega)]
theorem wrL_dok {s : GStore} {m : Nat} (h : DI s m) (hm : m ≤ 60) {n : Int} (h1 : ¬ n ≤ s.Sure) (h2 : n ≤ s.Log.length) {k : Nat} (hk : k ≤ (n - s.Sure).toNat) : DOK (wrL s.Disk s.Log s.Sure.toNat k) := by
 have hd := h.dk.dok
 have hsu := h.su; have hlm := h.lm; have hcm := h.dk.cm; have hse := h.dk.se
 rw [wrL_eq]
 refine ⟨hd.s0, hd.s1, ?_, hd.k1, hd.ka, hd.st, fun p hp => ?_⟩
 ·
  show (s.Disk.Cache ++ wrs s.Log s.Sure.toNat k).length ≤ 500
  rw [List.length_append, wrs_len]; omega
 ·
  rcases List.mem_append.1 hp with q | q
  ·
   exact hd.ct p q
  ·
   obtain ⟨j, hj, rfl⟩ := wrs_at p q
   have hjl : s.Sure.toNat + j < s.Log.length := by omega
   have := rb_len (h.rc _ hjl).sh
   rw [getD_z hjl]
   refine ⟨by show (0 : Int) ≤ 9 + _; omega, by show 9 + ((s.Sure.toNat + j : Nat) : Int) < (s.Disk.Sectors.length : Int); omega, by show (rbF s.Log[s.Sure.toNat + j]).length ≤ 160; omega⟩
theorem wrL_ar {d : GDisk} {log : List GLogRecord} {lo k : Nat} : (wrL d log lo k).Armed = d.Armed := by rw [wrL_eq]
theorem wrL_b {s : GStore} {m : Nat} (h : DI s m) (hm : m ≤ 60) {n : Int} (h2 : n ≤ s.Log.length) {k : Nat} (hk : k ≤ (n - s.Sure).toNat) : (wrL s.Disk s.Log s.Sure.toNat k).Sectors.length ≤ 1048576 ∧ (wrL s.Disk s.Log s.Sure.toNat k).Cache.length ≤ 1048576 ∧ (wrL s.Disk s.Log s.Sure.toNat k).Keep.length ≤ 1048576 := by
 have hsu := h.su; have hlm := h.lm; have hcm := h.dk.cm; have hse := h.dk.se; have hk1 := h.dk.dok.k1
 rw [wrL_eq]
 refine ⟨by show s.Disk.Sectors.length ≤ _; omega, ?_, by show s.Disk.Keep.length ≤ _; omega⟩
 show (s.Disk.Cache ++ wrs s.Log s.Sure.toNat k).length ≤ _
 rw [List.length_append, wrs_len]; omega
theorem wrL_at {s : GStore} {m : Nat} (h : DI s m) (hm : m ≤ 60) {n : Int} (h1 : ¬ n ≤ s.Sure) (h2 : n ≤ s.Log.length) {k : Nat} (hk : k ≤ (n - s.Sure).toNat) : ∀ p ∈ (wrL s.Disk s.Log s.Sure.toNat k).Cache, 0 ≤ p.At ∧ p.At.toNat < (wrL s.Disk s.Log s.Sure.toNat k).Sectors.length := fun p hp => by
 have := (wrL_dok h hm h1 h2 hk).ct p hp
 exact ⟨this.1, by omega⟩
theorem flD_eq {s : GStore} {m : Nat} (h : DI s m) {n : Int} : flD s n = ⟨syncTo s.Disk.Sectors (s.Disk.Cache ++ wrs s.Log s.Sure.toNat (n - s.Sure).toNat) (s.Disk.Cache ++ wrs s.Log s.Sure.toNat (n - s.Sure).toNat).length, [], false, s.Disk.Keep⟩ := by
 unfold flD; rw [syncD_2 (by rw [wrL_ar]; exact h.dk.ar), wrL_eq, h.dk.ar]
theorem fl_alive {s : GStore} {m : Nat} (h : DI s m) {k : Nat} : (syncD (wrL s.Disk s.Log s.Sure.toNat k)).2 = true := by
 rw [syncD_2 (by rw [wrL_ar]; exact h.dk.ar)]
theorem flF_di {s : GStore} {m : Nat} (h : DI s m) (hm : m ≤ 60) {n : Int} (h2 : n ≤ s.Log.length) : DI (flF s n) m := by
 by_cases h1 : n ≤ s.Sure
 ·
  rw [flF_1 h1]; exact h
 rw [flF_2 h1]
 have hsu := h.su; have hlm := h.lm
 have hok : DOK (flD s n) := syncD_ok (wrL_dok h hm h1 h2 (Nat.le_refl _))
 have he := flD_eq h (n := n)
 have hse := h.dk.se
 have hat : ∀ p ∈ s.Disk.Cache ++ wrs s.Log s.Sure.toNat (n - s.Sure).toNat, 0 ≤ p.At := fun p hp => by
  rcases List.mem_append.1 hp with q | q
  ·
   have := h.dk.ca p q; omega
  ·
   obtain ⟨j, hj, rfl⟩ := wrs_at p q; show (0 : Int) ≤ 9 + _; omega
 have hget : ∀ i, i < 69 → (flD s n).Sectors.getD i [] = lastW (wrs s.Log s.Sure.toNat (n - s.Sure).toNat) i (lastW s.Disk.Cache i (s.Disk.Sectors.getD i [])) := fun i hi => by
  rw [he]
  show (syncTo _ _ _).getD i [] = _
  rw [syncTo_get (by omega) hat _ (Nat.le_refl _), List.take_of_length_le (Nat.le_refl _), lastW_app2]
 refine ⟨⟨hok, by rw [he], by rw [he]; show (syncTo _ _ _).length = 69; rw [syncTo_len]; exact hse, fun i hi => ?_, by rw [he]; exact fun p hp => (by cases hp), by rw [he]; exact Nat.zero_le _, fun no hn => ?_, by rw [he]; exact fun no hn p hp => (by cases hp)⟩, h.ep, h.lm, ⟨by show 0 ≤ n; omega, h2⟩, h.rc, h.fk, h.hd⟩
 ·
  show (flD s n).Sectors.getD (9 + i) [] = if (i : Int) < n then rbF (s.Log.getD i .zero) else []
  rw [hget _ (by omega), lastW_wrs, lastW_none (fun p hp => by have := h.dk.ca p hp; omega), h.dk.sg i hi]
  by_cases q : (i : Int) < s.Sure
  ·
   rw [if_neg (by omega), if_pos q, if_pos (by omega)]
  ·
   by_cases q2 : (i : Int) < n
   ·
    rw [if_pos (by omega), if_pos q2]
   ·
    rw [if_neg (by omega), if_neg q, if_neg q2]
 ·
  show PT no n ((flD s n).Sectors.getD (1 + no) [])
  rw [hget _ (by omega), lastW_none (fun p hp => by obtain ⟨j, hj, rfl⟩ := wrs_at p hp; show (9 : Int) + _ ≠ _; omega)]
  exact PT.mono (lastW_all (h.dk.pc no hn) (h.dk.pg no hn)) (by omega)
theorem flF_same {s : GStore} {n : Int} : (flF s n).Epoch = s.Epoch ∧ (flF s n).Log = s.Log ∧ (flF s n).Frames = s.Frames ∧ (flF s n).Hand = s.Hand ∧ s.Sure ≤ (flF s n).Sure ∧ n ≤ (flF s n).Sure := by
 by_cases h : n ≤ s.Sure
 ·
  rw [flF_1 h]; exact ⟨rfl, rfl, rfl, rfl, Int.le_refl _, h⟩
 ·
  rw [flF_2 h]; exact ⟨rfl, rfl, rfl, rfl, by show s.Sure ≤ n; omega, Int.le_refl _⟩
theorem l3_pb {no : Nat} (hn : no < 8) {p : Page} (h : PG p) : pageT no (pbF no p) = (p, true) := by
 have hl := pb_len (no := no) h
 have h1 := rp_pb (no := (no : Int)) (nx := (no : Int)) h (by omega)
 rw [if_pos rfl] at h1
 obtain ⟨e1, e2⟩ := pg_same (no := (no : Int)) (t := pbF no p) (by omega)
 have e3 := e1.1 (by rw [h1])
 have e4 := e2 e3
 rw [h1] at e4
 have hne : ¬ pbF no p = [] := fun q => by
  have : (pbF no p).length = 0 := by rw [q]; rfl
  unfold pbF at this; rw [seal_len] at this; omega
 rw [pageT_1 hne]
 exact Prod.ext e4.symm e3
theorem pt_page {no : Nat} (hn : no < 8) {su : Int} (h0 : 0 ≤ su) {t : Str} (h : PT no su t) : (pageT no t).2 = true ∧ PG (pageT no t).1 ∧ (pageT no t).1.lsn ≤ su := by
 rcases h with h | ⟨p, h1, h2, h3⟩
 ·
  rw [pageT_0 h]; exact ⟨rfl, ⟨rfl, nil4, ⟨Int.le_refl _, by show (0 : Int) ≤ 1000; omega⟩⟩, h0⟩
 ·
  rw [h3, l3_pb hn h1]; exact ⟨rfl, h1, h2⟩
theorem DKs.txt {d : GDisk} {log : List GLogRecord} {su : Int} {m no : Nat} (h : DKs d log su m) (hn : no < 8) : PT no su (txtD d (1 + no)) := lastW_all (h.pc no hn) (h.pg no hn)
theorem DI.page {s : GStore} {m no : Nat} (h : DI s m) (hn : no < 8) : (pageD s.Disk no).2 = true ∧ PG (pageD s.Disk no).1 ∧ (pageD s.Disk no).1.lsn ≤ s.Sure := pt_page hn h.su.1 (h.dk.txt hn)
theorem fAt_eq {s : GStore} {k : Nat} (h : k < s.Frames.length) : fAt s k = s.Frames[k] := getD_z h
theorem FKs.set {fs : List GFrame} {n k : Nat} {f : GFrame} (h : FKs fs n) (hk : k < fs.length) (hf : FR n f) (hn : f.No = fs[k].No) : FKs (fs.set k f) n := by
 refine ⟨fun g hg => ?_, ?_, by rw [List.length_set]; exact h.fl⟩
 ·
  rcases List.mem_or_eq_of_mem_set hg with q | q
  ·
   exact h.fr g q
  ·
   rw [q]; exact hf
 ·
  rw [List.map_set, hn, show fs[k].No = (fs.map GFrame.No)[k]'(by rw [List.length_map]; exact hk) from (List.getElem_map ..).symm, List.set_getElem_self]; exact h.nd
theorem nodup_set {l : List Int} : ∀ {k : Nat} {x : Int}, l.Nodup → x ∉ l → (l.set k x).Nodup := by
 induction l with
 | nil => intro k x _ _; exact List.nodup_nil
 | cons a l ih =>
  intro k x h hx
  rw [List.nodup_cons] at h
  rw [List.mem_cons, not_or] at hx
  cases k with
  | zero => exact List.nodup_cons.2 ⟨hx.2, h.2⟩
  | succ k =>
   rw [List.set_cons_succ, List.nodup_cons]
   refine ⟨fun q => ?_, ih h.2 hx.2⟩
   rcases List.mem_or_eq_of_mem_set q with q | q
   ·
    exact h.1 q
   ·
    exact hx.1 q.symm
theorem FKs.put {fs : List GFrame} {n k : Nat} {f : GFrame} (h : FKs fs n) (hf : FR n f) (hn : ∀ g ∈ fs, g.No ≠ f.No) : FKs (fs.set k f) n := by
 refine ⟨fun g hg => ?_, ?_, by rw [List.length_set]; exact h.fl⟩
 ·
  rcases List.mem_or_eq_of_mem_set hg with q | q
  ·
   exact h.fr g q
  ·
   rw [q]; exact hf
 ·
  rw [List.map_set]
  exact nodup_set h.nd (fun q => by obtain ⟨g, hg, e⟩ := List.mem_map.1 q; exact hn g hg e)
theorem FKs.add {fs : List GFrame} {n : Nat} {f : GFrame} (h : FKs fs n) (hl : fs.length ≤ 2) (hf : FR n f) (hn : ∀ g ∈ fs, g.No ≠ f.No) : FKs (fs ++ [f]) n := by
 refine ⟨fun g hg => ?_, ?_, by simp; omega⟩
 ·
  rcases List.mem_append.1 hg with q | q
  ·
   exact h.fr g q
  ·
   rw [List.mem_singleton.1 q]; exact hf
 ·
  rw [List.map_append, List.nodup_append]
  refine ⟨h.nd, by simp, fun a ha b hb => ?_⟩
  obtain ⟨g, hg, e⟩ := List.mem_map.1 ha
  have e2 : b = f.No := List.mem_singleton.1 hb
  rw [e2, ← e]; exact hn g hg
theorem FKs.del {fs : List GFrame} {n k : Nat} (h : FKs fs n) : FKs (fs.take k ++ fs.drop (k + 1)) n := by
 have hs : (fs.take k ++ fs.drop (k + 1)).Sublist fs := by
  conv => rhs; rw [← List.take_append_drop k fs]
  exact List.Sublist.append (List.Sublist.refl _) (by rw [show fs.drop (k + 1) = (fs.drop k).drop 1 from by rw [List.drop_drop]]; exact List.drop_sublist _ _)
 exact ⟨fun g hg => h.fr g (hs.subset hg), (hs.map _).nodup h.nd, Nat.le_trans hs.length_le h.fl⟩
theorem FKs.mono {fs : List GFrame} {n m : Nat} (h : FKs fs n) (hm : n ≤ m) : FKs fs m :=
 ⟨fun f hf => ⟨(h.fr f hf).no, (h.fr f hf).pg, by have := (h.fr f hf).ls; omega, by have := (h.fr f hf).fi; omega, (h.fr f hf).di⟩, h.nd, h.fl⟩
theorem frame_no {s : GStore} {no : Int} (h : frameAt s no < 0) : ∀ f ∈ s.Frames, f.No ≠ no := by
 have h1 := (@idxOf_lt _ (fun f : GFrame => decide (f.No = no)) s.Frames 0).2
 intro f hf e
 have := idxOf_neg (p := fun f : GFrame => decide (f.No = no)) (xs := s.Frames) (k := 0) (by unfold frameAt at h; omega) f hf
 rw [e] at this; simp at this
theorem frame_yes {s : GStore} {no : Int} (h : 0 ≤ frameAt s no) : ∃ k : Nat, frameAt s no = k ∧ ∃ hk : k < s.Frames.length, s.Frames[k].No = no := by
 obtain ⟨i, h1, hi, h2, _⟩ := idxOf_some (p := fun f : GFrame => decide (f.No = no)) (xs := s.Frames) (by unfold frameAt at h; omega)
 exact ⟨i, h1, hi, of_decide_eq_true h2⟩
theorem frame_self {s : GStore} {n k : Nat} (h : FKs s.Frames n) (hk : k < s.Frames.length) : frameAt s s.Frames[k].No = k := by
 unfold frameAt
 refine idxOf_hit hk (fun i hi x hx => ?_) (decide_eq_true rfl)
 refine decide_eq_false (fun e => ?_)
 have hil : i < s.Frames.length := by omega
 have hx2 : s.Frames[i] = x := by rw [List.getElem?_eq_getElem hil] at hx; exact Option.some.inj hx
 have hp := List.pairwise_iff_getElem.1 h.nd i k (by rw [List.length_map]; exact hil) (by rw [List.length_map]; exact hk) hi
 simp only [List.getElem_map] at hp
 exact hp (by rw [hx2, e])
theorem DKs.wr {d : GDisk} {log : List GLogRecord} {su : Int} {m no : Nat} {p : Page} (h : DKs d log su m) (hm : m < 100) (hn : no < 8) (hp : PG p) (hl : p.lsn ≤ su) : DKs (wrD d (1 + (no : Int)) (pbF no p)) log su (m + 1) :=
 ⟨wrD_ok h.dok (by have := h.se; omega) (pb_len hp) (by have := h.cm; omega), h.ar, h.se, h.sg, fun q hq => by
   rcases List.mem_append.1 hq with w | w
   ·
    exact h.ca q w
   ·
    rw [List.mem_singleton.1 w]; show 1 ≤ 1 + (no : Int) ∧ 1 + (no : Int) ≤ 8; omega,
  by show (d.Cache ++ _).length ≤ _; have := h.cm; simp; omega, h.pg, fun x hx q hq e => by
     rcases List.mem_append.1 hq with w | w
     ·
      exact h.pc x hx q w e
     ·
      rw [List.mem_singleton.1 w] at e ⊢
      have e : 1 + (no : Int) = ((1 + x : Nat) : Int) := e
      obtain rfl : no = x := by omega
      exact .inr ⟨p, hp, hl, rfl⟩⟩
theorem outF_di {s : GStore} {m k : Nat} (h : DI s m) (hm : m ≤ 60) (hk : k < s.Frames.length) : DI (outF s k) (m + 1) := by
 cases hd : (fAt s k).Dirty with
 | false => rw [outF_1 hd]; exact h.mono (by omega)
 | true =>
  rw [outF_2 hd, fAt_eq hk]
  have hf := h.fk.fr _ (List.getElem_mem hk)
  have h1 := flF_di h hm hf.ls
  have hs := @flF_same s s.Frames[k].Page.lsn
  have hno := hf.no
  have hd1 : DKs (flF s s.Frames[k].Page.lsn).Disk s.Log (flF s s.Frames[k].Page.lsn).Sure m := by have := h1.dk; rw [hs.2.1] at this; exact this
  have hw := hd1.wr (no := s.Frames[k].No.toNat) (by omega) (by omega) hf.pg hs.2.2.2.2.2
  rw [show ((s.Frames[k].No.toNat : Nat) : Int) = s.Frames[k].No from by omega] at hw
  have hsu := h1.su; rw [hs.2.1] at hsu
  exact ⟨hw, h.ep, by have := h.lm; show s.Log.length ≤ m + 1; omega, hsu, h.rc, h.fk.set hk ⟨hf.no, hf.pg, hf.ls, ⟨Int.le_refl _, by show (0 : Int) ≤ (s.Log.length : Int); omega⟩, rfl⟩ rfl, h.hd⟩
theorem outF_same {s : GStore} {k : Nat} (hk : k < s.Frames.length) : (outF s k).Epoch = s.Epoch ∧ (outF s k).Log = s.Log ∧ (outF s k).Hand = s.Hand ∧ (outF s k).Frames.map GFrame.No = s.Frames.map GFrame.No := by
 cases hd : (fAt s k).Dirty with
 | false => rw [outF_1 hd]; exact ⟨rfl, rfl, rfl, rfl⟩
 | true =>
  rw [outF_2 hd]
  refine ⟨rfl, rfl, rfl, ?_⟩
  show (s.Frames.set k _).map GFrame.No = _
  rw [List.map_set, fAt_eq hk]
  show (s.Frames.map GFrame.No).set k s.Frames[k].No = _
  rw [show s.Frames[k].No = (s.Frames.map GFrame.No)[k]'(by rw [List.length_map]; exact hk) from (List.getElem_map ..).symm, List.set_getElem_self]
theorem outF_flen {s : GStore} {k : Nat} (hk : k < s.Frames.length) : (outF s k).Frames.length = s.Frames.length := by
 have := congrArg List.length (outF_same hk).2.2.2
 rwa [List.length_map, List.length_map] at this
theorem outF_nos {s : GStore} {k : Nat} {no : Int} (hk : k < s.Frames.length) (h : ∀ f ∈ s.Frames, f.No ≠ no) : ∀ f ∈ (outF s k).Frames, f.No ≠ no := fun f hf e => by
 have h1 : f.No ∈ (outF s k).Frames.map GFrame.No := List.mem_map.2 ⟨f, hf, rfl⟩
 rw [(outF_same hk).2.2.2] at h1
 obtain ⟨g, hg, e2⟩ := List.mem_map.1 h1
 exact h g hg (e2.trans e)
theorem frame_new {s : GStore} {m no : Nat} (h : DI s m) (hn : no < 8) : FR s.Log.length ⟨no, (pageD s.Disk no).1, false, 0⟩ := by
 obtain ⟨_, h1, h2⟩ := h.page hn
 have hs := h.su
 exact ⟨by show (0 : Int) ≤ (no : Int) ∧ (no : Int) ≤ 7; omega, h1, by show (pageD s.Disk no).1.lsn ≤ _; omega, ⟨Int.le_refl _, by show (0 : Int) ≤ (s.Log.length : Int); omega⟩, rfl⟩
theorem fetchF_di {s : GStore} {m no : Nat} (h : DI s m) (hm : m ≤ 60) (hn : no < 8) : DI (fetchF s no).1 (m + 1) ∧ (fetchF s no).1.Log = s.Log ∧ ∃ k : Nat, (fetchF s no).2 = k ∧ ∃ hk : k < (fetchF s no).1.Frames.length, (fetchF s no).1.Frames[k].No = no := by
 by_cases h0 : 0 ≤ frameAt s no
 ·
  rw [fetchF_1 h0]; exact ⟨h.mono (by omega), rfl, frame_yes h0⟩
 have hno := frame_no (s := s) (no := no) (by omega)
 have hh := h.hd; have hfl := h.fk.fl
 by_cases h1 : (s.Frames.length : Int) = 3
 ·
  rw [fetchF_2 h0 h1]
  have hk : s.Hand.toNat < s.Frames.length := by omega
  have ho := outF_di h hm hk
  obtain ⟨e1, e2, e3, e4⟩ := outF_same hk
  have e5 := outF_flen hk
  have hfr := frame_new ho hn
  have hdk := ho.dk; have hsu := ho.su; have hfk := ho.fk
  rw [e2] at hfr hdk hsu hfk
  refine ⟨⟨hdk, h.ep, by have := h.lm; show s.Log.length ≤ _; omega, hsu, h.rc, hfk.put hfr (outF_nos hk hno), ?_⟩, rfl, s.Hand.toNat, by show s.Hand = _; omega, by show s.Hand.toNat < ((outF s s.Hand.toNat).Frames.set _ _).length; rw [List.length_set, e5]; exact hk, ?_⟩
  ·
   show 0 ≤ (s.Hand + 1) % 3 ∧ (s.Hand + 1) % 3 ≤ 2; omega
  ·
   show (((outF s s.Hand.toNat).Frames.set s.Hand.toNat _)[s.Hand.toNat]'_).No = _
   rw [List.getElem_set_self]
 ·
  rw [fetchF_3 h0 h1]
  have hfr := frame_new h hn
  refine ⟨⟨(h.mono (n := m + 1) (by omega)).dk, h.ep, by have := h.lm; show s.Log.length ≤ _; omega, h.su, h.rc, h.fk.add (by omega) hfr hno, h.hd⟩, rfl, s.Frames.length, rfl, by show s.Frames.length < (s.Frames ++ [_]).length; simp, ?_⟩
  show ((s.Frames ++ [_])[s.Frames.length]'_).No = _
  rw [List.getElem_append_right (Nat.le_refl _)]; simp
theorem evictF_di {s : GStore} {m no : Nat} (h : DI s m) (hm : m ≤ 60) : DI (evictF s no).1 (m + 1) := by
 unfold evictF
 split
 ·
  exact h.mono (by omega)
 ·
  rename_i h0
  obtain ⟨k, e, hk, _⟩ := frame_yes (s := s) (no := no) (by omega)
  rw [e]
  have ho := outF_di h hm hk
  obtain ⟨e1, e2, e3, e4⟩ := outF_same hk
  have hdk := ho.dk; have hsu := ho.su; have hfk := ho.fk
  rw [e2] at hdk hsu hfk
  exact ⟨hdk, h.ep, by have := h.lm; show s.Log.length ≤ _; omega, hsu, h.rc, hfk.del, ⟨Int.le_refl _, by show (0 : Int) ≤ 2; omega⟩⟩
theorem appS_di {s : GStore} {m : Nat} {r : GLogRecord} (h : DI s m) (hr : DrR (appR s r) s.Log.length) : DI (appS s r) (m + 1) := by
 have hsu := h.su
 have hl : (appS s r).Log.length = s.Log.length + 1 := by show (s.Log ++ [_]).length = _; simp
 have hg : ∀ i : Nat, (i : Int) < s.Sure → (s.Log ++ [appR s r]).getD i .zero = s.Log.getD i .zero := fun i hi => by
  rw [List.getD_eq_getElem?_getD, List.getElem?_append_left (by omega), List.getD_eq_getElem?_getD]
 refine ⟨⟨h.dk.dok, h.dk.ar, h.dk.se, fun i hi => ?_, h.dk.ca, Nat.le_trans h.dk.cm (by omega), h.dk.pg, h.dk.pc⟩, h.ep, by rw [hl]; have := h.lm; omega, ⟨hsu.1, by rw [hl]; show s.Sure ≤ _; omega⟩, fun i hi => ?_, by rw [hl]; exact h.fk.mono (by omega), h.hd⟩
 ·
  show s.Disk.Sectors.getD (9 + i) [] = if (i : Int) < s.Sure then rbF ((s.Log ++ [appR s r]).getD i .zero) else []
  rw [h.dk.sg i hi]
  split
  ·
   rename_i q; rw [hg i q]
  ·
   rfl
 ·
  have hi2 : i < (s.Log ++ [appR s r]).length := hi
  show DrR ((s.Log ++ [appR s r])[i]'hi2) i
  by_cases q : i < s.Log.length
  ·
   rw [List.getElem_append_left q]; exact h.rc i q
  ·
   obtain rfl : i = s.Log.length := by rw [hl] at hi; omega
   rw [List.getElem_append_right (Nat.le_refl _)]; simpa using hr
theorem putC_di {s : GStore} {m k slot : Nat} {x : Str} {lsn : Int} (h : DI s m) (hk : k < s.Frames.length) (hs : slot < 4) (hx : x.length ≤ 30) (hl : 1 ≤ lsn ∧ lsn ≤ s.Log.length) (h6 : s.Log.length ≤ 1000) : DI (putC s k slot x lsn) m := by
 have hf := h.fk.fr _ (List.getElem_mem hk)
 refine ⟨h.dk, h.ep, h.lm, h.su, h.rc, ?_, h.hd⟩
 show FKs (s.Frames.set k (cgF (fAt s k) slot x lsn)) _
 rw [fAt_eq hk]
 refine h.fk.set hk ⟨hf.no, ⟨by show (s.Frames[k].Page.slots.set slot x).length = 4; rw [List.length_set]; exact hf.pg.ln, set_st hf.pg.st hx, by show 0 ≤ lsn ∧ lsn ≤ 1000; omega⟩, hl.2, ?_, ?_⟩ rfl
 ·
  show 0 ≤ (if s.Frames[k].Dirty = true then s.Frames[k].First else lsn) ∧ (if s.Frames[k].Dirty = true then s.Frames[k].First else lsn) ≤ _
  split
  ·
   exact hf.fi
  ·
   omega
 ·
  show true = decide (0 < (if s.Frames[k].Dirty = true then s.Frames[k].First else lsn))
  split
  ·
   rename_i q; rw [← hf.di, q]
  ·
   rw [decide_eq_true (by omega)]
theorem flF_log {s : GStore} {n : Int} : (flF s n).Log = s.Log := flF_same.2.1
theorem evictF_log {s : GStore} {no : Nat} : (evictF s no).1.Log = s.Log := by unfold evictF; split <;> rfl
theorem rec_upd {r : GLogRecord} {i : Nat} (h : DrR r i) (h2 : r.Kind = 2) : 0 ≤ r.Page ∧ r.Page ≤ 7 ∧ 0 ≤ r.Slot ∧ r.Slot ≤ 3 ∧ r.After.length ≤ 30 := by
 have hsh := h.sh
 have := h.ok; unfold recP at this
 obtain ⟨_, q | ⟨_, q | q | q⟩⟩ := this
 ·
  omega
 ·
  obtain ⟨_, q1, q2, q3, q4, _⟩ := q; exact ⟨q1, q2, q3, q4, hsh.2⟩
 ·
  obtain ⟨_, q1, q2, q3, q4, _⟩ := q; exact ⟨q1, q2, q3, q4, hsh.2⟩
 ·
  omega
theorem applyF_di {s : GStore} {m k : Nat} (h : DI s m) (hm : m ≤ 59) (hk : k < s.Log.length) (h2 : s.Log[k].Kind = 2) : DI (applyF s k) (m + 1) ∧ (applyF s k).Log = s.Log := by
 have hr := h.rc k hk
 have hsh := hr.sh
 have hrk : recAt s k = s.Log[k] := getD_z hk
 have hp : 0 ≤ s.Log[k].Page ∧ s.Log[k].Page ≤ 7 ∧ 0 ≤ s.Log[k].Slot ∧ s.Log[k].Slot ≤ 3 := by
  have := hr.ok; unfold recP at this
  obtain ⟨_, q | ⟨_, q | q | q⟩⟩ := this
  ·
   omega
  ·
   obtain ⟨_, q1, q2, q3, q4, _⟩ := q; exact ⟨q1, q2, q3, q4⟩
  ·
   obtain ⟨_, q1, q2, q3, q4, _⟩ := q; exact ⟨q1, q2, q3, q4⟩
  ·
   omega
 obtain ⟨h3, e, j, hj, hjl, _⟩ := fetchF_di (no := s.Log[k].Page.toNat) h (by omega) (by omega)
 unfold applyF
 rw [hrk, hj]
 have hlm := h.lm
 exact ⟨putC_di h3 hjl (by omega) hsh.2 (by rw [e]; omega) (by rw [e]; omega), e⟩
theorem applyF_f {s : GStore} {k j : Nat} (hj : (fetchF s (recAt s k).Page.toNat).2 = j) (hq : (fAt (fetchF s (recAt s k).Page.toNat).1 j).Dirty = false) : applyF s k = ⟨(fetchF s (recAt s k).Page.toNat).1.Disk, (fetchF s (recAt s k).Page.toNat).1.Epoch, (fetchF s (recAt s k).Page.toNat).1.Log, (fetchF s (recAt s k).Page.toNat).1.Sure,
  (fetchF s (recAt s k).Page.toNat).1.Frames.set j ⟨(fAt (fetchF s (recAt s k).Page.toNat).1 j).No, ⟨(k : Int) + 1, (fAt (fetchF s (recAt s k).Page.toNat).1 j).Page.slots.set (recAt s k).Slot.toNat (recAt s k).After⟩, true, (k : Int) + 1⟩, (fetchF s (recAt s k).Page.toNat).1.Hand⟩ := by
 unfold applyF putC cgF; rw [hj, Int.toNat_natCast, if_neg (by rw [hq]; simp)]
theorem applyF_t {s : GStore} {k j : Nat} (hj : (fetchF s (recAt s k).Page.toNat).2 = j) (hq : (fAt (fetchF s (recAt s k).Page.toNat).1 j).Dirty = true) : applyF s k = ⟨(fetchF s (recAt s k).Page.toNat).1.Disk, (fetchF s (recAt s k).Page.toNat).1.Epoch, (fetchF s (recAt s k).Page.toNat).1.Log, (fetchF s (recAt s k).Page.toNat).1.Sure,
  (fetchF s (recAt s k).Page.toNat).1.Frames.set j ⟨(fAt (fetchF s (recAt s k).Page.toNat).1 j).No, ⟨(k : Int) + 1, (fAt (fetchF s (recAt s k).Page.toNat).1 j).Page.slots.set (recAt s k).Slot.toNat (recAt s k).After⟩, (fAt (fetchF s (recAt s k).Page.toNat).1 j).Dirty, (fAt (fetchF s (recAt s k).Page.toNat).1 j).First⟩, (fetchF s (recAt s k).Page.toNat).1.Hand⟩ := by
 unfold applyF putC cgF; rw [hj, Int.toNat_natCast, if_pos hq, hq]
def rTexts : List Str := [[], [114, 101, 99], [114, 101, 99, 111, 114, 100]]
theorem rTexts_len : ∀ t ∈ rTexts, t.length ≤ 30 := by decide
def begR : GLogRecord := ⟨0, 0, 1, 1, 0, 0, 0, 0, [], []⟩
def updR (s : GStore) (pg slot : Int) (x : Str) : GLogRecord := ⟨0, 0, 1, 2, s.Log.length, 0, pg, slot, [111, 108, 100], x⟩
theorem appS_len {s : GStore} {r : GLogRecord} : (((appS s r).Log.length : Nat) : Int) = (s.Log.length : Int) + 1 := by
 show (((s.Log ++ [_]).length : Nat) : Int) = _; simp
theorem appS_at {s : GStore} {r : GLogRecord} : s.Log.length < (appS s r).Log.length := by have := @appS_len s r; omega
theorem appS_get {s : GStore} {r : GLogRecord} (h : s.Log.length < (appS s r).Log.length) : (appS s r).Log[s.Log.length] = appR s r := by
 have h2 : s.Log.length < (s.Log ++ [appR s r]).length := h
 show (s.Log ++ [appR s r])[s.Log.length]'h2 = _
 rw [List.getElem_append_right (Nat.le_refl _)]; simp
theorem beg_di {s : GStore} {m : Nat} (h : DI s m) (hm : m ≤ 50) : DI (appS s begR) (m + 1) := by
 have hlm := h.lm; have hep := h.ep
 refine appS_di h ⟨?_, rfl, hep, by show (1 : Int) ≤ 5; omega⟩
 unfold recP appR begR
 refine ⟨by dsimp only; omega, .inr ⟨by dsimp only; omega, .inr (.inr ⟨by dsimp only; omega, by dsimp only; omega, rfl, rfl, rfl, rfl, rfl⟩)⟩⟩
theorem upd_di {s : GStore} {m : Nat} {pg slot : Int} {x : Str} (h : DI s m) (hm : m ≤ 50) (h0 : ¬ (s.Log.length : Int) = 0) (hp : 0 ≤ pg ∧ pg < 8) (hs : 0 ≤ slot ∧ slot < 4) (hx : x ∈ rTexts) : DI (appS s (updR s pg slot x)) (m + 1) := by
 have hlm := h.lm; have hep := h.ep; have hxl := rTexts_len x hx
 refine appS_di h ⟨?_, rfl, hep, by show (2 : Int) ≤ 5; omega⟩
 unfold recP appR updR
 refine ⟨by dsimp only; omega, .inr ⟨by dsimp only; omega, .inl ⟨rfl, hp.1, by dsimp only; omega, hs.1, by dsimp only; omega, by show 3 ≤ 30; omega, hxl, rfl⟩⟩⟩
theorem upd_kind {s : GStore} {pg slot : Int} {x : Str} : ((appS s (updR s pg slot x)).Log[s.Log.length]'appS_at).Kind = 2 := by rw [appS_get]; rfl
theorem epochs_1 : ∀ {l : List GLogRecord}, (∀ r ∈ l, r.Epoch = 1) → epochsOK 1 1 l = true
 | [], _ => rfl
 | r :: l, h => by
  have h1 := h r (List.mem_cons_self ..)
  rw [epochsOK, h1, epochs_1 (fun x hx => h x (List.mem_cons_of_mem _ hx))]; rfl
theorem di_ok {s : GStore} {m : Nat} (h : DI s m) (hm : m ≤ 60) : storeOK s = true := by
 have hlm := h.lm; have hfl := h.fk.fl; have hsu := h.su; have hhd := h.hd
 have hg : goodA s.Log = true := goodA_iff.2 (fun i hi => ⟨recOK_t (h.rc i hi).ok, by rw [(h.rc i hi).ls]; omega⟩)
 have hb := badHd_f (s := s) ⟨h.dk.dok.ok, h.dk.se, by rw [h.ep]; omega, by omega, h.su⟩ hg
 have he : epochsOK s.Epoch 1 s.Log = true := by
  rw [h.ep]
  refine epochs_1 (fun r hr => ?_)
  obtain ⟨i, hi, rfl⟩ := List.mem_iff_getElem.1 hr
  exact (h.rc i hi).ep
 have hp : pagesOK s = true := pagesOK_all (fun k hk => by
  obtain ⟨h1, _, h2⟩ := h.page hk
  unfold pageBad; rw [h1, decide_eq_false (by omega)]; rfl)
 have hf : framesOK s = true := frames_all (fun k hk => by
  have hf := h.fk.fr _ (List.getElem_mem hk)
  unfold frameBad
  rw [frame_self h.fk hk, hf.pg.ok, inR_iff.2 (show 0 ≤ s.Frames[k].No ∧ s.Frames[k].No ≤ 8 - 1 by have := hf.no; omega), inR_iff.2 hf.fi, hf.di, decide_eq_false (show ¬ (s.Log.length : Int) < s.Frames[k].Page.lsn by have := hf.ls; omega)]
  simp)
 rw [storeOK_t hb he hp, hf, decide_eq_true (show (s.Frames.length : Int) ≤ 3 by omega), inR_iff.2 (show 0 ≤ s.Hand ∧ s.Hand ≤ 3 - 1 by omega)]; rfl
theorem di_stb {s : GStore} {m : Nat} (h : DI s m) (hm : m ≤ 60) : StB s := by
 have hlm := h.lm; have hfl := h.fk.fl; have := h.dk.dok.k1; have := h.dk.se; have := h.dk.cm
 exact ⟨by omega, by omega, by omega, by omega, fun i hi => by have := (h.rc i hi).sh; omega, by omega, fun f hf => by have := (h.fk.fr f hf).pg.ln; omega, fun f hf => ⟨by have := (h.fk.fr f hf).pg.ln; omega, fun x hx => by have := (h.fk.fr f hf).pg.st x hx; omega⟩⟩
theorem byteOf_int {n : Int} (h : 0 ≤ n ∧ n ≤ 255) : ((byteOf n).toNat : Int) = n := by
 have := byteOf_nat n.toNat
 rw [show ((n.toNat : Nat) : Int) = n from by omega] at this
 omega
theorem l04_rb {r : GLogRecord} {i : Nat} (h : DrR r i) (hi : i < 60) : l04F (rbF r) = (r, true) := by
 have hsh := h.sh; have hls := h.ls; have hep := h.ep; have hkd := h.kd
 have hrg : (0 ≤ r.Tx ∧ r.Tx ≤ 255) ∧ (0 ≤ r.Kind ∧ r.Kind ≤ 255) ∧ (0 ≤ r.Prev ∧ r.Prev ≤ 255) ∧ (0 ≤ r.Next ∧ r.Next ≤ 255) ∧ (0 ≤ r.Page ∧ r.Page ≤ 255) ∧ (0 ≤ r.Slot ∧ r.Slot ≤ 255) := by
  have := h.ok; unfold recP at this; omega
 obtain ⟨g3, g4, g5, g6, g7, g8⟩ := hrg
 have hu : unsealF (rbF r) = (putFs [108, byteOf r.Epoch, byteOf r.Lsn, byteOf r.Tx, byteOf r.Kind, byteOf r.Prev, byteOf r.Next, byteOf r.Page, byteOf r.Slot] [r.Before, r.After], true) := unseal_seal
 have eu : putFs [108, byteOf r.Epoch, byteOf r.Lsn, byteOf r.Tx, byteOf r.Kind, byteOf r.Prev, byteOf r.Next, byteOf r.Page, byteOf r.Slot] [r.Before, r.After] = [108, byteOf r.Epoch, byteOf r.Lsn, byteOf r.Tx, byteOf r.Kind, byteOf r.Prev, byteOf r.Next, byteOf r.Page, byteOf r.Slot] ++ (byteOf ([r.Before, r.After] : List Str).length :: ([r.Before, r.After] : List Str).flatMap fieldB) := by
  unfold putFs putK; rw [List.take_of_length_le (Nat.le_refl _)]; simp
 rw [eu] at hu
 have ef : fieldsF ⟨byteOf ([r.Before, r.After] : List Str).length :: ([r.Before, r.After] : List Str).flatMap fieldB, false⟩ = ([r.Before, r.After], ⟨[], false⟩) := fieldsF_put (by simp) (two_len (by omega) (by omega))
 generalize hw : byteOf ([r.Before, r.After] : List Str).length :: ([r.Before, r.After] : List Str).flatMap fieldB = w at hu ef
 have hwl : 1 ≤ w.length := by rw [← hw]; simp
 obtain ⟨e1, e2⟩ := flds_l01 (s := w) (.inl (by rw [ef]; rfl))
 rw [ef] at e1 e2
 have e3 : (l01F w).2 = true := e1.symm.trans rfl
 have e4 : [r.Before, r.After] = (l01F w).1 := e2 rfl
 have hb : badS (rbF r) = false := by
  unfold badS; rw [hu]
  simp only [List.length_append, List.length_cons, List.length_nil]
  rw [decide_eq_false (by omega)]; rfl
 have hb2 : badL (unsealF (rbF r)).1 = false := by
  unfold badL; rw [hu]
  show (!(l01F w).2 || !decide (((l01F w).1.length : Int) = 2)) = false
  rw [e3, ← e4]; rfl
 have e5 : recS (unsealF (rbF r)).1 = r := by
  rw [hu]
  unfold recS
  show (⟨((byteOf r.Epoch).toNat : Int), ((byteOf r.Lsn).toNat : Int), ((byteOf r.Tx).toNat : Int), ((byteOf r.Kind).toNat : Int), ((byteOf r.Prev).toNat : Int), ((byteOf r.Next).toNat : Int), ((byteOf r.Page).toNat : Int), ((byteOf r.Slot).toNat : Int), (l01F w).1.getD 0 [], (l01F w).1.getD 1 []⟩ : GLogRecord) = r
  rw [byteOf_int (n := r.Epoch) (by omega), byteOf_int (n := r.Lsn) (by omega), byteOf_int g3, byteOf_int g4, byteOf_int g5, byteOf_int g6, byteOf_int g7, byteOf_int g8, ← e4]; rfl
 rw [l04F_3 hb hb2, e5, recOK_t h.ok]
theorem l04_nil : (l04F []).2 = false := by
 rw [l04F_1 (by unfold badS; rw [unseal_1 (by left; show ((0 : Nat) : Int) - 4 < 0; omega)]; rfl)]
theorem crash_sec {d : GDisk} {log : List GLogRecord} {su : Int} {m : Nat} {keep : List Int} (h : DKs d log su m) {i : Nat} (hi : i < 60) : txtD (crashD d keep) (9 + i) = if (i : Int) < su then rbF (log.getD i .zero) else [] := by
 show lastW [] _ ((keptTo d.Sectors d.Cache keep d.Cache.length).getD (9 + i) []) = _
 show (keptTo d.Sectors d.Cache keep d.Cache.length).getD (9 + i) [] = _
 rcases keptTo_get (S := d.Sectors) (C := d.Cache) (keep := keep) (i := 9 + i) (by have := h.se; omega) (fun p hp => by have := h.ca p hp; omega) d.Cache.length (Nat.le_refl _) with q | ⟨p, hp, q, _⟩
 ·
  rw [q, h.sg i hi]
 ·
  have := h.ca p hp; omega
theorem logR_sure {s : GStore} {m : Nat} (h : DI s m) (hm : m ≤ 59) {keep : List Int} : ∀ {j k : Nat}, (k : Int) + j = s.Sure → logR (crashD s.Disk keep) 1 (60 - k) k 1 = (s.Log.take s.Sure.toNat).drop k
 | 0, k, e => by
  have hsu := h.su; have hlm := h.lm
  rw [logR_f, List.drop_of_length_le (by rw [List.length_take]; omega)]
  rw [crash_sec h.dk (by omega), if_neg (by omega)]
  unfold takesR; rw [l04_nil]; rfl
 | j + 1, k, e => by
  have hsu := h.su; have hlm := h.lm
  have hk : k < s.Log.length := by omega
  have hr := h.rc k hk
  have et : txtD (crashD s.Disk keep) (9 + k) = rbF s.Log[k] := by rw [crash_sec h.dk (by omega), if_pos (by omega), getD_z hk]
  have e4 : l04F (txtD (crashD s.Disk keep) (9 + k)) = (s.Log[k], true) := by rw [et]; exact l04_rb hr (by omega)
  rw [show 60 - k = (60 - (k + 1)) + 1 from by omega, logR_t (by
   unfold takesR; rw [e4, inR_iff.2 (show 1 ≤ s.Log[k].Epoch ∧ s.Log[k].Epoch ≤ 1 by rw [hr.ep]; omega), decide_eq_true (show s.Log[k].Lsn = ((k + 1 : Nat) : Int) by rw [hr.ls]; omega)]; rfl), e4]
  show s.Log[k] :: logR (crashD s.Disk keep) 1 (60 - (k + 1)) (k + 1) s.Log[k].Epoch = _
  rw [hr.ep, logR_sure h hm (j := j) (by omega)]
  have hkt : k < (s.Log.take s.Sure.toNat).length := by rw [List.length_take]; omega
  rw [List.drop_eq_getElem_cons hkt, List.getElem_take]
theorem read_di {s : GStore} {m : Nat} (h : DI s m) (hm : m ≤ 59) {keep : List Int} : readF (crashD s.Disk keep) s.Epoch = (s.Log.take s.Sure.toNat, 0) := by
 rw [readF_3 (crashD_ok h.dk.dok).ok (by rw [h.ep]; rfl)]
 unfold logF
 rw [show (crashD s.Disk keep).Sectors.length - 9 = 60 - 0 from by rw [crashD_len, h.dk.se], h.ep, logR_sure h hm (j := s.Sure.toNat) (k := 0) (by have := h.su; omega), List.drop_zero]
abbrev bx9 (d : GDisk) (v0 v1 v2 v3 v4 : D) : List (Nat × OB) := [(1000, .box [.osl 1001 1 0 d.Sectors.length, .osl 1002 2 0 d.Cache.length, .d (.bool d.Armed), .osl 1003 1 0 d.Keep.length, .d v0, .d v1, .d v2, .d v3, .d v4]), (1001, .rows 1 (d.Sectors.map strRow)), (1002, .rows 2 (d.Cache.map GPending.row)), (1003, .rows 1 (d.Keep.map intRow))]
abbrev bxS (s : GStore) : List (Nat × OB) := bx9 s.Disk (.int .i64 s.Epoch) (.sl 10 (s.Log.map GLogRecord.row)) (.int .i64 s.Sure) (.sl 5 (s.Frames.map GFrame.row)) (.int .i64 s.Hand)
/-- The records that a flush writes. -/
def flR (s : GStore) (n : Int) : List GLogRecord := (s.Log.drop s.Sure.toNat).take (n - s.Sure).toNat
theorem flR_slc {s : GStore} {n : Int} (h : 0 ≤ s.Sure) (h1 : s.Sure ≤ n) : AV.d (.sl 10 (((s.Log.map GLogRecord.row).drop s.Sure.toNat).take (n.toNat - s.Sure.toNat))) = .d (.sl 10 ((flR s n).map GLogRecord.row)) := by
 unfold flR; rw [show n.toNat - s.Sure.toNat = (n - s.Sure).toNat from by omega, List.map_take, List.map_drop]
theorem flR_len {s : GStore} {n : Int} (h : 0 ≤ s.Sure) (h1 : n ≤ s.Log.length) : (flR s n).length = (n - s.Sure).toNat := by
 unfold flR; rw [List.length_take, List.length_drop]; omega
theorem flR_at {s : GStore} {n : Int} {k : Nat} (h : 0 ≤ s.Sure) (h1 : n ≤ s.Log.length) (hk : k < (n - s.Sure).toNat) : ((flR s n).map GLogRecord.row)[k]? = some (GLogRecord.row (s.Log.getD (s.Sure.toNat + k) .zero)) := by
 rw [mapAtZ (z := GLogRecord.zero) (by rw [flR_len h h1]; exact hk)]
 unfold flR
 rw [List.getD_eq_getElem?_getD, List.getElem?_take, if_pos hk, List.getElem?_drop, ← List.getD_eq_getElem?_getD]
theorem slcZ_take {α : Type} {row : α → List D} {n : Nat} {z : Int} {xs : List α} : AV.d (.sl n (((xs.map row).drop (0 : Int).toNat).take (z.toNat - (0 : Int).toNat))) = .d (.sl n ((xs.take z.toNat).map row)) := by
 rw [Int.toNat_zero, List.drop_zero, Nat.sub_zero, List.map_take]
end Go.AM
