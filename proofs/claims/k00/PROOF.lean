import PyProof.Rows.All
import Wide.All
import OpenK.AllK
import Wide.FinOn
import HandS.ForMost
import HandS.ForExc
import HandS.Deep
import HandS.Wide
import HandS.TupAny
import HandS.Conv
import HandS.Style
import HandS.IsInst
import HandS.Rev
import HandS.Walk
import HandS.RevTup
import PySem.Challenge.RW_linesfitted_k00_fractions_by_the_rules_o
set_option Elab.async false
set_option linter.all false
set_option maxRecDepth 100000
set_option maxHeartbeats 1000000
/-! Dn: values as data, one assertion for the heap, readings that speak of data alone. -/
namespace Dn
open PySem PySem.Spec PyProof.Rows L2

abbrev D := PyData
def keyD : Key → D
  | .inl i => .int i
  | .inr x => .str x
mutual
inductive Is (K : PySem.W.Frag) (H : Hp) : V → D → Prop
  | non : Is K H .non .none
  | bl (b : Bool) : Is K H (.bl b) (.bool b)
  | int (i : Int) : Is K H (.int i) (.int i)
  | str (x : Str) : Is K H (.str x) (.str x)
  | lst {a : Addr} {xs : List V} {ds : List D} : H a = some (.lst xs) → IsAll K H xs ds → Is K H (.ref a) (.list ds)
  | tup {a : Addr} {xs : List V} {ds : List D} : SqT K H a xs → IsAll K H xs ds → Is K H (.ref a) (.tuple ds)
  | dk {a : Addr} {ks : List Key} {vs : List V} {ds : List D} : Rd H a (.dK (ks.zip vs)) → ks.length = vs.length → IsAll K H vs ds → Is K H (.ref a) (.dict ((ks.map keyD).zip ds))
  | dt {a : Addr} {ks : List (List Key)} {vs : List V} {ds : List D} : H a = some (.dT (ks.zip vs)) → ks.length = vs.length → IsAll K H vs ds → Is K H (.ref a) (.dict ((ks.map fun k => PyData.tuple (k.map keyD)).zip ds))
inductive IsAll (K : PySem.W.Frag) (H : Hp) : List V → List D → Prop
  | nil : IsAll K H [] []
  | cons {v : V} {vs : List V} {d : D} {ds : List D} : Is K H v d → IsAll K H vs ds → IsAll K H (v :: vs) (d :: ds)
end

theorem Same.sqt {K : PySem.W.Frag} {H H' : Hp} {a : Addr} {xs : List V} (e : Same H H') (h : SqT K H a xs) : SqT K H' a xs := by
  rcases h with (h | ⟨o, h⟩) | h
  · exact .inl (.inl (e _ _ h))
  · exact .inl (.inr ⟨o, e _ _ h⟩)
  · exact .inr h
theorem Same.rd {H H' : Hp} {a : Addr} {u : HO} (e : Same H H') (h : Rd H a u) : Rd H' a u := by
  rcases h with h | ⟨o, h⟩
  · exact .inl (e _ _ h)
  · exact .inr ⟨o, e _ _ h⟩
section
variable {K : PySem.W.Frag} {H H' : Hp}
mutual
theorem Is.mono (e : Same H H') : ∀ {v : V} {d : D}, Is K H v d → Is K H' v d
  | _, _, .non => .non
  | _, _, .bl b => .bl b
  | _, _, .int i => .int i
  | _, _, .str x => .str x
  | _, _, .lst h a => .lst (e _ _ h) (IsAll.mono e a)
  | _, _, .tup h a => .tup (Same.sqt e h) (IsAll.mono e a)
  | _, _, .dk h l a => .dk (Same.rd e h) l (IsAll.mono e a)
  | _, _, .dt h l a => .dt (e _ _ h) l (IsAll.mono e a)
theorem IsAll.mono (e : Same H H') : ∀ {vs : List V} {ds : List D}, IsAll K H vs ds → IsAll K H' vs ds
  | _, _, .nil => .nil
  | _, _, .cons h t => .cons (Is.mono e h) (IsAll.mono e t)
end
theorem IsAll.length : ∀ {vs : List V} {ds : List D}, IsAll K H vs ds → vs.length = ds.length
  | _, _, .nil => rfl
  | _, _, .cons _ t => by simp [IsAll.length t]
theorem IsAll.get : ∀ {vs : List V} {ds : List D} {i : Nat} {v : V}, IsAll K H vs ds → vs[i]? = some v → ∃ d, ds[i]? = some d ∧ Is K H v d
  | _, _, _, _, .nil, e => by simp at e
  | _, _, 0, _, .cons h _, e => by simp at e; subst e; exact ⟨_, rfl, h⟩
  | _, _, i + 1, v, .cons _ t, e => by
    obtain ⟨d, h1, h2⟩ := IsAll.get (i := i) (v := v) t (by simpa using e)
    exact ⟨d, by simpa using h1, h2⟩
theorem IsAll.get' : ∀ {vs : List V} {ds : List D} {i : Nat} {d : D}, IsAll K H vs ds → ds[i]? = some d → ∃ v, vs[i]? = some v ∧ Is K H v d
  | _, _, _, _, .nil, e => by simp at e
  | _, _, 0, _, .cons h _, e => by simp at e; subst e; exact ⟨_, rfl, h⟩
  | _, _, i + 1, v, .cons _ t, e => by
    obtain ⟨d, h1, h2⟩ := IsAll.get' (i := i) t (by simpa using e)
    exact ⟨d, by simpa using h1, h2⟩
theorem IsAll.append : ∀ {vs us : List V} {ds es : List D}, IsAll K H vs ds → IsAll K H us es → IsAll K H (vs ++ us) (ds ++ es)
  | _, _, _, _, .nil, s => s
  | _, _, _, _, .cons r t, s => .cons r (IsAll.append t s)
theorem IsAll.set {x : V} {u : D} (r : Is K H x u) : ∀ {xs : List V} {us : List D} (i : Nat), IsAll K H xs us → IsAll K H (xs.set i x) (us.set i u)
  | _, _, _, .nil => .nil
  | _, _, 0, .cons _ t => .cons r t
  | _, _, i + 1, .cons q t => .cons q (IsAll.set r i t)
theorem IsAll.take : ∀ {xs : List V} {us : List D} (n : Nat), IsAll K H xs us → IsAll K H (xs.take n) (us.take n)
  | _, _, 0, _ => .nil
  | _, _, _ + 1, .nil => .nil
  | _, _, n + 1, .cons r t => .cons r (IsAll.take n t)
theorem IsAll.drop : ∀ {xs : List V} {us : List D} (n : Nat), IsAll K H xs us → IsAll K H (xs.drop n) (us.drop n)
  | _, _, 0, r => r
  | _, _, _ + 1, .nil => .nil
  | _, _, n + 1, .cons _ t => IsAll.drop n t
theorem IsAll.reverse {xs : List V} {us : List D} (h : IsAll K H xs us) : IsAll K H xs.reverse us.reverse := by
  induction xs generalizing us with
  | nil => cases h; exact .nil
  | cons x xs ih =>
    cases h with
    | cons r t =>
      rw [List.reverse_cons, List.reverse_cons]
      exact (ih t).append (.cons r .nil)
theorem IsAll.dropLast {xs : List V} {us : List D} (h : IsAll K H xs us) : IsAll K H xs.dropLast us.dropLast := by
  rw [List.dropLast_eq_take, List.dropLast_eq_take, h.length]
  exact h.take _
theorem IsAll.ints : ∀ {ns : List Int} {xs : List V}, IsAll K H xs (ns.map PyData.int) → xs = ns.map V.int
  | [], _, h => by cases h; rfl
  | n :: ns, _, h => by
    cases h with
    | cons r t => cases r; rw [IsAll.ints t]; rfl
theorem IsAll.of_ints : ∀ ns : List Int, IsAll K H (ns.map V.int) (ns.map PyData.int)
  | [] => .nil
  | n :: ns => .cons (.int n) (IsAll.of_ints ns)
theorem IsAll.strs : ∀ {ns : List Str} {xs : List V}, IsAll K H xs (ns.map PyData.str) → xs = ns.map V.str
  | [], _, h => by cases h; rfl
  | n :: ns, _, h => by
    cases h with
    | cons r t => cases r; rw [IsAll.strs t]; rfl
theorem IsAll.of_strs : ∀ ns : List Str, IsAll K H (ns.map V.str) (ns.map PyData.str)
  | [] => .nil
  | n :: ns => .cons (.str n) (IsAll.of_strs ns)
theorem IsAll.bls : ∀ {ns : List Bool} {xs : List V}, IsAll K H xs (ns.map PyData.bool) → xs = ns.map V.bl
  | [], _, h => by cases h; rfl
  | n :: ns, _, h => by
    cases h with
    | cons r t => cases r; rw [IsAll.bls t]; rfl
end

/-! ### what a frame holds -/
inductive Sl where
  | non
  | val (d : D)
  | own (d : D)
  /-- a list that is only read -/
  | seq (ds : List D)
inductive Exn where
  | plain (C : Addr)
  | low (C : Addr) (f : Str) (d : D)
abbrev Ro := List Sl
structure Gm where
  B : Hp
  G0 : Hp
  H0 : Hp
  I : List Nat
  ad : Nat → Addr
  W : Exn → Ro → Prop
def Own (K : PySem.W.Frag) (G H : Hp) (a : Addr) (d : D) : Prop :=
  (∃ xs ds, d = .list ds ∧ H a = some (.lst xs) ∧ IsAll K G xs ds) ∨
  (∃ (ks : List Key) (vs : List V) (ds : List D), d = .dict ((ks.map keyD).zip ds) ∧ ks.length = vs.length ∧ H a = some (.dK (ks.zip vs)) ∧ IsAll K G vs ds) ∨
  (∃ (ks : List (List Key)) (vs : List V) (ds : List D), d = .dict ((ks.map fun k => PyData.tuple (k.map keyD)).zip ds) ∧ ks.length = vs.length ∧ H a = some (.dT (ks.zip vs)) ∧ IsAll K G vs ds)
theorem Own.some {K : PySem.W.Frag} {G H : Hp} {a : Addr} {d : D} (h : Own K G H a d) : ∃ o, H a = some o := by
  rcases h with ⟨_, _, _, h, _⟩ | ⟨_, _, _, _, _, h, _⟩ | ⟨_, _, _, _, _, h, _⟩ <;> exact ⟨_, h⟩
theorem Own.mono {K : PySem.W.Frag} {G H G' H' : Hp} {a : Addr} {d : D} (h : Own K G H a d) (e : Same G G') (e' : H' a = H a) : Own K G' H' a d := by
  rcases h with ⟨xs, ds, h1, h2, h3⟩ | ⟨ks, vs, ds, h1, h2, h3, h4⟩ | ⟨ks, vs, ds, h1, h2, h3, h4⟩
  · exact .inl ⟨xs, ds, h1, by rw [e', h2], h3.mono e⟩
  · exact .inr (.inl ⟨ks, vs, ds, h1, h2, by rw [e', h3], h4.mono e⟩)
  · exact .inr (.inr ⟨ks, vs, ds, h1, h2, by rw [e', h3], h4.mono e⟩)
/-- given away: from now on it stands still -/
theorem Own.is {K : PySem.W.Frag} {G H G' : Hp} {a : Addr} {d : D} (h : Own K G H a d) (e : Same G G') (e' : G' a = H a) : Is K G' (.ref a) d := by
  rcases h with ⟨xs, ds, h1, h2, h3⟩ | ⟨ks, vs, ds, h1, h2, h3, h4⟩ | ⟨ks, vs, ds, h1, h2, h3, h4⟩
  · rw [h1]; exact .lst (by rw [e', h2]) (h3.mono e)
  · rw [h1]; exact .dk (.of (by rw [e', h3])) h2 (h4.mono e)
  · rw [h1]; exact .dt (by rw [e', h3]) h2 (h4.mono e)
def SlOk (K : PySem.W.Frag) (H0 G H : Hp) (s : Sl) (o : Option V) : Prop :=
  match s with
  | .non => True
  | .val d => ∃ v, o = some v ∧ Is K G v d
  | .own d => ∃ a, o = some (.ref a) ∧ G a = none ∧ H0 a = none ∧ Own K G H a d
  | .seq ds => ∃ a xs, o = some (.ref a) ∧ SqL K G a xs ∧ IsAll K G xs ds
structure At (K : PySem.W.Frag) (Γ : Gm) (ρ : Ro) (σ : L2.St) (G H : Hp) : Prop where
  len : σ.length = ρ.length
  sl : ∀ (i : Nat) (s : Sl) (o : Option V), ρ[i]? = some s → σ[i]? = some o → SlOk K Γ.H0 G H s o
  sep : ∀ (i j : Nat) (di dj : D) (a : Addr), ρ[i]? = some (.own di) → ρ[j]? = some (.own dj) → σ[i]? = some (some (.ref a)) → σ[j]? = some (some (.ref a)) → i = j
  sub : Same G H
  old : ∀ a, Γ.H0 a ≠ none → G a = Γ.G0 a
  kept : Same Γ.H0 H
  inh : ∀ (i : Nat), i ∈ Γ.I → σ[i]? = some (some (.ref (Γ.ad i)))
  bas : Same Γ.B G
structure Grow (G H G' H' : Hp) : Prop where
  gg : Same G G'
  hh : Same H H'
  gh : Same G' H'
  new : ∀ a, H a ≠ none → G' a = G a
theorem Grow.refl {G H : Hp} (h : Same G H) : Grow G H G H := ⟨Same.refl _, Same.refl _, h, fun _ _ => rfl⟩
theorem some_ne {α : Type} {x : Option α} {a : α} (h : x = some a) : x ≠ none := by rw [h]; exact fun z => nomatch z
theorem Grow.trans {G H G1 H1 G2 H2 : Hp} (a : Grow G H G1 H1) (b : Grow G1 H1 G2 H2) : Grow G H G2 H2 where
  gg := a.gg.trans b.gg
  hh := a.hh.trans b.hh
  gh := b.gh
  new := fun p h => by
    obtain ⟨o, e⟩ := Option.ne_none_iff_exists'.mp h
    rw [b.new p (some_ne (a.hh p o e)), a.new p h]
/-- a new thing that stands still -/
theorem Grow.laid {G H : Hp} {p : Addr} {o : HO} (e : Same G H) (h : H p = none) : Grow G H (upd G p o) (upd H p o) where
  gg := fun b u q => by rw [upd_ne (ne_of_none q (e.free h))]; exact q
  hh := fun b u q => by rw [upd_ne (ne_of_none q h)]; exact q
  gh := fun b u q => by
    by_cases hb : b = p
    · subst hb; rw [upd_same] at q ⊢; exact q
    · rw [upd_ne hb] at q ⊢; exact e b u q
  new := fun b q => upd_ne (fun z => q (by rw [z]; exact h))
section
variable {K : PySem.W.Frag} {Γ : Gm} {ρ : Ro} {σ : L2.St} {G H G' H' : Hp}
theorem At.grow (a : At K Γ ρ σ G H) (g : Grow G H G' H') : At K Γ ρ σ G' H' where
  len := a.len
  sl := fun i s o h1 h2 => by
    have q := a.sl i s o h1 h2
    cases s with
    | non => exact True.intro
    | val d => obtain ⟨v, e, q⟩ := q; exact ⟨v, e, q.mono g.gg⟩
    | seq ds => obtain ⟨p, xs, e, q1, q2⟩ := q; exact ⟨p, xs, e, g.gg.seq q1, q2.mono g.gg⟩
    | own d =>
      obtain ⟨p, e, q1, q2, q3⟩ := q
      obtain ⟨u, hu⟩ := q3.some
      exact ⟨p, e, by rw [g.new p (some_ne hu)]; exact q1, q2, q3.mono g.gg (by rw [hu, g.hh p u hu])⟩
  sep := a.sep
  sub := g.gh
  old := fun p h => by
    obtain ⟨o, e⟩ := Option.ne_none_iff_exists'.mp h
    rw [g.new p (some_ne (a.kept p o e)), a.old p h]
  kept := a.kept.trans g.hh
  inh := a.inh
  bas := a.bas.trans g.gg
/- theorem At.w {Γ' : Gm} (a : At K Γ ρ σ G H) (h1 : Γ'.G0 = Γ.G0) (h2 : Γ'.H0 = Γ.H0) (h3 : Γ'.I = Γ.I) (h4 : Γ'.ad = Γ.ad) : At K Γ' ρ σ G H :=
  ⟨a.len, fun i s o => by rw [h2]; exact a.sl i s o, a.sep, a.sub, fun p => by rw [h1, h2]; exact a.old p, by rw [h2]; exact a.kept, by rw [h3, h4]; exact a.inh⟩ -/
theorem At.lt (a : At K Γ ρ σ G H) {i : Nat} {s : Sl} (h : ρ[i]? = some s) : ∃ o, σ[i]? = some o := by
  have := (List.getElem?_eq_some_iff.mp h).1
  exact ⟨σ[i]'(by rw [a.len]; exact this), List.getElem?_eq_getElem _⟩
theorem At.val (a : At K Γ ρ σ G H) {i : Nat} {d : D} (h : ρ[i]? = some (.val d)) : ∃ v, σ[i]? = some (some v) ∧ Is K G v d := by
  obtain ⟨o, e⟩ := a.lt h
  obtain ⟨v, e2, q⟩ := a.sl i _ o h e
  exact ⟨v, by rw [e, e2], q⟩
theorem At.own (a : At K Γ ρ σ G H) {i : Nat} {d : D} (h : ρ[i]? = some (.own d)) : ∃ p, σ[i]? = some (some (.ref p)) ∧ G p = none ∧ Γ.H0 p = none ∧ Own K G H p d := by
  obtain ⟨o, e⟩ := a.lt h
  obtain ⟨v, e2, q⟩ := a.sl i _ o h e
  exact ⟨v, by rw [e, e2], q⟩
/-- a slot is given a value -/
theorem At.set (a : At K Γ ρ σ G H) {i : Nat} {v : V} {d : D} (hi : Γ.I.contains i = false) (r : Is K G v d) : At K Γ (ρ.set i (.val d)) (σ.set i (some v)) G H where
  len := by rw [List.length_set, List.length_set, a.len]
  sl := fun j s o h1 h2 => by
    by_cases hj : i = j
    · subst hj
      have l := (List.getElem?_eq_some_iff.mp h1).1
      rw [List.length_set] at l
      rw [List.getElem?_set_self l] at h1
      rw [List.getElem?_set_self (by rw [a.len]; exact l)] at h2
      cases h1; cases h2
      exact ⟨v, rfl, r⟩
    · rw [List.getElem?_set_ne hj] at h1 h2
      exact a.sl j s o h1 h2
  sep := fun j k dj dk p h1 h2 h3 h4 => by
    by_cases hj : i = j
    · subst hj
      have l := (List.getElem?_eq_some_iff.mp h1).1
      rw [List.length_set] at l
      rw [List.getElem?_set_self l] at h1
      cases h1
    · by_cases hk : i = k
      · subst hk
        have l := (List.getElem?_eq_some_iff.mp h2).1
        rw [List.length_set] at l
        rw [List.getElem?_set_self l] at h2
        cases h2
      · rw [List.getElem?_set_ne hj] at h1 h3
        rw [List.getElem?_set_ne hk] at h2 h4
        exact a.sep j k dj dk p h1 h2 h3 h4
  sub := a.sub
  old := a.old
  kept := a.kept
  inh := fun j hj => by
    have : i ≠ j := fun z => by
      subst z
      rw [List.contains_iff_mem.mpr hj] at hi
      cases hi
    rw [List.getElem?_set_ne this]
    exact a.inh j hj
  bas := a.bas
/-- a slot is given a new thing of its own -/
theorem At.setOwn (a : At K Γ ρ σ G H) {i : Nat} {p : Addr} {d : D} (hi : Γ.I.contains i = false) (h0 : G p = none) (h1 : Γ.H0 p = none) (r : Own K G H p d) (hno : ∀ (j : Nat) dj, ρ[j]? = some (.own dj) → σ[j]? ≠ some (some (.ref p))) :
    At K Γ (ρ.set i (.own d)) (σ.set i (some (.ref p))) G H where
  len := by rw [List.length_set, List.length_set, a.len]
  sl := fun j s o h1' h2 => by
    by_cases hj : i = j
    · subst hj
      have l := (List.getElem?_eq_some_iff.mp h1').1
      rw [List.length_set] at l
      rw [List.getElem?_set_self l] at h1'
      rw [List.getElem?_set_self (by rw [a.len]; exact l)] at h2
      cases h1'; cases h2
      exact ⟨p, rfl, h0, h1, r⟩
    · rw [List.getElem?_set_ne hj] at h1' h2
      exact a.sl j s o h1' h2
  sep := fun j k dj dk q h1 h2 h3 h4 => by
    by_cases hj : i = j
    · subst hj
      by_cases hk : i = k
      · exact hk
      · have l := (List.getElem?_eq_some_iff.mp h3).1
        rw [List.length_set] at l
        rw [List.getElem?_set_self l] at h3
        cases h3
        rw [List.getElem?_set_ne hk] at h2 h4
        exact absurd h4 (hno k dk h2)
    · by_cases hk : i = k
      · subst hk
        have l := (List.getElem?_eq_some_iff.mp h4).1
        rw [List.length_set] at l
        rw [List.getElem?_set_self l] at h4
        cases h4
        rw [List.getElem?_set_ne hj] at h1 h3
        exact absurd h3 (hno j dj h1)
      · rw [List.getElem?_set_ne hj] at h1 h3
        rw [List.getElem?_set_ne hk] at h2 h4
        exact a.sep j k dj dk q h1 h2 h3 h4
  sub := a.sub
  old := a.old
  kept := a.kept
  inh := fun j hj => by
    have : i ≠ j := fun z => by
      subst z
      rw [List.contains_iff_mem.mpr hj] at hi
      cases hi
    rw [List.getElem?_set_ne this]
    exact a.inh j hj
  bas := a.bas
/-- a thing of its own is given away -/
theorem At.freeze (a : At K Γ ρ σ G H) {i : Nat} {d : D} (h : ρ[i]? = some (.own d)) : ∃ p G', σ[i]? = some (some (.ref p)) ∧ At K Γ (ρ.set i (.val d)) σ G' H ∧ Same G G' ∧ Is K G' (.ref p) d := by
  obtain ⟨p, hp, h1, h2, h3⟩ := a.own h
  obtain ⟨o, ho⟩ := h3.some
  have gg : Same G (upd G p o) := fun b u q => by rw [upd_ne (ne_of_none q h1)]; exact q
  have hl := (List.getElem?_eq_some_iff.mp h).1
  have hd : Is K (upd G p o) (.ref p) d := h3.is gg (by rw [upd_same, ho])
  refine ⟨p, upd G p o, hp, ⟨by rw [List.length_set]; exact a.len, fun j s u e1 e2 => ?_, fun j k dj dk q e1 e2 e3 e4 => ?_, fun b u q => ?_, fun b q => ?_, a.kept, a.inh, a.bas.trans gg⟩, gg, hd⟩
  · by_cases hj : i = j
    · subst hj
      rw [List.getElem?_set_self hl] at e1
      cases e1
      rw [hp] at e2
      cases e2
      exact ⟨_, rfl, hd⟩
    · rw [List.getElem?_set_ne hj] at e1
      have q := a.sl j s u e1 e2
      cases s with
      | non => exact True.intro
      | val d' => obtain ⟨v, e, q⟩ := q; exact ⟨v, e, q.mono gg⟩
      | seq ds => obtain ⟨p', xs, e, q1, q2⟩ := q; exact ⟨p', xs, e, gg.seq q1, q2.mono gg⟩
      | own d' =>
        obtain ⟨p', e, q1, q2, q3⟩ := q
        have ne : p' ≠ p := fun z => by
          subst z
          subst e
          exact hj (a.sep i j _ _ _ h e1 hp e2)
        exact ⟨p', e, by rw [upd_ne ne]; exact q1, q2, q3.mono gg rfl⟩
  · have f : ∀ (k : Nat) dk, (ρ.set i (.val d))[k]? = some (.own dk) → ρ[k]? = some (.own dk) := fun k dk e => by
      by_cases hk : i = k
      · subst hk
        rw [List.getElem?_set_self hl] at e
        cases e
      · rw [List.getElem?_set_ne hk] at e
        exact e
    exact a.sep j k dj dk q (f j dj e1) (f k dk e2) e3 e4
  · by_cases hb : b = p
    · subst hb; rw [upd_same] at q; rw [ho]; exact q
    · rw [upd_ne hb] at q; exact a.sub b u q
  · rw [upd_ne (fun z => by subst z; exact q h2)]
    exact a.old b q
/-- a thing of its own is changed -/
theorem At.write (a : At K Γ ρ σ G H) {i : Nat} {d d' : D} {p : Addr} {o : HO} (h : ρ[i]? = some (.own d)) (hp : σ[i]? = some (some (.ref p))) (r : Own K G (upd H p o) p d') : At K Γ (ρ.set i (.own d')) σ G (upd H p o) := by
  obtain ⟨p', hp', h1, h2, h3⟩ := a.own h
  rw [hp] at hp'
  cases hp'
  have hl := (List.getElem?_eq_some_iff.mp h).1
  refine ⟨by rw [List.length_set]; exact a.len, fun j s u e1 e2 => ?_, fun j k dj dk q e1 e2 e3 e4 => ?_, fun b u q => ?_, a.old, fun b u q => ?_, a.inh, a.bas⟩
  · by_cases hj : i = j
    · subst hj
      rw [List.getElem?_set_self hl] at e1
      cases e1
      rw [hp] at e2
      cases e2
      exact ⟨_, rfl, h1, h2, r⟩
    · rw [List.getElem?_set_ne hj] at e1
      have q := a.sl j s u e1 e2
      cases s with
      | non => exact True.intro
      | val d' => obtain ⟨v, e, q⟩ := q; exact ⟨v, e, q⟩
      | seq ds => exact q
      | own d' =>
        obtain ⟨p', e, q1, q2, q3⟩ := q
        have ne : p' ≠ p := fun z => by
          subst z
          subst e
          exact hj (a.sep i j _ _ _ h e1 hp e2)
        exact ⟨p', e, q1, q2, q3.mono (Same.refl _) (upd_ne ne)⟩
  · have f : ∀ (k : Nat) dk, (ρ.set i (.own d'))[k]? = some (.own dk) → ∃ d2, ρ[k]? = some (.own d2) := fun k dk e => by
      by_cases hk : i = k
      · subst hk
        exact ⟨_, h⟩
      · rw [List.getElem?_set_ne hk] at e
        exact ⟨_, e⟩
    obtain ⟨d2, f1⟩ := f j dj e1
    obtain ⟨d3, f2⟩ := f k dk e2
    exact a.sep j k d2 d3 q f1 f2 e3 e4
  · rw [upd_ne (ne_of_none q h1)]
    exact a.sub b u q
  · rw [upd_ne (ne_of_none q h2)]
    exact a.kept b u q
end
end Dn
/-! Dn: judgements and expressions. -/
namespace Dn
open PySem PySem.Spec PyProof.Rows L2

def XIs (K : PySem.W.Frag) (G H : Hp) (cls : Value) (d : Option Addr) : Exn → Prop
  | .plain C => cls = .ref C ∧ d = none
  | .low C f x => cls = .ref C ∧ ∃ a v, d = some a ∧ H a = some (.xd [(f, v)]) ∧ Is K G v x
def liftW (K : PySem.W.Frag) (Γ : Gm) : WX := fun cls d σ H => ∃ ρ G ex, At K Γ ρ σ G H ∧ XIs K G H cls d ex ∧ Γ.W ex ρ
/-- the built-in names that the text leaves as they are -/
def bnames : List Str := ["len", "range", "int", "isinstance", "sum", "any", "all", "enumerate", "sorted", "list", "tuple", "str", "max", "min", "zip", "dict", "abs", "reversed", "bool", "super", "ValueError"]
structure Cok (k : Nat) (X : Cx) (Γ : Gm) : Prop where
  calm : X.calm = true
  nd : X.N.Nodup
  room : Room k X.A
  gh : Same Γ.G0 Γ.H0
  po : PassesOwn (model X.prog X.w) X.A X.env X.xe
  bl : ∀ x : Str, bnames.contains x = true → X.mg x = none
  pa : ∀ σ, PassesAt (L2.CX X.prog X.w) X σ (WE (liftW X.K Γ) σ)
theorem Cok.hu {k : Nat} {X : Cx} {Γ : Gm} (c : Cok k X Γ) : X.A.units + 65 < cLine := by have := c.room.un; omega
/-- no exception -/
abbrev Gm.nx (Γ : Gm) : Gm := { Γ with W := fun _ _ => False }
theorem liftW_nx {K : PySem.W.Frag} {Γ : Gm} {cls d σ H} (h : liftW K Γ.nx cls d σ H) : False := by
  obtain ⟨_, _, _, _, _, h⟩ := h
  exact h
theorem Cok.blk {k : Nat} {X : Cx} {Γ : Gm} (c : Cok k X Γ) {s : Shared} {H : Hp} {scope : Scope} {cenv : Env} {fp : List Addr} : Cok k (X.blk s H scope cenv fp) Γ.nx :=
  ⟨c.calm, c.nd, c.room, c.gh, PassesOwn.never, c.bl, fun σ pins H s e s' I q => by
    obtain ⟨_, _, _, cls, d, _, _, _, _, _, _, _, z⟩ := q
    exact (liftW_nx z).elim⟩

/-! ### judgements -/
abbrev TD := Ro → (D → Ro → Prop) → Prop
inductive B where
  | dat (d : D)
  | slot (i : Nat)
abbrev TB := Ro → (B → Ro → Prop) → Prop
abbrev TT' := Ro → (Bool → Ro → Prop) → Prop
abbrev TDs := Ro → (List D → Ro → Prop) → Prop
def IsB (K : PySem.W.Frag) (σ : L2.St) (G : Hp) (v : V) : B → Prop
  | .dat d => Is K G v d
  | .slot i => σ[i]? = some (some v)
theorem IsB.mono {K : PySem.W.Frag} {σ : L2.St} {G G' : Hp} {v : V} {b : B} (e : Same G G') (h : IsB K σ G v b) : IsB K σ G' v b := by
  cases b with
  | dat d => exact Is.mono e h
  | slot i => exact h
def look (ρ : Ro) : B → Option D
  | .dat d => some d
  | .slot i => match ρ[i]? with
    | some (.val d) => some d
    | some (.own d) => some d
    | _ => none
def withD (ρ : Ro) (b : B) (k : D → Prop) : Prop := match look ρ b with
  | some d => k d
  | none => False
theorem withD.to {ρ : Ro} {b : B} {k : D → Prop} (h : withD ρ b k) : ∃ d, look ρ b = some d ∧ k d := by
  unfold withD at h
  split at h
  · exact ⟨_, by assumption, h⟩
  · exact h.elim
/-- data, its top one's own at most -/
def IsX (K : PySem.W.Frag) (G H : Hp) (v : V) (d : D) : Prop := Is K G v d ∨ ∃ a, v = .ref a ∧ Own K G H a d
section
variable {K : PySem.W.Frag} {Γ : Gm} {ρ : Ro} {σ : L2.St} {G H : Hp} {v : V} {b : B} {d : D}
theorem At.isx (a : At K Γ ρ σ G H) (h : IsB K σ G v b) (l : look ρ b = some d) : IsX K G H v d := by
  cases b with
  | dat e => cases l; exact .inl h
  | slot i =>
    have h' : σ[i]? = some (some v) := h
    have l' : (match ρ[i]? with | some (.val d) => some d | some (.own d) => some d | _ => none) = some d := l
    cases q : ρ[i]? with
    | none => rw [q] at l'; cases l'
    | some s =>
      rw [q] at l'
      cases s with
      | non => cases l'
      | seq _ => cases l'
      | val e =>
        cases l'
        obtain ⟨w, e1, e2⟩ := a.val q
        rw [h'] at e1
        cases e1
        exact .inl e2
      | own e =>
        cases l'
        obtain ⟨p, e1, _, _, e2⟩ := a.own q
        rw [h'] at e1
        cases e1
        exact .inr ⟨p, rfl, e2⟩
theorem IsX.list {ds : List D} (s : Same G H) (h : IsX K G H v (.list ds)) : ∃ a xs, v = .ref a ∧ H a = some (.lst xs) ∧ IsAll K G xs ds := by
  rcases h with h | ⟨a, rfl, h⟩
  · cases h with
    | lst h1 h2 => exact ⟨_, _, rfl, s _ _ h1, h2⟩
  · rcases h with ⟨xs, es, h1, h2, h3⟩ | ⟨_, _, _, h1, _⟩ | ⟨_, _, _, h1, _⟩
    · cases h1
      exact ⟨a, xs, rfl, h2, h3⟩
    · cases h1
    · cases h1
theorem IsX.tup {ds : List D} (h : IsX K G H v (.tuple ds)) : ∃ a xs, v = .ref a ∧ SqT K G a xs ∧ IsAll K G xs ds := by
  rcases h with h | ⟨a, rfl, h⟩
  · cases h with
    | tup h1 h2 => exact ⟨_, _, rfl, h1, h2⟩
  · rcases h with ⟨xs, es, h1, h2, h3⟩ | ⟨_, _, _, h1, _⟩ | ⟨_, _, _, h1, _⟩ <;> cases h1
theorem IsX.flat (h : IsX K G H v d) (hd : ∀ ds, d ≠ .list ds) (hd2 : ∀ ds, d ≠ .dict ds) : Is K G v d := by
  rcases h with h | ⟨a, rfl, h⟩
  · exact h
  · rcases h with ⟨xs, es, h1, h2, h3⟩ | ⟨_, _, _, h1, _⟩ | ⟨_, _, _, h1, _⟩
    · exact absurd h1 (hd _)
    · exact absurd h1 (hd2 _)
    · exact absurd h1 (hd2 _)
theorem IsX.int {i : Int} (h : IsX K G H v (.int i)) : v = .int i := by
  cases h.flat (fun _ z => nomatch z) (fun _ z => nomatch z); rfl
theorem IsX.str {i : Str} (h : IsX K G H v (.str i)) : v = .str i := by
  cases h.flat (fun _ z => nomatch z) (fun _ z => nomatch z); rfl
theorem IsX.bl {i : Bool} (h : IsX K G H v (.bool i)) : v = .bl i := by
  cases h.flat (fun _ z => nomatch z) (fun _ z => nomatch z); rfl
theorem IsX.non (h : IsX K G H v .none) : v = .non := by
  cases h.flat (fun _ z => nomatch z) (fun _ z => nomatch z); rfl
theorem IsX.is (s : Same G H) (h : IsX K G H v d) : Is K H v d := by
  rcases h with h | ⟨a, rfl, h⟩
  · exact h.mono s
  · exact h.is s rfl
end
/-- no dict within, not deeper than n -/
def dep : Nat → D → Bool
  | _, .none => true
  | _, .bool _ => true
  | _, .int _ => true
  | _, .str x => PySem.PyData.strOk x
  | 0, _ => false
  | n + 1, .list xs => xs.all (dep n)
  | n + 1, .tuple xs => xs.all (dep n)
  | _ + 1, .dict _ => false
theorem dep_depth : ∀ (n : Nat) (d : D), dep n d = true → d.canLay0 = true ∧ d.depth ≤ n := by
  have all (n : Nat) (ih : ∀ d : D, dep n d = true → d.canLay0 = true ∧ d.depth ≤ n) : ∀ xs : List D, xs.all (dep n) = true → PyData.canLayAll0 xs = true ∧ PyData.depthAll xs ≤ n := by
    intro xs
    induction xs with
    | nil => intro _; exact ⟨by simp [PyData.canLayAll0], by simp [PyData.depthAll]⟩
    | cons x xs ih2 =>
      intro h
      rw [List.all_cons, Bool.and_eq_true] at h
      obtain ⟨h1, h2⟩ := ih x h.1
      obtain ⟨h3, h4⟩ := ih2 h.2
      refine ⟨by simp [PyData.canLayAll0, h1, h3], ?_⟩
      simp only [PyData.depthAll]
      omega
  intro n
  induction n with
  | zero =>
    intro d h
    cases d with
    | none => exact ⟨by simp [PyData.canLay0], by simp [PyData.depth]⟩
    | bool b => exact ⟨by simp [PyData.canLay0], by simp [PyData.depth]⟩
    | int b => exact ⟨by simp [PyData.canLay0], by simp [PyData.depth]⟩
    | str b => exact ⟨by simpa [PyData.canLay0, dep] using h, by simp [PyData.depth]⟩
    | _ => simp [dep] at h
  | succ n ih =>
    intro d h
    cases d with
    | none => exact ⟨by simp [PyData.canLay0], by simp [PyData.depth]⟩
    | bool b => exact ⟨by simp [PyData.canLay0], by simp [PyData.depth]⟩
    | int b => exact ⟨by simp [PyData.canLay0], by simp [PyData.depth]⟩
    | str b => exact ⟨by simpa [PyData.canLay0, dep] using h, by simp [PyData.depth]⟩
    | list xs =>
      obtain ⟨h1, h2⟩ := all n ih xs (by simpa [dep] using h)
      exact ⟨by simpa [PyData.canLay0] using h1, by simp only [PyData.depth]; omega⟩
    | tuple xs =>
      obtain ⟨h1, h2⟩ := all n ih xs (by simpa [dep] using h)
      exact ⟨by simpa [PyData.canLay0] using h1, by simp only [PyData.depth]; omega⟩
    | dict _ => simp [dep] at h
theorem shaped_of {n : Nat} {d : D} (h : dep n d = true) (hn : n ≤ 64) : SeqAt.shaped d = true := by
  obtain ⟨h1, h2⟩ := dep_depth n d h
  unfold SeqAt.shaped
  rw [h1, Bool.true_and]
  exact decide_eq_true (by omega)
section
variable {K : PySem.W.Frag} {H : Hp}
mutual
theorem Is.dp : ∀ {v : V} {d : D}, Is K H v d → d.canLay0 = true → Dp K H v d
  | _, _, .non, _ => .non
  | _, _, .bl b, _ => .bl b
  | _, _, .int i, _ => .int i
  | _, _, .str x, _ => .str x
  | _, _, .lst h a, q => .lst (SqL.of h) (IsAll.dp a (by simpa [PyData.canLay0] using q))
  | _, _, .tup h a, q => .tup h (IsAll.dp a (by simpa [PyData.canLay0] using q))
  | _, _, .dk h l a, q => by simp [PyData.canLay0] at q
  | _, _, .dt h l a, q => by simp [PyData.canLay0] at q
theorem IsAll.dp : ∀ {vs : List V} {ds : List D}, IsAll K H vs ds → PyData.canLayAll0 ds = true → DpAll K H vs ds
  | _, _, .nil, _ => .nil
  | _, _, .cons h t, q => by
    simp only [PyData.canLayAll0, Bool.and_eq_true] at q
    exact .cons (Is.dp h q.1) (IsAll.dp t q.2)
end
end

theorem pe_imp {X : Cx} {e : Expr} {t t' : TE} (h : PE X e t) (i : ∀ σ H Q, t' σ H Q → t σ H Q) : PE X e t' := ⟨fun pins s σ H Q I q => h.run pins s σ H Q I (i σ H Q q)⟩
theorem pt_imp {X : Cx} {e : Expr} {t t' : TT} (h : PT X e t) (i : ∀ σ H Q, t' σ H Q → t σ H Q) : PT X e t' := ⟨fun pins s σ H Q I q => h.run pins s σ H Q I (i σ H Q q)⟩
theorem pa_imp {X : Cx} {es : List Expr} {t t' : TA} (h : PA X es t) (i : ∀ σ H Q, t' σ H Q → t σ H Q) : PA X es t' := ⟨fun po pins s σ H Q I q => h.run po pins s σ H Q I (i σ H Q q)⟩

def rdE (K : PySem.W.Frag) (Γ : Gm) (t : TD) : TE := fun σ H Q => ∃ ρ G k, At K Γ ρ σ G H ∧ t ρ k ∧ ∀ d ρ' v G' H', k d ρ' → At K Γ ρ' σ G' H' → Same G G' → Is K G' v d → Q v H'
def rdB (K : PySem.W.Frag) (Γ : Gm) (t : TB) : TE := fun σ H Q => ∃ ρ G k, At K Γ ρ σ G H ∧ t ρ k ∧ ∀ b ρ' v G' H', k b ρ' → At K Γ ρ' σ G' H' → Same G G' → IsB K σ G' v b → Q v H'
def rdT (K : PySem.W.Frag) (Γ : Gm) (t : TT') : TT := fun σ H Q => ∃ ρ G k, At K Γ ρ σ G H ∧ t ρ k ∧ ∀ b ρ' G' H', k b ρ' → At K Γ ρ' σ G' H' → Same G G' → Q b H'
def rdA (K : PySem.W.Frag) (Γ : Gm) (t : TDs) : TA := fun σ H Q => ∃ ρ G k, At K Γ ρ σ G H ∧ t ρ k ∧ ∀ ds ρ' vs G' H', k ds ρ' → At K Γ ρ' σ G' H' → Same G G' → IsAll K G' vs ds → Q vs H'
/-- a new list (or dict) at a place that nobody knows yet -/
def rdF (K : PySem.W.Frag) (Γ : Gm) (t : TD) : TE := fun σ H Q => ∃ ρ G k, At K Γ ρ σ G H ∧ t ρ k ∧ ∀ d ρ' p G' H', k d ρ' → At K Γ ρ' σ G' H' → Same G G' → G' p = none → Γ.H0 p = none → Own K G' H' p d →
  (∀ (j : Nat) dj, ρ'[j]? = some (.own dj) → σ[j]? ≠ some (some (.ref p))) → Q (.ref p) H'
structure DE (X : Cx) (Γ : Gm) (e : Expr) (t : TD) : Prop where
  pe : PE X e (rdE X.K Γ t)
structure DB (X : Cx) (Γ : Gm) (e : Expr) (t : TB) : Prop where
  pe : PE X e (rdB X.K Γ t)
structure DT (X : Cx) (Γ : Gm) (e : Expr) (t : TT') : Prop where
  pt : PT X e (rdT X.K Γ t)
structure DA (X : Cx) (Γ : Gm) (es : List Expr) (t : TDs) : Prop where
  pa : PA X es (rdA X.K Γ t)
structure DF (X : Cx) (Γ : Gm) (e : Expr) (t : TD) : Prop where
  pe : PE X e (rdF X.K Γ t)

section
variable {X : Cx} {Γ : Gm} {k : Nat} {a b e : Expr} {es : List Expr} {pos : Pos}
/-! ### names, constants -/
def dVar (I : List Nat) (i : Nat) : TD := fun ρ Q => match ρ[i]? with
  | some (.val d) => Q d ρ
  | some (.own d) => I.contains i = false ∧ Q d (ρ.set i (.val d))
  | _ => False
theorem de_var (i : Nat) {x : Str} (hN : X.N[i]? = some x := by rfl) (hv : Vis X.env.scope x := by first | exact Or.inl rfl | exact Or.inr (Or.inl rfl) | exact Or.inr (Or.inr rfl)) (hd : (x == ("__debug__" : Str)) = false := by decide)
    (hcd : (x == ("__classdict__" : Str)) = false := by decide) : DE X Γ (.Name x pos) (dVar Γ.I i) := by
  refine ⟨pe_imp (pe_var (i := i) hN hv hd hcd) ?_⟩
  rintro σ H Q ⟨ρ, G, k, at_, h, fin⟩
  unfold dVar at h
  split at h
  · rename_i d q
    obtain ⟨v, e1, e2⟩ := at_.val q
    exact ⟨v, e1, fin d ρ v G H h at_ (Same.refl _) e2⟩
  · rename_i d q
    obtain ⟨p, G', e1, a2, gg, e2⟩ := at_.freeze q
    exact ⟨_, e1, fin d _ _ G' H h.2 a2 gg e2⟩
  · exact h.elim
def dSlot (i : Nat) : TB := fun ρ Q => match ρ[i]? with
  | some (.val d) => Q (.dat d) ρ
  | some (.own _) => Q (.slot i) ρ
  | _ => False
theorem db_var (i : Nat) {x : Str} (hN : X.N[i]? = some x := by rfl) (hv : Vis X.env.scope x := by first | exact Or.inl rfl | exact Or.inr (Or.inl rfl) | exact Or.inr (Or.inr rfl)) (hd : (x == ("__debug__" : Str)) = false := by decide)
    (hcd : (x == ("__classdict__" : Str)) = false := by decide) : DB X Γ (.Name x pos) (dSlot i) := by
  refine ⟨pe_imp (pe_var (i := i) hN hv hd hcd) ?_⟩
  rintro σ H Q ⟨ρ, G, k, at_, h, fin⟩
  unfold dSlot at h
  split at h
  · rename_i d q
    obtain ⟨v, e1, e2⟩ := at_.val q
    exact ⟨v, e1, fin _ ρ v G H h at_ (Same.refl _) e2⟩
  · rename_i d q
    obtain ⟨p, e1, _, _, _⟩ := at_.own q
    exact ⟨_, e1, fin _ ρ _ G H h at_ (Same.refl _) e1⟩
  · exact h.elim
def dOf (t : TD) : TB := fun ρ Q => t ρ fun d ρ' => Q (.dat d) ρ'
theorem DE.toB {t : TD} (h : DE X Γ e t) : DB X Γ e (dOf t) := by
  refine ⟨pe_imp h.pe ?_⟩
  rintro σ H Q ⟨ρ, G, k, at_, h, fin⟩
  exact ⟨ρ, G, _, at_, h, fun d ρ' v G' H' hk a' s' r => fin (.dat d) ρ' v G' H' hk a' s' r⟩
/-- what nobody knows yet is given away -/
theorem At.give {K : PySem.W.Frag} {ρ : Ro} {σ : L2.St} {G H : Hp} {p : Addr} {d : D} (a : At K Γ ρ σ G H) (g0 : G p = none) (h0 : Γ.H0 p = none) (own : Own K G H p d) (hno : ∀ (j : Nat) dj, ρ[j]? = some (.own dj) → σ[j]? ≠ some (some (.ref p))) : ∃ G2, At K Γ ρ σ G2 H ∧ Same G G2 ∧ Is K G2 (.ref p) d := by
  obtain ⟨o, ho⟩ := own.some
  have gg : Same G (upd G p o) := fun b u q => by rw [upd_ne (ne_of_none q g0)]; exact q
  refine ⟨upd G p o, ⟨a.len, fun j s u e1 e2 => ?_, a.sep, fun b u q => ?_, fun b q => ?_, a.kept, a.inh, a.bas.trans gg⟩, gg, own.is gg (by rw [upd_same, ho])⟩
  · have q := a.sl j s u e1 e2
    cases s with
    | non => exact True.intro
    | val d' => obtain ⟨v, e, q⟩ := q; exact ⟨v, e, q.mono gg⟩
    | seq ds => obtain ⟨p', xs, e, q1, q2⟩ := q; exact ⟨p', xs, e, gg.seq q1, q2.mono gg⟩
    | own d' =>
      obtain ⟨p', e, q1, q2, q3⟩ := q
      have ne : p' ≠ p := fun z => by
        subst z
        exact hno j d' e1 (by rw [e2, e])
      exact ⟨p', e, by rw [upd_ne ne]; exact q1, q2, q3.mono gg rfl⟩
  · by_cases hb : b = p
    · subst hb; rw [upd_same] at q; rw [ho]; exact q
    · rw [upd_ne hb] at q; exact a.sub b u q
  · rw [upd_ne (fun z => by subst z; exact q h0)]
    exact a.old b q
theorem DF.toE {t : TD} (h : DF X Γ e t) : DE X Γ e t := by
  refine ⟨pe_imp h.pe ?_⟩
  rintro σ H Q ⟨ρ, G, k, at_, h, fin⟩
  refine ⟨ρ, G, _, at_, h, fun d ρ' p G' H' hk a' s' g0 h0 own hno => ?_⟩
  obtain ⟨G2, a2, s2, r2⟩ := a'.give g0 h0 own hno
  exact fin d ρ' (.ref p) G2 H' hk a2 (s'.trans s2) r2
def dC (d : D) : TD := fun ρ Q => Q d ρ
theorem de_c {v : V} {d : D} (h : PE X e (tC v)) (r : ∀ G, Is X.K G v d) : DE X Γ e (dC d) := by
  refine ⟨pe_imp h ?_⟩
  rintro σ H Q ⟨ρ, G, k, at_, h, fin⟩
  exact fin d ρ v G H h at_ (Same.refl _) (r G)
theorem de_int {i j} : DE X Γ (.Constant (.int i) j pos) (dC (.int i)) := de_c pe_int fun _ => .int i
theorem de_bl {i j} : DE X Γ (.Constant (.bool i) j pos) (dC (.bool i)) := de_c pe_bl fun _ => .bl i
theorem de_non {j} : DE X Γ (.Constant .none j pos) (dC .none) := de_c pe_non fun _ => .non
theorem de_str {i j} : DE X Γ (.Constant (.str i) j pos) (dC (.str i)) := de_c pe_str fun _ => .str i
/-- a module's constant -/
theorem de_glob {x : Str} {v : V} {u : Value} {d : D} (hg : Gl X x) (hm : X.mg x = some u) (r : RelV v u) (i : ∀ G, Is X.K G v d) (hd : (x == ("__debug__" : Str)) = false := by decide) : DE X Γ (.Name x pos) (dC d) := de_c (pe_glob hg hm r hd) i

/-! ### two operands -/
abbrev Op2 := D → D → (D → Prop) → Prop
def OpD (X : Cx) (fn : Value → Value → Sem Value) (f : Op2) : Prop :=
  OpR X fn fun x y H Q => ∃ G d e k, Same G H ∧ IsX X.K G H x d ∧ IsX X.K G H y e ∧ f d e k ∧ ∀ r v G' H', k r → Grow G H G' H' → Is X.K G' v r → Q v H'
def dBin (f : Op2) (ta tb : TB) : TD := fun ρ Q => ta ρ fun x ρ1 => tb ρ1 fun y ρ2 => withD ρ2 x fun d => withD ρ2 y fun e => f d e fun r => Q r ρ2
theorem bin_rd {f : Op2} {ta tb : TB} {r : R2} {K : PySem.W.Frag} {σ : L2.St} {H : Hp} {Q : VK}
    (hr : ∀ x y H Q, (∃ G d e k, Same G H ∧ IsX K G H x d ∧ IsX K G H y e ∧ f d e k ∧ ∀ r v G' H', k r → Grow G H G' H' → Is K G' v r → Q v H') → r x y H Q)
    (h : rdE K Γ (dBin f ta tb) σ H Q) : tOp r (rdB K Γ ta) (rdB K Γ tb) σ H Q := by
  obtain ⟨ρ, G, k, at_, h, fin⟩ := h
  refine ⟨ρ, G, _, at_, h, fun x ρ1 v1 G1 H1 h1 a1 s1 r1 => ⟨ρ1, G1, _, a1, h1, fun y ρ2 v2 G2 H2 h2 a2 s2 r2 => ?_⟩⟩
  obtain ⟨d, l1, h2⟩ := h2.to
  obtain ⟨e, l2, h2⟩ := h2.to
  exact hr _ _ _ _ ⟨G2, d, e, _, a2.sub, a2.isx (r1.mono s2) l1, a2.isx r2 l2, h2, fun r v G3 H3 hk g i => fin r ρ2 v G3 H3 hk (a2.grow g) ((s1.trans s2).trans g.gg) i⟩
theorem de_bin {op : Operator} {f : Op2} {ta tb : TB} (ho : OpD X (binaryOp op) f) (ha : DB X Γ a ta) (hb : DB X Γ b tb) : DE X Γ (.BinOp a op b pos) (dBin f ta tb) :=
  ⟨pe_imp (pe_op ho ha.pe hb.pe) fun σ H Q h => bin_rd (fun _ _ _ _ h => h) h⟩
theorem de_cmp {op : CmpOp} {f : Op2} {ta tb : TB} (ho : OpD X (compareOp op) f) (ha : DB X Γ a ta) (hb : DB X Γ b tb) (hm : behindInMarks op b = false := by first | exact nomark _ | with_unfolding_all rfl) : DE X Γ (.Compare a [op] [b] pos) (dBin f ta tb) :=
  ⟨pe_imp (pe_cmpR ho ha.pe hb.pe hm) fun σ H Q h => bin_rd (fun _ _ _ _ h => h) h⟩
theorem OpD.or {fn : Value → Value → Sem Value} {r : R2} {f : Op2} (h : OpR X fn r) (i : ∀ x y H Q, (∃ G d e k, Same G H ∧ IsX X.K G H x d ∧ IsX X.K G H y e ∧ f d e k ∧ ∀ r v G' H', k r → Grow G H G' H' → Is X.K G' v r → Q v H') → r x y H Q) : OpD X fn f := by
  intro pins s σ H x y v u Q I rx ry q
  exact h pins s σ H x y v u Q I rx ry (i _ _ _ _ q)

/-! ### arithmetic -/
def addD : Op2
  | .int i, .int j, Q => Q (.int (i + j))
  | .str x, .str y, Q => x.length + y.length ≤ 16777216 ∧ Q (.str (x ++ y))
  | .tuple xs, .tuple ys, Q => xs.length + ys.length ≤ 16777216 ∧ Q (.tuple (xs ++ ys))
  | .list xs, .list ys, Q => xs.length + ys.length ≤ 16777216 ∧ Q (.list (xs ++ ys))
  | _, _, _ => False
theorem line_le {n : Nat} (h : n ≤ 16777216) : n ≤ sizeLine := by rw [sizeLine_eq]; exact h
theorem line_lt {n : Nat} (h : n < 16777216) : n < sizeLine := by rw [sizeLine_eq]; exact h
theorem od_add : OpD X (binaryOp .Add) addD := by
  refine OpD.or ((op_add.or (op_add_str.or op_catA)).or op_cat) ?_
  rintro x y H Q ⟨G, d, e, k, s, hx, hy, h, fin⟩
  cases d with
  | int i =>
    cases e with
    | int j => exact .inl (.inl ⟨i, j, hx.int, hy.int, fin _ _ G H h (.refl s) (.int _)⟩)
    | _ => exact (show False from h).elim
  | str i =>
    cases e with
    | str j => exact .inl (.inr (.inl ⟨i, j, hx.str, hy.str, line_le h.1, fin _ _ G H h.2 (.refl s) (.str _)⟩))
    | _ => exact (show False from h).elim
  | tuple xs =>
    cases e with
    | tuple ys =>
      obtain ⟨p, us, rfl, h1, h2⟩ := hx.tup
      obtain ⟨q, ws, rfl, h3, h4⟩ := hy.tup
      have l1 := h2.length
      have l2 := h4.length
      refine .inl (.inr (.inr ⟨p, q, us, ws, rfl, rfl, Same.sqt s h1, Same.sqt s h3, line_le (by rw [l1, l2]; exact h.1), fun e => ?_, fun _ e => ?_, fun _ _ r hr => ?_⟩))
      · subst e
        cases h2
        exact fin _ _ G H h.2 (.refl s) (.tup h3 h4)
      · subst e
        cases h4
        refine fin _ _ G H h.2 (.refl s) ?_
        rw [List.append_nil]
        exact .tup h1 h2
      · have g := Grow.laid (o := .tup (us ++ ws)) s hr
        exact fin _ _ _ _ h.2 g (.tup (.of upd_same) ((h2.mono g.gg).append (h4.mono g.gg)))
    | _ => exact (show False from h).elim
  | list xs =>
    cases e with
    | list ys =>
      obtain ⟨p, us, rfl, h1, h2⟩ := hx.list s
      obtain ⟨q, ws, rfl, h3, h4⟩ := hy.list s
      refine .inr ⟨p, q, us, ws, rfl, rfl, h1, h3, line_le (by rw [h2.length, h4.length]; exact h.1), fun r hr => ?_⟩
      have g := Grow.laid (o := .lst (us ++ ws)) s hr
      exact fin _ _ _ _ h.2 g (.lst upd_same ((h2.mono g.gg).append (h4.mono g.gg)))
    | _ => exact (show False from h).elim
  | _ => exact (show False from h).elim
/-- a new list by + -/
def addL : Op2
  | .list xs, .list ys, Q => xs.length + ys.length ≤ 16777216 ∧ Q (.list (xs ++ ys))
  | _, _, _ => False
def subD : Op2
  | .int i, .int j, Q => Q (.int (i - j))
  | _, _, _ => False
theorem od_sub : OpD X (binaryOp .Sub) subD := by
  refine OpD.or op_sub ?_
  rintro x y H Q ⟨G, d, e, k, s, hx, hy, h, fin⟩
  cases d with
  | int i =>
    cases e with
    | int j => exact ⟨i, j, hx.int, hy.int, fin _ _ G H h (.refl s) (.int _)⟩
    | _ => exact (show False from h).elim
  | _ => exact (show False from h).elim
/-- products of less than a million bits -/
def CM (i j : Int) : Prop := (∃ a b : Nat, i.natAbs < 2 ^ a ∧ j.natAbs < 2 ^ b ∧ a + b ≤ 1000000) ∨ (-(2 ^ 64) < i ∧ i < 2 ^ 64) ∨ (-(2 ^ 64) < j ∧ j < 2 ^ 64)
theorem CM.ok {i j : Int} (h : CM i j) : IntMulOk i j := by
  rcases h with ⟨a, b, ha, hb, hab⟩ | h
  · by_cases h0 : a = 0
    · subst h0
      have : i = 0 := by omega
      subst this
      exact (CMul.ok (.inl ⟨by omega, by omega⟩))
    · by_cases h1 : b = 0
      · subst h1
        have : j = 0 := by omega
        subst this
        exact (CMul.ok (.inr ⟨by omega, by omega⟩))
      · exact (wide_mul ha hb (by omega) (by omega) hab).ok
  · exact CMul.ok h
theorem op_mulC : OpR X (binaryOp .Mult) (rI CM fun i j => .int (i * j)) := opI fun _ _ _ _ _ _ _ hc q => mul_int q hc.ok
def mulD : Op2
  | .int i, .int j, Q => CM i j ∧ Q (.int (i * j))
  | _, _, _ => False
theorem od_mul : OpD X (binaryOp .Mult) mulD := by
  refine OpD.or op_mulC ?_
  rintro x y H Q ⟨G, d, e, k, s, hx, hy, h, fin⟩
  cases d with
  | int i =>
    cases e with
    | int j => exact ⟨i, j, hx.int, hy.int, h.1, fin _ _ G H h.2 (.refl s) (.int _)⟩
    | _ => exact (show False from h).elim
  | _ => exact (show False from h).elim
def CDV (j : Int) : Prop := j ≠ 0 ∧ j.natAbs < 2 ^ 9000
theorem op_fdivC : OpR X (binaryOp .FloorDiv) (rI (fun _ j => CDV j) fun i j => .int (i.fdiv j)) := opI fun i j _ _ _ _ _ hc q =>
  floordiv_int hc.1 q (.inl (PyProof.noPylong_of_log2 (PySem.Flt.log2_lt_of (by decide) hc.2)))
def fdivD : Op2
  | .int i, .int j, Q => CDV j ∧ Q (.int (i.fdiv j))
  | _, _, _ => False
theorem od_fdiv : OpD X (binaryOp .FloorDiv) fdivD := by
  refine OpD.or op_fdivC ?_
  rintro x y H Q ⟨G, d, e, k, s, hx, hy, h, fin⟩
  cases d with
  | int i =>
    cases e with
    | int j => exact ⟨i, j, hx.int, hy.int, h.1, fin _ _ G H h.2 (.refl s) (.int _)⟩
    | _ => exact (show False from h).elim
  | _ => exact (show False from h).elim
def modD : Op2
  | .int i, .int j, Q => j ≠ 0 ∧ Q (.int (i.fmod j))
  | _, _, _ => False
theorem od_mod : OpD X (binaryOp .Mod) modD := by
  refine OpD.or op_modN ?_
  rintro x y H Q ⟨G, d, e, k, s, hx, hy, h, fin⟩
  cases d with
  | int i =>
    cases e with
    | int j => exact ⟨i, j, hx.int, hy.int, h.1, fin _ _ G H h.2 (.refl s) (.int _)⟩
    | _ => exact (show False from h).elim
  | _ => exact (show False from h).elim
def powD : Op2
  | .int i, .int j, Q => (0 ≤ j ∧ j ≤ 1000000 ∧ i.natAbs < 2 ^ 64) ∧ Q (.int (i ^ j.toNat))
  | _, _, _ => False
theorem od_pow : OpD X (binaryOp .Pow) powD := by
  refine OpD.or op_pow ?_
  rintro x y H Q ⟨G, d, e, k, s, hx, hy, h, fin⟩
  cases d with
  | int i =>
    cases e with
    | int j => exact ⟨i, j, hx.int, hy.int, h.1, fin _ _ G H h.2 (.refl s) (.int _)⟩
    | _ => exact (show False from h).elim
  | _ => exact (show False from h).elim

/-! ### comparisons -/
def cmpI (p : Int → Int → Bool) : Op2
  | .int i, .int j, Q => Q (.bool (p i j))
  | _, _, _ => False
theorem od_cmpI {fn : Value → Value → Sem Value} {p : Int → Int → Bool} (ho : OpR X fn (rI0 fun i j => .bl (p i j))) : OpD X fn (cmpI p) := by
  refine OpD.or ho ?_
  rintro x y H Q ⟨G, d, e, k, s, hx, hy, h, fin⟩
  cases d with
  | int i =>
    cases e with
    | int j => exact ⟨i, j, hx.int, hy.int, fin _ _ G H h (.refl s) (.bl _)⟩
    | _ => exact (show False from h).elim
  | _ => exact (show False from h).elim
theorem od_lt : OpD X (compareOp .Lt) (cmpI fun i j => decide (i < j)) := od_cmpI op_lt
theorem od_le : OpD X (compareOp .LtE) (cmpI fun i j => decide (i ≤ j)) := od_cmpI op_le
theorem od_gt : OpD X (compareOp .Gt) (cmpI fun i j => decide (j < i)) := od_cmpI op_gt
theorem od_ge : OpD X (compareOp .GtE) (cmpI fun i j => decide (j ≤ i)) := od_cmpI op_ge
def eqD : Op2 := fun d e Q => dep 20 d = true ∧ dep 20 e = true ∧ Q (.bool (PyData.eqv d e))
def neD : Op2 := fun d e Q => dep 20 d = true ∧ dep 20 e = true ∧ Q (.bool (!PyData.eqv d e))
theorem od_eq (c : Cok k X Γ) : OpD X (compareOp .Eq) eqD := by
  refine OpD.or (op_eqD (by have := c.hu; omega)) ?_
  rintro x y H Q ⟨G, d, e, k, s, hx, hy, ⟨h1, h2, h⟩, fin⟩
  exact ⟨d, e, (hx.is s).dp (dep_depth _ _ h1).1, (hy.is s).dp (dep_depth _ _ h2).1, shaped_of h1 (by decide), shaped_of h2 (by decide), fin _ _ G H h (.refl s) (.bl _)⟩
theorem od_ne (c : Cok k X Γ) : OpD X (compareOp .NotEq) neD := by
  refine OpD.or (op_neD (by have := c.hu; omega)) ?_
  rintro x y H Q ⟨G, d, e, k, s, hx, hy, ⟨h1, h2, h⟩, fin⟩
  exact ⟨d, e, (hx.is s).dp (dep_depth _ _ h1).1, (hy.is s).dp (dep_depth _ _ h2).1, shaped_of h1 (by decide), shaped_of h2 (by decide), fin _ _ G H h (.refl s) (.bl _)⟩
def isNone : D → Bool
  | .none => true
  | _ => false
theorem IsX.isNone {K : PySem.W.Frag} {G H : Hp} {v : V} {d : D} (h : IsX K G H v d) : decide (v = .non) = Dn.isNone d := by
  rcases h with h | ⟨a, rfl, h⟩
  · cases h <;> rfl
  · rcases h with ⟨xs, es, rfl, h2, h3⟩ | ⟨_, _, _, rfl, _⟩ | ⟨_, _, _, rfl, _⟩ <;> rfl
/-- is: None on the right, or two truth values -/
def isD : Op2
  | d, .none, Q => Q (.bool (isNone d))
  | .bool i, .bool j, Q => Q (.bool (decide (i = j)))
  | _, _, _ => False
def isnD : Op2
  | d, .none, Q => Q (.bool (!isNone d))
  | .bool i, .bool j, Q => Q (.bool (!decide (i = j)))
  | _, _, _ => False
theorem od_is : OpD X (compareOp .Is) isD := by
  refine OpD.or (op_isN.or op_isBl) ?_
  rintro x y H Q ⟨G, d, e, k, s, hx, hy, h, fin⟩
  cases e with
  | none =>
    refine .inl ⟨hy.non, ?_⟩
    rw [hx.isNone]
    have h' : k (.bool (isNone d)) := by cases d <;> exact h
    exact fin _ _ G H h' (.refl s) (.bl _)
  | bool j =>
    cases d with
    | bool i => exact .inr ⟨i, j, hx.bl, hy.bl, fin _ _ G H h (.refl s) (.bl _)⟩
    | _ => exact (show False from h).elim
  | _ => cases d <;> exact (show False from h).elim
theorem od_isn : OpD X (compareOp .IsNot) isnD := by
  refine OpD.or (op_notN.or op_notBl) ?_
  rintro x y H Q ⟨G, d, e, k, s, hx, hy, h, fin⟩
  cases e with
  | none =>
    refine .inl ⟨hy.non, ?_⟩
    rw [hx.isNone]
    have h' : k (.bool (!isNone d)) := by cases d <;> exact h
    exact fin _ _ G H h' (.refl s) (.bl _)
  | bool j =>
    cases d with
    | bool i => exact .inr ⟨i, j, hx.bl, hy.bl, fin _ _ G H h (.refl s) (.bl _)⟩
    | _ => exact (show False from h).elim
  | _ => cases d <;> exact (show False from h).elim
end
end Dn
/-! Dn: tests, displays, subscripts, built-in calls. -/
namespace Dn
open PySem PySem.Spec PyProof.Rows L2

/-- one way or the other -/
def brn (b : Bool) (p q : Prop) : Prop := match b with
  | true => p
  | false => q
theorem brn.of {b : Bool} {p q : Prop} (h1 : b = true → p) (h2 : b = false → q) : brn b p q := by
  cases b with
  | true => exact h1 rfl
  | false => exact h2 rfl
theorem brn.tt {b : Bool} {p q : Prop} (h : b = true) (h1 : p) : brn b p q := by subst h; exact h1
theorem brn.ff {b : Bool} {p q : Prop} (h : b = false) (h1 : q) : brn b p q := by subst h; exact h1
def truD (d : D) (k : Bool → Prop) : Prop := match d with
  | .none => k false
  | .bool b => k b
  | .int i => k (i != 0)
  | .str x => x.length ≤ 16777216 ∧ k ((x.length : Int) != 0)
  | .list xs => k (!xs.isEmpty)
  | .tuple xs => k (!xs.isEmpty)
  | .dict _ => False
def asB (d : D) (k : Bool → Prop) : Prop := match d with
  | .bool b => k b
  | _ => False
def asI (d : D) (k : Int → Prop) : Prop := match d with
  | .int b => k b
  | _ => False
def optD {α : Type} (o : Option α) (k : α → Prop) : Prop := match o with
  | some d => k d
  | none => False
theorem optD.to {α : Type} {o : Option α} {k : α → Prop} (h : optD o k) : ∃ d, o = some d ∧ k d := by
  unfold optD at h
  split at h
  · exact ⟨_, rfl, h⟩
  · exact h.elim
theorem optD.of {α : Type} {o : Option α} {d : α} {k : α → Prop} (e : o = some d) (h : k d) : optD o k := by
  rw [e]; exact h
theorem asB.to {d : D} {k : Bool → Prop} (h : asB d k) : ∃ b, d = .bool b ∧ k b := by
  unfold asB at h
  split at h
  · exact ⟨_, rfl, h⟩
  · exact h.elim
theorem asI.to {d : D} {k : Int → Prop} (h : asI d k) : ∃ b, d = .int b ∧ k b := by
  unfold asI at h
  split at h
  · exact ⟨_, rfl, h⟩
  · exact h.elim
theorem isEmpty_eq {α β : Type} {xs : List α} {ys : List β} (h : xs.length = ys.length) : xs.isEmpty = ys.isEmpty := by
  cases xs <;> cases ys <;> simp_all
section
variable {X : Cx} {Γ : Gm} {k : Nat} {a b e : Expr} {es rest : List Expr} {pos : Pos}
/-! ### tests -/
def tTru (ta : TB) : TT' := fun ρ Q => ta ρ fun x ρ1 => withD ρ1 x fun d => truD d fun b => Q b ρ1
theorem dt_tru {ta : TB} (ha : DB X Γ a ta) (he : ∀ whole, isTrue a X.env whole = (do let v ← whole; standAt a.pos; holding [v] (truthy v)) := by intro _; rfl) : DT X Γ a (tTru ta) := by
  refine ⟨pt_imp (pt_truth ha.pe he) ?_⟩
  rintro σ H Q ⟨ρ, G, k, at_, h, fin⟩
  refine ⟨ρ, G, _, at_, h, fun x ρ1 v G1 H1 h1 a1 s1 r1 => ?_⟩
  obtain ⟨d, l, h1⟩ := h1.to
  have hx := a1.isx r1 l
  cases d with
  | none => exact ⟨false, by rw [hx.non]; rfl, fin _ _ _ _ h1 a1 s1⟩
  | bool c => exact ⟨c, by rw [hx.bl]; rfl, fin _ _ _ _ h1 a1 s1⟩
  | int i => exact ⟨_, by rw [hx.int]; rfl, fin _ _ _ _ h1 a1 s1⟩
  | str y => exact ⟨_, by rw [hx.str]; exact ⟨line_le h1.1, rfl⟩, fin _ _ _ _ h1.2 a1 s1⟩
  | list ds =>
    obtain ⟨p, xs, rfl, h2, h3⟩ := hx.list a1.sub
    exact ⟨_, .inl ⟨xs, .of h2, rfl⟩, by rw [isEmpty_eq h3.length]; exact fin _ _ _ _ h1 a1 s1⟩
  | tuple ds =>
    obtain ⟨p, xs, rfl, h2, h3⟩ := hx.tup
    exact ⟨_, .inr (.inl ⟨xs, Same.sqt a1.sub h2, rfl⟩), by rw [isEmpty_eq h3.length]; exact fin _ _ _ _ h1 a1 s1⟩
  | dict _ => exact (show False from h1).elim
def tCmpD (f : Op2) (ta tb : TB) : TT' := fun ρ Q => dBin f ta tb ρ fun d ρ' => asB d fun b => Q b ρ'
theorem dt_cmp {op : CmpOp} {f : Op2} {ta tb : TB} (ho : OpD X (compareOp op) f) (ha : DB X Γ a ta) (hb : DB X Γ b tb) (hm : behindInMarks op b = false := by first | exact nomark _ | with_unfolding_all rfl) : DT X Γ (.Compare a [op] [b] pos) (tCmpD f ta tb) := by
  refine ⟨pt_imp (pt_cmpR ho ha.pe hb.pe hm) ?_⟩
  rintro σ H Q ⟨ρ, G, k, at_, h, fin⟩
  refine bin_rd (fun _ _ _ _ h => h) ⟨ρ, G, _, at_, h, fun d ρ' v G' H' hk a' s' r => ?_⟩
  obtain ⟨c, rfl, hk⟩ := hk.to
  cases r
  exact ⟨c, rfl, fin _ _ _ _ hk a' s'⟩
/-- a test whose value is told by an expression of a truth value -/
def tOfE (t : TD) : TT' := fun ρ Q => t ρ fun d ρ' => asB d fun b => Q b ρ'
structure DW (X : Cx) (Γ : Gm) (e : Expr) (t : TT') : Prop where
  pw : PW X e (rdT X.K Γ t)
theorem pw_imp {X : Cx} {e : Expr} {t t' : TT} (h : PW X e t) (i : ∀ σ H Q, t' σ H Q → t σ H Q) : PW X e t' := ⟨fun wh pins s σ H Q I q => h.run wh pins s σ H Q I (i σ H Q q)⟩
def tAndD (t u : TT') : TT' := fun ρ Q => t ρ fun b ρ1 => brn b (u ρ1 Q) (Q false ρ1)
def tOrD (t u : TT') : TT' := fun ρ Q => t ρ fun b ρ1 => brn b (Q true ρ1) (u ρ1 Q)
def tNotD (t : TT') : TT' := fun ρ Q => t ρ fun b ρ1 => Q (!b) ρ1
theorem dw_and1 {t : TT'} (h : DT X Γ a t) : DW X Γ (.BoolOp .And [a] pos) t := ⟨pw_and1 h.pt⟩
theorem dw_or1 {t : TT'} (h : DT X Γ a t) : DW X Γ (.BoolOp .Or [a] pos) t := ⟨pw_or1 h.pt⟩
theorem dw_and {t u : TT'} (h : DT X Γ a t) (h2 : DW X Γ (.BoolOp .And (b :: rest) pos) u) : DW X Γ (.BoolOp .And (a :: b :: rest) pos) (tAndD t u) := by
  refine ⟨pw_imp (pw_and h.pt h2.pw) ?_⟩
  rintro σ H Q ⟨ρ, G, k, at_, h, fin⟩
  refine ⟨ρ, G, _, at_, h, fun c ρ1 G1 H1 h1 a1 s1 => ?_⟩
  cases c with
  | true =>
    show rdT _ _ _ _ _ _
    exact ⟨ρ1, G1, _, a1, h1, fun c ρ' G' H' hk a' s' => fin c ρ' G' H' hk a' (s1.trans s')⟩
  | false =>
    show Q false H1
    exact fin _ _ _ _ h1 a1 s1
theorem dw_or {t u : TT'} (h : DT X Γ a t) (h2 : DW X Γ (.BoolOp .Or (b :: rest) pos) u) : DW X Γ (.BoolOp .Or (a :: b :: rest) pos) (tOrD t u) := by
  refine ⟨pw_imp (pw_or h.pt h2.pw) ?_⟩
  rintro σ H Q ⟨ρ, G, k, at_, h, fin⟩
  refine ⟨ρ, G, _, at_, h, fun c ρ1 G1 H1 h1 a1 s1 => ?_⟩
  cases c with
  | true =>
    show Q true H1
    exact fin _ _ _ _ h1 a1 s1
  | false =>
    show rdT _ _ _ _ _ _
    exact ⟨ρ1, G1, _, a1, h1, fun c ρ' G' H' hk a' s' => fin c ρ' G' H' hk a' (s1.trans s')⟩
theorem DW.t {t : TT'} (h : DW X Γ e t) : DT X Γ e t := ⟨h.pw.pt⟩
theorem dt_not {t : TT'} (h : DT X Γ a t) : DT X Γ (.UnaryOp .Not a pos) (tNotD t) := by
  refine ⟨pt_imp (pt_not h.pt) ?_⟩
  rintro σ H Q ⟨ρ, G, k, at_, h, fin⟩
  exact ⟨ρ, G, _, at_, h, fun c ρ1 G1 H1 h1 a1 s1 => fin _ _ _ _ h1 a1 s1⟩
/-! ### truth values as values -/
def dAnd (t u : TD) : TD := fun ρ Q => t ρ fun d ρ1 => asB d fun b => brn b (u ρ1 Q) (Q (.bool false) ρ1)
def dOr (t u : TD) : TD := fun ρ Q => t ρ fun d ρ1 => asB d fun b => brn b (Q (.bool true) ρ1) (u ρ1 Q)
theorem de_one {op} {t : TD} (h : DE X Γ a t) : DE X Γ (.BoolOp op [a] pos) t := ⟨pe_one h.pe⟩
theorem de_and {t u : TD} (h : DE X Γ a t) (h2 : DE X Γ (.BoolOp .And (b :: rest) pos) u) : DE X Γ (.BoolOp .And (a :: b :: rest) pos) (dAnd t u) := by
  refine ⟨pe_imp (pe_and h.pe h2.pe) ?_⟩
  rintro σ H Q ⟨ρ, G, k, at_, h, fin⟩
  refine ⟨ρ, G, _, at_, h, fun d ρ1 v G1 H1 h1 a1 s1 r1 => ?_⟩
  obtain ⟨c, rfl, h1⟩ := h1.to
  cases r1
  refine ⟨c, rfl, ?_⟩
  cases c with
  | true =>
    show rdE _ _ _ _ _ _
    exact ⟨ρ1, G1, _, a1, h1, fun c ρ' v G' H' hk a' s' r => fin c ρ' v G' H' hk a' (s1.trans s') r⟩
  | false =>
    show Q (.bl false) H1
    exact fin _ _ _ _ _ h1 a1 s1 (.bl _)
theorem de_or {t u : TD} (h : DE X Γ a t) (h2 : DE X Γ (.BoolOp .Or (b :: rest) pos) u) : DE X Γ (.BoolOp .Or (a :: b :: rest) pos) (dOr t u) := by
  refine ⟨pe_imp (pe_or h.pe h2.pe) ?_⟩
  rintro σ H Q ⟨ρ, G, k, at_, h, fin⟩
  refine ⟨ρ, G, _, at_, h, fun d ρ1 v G1 H1 h1 a1 s1 r1 => ?_⟩
  obtain ⟨c, rfl, h1⟩ := h1.to
  cases r1
  refine ⟨c, rfl, ?_⟩
  cases c with
  | true =>
    show Q (.bl true) H1
    exact fin _ _ _ _ _ h1 a1 s1 (.bl _)
  | false =>
    show rdE _ _ _ _ _ _
    exact ⟨ρ1, G1, _, a1, h1, fun c ρ' v G' H' hk a' s' r => fin c ρ' v G' H' hk a' (s1.trans s') r⟩
def dNot (t : TD) : TD := fun ρ Q => t ρ fun d ρ1 => asB d fun b => Q (.bool (!b)) ρ1
theorem de_not {t : TD} (h : DE X Γ a t) : DE X Γ (.UnaryOp .Not a pos) (dNot t) := by
  refine ⟨pe_imp (pe_not h.pe) ?_⟩
  rintro σ H Q ⟨ρ, G, k, at_, h, fin⟩
  refine ⟨ρ, G, _, at_, h, fun d ρ1 v G1 H1 h1 a1 s1 r1 => ?_⟩
  obtain ⟨c, rfl, h1⟩ := h1.to
  cases r1
  exact ⟨c, rfl, fin _ _ _ _ _ h1 a1 s1 (.bl _)⟩
def dIf (t : TT') (ta tb : TD) : TD := fun ρ Q => t ρ fun b ρ1 => brn b (ta ρ1 Q) (tb ρ1 Q)
theorem de_if {c : Expr} {t : TT'} {ta tb : TD} (hc : DT X Γ c t) (ha : DE X Γ a ta) (hb : DE X Γ b tb) : DE X Γ (.IfExp c a b pos) (dIf t ta tb) := by
  refine ⟨pe_imp (pe_ifExp hc.pt ha.pe hb.pe) ?_⟩
  rintro σ H Q ⟨ρ, G, k, at_, h, fin⟩
  refine ⟨ρ, G, _, at_, h, fun c ρ1 G1 H1 h1 a1 s1 => ?_⟩
  cases c with
  | true =>
    show rdE _ _ _ _ _ _
    exact ⟨ρ1, G1, _, a1, h1, fun c ρ' v G' H' hk a' s' r => fin c ρ' v G' H' hk a' (s1.trans s') r⟩
  | false =>
    show rdE _ _ _ _ _ _
    exact ⟨ρ1, G1, _, a1, h1, fun c ρ' v G' H' hk a' s' r => fin c ρ' v G' H' hk a' (s1.trans s') r⟩
/-- two comparisons in a row: a op1 b op2 c -/
def dChain (f g : Op2) (ta tb tc : TB) : TD := fun ρ Q => ta ρ fun x ρ1 => tb ρ1 fun y ρ2 => withD ρ2 x fun d => withD ρ2 y fun e => f d e fun r => asB r fun b =>
  brn b (tc ρ2 fun z ρ3 => withD ρ3 y fun e' => withD ρ3 z fun w => g e' w fun r => Q r ρ3) (Q (.bool false) ρ2)
theorem chain_rd {f g : Op2} {ta tb tc : TB} {op op' : CmpOp} {σ : L2.St} {H : Hp} {Q : VK}
    (h : rdE X.K Γ (dChain f g ta tb tc) σ H Q) : tChain (fun x y H Q => ∃ G d e k, Same G H ∧ IsX X.K G H x d ∧ IsX X.K G H y e ∧ f d e k ∧ ∀ r v G' H', k r → Grow G H G' H' → Is X.K G' v r → Q v H') (fun x y H Q => ∃ G d e k, Same G H ∧ IsX X.K G H x d ∧ IsX X.K G H y e ∧ g d e k ∧ ∀ r v G' H', k r → Grow G H G' H' → Is X.K G' v r → Q v H') (rdB X.K Γ ta) (rdB X.K Γ tb) (rdB X.K Γ tc) σ H Q := by
  obtain ⟨ρ, G, k, at_, h, fin⟩ := h
  refine ⟨ρ, G, _, at_, h, fun x ρ1 v1 G1 H1 h1 a1 s1 r1 => ⟨ρ1, G1, _, a1, h1, fun y ρ2 v2 G2 H2 h2 a2 s2 r2 => ?_⟩⟩
  obtain ⟨d, l1, h2⟩ := h2.to
  obtain ⟨e, l2, h2⟩ := h2.to
  refine ⟨G2, d, e, _, a2.sub, a2.isx (r1.mono s2) l1, a2.isx r2 l2, h2, fun r v G3 H3 hk g' i => ?_⟩
  obtain ⟨c, rfl, hk⟩ := hk.to
  cases i
  have a3 := a2.grow g'
  refine ⟨c, rfl, ?_⟩
  cases c with
  | true =>
    show rdB _ _ _ _ _ _
    refine ⟨ρ2, G3, _, a3, hk, fun z ρ3 v4 G4 H4 h4 a4 s4 r4 => ?_⟩
    obtain ⟨e', l5, h4⟩ := h4.to
    obtain ⟨w, l6, h4⟩ := h4.to
    exact ⟨G4, e', w, _, a4.sub, a4.isx ((r2.mono g'.gg).mono s4) l5, a4.isx r4 l6, h4, fun r v G5 H5 hk g5 i5 => fin r ρ3 v G5 H5 hk (a4.grow g5) (((s1.trans s2).trans g'.gg).trans (s4.trans g5.gg)) i5⟩
  | false =>
    show Q (.bl false) H3
    exact fin _ _ _ _ _ hk a3 ((s1.trans s2).trans g'.gg) (.bl _)
theorem de_chain {op op' : CmpOp} {c : Expr} {f g : Op2} {ta tb tc : TB} (ho : OpD X (compareOp op) f) (ho' : OpD X (compareOp op') g) (ha : DB X Γ a ta) (hb : DB X Γ b tb) (hc : DB X Γ c tc)
    (hm : lastMarks [op, op'] [b, c] = false := by with_unfolding_all rfl) : DE X Γ (.Compare a [op, op'] [b, c] pos) (dChain f g ta tb tc) :=
  ⟨pe_imp (pe_chain ho ho' ha.pe hb.pe hc.pe hm) fun σ H Q h => chain_rd (op := op) (op' := op') h⟩
theorem dt_chain {op op' : CmpOp} {c : Expr} {f g : Op2} {ta tb tc : TB} (ho : OpD X (compareOp op) f) (ho' : OpD X (compareOp op') g) (ha : DB X Γ a ta) (hb : DB X Γ b tb) (hc : DB X Γ c tc)
    (hm : lastMarks [op, op'] [b, c] = false := by with_unfolding_all rfl) : DT X Γ (.Compare a [op, op'] [b, c] pos) (tOfE (dChain f g ta tb tc)) := by
  refine ⟨pt_imp (pt_chain ho ho' ha.pe hb.pe hc.pe hm) ?_⟩
  rintro σ H Q ⟨ρ, G, k, at_, h, fin⟩
  refine chain_rd (op := op) (op' := op') ⟨ρ, G, _, at_, h, fun d ρ' v G' H' hk a' s' r => ?_⟩
  obtain ⟨c, rfl, hk⟩ := hk.to
  cases r
  exact ⟨c, rfl, fin _ _ _ _ hk a' s'⟩

/-! ### one operand -/
def dNeg (ta : TB) : TD := fun ρ Q => ta ρ fun x ρ1 => withD ρ1 x fun d => asI d fun i => Q (.int (-i)) ρ1
theorem de_neg {ta : TB} (ha : DB X Γ a ta) : DE X Γ (.UnaryOp .USub a pos) (dNeg ta) := by
  refine ⟨pe_imp (pe_un un_neg ha.pe) ?_⟩
  rintro σ H Q ⟨ρ, G, k, at_, h, fin⟩
  refine ⟨ρ, G, _, at_, h, fun x ρ1 v G1 H1 h1 a1 s1 r1 => ?_⟩
  obtain ⟨d, l, h1⟩ := h1.to
  obtain ⟨i, rfl, h1⟩ := h1.to
  exact ⟨i, (a1.isx r1 l).int, fin _ _ _ _ _ h1 a1 s1 (.int _)⟩

/-! ### argument lists, displays -/
def dNil : TDs := fun ρ Q => Q [] ρ
def dCons (t : TD) (u : TDs) : TDs := fun ρ Q => t ρ fun d ρ1 => u ρ1 fun ds ρ2 => Q (d :: ds) ρ2
def rdAn (K : PySem.W.Frag) (Γ : Gm) (n : Nat) (t : TDs) : TA := fun σ H Q => ∃ ρ G k, At K Γ ρ σ G H ∧ t ρ k ∧ ∀ ds ρ' vs G' H', k ds ρ' → ds.length = n → At K Γ ρ' σ G' H' → Same G G' → IsAll K G' vs ds → Q vs H'
structure DL (X : Cx) (Γ : Gm) (es : List Expr) (t : TDs) : Prop where
  pa : PA X es (rdAn X.K Γ es.length t)
theorem da_nil : DL X Γ [] dNil := by
  refine ⟨pa_imp pa_nil ?_⟩
  rintro σ H Q ⟨ρ, G, k, at_, h, fin⟩
  exact fin [] ρ [] G H h rfl at_ (Same.refl _) .nil
theorem da_cons {t : TD} {u : TDs} (h : DE X Γ e t) (hr : DL X Γ es u) (hs : starEach (e :: es) X.env = (false, eval e X.env) :: starEach es X.env := by rfl) : DL X Γ (e :: es) (dCons t u) := by
  refine ⟨pa_imp (pa_cons h.pe hr.pa hs) ?_⟩
  rintro σ H Q ⟨ρ, G, k, at_, h, fin⟩
  exact ⟨ρ, G, _, at_, h, fun d ρ1 v G1 H1 h1 a1 s1 r1 => ⟨ρ1, G1, _, a1, h1, fun ds ρ2 vs G2 H2 h2 hl a2 s2 r2 => fin (d :: ds) ρ2 (v :: vs) G2 H2 h2 (by rw [List.length_cons, List.length_cons, hl]) a2 (s1.trans s2) (.cons (r1.mono s2) r2)⟩⟩
/-- a new thing, at a place that nobody knew -/
theorem At.fresh {K : PySem.W.Frag} {ρ : Ro} {σ : L2.St} {G H : Hp} {p : Addr} {o : HO} (a : At K Γ ρ σ G H) (hp : H p = none) : At K Γ ρ σ G (upd H p o) ∧ G p = none ∧ Γ.H0 p = none ∧ ∀ (j : Nat) dj, ρ[j]? = some (.own dj) → σ[j]? ≠ some (some (.ref p)) := by
  have ex : Same H (upd H p o) := fun b u q => by rw [upd_ne (ne_of_none q hp)]; exact q
  refine ⟨⟨a.len, fun j s u e1 e2 => ?_, a.sep, a.sub.trans ex, a.old, a.kept.trans ex, a.inh, a.bas⟩, a.sub.free hp, a.kept.free hp, fun j dj e1 e2 => ?_⟩
  · have q := a.sl j s u e1 e2
    cases s with
    | non => exact True.intro
    | val d' => exact q
    | seq ds => exact q
    | own d' =>
      obtain ⟨p', e, q1, q2, q3⟩ := q
      obtain ⟨w, hw⟩ := q3.some
      exact ⟨p', e, q1, q2, q3.mono (Same.refl _) (by rw [upd_ne (ne_of_none hw hp)])⟩
  · obtain ⟨p', e, _, _, q3⟩ := a.own e1
    rw [e2] at e
    cases e
    obtain ⟨w, hw⟩ := q3.some
    rw [hp] at hw
    cases hw
def dTup (t : TDs) : TD := fun ρ Q => t ρ fun ds ρ1 => Q (.tuple ds) ρ1
def dLst (t : TDs) : TD := fun ρ Q => t ρ fun ds ρ1 => Q (.list ds) ρ1
theorem de_tup {x1} {t : TDs} (h : DL X Γ es t) (hl : es.length ≤ 1000 := by decide) : DE X Γ (.Tuple es x1 pos) (dTup t) := by
  refine ⟨pe_imp (pe_tup h.pa) ?_⟩
  rintro σ H Q ⟨ρ, G, k, at_, h, fin⟩
  refine ⟨ρ, G, _, at_, h, fun ds ρ1 vs G1 H1 h1 hn a1 s1 r1 => ⟨line_le (by rw [r1.length]; omega), fun p hp => ?_⟩⟩
  have g := Grow.laid (o := .tup vs) a1.sub hp
  exact fin _ _ _ _ _ h1 (a1.grow g) (s1.trans g.gg) (.tup (.of upd_same) (r1.mono g.gg))
theorem df_lst {t : TDs} (h : DL X Γ es t) (hl : es.length ≤ 1000 := by decide) : DF X Γ (.List es pos) (dLst t) := by
  refine ⟨pe_imp (pe_lst h.pa) ?_⟩
  rintro σ H Q ⟨ρ, G, k, at_, h, fin⟩
  refine ⟨ρ, G, _, at_, h, fun ds ρ1 vs G1 H1 h1 hn a1 s1 r1 => ⟨line_le (by rw [r1.length]; omega), fun p hp => ?_⟩⟩
  obtain ⟨a2, g0, h0, hno⟩ := a1.fresh (o := .lst vs) hp
  exact fin _ _ p _ _ h1 a2 s1 g0 h0 (.inl ⟨vs, ds, rfl, upd_same, r1⟩) hno

/-! ### subscripts -/
def ixD : Op2
  | .list xs, .int i, Q => optD (atI xs i) Q
  | .tuple xs, .int i, Q => optD (atI xs i) Q
  | .str z, .int i, Q => z.length ≤ 16777216 ∧ optD (atI z.cps.toList i) fun c => Q (.str ⟨#[c]⟩)
  | _, _, _ => False
theorem IsAll.atI {K : PySem.W.Frag} {H : Hp} {vs : List V} {ds : List D} {i : Int} {d : D} (h : IsAll K H vs ds) (e : L2.atI ds i = some d) : ∃ v, L2.atI vs i = some v ∧ Is K H v d := by
  unfold L2.atI at e ⊢
  rw [← h.length] at e
  cases q : ixN vs.length i with
  | none => rw [q] at e; cases e
  | some j =>
    rw [q] at e
    exact h.get' e
theorem de_ix {ta tb : TB} (ha : DB X Γ a ta) (hb : DB X Γ b tb) (hs : PlainIx b := by intro _ _; rfl) : DE X Γ (.Subscript a b pos) (dBin ixD ta tb) := by
  refine ⟨pe_imp (pe_ix ix_seq ha.pe hb.pe hs) fun σ H Q h => bin_rd ?_ h⟩
  rintro x y H Q ⟨G, d, e, k, s, hx, hy, h, fin⟩
  cases d with
  | list ds =>
    cases e with
    | int i =>
      obtain ⟨r, h1, h2⟩ := optD.to h
      obtain ⟨p, xs, rfl, h3, h4⟩ := hx.list s
      obtain ⟨v, h5, h6⟩ := h4.atI h1
      exact .inl ⟨p, xs, i, v, rfl, hy.int, .of h3, h5, fin _ _ G H h2 (.refl s) h6⟩
    | _ => exact (show False from h).elim
  | tuple ds =>
    cases e with
    | int i =>
      obtain ⟨r, h1, h2⟩ := optD.to h
      obtain ⟨p, xs, rfl, h3, h4⟩ := hx.tup
      obtain ⟨v, h5, h6⟩ := h4.atI h1
      exact .inr (.inl ⟨p, xs, i, v, rfl, hy.int, Same.sqt s h3, h5, fin _ _ G H h2 (.refl s) h6⟩)
    | _ => exact (show False from h).elim
  | str z =>
    cases e with
    | int i =>
      obtain ⟨r, h1, h2⟩ := optD.to h.2
      exact .inr (.inr ⟨z, i, r, hx.str, hy.int, line_le h.1, h1, fin _ _ G H h2 (.refl s) (.str _)⟩)
    | _ => exact (show False from h).elim
  | _ => exact (show False from h).elim
abbrev TP' := Ro → (Option Int → Ro → Prop) → Prop
def rdP (K : PySem.W.Frag) (Γ : Gm) (t : TP') : L2.TO := fun σ H Q => ∃ ρ G k, At K Γ ρ σ G H ∧ t ρ k ∧ ∀ o ρ' G' H', k o ρ' → At K Γ ρ' σ G' H' → Same G G' → Q o H'
structure DP (X : Cx) (Γ : Gm) (e : Option Expr) (t : TP') : Prop where
  po : PO X e (rdP X.K Γ t)
theorem po_imp {X : Cx} {e : Option Expr} {t t' : L2.TO} (h : PO X e t) (i : ∀ σ H Q, t' σ H Q → t σ H Q) : PO X e t' := ⟨fun pins s σ H Q I q => h.run pins s σ H Q I (i σ H Q q)⟩
def pNone : TP' := fun ρ Q => Q none ρ
def pSome (t : TB) : TP' := fun ρ Q => t ρ fun x ρ1 => withD ρ1 x fun d => asI d fun i => Q (some i) ρ1
theorem dp_none : DP X Γ none pNone := by
  refine ⟨po_imp po_none ?_⟩
  rintro σ H Q ⟨ρ, G, k, at_, h, fin⟩
  exact fin _ _ _ _ h at_ (Same.refl _)
theorem dp_some {t : TB} (h : DB X Γ e t) : DP X Γ (some e) (pSome t) := by
  refine ⟨po_imp (po_some h.pe) ?_⟩
  rintro σ H Q ⟨ρ, G, k, at_, h, fin⟩
  refine ⟨ρ, G, _, at_, h, fun x ρ1 v G1 H1 h1 a1 s1 r1 => ?_⟩
  obtain ⟨d, l, h1⟩ := h1.to
  obtain ⟨i, rfl, h1⟩ := h1.to
  exact ⟨i, (a1.isx r1 l).int, fin _ _ _ _ h1 a1 s1⟩
def cutD {α : Type} (xs : List α) (lo hi : Option Int) : List α := (xs.drop (HT.sIx xs.length 0 lo)).take (HT.sIx xs.length xs.length hi - HT.sIx xs.length 0 lo)
theorem cutD_V (xs : List V) (lo hi : Option Int) : cutD xs lo hi = cutV xs lo hi := rfl
theorem IsAll.cut {K : PySem.W.Frag} {H : Hp} {vs : List V} {ds : List D} (h : IsAll K H vs ds) (lo hi : Option Int) : IsAll K H (cutV vs lo hi) (cutD ds lo hi) := by
  unfold cutV cutD
  rw [h.length]
  exact (h.drop _).take _
def slD (d : D) (lo hi : Option Int) (Q : D → Prop) : Prop := match d with
  | .list xs => Q (.list (cutD xs lo hi))
  | .tuple xs => Q (.tuple (cutD xs lo hi))
  | .str z => z.length ≤ 16777216 ∧ Q (.str (cutS z lo hi))
  | _ => False
def dSl (te : TB) (tl th : TP') : TD := fun ρ Q => te ρ fun x ρ1 => tl ρ1 fun lo ρ2 => th ρ2 fun hi ρ3 => withD ρ3 x fun d => slD d lo hi fun r => Q r ρ3
theorem cut_all {xs : List D} {lo hi : Option Int} (h : HT.sIx xs.length 0 lo = 0 ∧ HT.sIx xs.length xs.length hi = xs.length) : cutD xs lo hi = xs := by
  unfold cutD
  rw [h.1, h.2]
  simp
theorem de_slice {lo hi : Option Expr} {p2 : Pos} {te : TB} {tl th : TP'} (he : DB X Γ e te) (hl : DP X Γ lo tl) (hu : DP X Γ hi th) : DE X Γ (.Subscript e (.Slice lo hi none p2) pos) (dSl te tl th) := by
  refine ⟨pe_imp (pe_slice (sl_list.or (sl_tupA.or sl_str)) he.pe hl.po hu.po) ?_⟩
  rintro σ H Q ⟨ρ, G, k, at_, h, fin⟩
  refine ⟨ρ, G, _, at_, h, fun x ρ1 v G1 H1 h1 a1 s1 r1 => ⟨ρ1, G1, _, a1, h1, fun o ρ2 G2 H2 h2 a2 s2 => ⟨ρ2, G2, _, a2, h2, fun o' ρ3 G3 H3 h3 a3 s3 => ?_⟩⟩⟩
  obtain ⟨d, l, h3⟩ := h3.to
  have hx := a3.isx ((r1.mono s2).mono s3) l
  have ss := (s1.trans s2).trans s3
  cases d with
  | list ds =>
    obtain ⟨p, xs, rfl, h4, h5⟩ := hx.list a3.sub
    refine .inl ⟨p, xs, rfl, .of h4, fun q hq => ?_⟩
    have g := Grow.laid (o := .lst (cutV xs o o')) a3.sub hq
    exact fin _ _ _ _ _ h3 (a3.grow g) (ss.trans g.gg) (.lst upd_same ((h5.cut o o').mono g.gg))
  | tuple ds =>
    obtain ⟨p, xs, rfl, h4, h5⟩ := hx.tup
    refine .inr (.inl ⟨p, xs, rfl, Same.sqt a3.sub h4, fun hw => ?_, fun _ q hq => ?_⟩)
    · refine fin _ _ _ _ _ h3 a3 ss ?_
      rw [cut_all (by rw [← h5.length]; exact hw)]
      exact .tup h4 h5
    · have g := Grow.laid (o := .tup (cutV xs o o')) a3.sub hq
      exact fin _ _ _ _ _ h3 (a3.grow g) (ss.trans g.gg) (.tup (.of upd_same) ((h5.cut o o').mono g.gg))
  | str z => exact .inr (.inr ⟨z, hx.str, line_le h3.1, fin _ _ _ _ _ h3.2 a3 ss (.str _)⟩)
  | _ => exact (show False from h3).elim
end
end Dn
/-! Dn: statements, loops, comprehensions. -/
namespace Dn
open PySem PySem.Spec PyProof.Rows L2

structure DEnds where
  nx : Ro → Prop
  rt : D → Ro → Prop
  bk : Ro → Prop := fun _ => False
  ct : Ro → Prop := fun _ => False
abbrev TDS := DEnds → Ro → Prop
structure EOk (K : PySem.W.Frag) (Γ : Gm) (G : Hp) (R : DEnds) (E : Ends) : Prop where
  nx : ∀ ρ σ G' H, At K Γ ρ σ G' H → Same G G' → R.nx ρ → E.nx σ H
  rt : ∀ d v ρ σ G' H, At K Γ ρ σ G' H → Same G G' → Is K G' v d → R.rt d ρ → E.rt v H
  bk : ∀ ρ σ G' H, At K Γ ρ σ G' H → Same G G' → R.bk ρ → E.bk σ H
  ct : ∀ ρ σ G' H, At K Γ ρ σ G' H → Same G G' → R.ct ρ → E.ct σ H
theorem EOk.mono {K : PySem.W.Frag} {Γ : Gm} {G G1 : Hp} {R : DEnds} {E : Ends} (e : EOk K Γ G R E) (s : Same G G1) : EOk K Γ G1 R E :=
  ⟨fun ρ σ G' H a t => e.nx ρ σ G' H a (s.trans t), fun d v ρ σ G' H a t => e.rt d v ρ σ G' H a (s.trans t), fun ρ σ G' H a t => e.bk ρ σ G' H a (s.trans t), fun ρ σ G' H a t => e.ct ρ σ G' H a (s.trans t)⟩
def rdS (K : PySem.W.Frag) (Γ : Gm) (t : TDS) : TS := fun E σ H => ∃ ρ G R, At K Γ ρ σ G H ∧ EOk K Γ G R E ∧ t R ρ
structure DS (X : Cx) (Γ : Gm) (st : Stmt) (t : TDS) : Prop where
  ps : PS X st (rdS X.K Γ t)
structure DSs (X : Cx) (Γ : Gm) (st : List Stmt) (t : TDS) : Prop where
  ps : PSs X st (rdS X.K Γ t)
theorem ps_imp {X : Cx} {e : Stmt} {t t' : TS} (h : PS X e t) (i : ∀ D σ H, t' D σ H → t D σ H) : PS X e t' := ⟨fun pins s σ H D I q => h.run pins s σ H D I (i D σ H q)⟩
theorem pss_imp {X : Cx} {e : List Stmt} {t t' : TS} (h : PSs X e t) (i : ∀ D σ H, t' D σ H → t D σ H) : PSs X e t' := ⟨fun pins s σ H D I q => h.run pins s σ H D I (i D σ H q)⟩
theorem pg_imp {X : Cx} {e : Expr} {t t' : TG} (h : PG X e t) (i : ∀ v σ H Q, t' v σ H Q → t v σ H Q) : PG X e t' := ⟨fun pins s σ H v u Q I r q => h.run pins s σ H v u Q I r (i v σ H Q q)⟩

section
variable {X : Cx} {Γ : Gm} {k : Nat} {a b e : Expr} {es : List Expr} {st : Stmt} {rest body orelse : List Stmt} {pos : Pos} {t u : TDS}
def sSeq (t u : TDS) : TDS := fun R ρ => t { R with nx := u R } ρ
def sNext : TDS := fun R ρ => R.nx ρ
theorem dss_nil : DSs X Γ [] sNext := ⟨pss_imp pss_nil fun E σ H ⟨ρ, G, R, at_, ok, h⟩ => ok.nx _ _ _ _ at_ (Same.refl _) h⟩
theorem dss_one (h : DS X Γ st t) : DSs X Γ [st] t := ⟨pss_one h.ps⟩
theorem dss_cons (h : DS X Γ st t) (h2 : DSs X Γ rest u) : DSs X Γ (st :: rest) (sSeq t u) := by
  refine ⟨pss_imp (pss_cons h.ps h2.ps) ?_⟩
  rintro E σ H ⟨ρ, G, R, at_, ok, h⟩
  exact ⟨ρ, G, { R with nx := u R }, at_, ⟨fun ρ' σ' G' H' a' s' hu => ⟨ρ', G', R, a', ok.mono s', hu⟩, ok.rt, ok.bk, ok.ct⟩, h⟩
def sBrk : TDS := fun R ρ => R.bk ρ
def sCnt : TDS := fun R ρ => R.ct ρ
theorem ds_pass : DS X Γ (.Pass pos) sNext := ⟨ps_imp ps_pass fun E σ H ⟨ρ, G, R, at_, ok, h⟩ => ok.nx _ _ _ _ at_ (Same.refl _) h⟩
theorem ds_break : DS X Γ (.Break pos) sBrk := ⟨ps_imp ps_break fun E σ H ⟨ρ, G, R, at_, ok, h⟩ => ok.bk _ _ _ _ at_ (Same.refl _) h⟩
theorem ds_continue : DS X Γ (.Continue pos) sCnt := ⟨ps_imp ps_continue fun E σ H ⟨ρ, G, R, at_, ok, h⟩ => ok.ct _ _ _ _ at_ (Same.refl _) h⟩
theorem ds_doc {x j pos'} : DS X Γ (.Expr (.Constant (.str x) j pos) pos') sNext := ⟨ps_imp ps_doc fun E σ H ⟨ρ, G, R, at_, ok, h⟩ => ok.nx _ _ _ _ at_ (Same.refl _) h⟩
def sRet (t : TD) : TDS := fun R ρ => t ρ R.rt
theorem ds_ret {t : TD} (h : DE X Γ e t) : DS X Γ (.Return (some e) pos) (sRet t) := by
  refine ⟨ps_imp (ps_ret h.pe) ?_⟩
  rintro E σ H ⟨ρ, G, R, at_, ok, h⟩
  exact ⟨ρ, G, _, at_, h, fun d ρ' v G' H' hk a' s' r => ok.rt _ _ _ _ _ _ a' s' r hk⟩
def sRetN : TDS := fun R ρ => R.rt .none ρ
theorem ds_retN : DS X Γ (.Return none pos) sRetN := ⟨ps_imp ps_retN fun E σ H ⟨ρ, G, R, at_, ok, h⟩ => ok.rt _ _ _ _ _ _ at_ (Same.refl _) .non h⟩
def sDrop (t : TD) : TDS := fun R ρ => t ρ fun _ ρ' => R.nx ρ'
theorem ds_expr {t : TD} (h : DE X Γ e t) (hs : swapsWith e none pos.line X.env = pure false := by rfl) : DS X Γ (.Expr e pos) (sDrop t) := by
  refine ⟨ps_imp (ps_expr h.pe hs) ?_⟩
  rintro E σ H ⟨ρ, G, R, at_, ok, h⟩
  exact ⟨ρ, G, _, at_, h, fun d ρ' v G' H' hk a' s' r => ok.nx _ _ _ _ a' s' hk⟩
def sIf (c : TT') (t u : TDS) : TDS := fun R ρ => c ρ fun b ρ1 => brn b (t R ρ1) (u R ρ1)
/-- the two ways meet again where N holds -/
def sIfJ (c : TT') (t u : TDS) : TDS := fun R ρ => c ρ fun b ρ1 => ∃ N : Ro → Prop, (b = true → t { R with nx := N } ρ1) ∧ (b = false → u { R with nx := N } ρ1) ∧ ∀ ρ', N ρ' → R.nx ρ'
theorem ds_if {c : Expr} {tc : TT'} (hc : DT X Γ c tc) (ha : DSs X Γ body t) (hb : DSs X Γ orelse u) : DS X Γ (.If c body orelse pos) (sIf tc t u) := by
  refine ⟨ps_imp (ps_if hc.pt ha.ps hb.ps) ?_⟩
  rintro E σ H ⟨ρ, G, R, at_, ok, h⟩
  refine ⟨ρ, G, _, at_, h, fun b ρ1 G1 H1 h1 a1 s1 => ?_⟩
  cases b with
  | true => exact ⟨ρ1, G1, R, a1, ok.mono s1, h1⟩
  | false => exact ⟨ρ1, G1, R, a1, ok.mono s1, h1⟩
theorem ds_ifJ {c : Expr} {tc : TT'} (hc : DT X Γ c tc) (ha : DSs X Γ body t) (hb : DSs X Γ orelse u) : DS X Γ (.If c body orelse pos) (sIfJ tc t u) := by
  refine ⟨ps_imp (ps_if hc.pt ha.ps hb.ps) ?_⟩
  rintro E σ H ⟨ρ, G, R, at_, ok, h⟩
  refine ⟨ρ, G, _, at_, h, fun b ρ1 G1 H1 ⟨N, h1, h2, h3⟩ a1 s1 => ?_⟩
  have ok' : EOk X.K Γ G1 { R with nx := N } E := ⟨fun ρ' σ' G' H' a' s' q => ok.nx _ _ _ _ a' (s1.trans s') (h3 _ q), fun d v ρ' σ' G' H' a' s' => ok.rt d v ρ' σ' G' H' a' (s1.trans s'), fun ρ' σ' G' H' a' s' => ok.bk ρ' σ' G' H' a' (s1.trans s'), fun ρ' σ' G' H' a' s' => ok.ct ρ' σ' G' H' a' (s1.trans s')⟩
  cases b with
  | true => exact ⟨ρ1, G1, _, a1, ok', h1 rfl⟩
  | false => exact ⟨ρ1, G1, _, a1, ok', h2 rfl⟩
/-- name = e -/
def sSet (t : TD) (i : Nat) : TDS := fun R ρ => t ρ fun d ρ' => R.nx (ρ'.set i (.val d))
theorem ds_set {i : Nat} {x : Str} {t : TD} {pos' : Pos} (c : Cok k X Γ) (hi : X.N[i]? = some x) (hx : Loc X.env.scope x) (h : DE X Γ e t) (hI : Γ.I.contains i = false := by rfl) (hs : swapsWith e (some (.Name x pos')) pos.line X.env = pure false := by rfl) (hf : X.fn x = true ∨ X.env.scope.names.lookup x = some .local := by first | exact .inl rfl | exact .inr rfl | assumption) :
    DS X Γ (.Assign [.Name x pos'] e pos) (sSet t i) := by
  refine ⟨ps_imp (ps_set (i := i) c.nd hi hx h.pe hs hf) ?_⟩
  rintro E σ H ⟨ρ, G, R, at_, ok, h⟩
  exact ⟨ρ, G, _, at_, h, fun d ρ' v G' H' hk a' s' r => ok.nx _ _ _ _ (a'.set hI r) s' hk⟩
/-- name = a new list of its own -/
def sSetF (t : TD) (i : Nat) : TDS := fun R ρ => t ρ fun d ρ' => R.nx (ρ'.set i (.own d))
theorem ds_setF {i : Nat} {x : Str} {t : TD} {pos' : Pos} (c : Cok k X Γ) (hi : X.N[i]? = some x) (hx : Loc X.env.scope x) (h : DF X Γ e t) (hI : Γ.I.contains i = false := by rfl) (hs : swapsWith e (some (.Name x pos')) pos.line X.env = pure false := by rfl) (hf : X.fn x = true ∨ X.env.scope.names.lookup x = some .local := by first | exact .inl rfl | exact .inr rfl | assumption) :
    DS X Γ (.Assign [.Name x pos'] e pos) (sSetF t i) := by
  refine ⟨ps_imp (ps_set (i := i) c.nd hi hx h.pe hs hf) ?_⟩
  rintro E σ H ⟨ρ, G, R, at_, ok, h⟩
  exact ⟨ρ, G, _, at_, h, fun d ρ' p G' H' hk a' s' g0 h0 own hno => ok.nx _ _ _ _ (a'.setOwn hI g0 h0 own hno) s' hk⟩
/-! ### targets -/
abbrev TDG := D → Ro → (Ro → Prop) → Prop
def rdG (K : PySem.W.Frag) (Γ : Gm) (js : List Nat) (g : TDG) : TG := fun v σ H Q => ∃ ρ G d k, At K Γ ρ σ G H ∧ Is K G v d ∧ g d ρ k ∧ ∀ ρ' σ', k ρ' → At K Γ ρ' σ' G H → σ'.length = σ.length → (∀ i, i ∉ js → σ'[i]? = σ[i]?) → Q σ' H
structure DG (X : Cx) (Γ : Gm) (tg : Expr) (js : List Nat) (g : TDG) : Prop where
  pg : PG X tg (rdG X.K Γ js g)
def gNm (i : Nat) : TDG := fun d ρ Q => Q (ρ.set i (.val d))
theorem dg_name {i : Nat} {x : Str} (c : Cok k X Γ) (hi : X.N[i]? = some x) (hx : Loc X.env.scope x) (hI : Γ.I.contains i = false := by rfl) (hf : X.fn x = true ∨ X.env.scope.names.lookup x = some .local := by first | exact .inl rfl | exact .inr rfl | assumption) : DG X Γ (.Name x pos) [i] (gNm i) := by
  refine ⟨pg_imp (pg_name (i := i) c.nd hi hx hf) ?_⟩
  rintro v σ H Q ⟨ρ, G, d, k, at_, r, h, fin⟩
  exact fin _ _ h (at_.set hI r) (List.length_set ..) fun j hj => List.getElem?_set_ne (fun z => hj (by rw [z]; exact List.mem_cons_self))
abbrev TDGs := List D → Ro → (Ro → Prop) → Prop
def rdGs (K : PySem.W.Frag) (Γ : Gm) (js : List Nat) (g : TDGs) : TGs := fun vs σ H Q => ∃ ρ G ds k, At K Γ ρ σ G H ∧ IsAll K G vs ds ∧ g ds ρ k ∧ ∀ ρ' σ', k ρ' → At K Γ ρ' σ' G H → σ'.length = σ.length → (∀ i, i ∉ js → σ'[i]? = σ[i]?) → Q σ' H
structure DGs (X : Cx) (Γ : Gm) (ts : List Expr) (js : List Nat) (g : TDGs) : Prop where
  pg : PGs X ts (rdGs X.K Γ js g)
theorem pgs_imp {X : Cx} {e : List Expr} {t t' : TGs} (h : PGs X e t) (i : ∀ v σ H Q, t' v σ H Q → t v σ H Q) : PGs X e t' := ⟨fun pins s σ H v u Q I r q => h.run pins s σ H v u Q I r (i v σ H Q q)⟩
def gsNil : TDGs := fun ds ρ Q => ds = [] ∧ Q ρ
def gsCons (g : TDG) (gs : TDGs) : TDGs := fun ds ρ Q => match ds with
  | [] => False
  | d :: r => g d ρ fun ρ' => gs r ρ' Q
theorem dgs_nil : DGs X Γ [] [] gsNil := by
  refine ⟨pgs_imp pgs_nil ?_⟩
  rintro vs σ H Q ⟨ρ, G, ds, k, at_, r, ⟨rfl, h⟩, fin⟩
  cases r
  exact ⟨rfl, fin _ _ h at_ rfl fun _ _ => rfl⟩
theorem dgs_cons {js1 js2 : List Nat} {g : TDG} {gs : TDGs} (h1 : DG X Γ e js1 g) (h2 : DGs X Γ es js2 gs)
    (hs : (assignEach (e :: es) X.env).map (·.2) = assign e X.env :: (assignEach es X.env).map (·.2) := by rfl) : DGs X Γ (e :: es) (js1 ++ js2) (gsCons g gs) := by
  refine ⟨pgs_imp (pgs_cons h1.pg h2.pg hs) ?_⟩
  rintro vs σ H Q ⟨ρ, G, ds, k, at_, r, h, fin⟩
  cases r with
  | nil => exact h.elim
  | cons r1 r2 => exact ⟨_, _, rfl, ρ, G, _, _, at_, r1, h, fun ρ' σ' hk a' l1 f1 => ⟨ρ', G, _, _, a', r2, hk, fun ρ'' σ'' hk2 a'' l2 f2 => fin _ _ hk2 a'' (l2.trans l1) fun i hi => by
      rw [List.mem_append, not_or] at hi
      exact (f2 i hi.2).trans (f1 i hi.1)⟩⟩
def gTp (n : Nat) (gs : TDGs) : TDG := fun d ρ Q => match d with
  | .tuple ds => ds.length = n ∧ gs ds ρ Q
  | _ => False
theorem dg_tup {kk : Nat} {js : List Nat} {gs : TDGs} {n : Nat} (c : Cok k X Γ) (h : DGs X Γ es js gs) (hn : (assignEach es X.env).length = n := by rfl) (hst : (assignEach es X.env).findIdx? (·.1) = none := by rfl) : DG X Γ (.Tuple es kk pos) js (gTp n gs) := by
  refine ⟨pg_imp (pg_tup c.calm h.pg hn hst) ?_⟩
  rintro v σ H Q ⟨ρ, G, d, k, at_, r, h, fin⟩
  cases d with
  | tuple ds =>
    cases r with
    | tup h1 h2 => exact ⟨_, _, rfl, Same.sqt at_.sub h1, by rw [h2.length]; exact h.1, ρ, G, ds, k, at_, h2, h.2, fin⟩
  | _ => exact (show False from h).elim
def sAsg (t : TD) (g : TDG) : TDS := fun R ρ => t ρ fun d ρ' => g d ρ' R.nx
theorem ds_asg {tg : Expr} {t : TD} {js : List Nat} {g : TDG} (he : DE X Γ e t) (hg : DG X Γ tg js g) (hs : swapsWithSole [tg] e pos.line X.env = pure false := by rfl) (hw : swappedStores [tg] e X.env = pure none := by rfl)
    (h1 : (assignEach [tg] X.env).map (·.2) = [assign tg X.env] := by rfl) : DS X Γ (.Assign [tg] e pos) (sAsg t g) := by
  refine ⟨ps_imp (ps_asg he.pe hg.pg hs hw h1) ?_⟩
  rintro E σ H ⟨ρ, G, R, at_, ok, h⟩
  exact ⟨ρ, G, _, at_, h, fun d ρ' v G' H' hk a' s' r => ⟨ρ', G', d, _, a', r, hk, fun ρ'' σ'' hk2 a'' _ _ => ok.nx _ _ _ _ a'' s' hk2⟩⟩
/-- a, b = x, y -/
def sPar (i j : Nat) (t : TDs) : TDS := fun R ρ => t ρ fun ds ρ' => match ds with
  | [d, e] => R.nx ((ρ'.set i (.val d)).set j (.val e))
  | _ => False
theorem ds_par {i j : Nat} {x y : Str} {t : TDs} {px py pt : Pos} {kt k2 pt2} (c : Cok k X Γ) (hi : X.N[i]? = some x) (hj : X.N[j]? = some y) (hij : i ≠ j)
    (hx : X.env.scope.names.lookup x = some .local) (hy : X.env.scope.names.lookup y = some .local) (ha : DL X Γ [a, b] t) (hI : Γ.I.contains i = false := by rfl) (hJ : Γ.I.contains j = false := by rfl)
    (hw : swappedStores [.Tuple [.Name x px, .Name y py] kt pt] (.Tuple [a, b] k2 pt2) X.env = pure (some [x, y]) := by rfl)
    (hs : swapsWithSole [.Tuple [.Name x px, .Name y py] kt pt] (.Tuple [a, b] k2 pt2) pos.line X.env = pure false := by rfl) :
    DS X Γ (.Assign [.Tuple [.Name x px, .Name y py] kt pt] (.Tuple [a, b] k2 pt2) pos) (sPar i j t) := by
  refine ⟨ps_imp (ps_par c.calm c.nd hi hj hij hx hy ha.pa hw hs) ?_⟩
  rintro E σ H ⟨ρ, G, R, at_, ok, h⟩
  refine ⟨ρ, G, _, at_, h, fun ds ρ' vs G' H' hk hl a' s' r => ?_⟩
  cases r with
  | nil => exact hk.elim
  | cons r1 r =>
    cases r with
    | nil => exact hk.elim
    | cons r2 r =>
      cases r with
      | nil => exact ⟨_, _, rfl, ok.nx _ _ _ _ ((a'.set hI r1).set hJ r2) s' hk⟩
      | cons r3 r => exact hk.elim
/-- a, b, c = x, y, z -/
def sPar3 (i j l : Nat) (t : TDs) : TDS := fun R ρ => t ρ fun ds ρ' => match ds with
  | [d, e, f] => R.nx (((ρ'.set i (.val d)).set j (.val e)).set l (.val f))
  | _ => False
theorem ds_par3 {i j l : Nat} {x y z : Str} {c' : Expr} {t : TDs} {px py pz pt : Pos} {kt k2 pt2} (c : Cok k X Γ) (hi : X.N[i]? = some x) (hj : X.N[j]? = some y) (hl : X.N[l]? = some z) (hij : i ≠ j) (hil : i ≠ l) (hjl : j ≠ l)
    (hx : X.env.scope.names.lookup x = some .local) (hy : X.env.scope.names.lookup y = some .local) (hz : X.env.scope.names.lookup z = some .local) (ha : DL X Γ [a, b, c'] t) (hI : Γ.I.contains i = false := by rfl) (hJ : Γ.I.contains j = false := by rfl) (hL : Γ.I.contains l = false := by rfl)
    (hw : swappedStores [.Tuple [.Name x px, .Name y py, .Name z pz] kt pt] (.Tuple [a, b, c'] k2 pt2) X.env = pure (some [x, y, z]) := by rfl)
    (hs : swapsWithSole [.Tuple [.Name x px, .Name y py, .Name z pz] kt pt] (.Tuple [a, b, c'] k2 pt2) pos.line X.env = pure false := by rfl) :
    DS X Γ (.Assign [.Tuple [.Name x px, .Name y py, .Name z pz] kt pt] (.Tuple [a, b, c'] k2 pt2) pos) (sPar3 i j l t) := by
  refine ⟨ps_imp (ps_par3 c.calm c.nd hi hj hl hij hil hjl hx hy hz ha.pa hw hs) ?_⟩
  rintro E σ H ⟨ρ, G, R, at_, ok, h⟩
  refine ⟨ρ, G, _, at_, h, fun ds ρ' vs G' H' hk hl a' s' r => ?_⟩
  cases r with
  | nil => exact hk.elim
  | cons r1 r =>
    cases r with
    | nil => exact hk.elim
    | cons r2 r =>
      cases r with
      | nil => exact hk.elim
      | cons r3 r =>
        cases r with
        | nil => exact ⟨_, _, _, rfl, ok.nx _ _ _ _ (((a'.set hI r1).set hJ r2).set hL r3) s' hk⟩
        | cons r4 r => exact hk.elim
/-- name op= e -/
def sAug (i : Nat) (f : Op2) (t : TB) : TDS := fun R ρ => match ρ[i]? with
  | some (.val d) => t ρ fun x ρ' => withD ρ' x fun e => f d e fun r => R.nx (ρ'.set i (.val r))
  | _ => False
theorem ds_aug {i : Nat} {x : Str} {op : Operator} {f : Op2} {t : TB} {pos' : Pos} (c : Cok k X Γ) (hi : X.N[i]? = some x) (hx : Loc X.env.scope x) (ho : OpD X (inplaceOp op) f) (h : DB X Γ e t) (hI : Γ.I.contains i = false := by rfl) (hf : X.fn x = true ∨ X.env.scope.names.lookup x = some .local := by first | exact .inl rfl | exact .inr rfl | assumption) :
    DS X Γ (.AugAssign (.Name x pos') op e pos) (sAug i f t) := by
  refine ⟨ps_imp (ps_aug (i := i) c.nd hi hx h.pe (fun pins s σ H x y v u Q I r1 r2 q => ho pins s σ H x y v u Q I r1 r2 q) hf) ?_⟩
  rintro E σ H ⟨ρ, G, R, at_, ok, h⟩
  unfold sAug at h
  split at h
  · rename_i d q
    obtain ⟨v, e1, e2⟩ := at_.val q
    refine ⟨v, e1, ρ, G, _, at_, h, fun y ρ1 w G1 H1 h1 a1 s1 r1 => ?_⟩
    obtain ⟨e, l, h1⟩ := h1.to
    exact ⟨G1, d, e, _, a1.sub, .inl (e2.mono s1), a1.isx r1 l, h1, fun r z G2 H2 hk g i => ok.nx _ _ _ _ ((a1.grow g).set hI i) (s1.trans g.gg) hk⟩
  · exact h.elim
def iaddD : Op2
  | .int i, .int j, Q => Q (.int (i + j))
  | .str x, .str y, Q => x.length + y.length ≤ 16777216 ∧ Q (.str (x ++ y))
  | _, _, _ => False
theorem od_iadd : OpD X (inplaceOp .Add) iaddD := by
  refine OpD.or (iop_add.or iop_add_str) ?_
  rintro x y H Q ⟨G, d, e, k, s, hx, hy, h, fin⟩
  cases d with
  | int i =>
    cases e with
    | int j => exact .inl ⟨i, j, hx.int, hy.int, fin _ _ G H h (.refl s) (.int _)⟩
    | _ => exact (show False from h).elim
  | str i =>
    cases e with
    | str j => exact .inr ⟨i, j, hx.str, hy.str, line_le h.1, fin _ _ G H h.2 (.refl s) (.str _)⟩
    | _ => exact (show False from h).elim
  | _ => exact (show False from h).elim
theorem od_isub : OpD X (inplaceOp .Sub) subD := by
  refine OpD.or iop_sub ?_
  rintro x y H Q ⟨G, d, e, k, s, hx, hy, h, fin⟩
  cases d with
  | int i =>
    cases e with
    | int j => exact ⟨i, j, hx.int, hy.int, fin _ _ G H h (.refl s) (.int _)⟩
    | _ => exact (show False from h).elim
  | _ => exact (show False from h).elim
theorem iop_mulC : OpR X (inplaceOp .Mult) (rI CM fun i j => .int (i * j)) := opI fun _ _ _ _ _ _ _ hc q => imul_int q hc.ok
theorem od_imul : OpD X (inplaceOp .Mult) mulD := by
  refine OpD.or iop_mulC ?_
  rintro x y H Q ⟨G, d, e, k, s, hx, hy, h, fin⟩
  cases d with
  | int i =>
    cases e with
    | int j => exact ⟨i, j, hx.int, hy.int, h.1, fin _ _ G H h.2 (.refl s) (.int _)⟩
    | _ => exact (show False from h).elim
  | _ => exact (show False from h).elim
theorem iop_fdivC : OpR X (inplaceOp .FloorDiv) (rI (fun _ j => CDV j) fun i j => .int (i.fdiv j)) := opI fun i j _ _ _ _ _ hc q =>
  ifloordiv_int hc.1 q (.inl (PyProof.noPylong_of_log2 (PySem.Flt.log2_lt_of (by decide) hc.2)))
theorem od_ifdiv : OpD X (inplaceOp .FloorDiv) fdivD := by
  refine OpD.or iop_fdivC ?_
  rintro x y H Q ⟨G, d, e, k, s, hx, hy, h, fin⟩
  cases d with
  | int i =>
    cases e with
    | int j => exact ⟨i, j, hx.int, hy.int, h.1, fin _ _ G H h.2 (.refl s) (.int _)⟩
    | _ => exact (show False from h).elim
  | _ => exact (show False from h).elim

/-! ### while -/
def sWhile (c : TT') (t : TDS) : TDS := fun R ρ => ∃ W : Nat → Ro → Prop, (∃ m, W m ρ) ∧ ∀ m ρ, W m ρ → c ρ fun b ρ1 =>
  brn b (t { R with nx := fun ρ' => ∃ m', m' < m ∧ W m' ρ', ct := fun ρ' => ∃ m', m' < m ∧ W m' ρ', bk := R.nx } ρ1) (R.nx ρ1)
theorem ds_while {c' : Expr} {tc : TT'} (c : Cok k X Γ) (hc : DT X Γ c' tc) (hb : DSs X Γ body t) : DS X Γ (.While c' body [] pos) (sWhile tc t) := by
  refine ⟨ps_imp (ps_while c.po hc.pt hb.ps) ?_⟩
  rintro E σ H ⟨ρ, G, R, at_, ok, W, ⟨m, w⟩, turn⟩
  refine ⟨fun m σ' H' => ∃ ρ' G', At X.K Γ ρ' σ' G' H' ∧ Same G G' ∧ W m ρ', ⟨m, ρ, G, at_, Same.refl _, w⟩, ?_⟩
  rintro m σ' H' ⟨ρ', G', a', s', w'⟩
  refine ⟨ρ', G', _, a', turn m ρ' w', fun b ρ1 G1 H1 h1 a1 s1 => ?_⟩
  have s01 := s'.trans s1
  cases b with
  | true =>
    refine iteT ⟨fun σ2 H2 => ∃ m', m' < m ∧ ∃ ρ' G', At X.K Γ ρ' σ2 G' H2 ∧ Same G G' ∧ W m' ρ', fun σ2 H2 q => q, ρ1, G1, { R with nx := fun ρ' => ∃ m', m' < m ∧ W m' ρ', ct := fun ρ' => ∃ m', m' < m ∧ W m' ρ', bk := R.nx }, a1, ⟨fun ρ2 σ2 G2 H2 a2 s2 ⟨m', hm, w2⟩ => ⟨m', hm, ρ2, G2, a2, s01.trans s2, w2⟩,
      fun d v ρ2 σ2 G2 H2 a2 s2 => ok.rt d v ρ2 σ2 G2 H2 a2 (s01.trans s2), fun ρ2 σ2 G2 H2 a2 s2 => ok.nx ρ2 σ2 G2 H2 a2 (s01.trans s2), fun ρ2 σ2 G2 H2 a2 s2 ⟨m', hm, w2⟩ => ⟨m', hm, ρ2, G2, a2, s01.trans s2, w2⟩⟩, h1⟩
  | false =>
    exact iteF (ok.nx _ _ _ _ a1 s01 h1)

/-! ### what a loop walks -/
structure JOk (K : PySem.W.Frag) (J : It) (ds : List D) (G1 : Hp) : Prop where
  go : ∀ i H G, Same G1 G → Same G H → i < ds.length → J.go i H
  stop : ∀ H G, Same G1 G → Same G H → J.stop ds.length H
  yld : ∀ i H G x H', Same G1 G → Same G H → i < ds.length → J.yld i H x H' → ∃ d G', ds[i]? = some d ∧ Grow G H G' H' ∧ Is K G' x d
theorem JOk.walk {K : PySem.W.Frag} {J : It} {ds : List D} {G1 : Hp} {Gd : Hp → Prop} {Y : Nat → Hp → V → Hp → Prop} (w : L2.Walk J ds.length Gd Y) (hG : ∀ H, Same G1 H → Gd H)
    (hy : ∀ i H G x H', Same G1 G → Same G H → i < ds.length → Y i H x H' → ∃ d G', ds[i]? = some d ∧ Grow G H G' H' ∧ Is K G' x d) : JOk K J ds G1 :=
  ⟨fun i H G s1 s2 hi => w.goes i H hi (hG H (s1.trans s2)), fun H G s1 s2 => w.stops H (hG H (s1.trans s2)), fun i H G x H' s1 s2 hi y => hy i H G x H' s1 s2 hi (w.yields i H x H' hi (hG H (s1.trans s2)) y)⟩
theorem JOk.mono {K : PySem.W.Frag} {J : It} {ds : List D} {G1 G2 : Hp} (h : JOk K J ds G1) (s : Same G1 G2) : JOk K J ds G2 :=
  ⟨fun i H G s1 s2 => h.go i H G (s.trans s1) s2, fun H G s1 s2 => h.stop H G (s.trans s1) s2, fun i H G x H' s1 s2 => h.yld i H G x H' (s.trans s1) s2⟩
abbrev TI' := Ro → (List D → Ro → Prop) → Prop
def rdI (K : PySem.W.Frag) (Γ : Gm) (t : TI') : TI := fun σ H R => ∃ ρ G k, At K Γ ρ σ G H ∧ t ρ k ∧ ∀ ds ρ' J G' H', k ds ρ' → At K Γ ρ' σ G' H' → Same G G' → JOk K J ds G' → R J H'
structure DI (X : Cx) (Γ : Gm) (tg iter : Expr) (t : TI') : Prop where
  pi : PI X tg iter (rdI X.K Γ t)
theorem pi_imp {X : Cx} {tg iter : Expr} {t t' : TI} (h : PI X tg iter t) (i : ∀ σ H R, t' σ H R → t σ H R) : PI X tg iter t' := ⟨fun pins s σ H R I q => h.run pins s σ H R I (i σ H R q)⟩
/-- a list, a tuple, a text: whichever it is -/
theorem pi_seq {tg l : Expr} {tl : TE} (hl : PE X l tl) : PI X tg l (fun σ H R => tl σ H fun x H1 =>
    (∃ a xs, x = .ref a ∧ SqL X.K H1 a xs ∧ R (Itl X.K a) H1) ∨ (∃ a xs, x = .ref a ∧ SqT X.K H1 a xs ∧ R (Itt X.K a) H1) ∨ ∃ z, x = .str z ∧ R (Its z) H1) := by
  refine ⟨fun pins s σ H R I h => ?_⟩
  refine thn (hl.run pins s σ H _ I h) fun v s1 ⟨x, H1, I1, r1, q1⟩ => ?_
  have pl : ∀ {w : TI}, PI (X := X) tg l w → True := fun _ => trivial
  rcases q1 with ⟨a, xs, e, hq, q⟩ | ⟨a, xs, e, hq, q⟩ | ⟨z, e, q⟩
  · subst e
    cases r1
    obtain ⟨its, rv, p, hz⟩ := I1.list hq
    refine wpAny_pyIter_list p.isList ?_
    refine ⟨s1.heap.objs.size, [s1.heap.objs.size], _, _, H1, rfl, I1.kept (t' := s1.toks) fun b o e => Heap.get?_push_of_some _ e, turn_list a _, ⟨_, Heap.get?_push_size _ rfl, rfl, rfl⟩, fun b hb => ?_, q⟩
    have e : b = s1.heap.objs.size := by simpa using hb
    subst e
    exact I1.fpOk (Nat.le_refl _) (I1.hok.fresh (Nat.le_refl _))
  · subst e
    cases r1
    obtain ⟨its, rv, p, hz⟩ := I1.tuple hq
    refine wpAny_pyIter_tuple (show s1.heap.IsTuple a its.toArray from p) ?_
    refine ⟨s1.heap.objs.size, [s1.heap.objs.size], _, _, H1, rfl, I1.kept (t' := s1.toks) fun b o e => Heap.get?_push_of_some _ e, turn_tuple a _, ⟨_, Heap.get?_push_size _ rfl, rfl, rfl⟩, fun b hb => ?_, q⟩
    have e : b = s1.heap.objs.size := by simpa using hb
    subst e
    exact I1.fpOk (Nat.le_refl _) (I1.hok.fresh (Nat.le_refl _))
  · subst e
    obtain ⟨t, rfl⟩ := r1
    cases ha : z.cps.all (· < 128)
    · exact wpAny_pyIter_wide ha (pi_one (tk := s1.toks) I1 _ (turn_str _ z t "str_iterator" (.inr rfl)) ⟨_, Heap.get?_push_size _ rfl, rfl, rfl⟩ q)
    · exact wpAny_pyIter_ascii ha (pi_one (tk := s1.toks) I1 _ (turn_str _ z t "str_ascii_iterator" (.inl rfl)) ⟨_, Heap.get?_push_size _ rfl, rfl, rfl⟩ q)
/-- the signs of a text -/
def signs (z : Str) : List D := z.cps.toList.map fun c => .str ⟨#[c]⟩
def seqD (d : D) (k : List D → Prop) : Prop := match d with
  | .list xs => k xs
  | .tuple xs => k xs
  | .str z => k (signs z)
  | _ => False
def iSeq (t : TD) : TI' := fun ρ Q => t ρ fun d ρ1 => seqD d fun ds => Q ds ρ1
theorem jok_list {K : PySem.W.Frag} {a : Addr} {xs : List V} {ds : List D} {G1 : Hp} (h : SqL K G1 a xs) (r : IsAll K G1 xs ds) : JOk K (Itl K a) ds G1 := by
  have w : L2.Walk (Itl K a) xs.length (fun H => SqL K H a xs) (YAt xs) := walk_list
  rw [r.length] at w
  refine JOk.walk w (fun H s => s.seq h) fun i H G x H' s1 s2 hi ⟨e, y⟩ => ?_
  subst e
  obtain ⟨d, h1, h2⟩ := r.get y
  exact ⟨d, G, h1, .refl s2, h2.mono s1⟩
theorem jok_tup {K : PySem.W.Frag} {a : Addr} {xs : List V} {ds : List D} {G1 : Hp} (h : SqT K G1 a xs) (r : IsAll K G1 xs ds) : JOk K (Itt K a) ds G1 := by
  have w : L2.Walk (Itt K a) xs.length (fun H => SqT K H a xs) (YAt xs) := walk_tup
  rw [r.length] at w
  refine JOk.walk w (fun H s => Same.sqt s h) fun i H G x H' s1 s2 hi ⟨e, y⟩ => ?_
  subst e
  obtain ⟨d, h1, h2⟩ := r.get y
  exact ⟨d, G, h1, .refl s2, h2.mono s1⟩
theorem jok_str {K : PySem.W.Frag} {z : Str} {G1 : Hp} : JOk K (Its z) (signs z) G1 := by
  have w : L2.Walk (Its z) z.cps.size (fun _ => True) (fun i H v H' => H' = H ∧ ∃ c, z.cps[i]? = some c ∧ v = .str ⟨#[c]⟩) := walk_str
  have e : z.cps.size = (signs z).length := by unfold signs; simp
  rw [e] at w
  refine JOk.walk w (fun _ _ => trivial) fun i H G x H' s1 s2 hi ⟨e, c, y, ev⟩ => ?_
  subst e ev
  exact ⟨.str ⟨#[c]⟩, G, by unfold signs; simp [y], .refl s2, .str _⟩
theorem di_seq {tg : Expr} {t : TD} (h : DE X Γ e t) : DI X Γ tg e (iSeq t) := by
  refine ⟨pi_imp (pi_seq h.pe) ?_⟩
  rintro σ H R ⟨ρ, G, k, at_, h, fin⟩
  refine ⟨ρ, G, _, at_, h, fun d ρ1 v G1 H1 h1 a1 s1 r1 => ?_⟩
  cases d with
  | list ds =>
    cases r1 with
    | lst h2 h3 => exact .inl ⟨_, _, rfl, .of (a1.sub _ _ h2), fin ds _ _ _ _ h1 a1 s1 (jok_list (.of h2) h3)⟩
  | tuple ds =>
    cases r1 with
    | tup h2 h3 => exact .inr (.inl ⟨_, _, rfl, Same.sqt a1.sub h2, fin ds _ _ _ _ h1 a1 s1 (jok_tup h2 h3)⟩)
  | str z =>
    cases r1 with
    | str _ => exact .inr (.inr ⟨z, rfl, fin _ _ _ _ _ h1 a1 s1 jok_str⟩)
  | _ => exact (show False from h1).elim
/-- lo, lo + c, .. -/
def rangeD (lo c : Int) (n : Nat) : List D := (List.range n).map fun (i : Nat) => PyData.int (lo + (i : Int) * c)
theorem jok_range {K : PySem.W.Frag} {lo : Int} {n : Nat} {G1 : Hp} : JOk K (Itr lo n) (rangeD lo 1 n) G1 := by
  have w : L2.Walk (Itr lo n) n (fun _ => True) (YFn fun i => .int (lo + i)) := walk_range
  have e : n = (rangeD lo 1 n).length := by unfold rangeD; simp
  rw [e] at w
  rw [← e] at w
  refine ⟨fun i H G s1 s2 hi => w.goes i H (by rw [e]; exact hi) trivial, fun H G s1 s2 => by rw [← e]; exact w.stops H trivial, fun i H G x H' s1 s2 hi y => ?_⟩
  have hi' : i < n := by rw [e]; exact hi
  obtain ⟨e1, e2⟩ := w.yields i H x H' hi' trivial y
  subst e1 e2
  exact ⟨.int (lo + i), G, by unfold rangeD; simp [hi'], .refl s2, .int _⟩
theorem jok_rangeC {K : PySem.W.Frag} {lo c : Int} {n : Nat} {G1 : Hp} : JOk K (Itc lo c n) (rangeD lo c n) G1 := by
  have w : L2.Walk (Itc lo c n) n (fun _ => True) (YFn fun i => .int (lo + (i : Nat) * c)) := walk_rangeC
  have e : n = (rangeD lo c n).length := by unfold rangeD; simp
  refine ⟨fun i H G s1 s2 hi => w.goes i H (by rw [e]; exact hi) trivial, fun H G s1 s2 => by rw [← e]; exact w.stops H trivial, fun i H G x H' s1 s2 hi y => ?_⟩
  have hi' : i < n := by rw [e]; exact hi
  obtain ⟨e1, e2⟩ := w.yields i H x H' hi' trivial y
  subst e1 e2
  exact ⟨.int (lo + i * c), G, by unfold rangeD; simp [hi'], .refl s2, .int _⟩
/-- arguments, borrowed -/
abbrev TBs := Ro → (List B → Ro → Prop) → Prop
inductive IsBs (K : PySem.W.Frag) (σ : L2.St) (G : Hp) : List V → List B → Prop
  | nil : IsBs K σ G [] []
  | cons {v : V} {vs : List V} {b : B} {bs : List B} : IsB K σ G v b → IsBs K σ G vs bs → IsBs K σ G (v :: vs) (b :: bs)
def rdBs (K : PySem.W.Frag) (Γ : Gm) (n : Nat) (t : TBs) : TA := fun σ H Q => ∃ ρ G k, At K Γ ρ σ G H ∧ t ρ k ∧ ∀ bs ρ' vs G' H', k bs ρ' → bs.length = n → At K Γ ρ' σ G' H' → Same G G' → IsBs K σ G' vs bs → Q vs H'
structure DBs (X : Cx) (Γ : Gm) (es : List Expr) (t : TBs) : Prop where
  pa : PA X es (rdBs X.K Γ es.length t)
def bNil : TBs := fun ρ Q => Q [] ρ
def bCons (t : TB) (u : TBs) : TBs := fun ρ Q => t ρ fun d ρ1 => u ρ1 fun ds ρ2 => Q (d :: ds) ρ2
theorem dbs_nil : DBs X Γ [] bNil := by
  refine ⟨pa_imp pa_nil ?_⟩
  rintro σ H Q ⟨ρ, G, k, at_, h, fin⟩
  exact fin [] ρ [] G H h rfl at_ (Same.refl _) .nil
theorem dbs_cons {t : TB} {u : TBs} (h : DB X Γ e t) (hr : DBs X Γ es u) (hs : starEach (e :: es) X.env = (false, eval e X.env) :: starEach es X.env := by rfl) : DBs X Γ (e :: es) (bCons t u) := by
  refine ⟨pa_imp (pa_cons h.pe hr.pa hs) ?_⟩
  rintro σ H Q ⟨ρ, G, k, at_, h, fin⟩
  exact ⟨ρ, G, _, at_, h, fun d ρ1 v G1 H1 h1 a1 s1 r1 => ⟨ρ1, G1, _, a1, h1, fun ds ρ2 vs G2 H2 h2 hl a2 s2 r2 => fin (d :: ds) ρ2 (v :: vs) G2 H2 h2 (by rw [List.length_cons, List.length_cons, hl]) a2 (s1.trans s2) (.cons (r1.mono s2) r2)⟩⟩
/-- what a call of values tells of data: FD -/
abbrev OpN := List D → (D → Prop) → Prop
def lookAll (ρ : Ro) : List B → Option (List D)
  | [] => some []
  | b :: bs => match look ρ b, lookAll ρ bs with
    | some d, some ds => some (d :: ds)
    | _, _ => none
inductive IsXs (K : PySem.W.Frag) (G H : Hp) : List V → List D → Prop
  | nil : IsXs K G H [] []
  | cons {v : V} {vs : List V} {d : D} {ds : List D} : IsX K G H v d → IsXs K G H vs ds → IsXs K G H (v :: vs) (d :: ds)
theorem At.isxs {K : PySem.W.Frag} {ρ : Ro} {σ : L2.St} {G H : Hp} (a : At K Γ ρ σ G H) : ∀ {vs : List V} {bs : List B} {ds : List D}, IsBs K σ G vs bs → lookAll ρ bs = some ds → IsXs K G H vs ds
  | _, _, _, .nil, e => by cases e; exact .nil
  | _, _, ds, .cons (b := b) (bs := bs) h t, e => by
    have e' : (match look ρ b, lookAll ρ bs with | some d, some ds => some (d :: ds) | _, _ => none) = some ds := e
    cases h1 : look ρ b with
    | none => rw [h1] at e'; cases e'
    | some d =>
      cases h2 : lookAll ρ bs with
      | none => rw [h1, h2] at e'; cases e'
      | some ds' =>
        rw [h1, h2] at e'
        cases e'
        exact .cons (a.isx h h1) (At.isxs a t h2)
def CallD (X : Cx) (f : Value) (g : OpN) : Prop :=
  CallR X f fun vs H Q => ∃ G ds k, Same G H ∧ IsXs X.K G H vs ds ∧ g ds k ∧ ∀ r v G' H', k r → Grow G H G' H' → Is X.K G' v r → Q v H'
theorem CallD.of {f : Value} {g : OpN} {r : List V → Hp → VK → Prop} (h : CallR X f r) (i : ∀ vs H Q, (∃ G ds k, Same G H ∧ IsXs X.K G H vs ds ∧ g ds k ∧ ∀ r v G' H', k r → Grow G H G' H' → Is X.K G' v r → Q v H') → r vs H Q) : CallD X f g := by
  intro pins s σ H xs us Q I r q
  exact h pins s σ H xs us Q I r (i _ _ _ q)
def dCB (g : OpN) (ta : TBs) : TD := fun ρ Q => ta ρ fun bs ρ1 => optD (lookAll ρ1 bs) fun ds => g ds fun r => Q r ρ1
theorem cb_rd {g : OpN} {ta : TBs} {K : PySem.W.Frag} {n : Nat} {σ : L2.St} {H : Hp} {Q : VK} (h : rdE K Γ (dCB g ta) σ H Q) : tCB (fun vs H Q => ∃ G ds k, Same G H ∧ IsXs K G H vs ds ∧ g ds k ∧ ∀ r v G' H', k r → Grow G H G' H' → Is K G' v r → Q v H') (rdBs K Γ n ta) σ H Q := by
  obtain ⟨ρ, G, k, at_, h, fin⟩ := h
  refine ⟨ρ, G, _, at_, h, fun bs ρ1 vs G1 H1 h1 _ a1 s1 r1 => ?_⟩
  obtain ⟨ds, l, h1⟩ := h1.to
  exact ⟨G1, ds, _, a1.sub, a1.isxs r1 l, h1, fun r v G2 H2 hk g i => fin r ρ1 v G2 H2 hk (a1.grow g) (s1.trans g.gg) i⟩
theorem de_callB {x : Str} {id : String} {g : OpN} {ta : TBs} {p : Pos} (hc : CallD X (.builtin id) g) (hm : X.mg x = none) (hv : bootBuiltins x = some (.builtin id)) (ha : DBs X Γ (e :: es) ta) (hg : Gl X x := by rfl) (hn : x ≠ "__name__" := by decide) (hdb : (x == ("__debug__" : Str)) = false := by decide)
    (he : starEach (e :: es) X.env = (false, eval e X.env) :: starEach es X.env := by rfl) (hpl : (backTo pos (starEach es X.env)).any (·.1) = false := by rfl) : DE X Γ (.Call (.Name x p) (e :: es) [] pos) (dCB g ta) :=
  ⟨pe_imp (pe_callB hc hg hm hv ha.pa hn hdb he hpl) fun σ H Q h => cb_rd h⟩
theorem de_callT {x : Str} {id : String} {g : OpN} {ta : TBs} {p : Pos} (hc : CallD X (.type id) g) (hm : X.mg x = none) (hv : bootBuiltins x = some (.type id)) (ha : DBs X Γ (e :: es) ta) (hg : Gl X x := by rfl) (hn : x ≠ "__name__" := by decide) (hdb : (x == ("__debug__" : Str)) = false := by decide)
    (he : starEach (e :: es) X.env = (false, eval e X.env) :: starEach es X.env := by rfl) (hpl : (backTo pos (starEach es X.env)).any (·.1) = false := by rfl) : DE X Γ (.Call (.Name x p) (e :: es) [] pos) (dCB g ta) :=
  ⟨pe_imp (pe_callTy hc hg hm hv ha.pa hn hdb he hpl) fun σ H Q h => cb_rd h⟩
end
end Dn
/-! Dn: for, ranges, comprehensions, mutation, calls of defs, defs. -/
namespace Dn
open PySem PySem.Spec PyProof.Rows L2
section
variable {X : Cx} {Γ : Gm} {k : Nat} {a b e : Expr} {es : List Expr} {st : Stmt} {rest body orelse : List Stmt} {pos : Pos} {t u : TDS}
/-! ### for -/
/-- I: what holds with these still to come -/
def sFor (ti : TI') (g : TDG) (tb : TDS) : TDS := fun R ρ => ti ρ fun ds ρ1 => ∃ I : List D → Ro → Prop, I ds ρ1 ∧
  (∀ x r ρ, I (x :: r) ρ → g x ρ fun ρ2 => tb { R with nx := I r, ct := I r, bk := R.nx } ρ2) ∧ ∀ ρ, I [] ρ → R.nx ρ
theorem ds_for {tg iter : Expr} {ti : TI'} {js : List Nat} {g : TDG} (c : Cok k X Γ) (hi : DI X Γ tg iter ti) (hg : DG X Γ tg js g) (hb : DSs X Γ body t)
    (hs : ∀ x, foldedSetIterable iter X.env x = pure x := by intro _; rfl) : DS X Γ (.For tg iter body [] pos) (sFor ti g t) := by
  refine ⟨ps_imp (ps_for c.po c.calm hi.pi hg.pg hb.ps hs) ?_⟩
  rintro E σ H ⟨ρ, G, R, at_, ok, h⟩
  refine ⟨ρ, G, _, at_, h, fun ds ρ1 J G1 H1 ⟨I, h1, h2, h3⟩ a1 s1 j => ?_⟩
  refine ⟨fun i m σ' H' => m = ds.length - i ∧ i ≤ ds.length ∧ ∃ ρ' G', At X.K Γ ρ' σ' G' H' ∧ Same G1 G' ∧ I (ds.drop i) ρ', ⟨ds.length, by simp, Nat.zero_le _, ρ1, G1, a1, Same.refl _, h1⟩, ?_⟩
  rintro i m σ' H' ⟨rfl, hi, ρ', G', a', s', hI⟩
  by_cases hlt : i < ds.length
  · refine .inr ⟨j.go i H' G' s' a'.sub hlt, fun σ2 H2 => ∃ ρ' G', At X.K Γ ρ' σ2 G' H2 ∧ Same G1 G' ∧ I (ds.drop (i + 1)) ρ', fun σ2 H2 ⟨ρ2, G2, a2, s2, i2⟩ => ⟨ds.length - (i + 1), by omega, rfl, hlt, ρ2, G2, a2, s2, i2⟩, fun x H2 y => ?_⟩
    obtain ⟨d, G2, hd, g2, r2⟩ := j.yld i H' G' x H2 s' a'.sub hlt y
    have e : ds.drop i = d :: ds.drop (i + 1) := by
      rw [List.drop_eq_getElem_cons hlt]
      rw [List.getElem?_eq_getElem hlt] at hd
      rw [Option.some.inj hd]
    rw [e] at hI
    have a2 := a'.grow g2
    have s2 := s'.trans g2.gg
    refine ⟨ρ', G2, d, _, a2, r2, h2 d _ ρ' hI, fun ρ3 σ3 h3' a3 _ _ => ⟨ρ3, G2, { R with nx := I (ds.drop (i + 1)), ct := I (ds.drop (i + 1)), bk := R.nx }, a3, ⟨fun ρ4 σ4 G4 H4 a4 s4 i4 => ⟨ρ4, G4, a4, s2.trans s4, i4⟩,
      fun d v ρ4 σ4 G4 H4 a4 s4 => ok.rt d v ρ4 σ4 G4 H4 a4 (s1.trans (s2.trans s4)), fun ρ4 σ4 G4 H4 a4 s4 => ok.nx ρ4 σ4 G4 H4 a4 (s1.trans (s2.trans s4)), fun ρ4 σ4 G4 H4 a4 s4 i4 => ⟨ρ4, G4, a4, s2.trans s4, i4⟩⟩, h3'⟩⟩
  · have e : i = ds.length := by omega
    subst e
    rw [List.drop_length] at hI
    exact .inl ⟨j.stop H' G' s' a'.sub, ok.nx _ _ _ _ a' (s1.trans s') (h3 _ hI)⟩
/-- the turns one by one -/
def forD (g : TDG) (tb : TDS) (R : DEnds) : List D → Ro → Prop
  | [], ρ => R.nx ρ
  | x :: r, ρ => g x ρ fun ρ2 => tb { R with nx := forD g tb R r, ct := forD g tb R r, bk := R.nx } ρ2
theorem sFor.of {g : TDG} {tb : TDS} {R : DEnds} {ds : List D} {ρ : Ro} (h : forD g tb R ds ρ) : ∃ I : List D → Ro → Prop, I ds ρ ∧
  (∀ x r ρ, I (x :: r) ρ → g x ρ fun ρ2 => tb { R with nx := I r, ct := I r, bk := R.nx } ρ2) ∧ ∀ ρ, I [] ρ → R.nx ρ :=
  ⟨forD g tb R, h, fun _ _ _ q => q, fun _ q => q⟩
/-! ### ranges -/
def iRg1 (ta : TBs) : TI' := fun ρ Q => ta ρ fun bs ρ1 => optD (lookAll ρ1 bs) fun ds => match ds with
  | [.int n] => (-(2 ^ 62) ≤ n ∧ n < 2 ^ 62) ∧ Q (rangeD 0 1 n.toNat) ρ1
  | _ => False
def iRg2 (ta : TBs) : TI' := fun ρ Q => ta ρ fun bs ρ1 => optD (lookAll ρ1 bs) fun ds => match ds with
  | [.int m, .int n] => (-(2 ^ 62) ≤ m ∧ m < 2 ^ 62 ∧ -(2 ^ 62) ≤ n ∧ n < 2 ^ 62) ∧ Q (rangeD m 1 (n - m).toNat) ρ1
  | _ => False
def iRg3 (ta : TBs) : TI' := fun ρ Q => ta ρ fun bs ρ1 => optD (lookAll ρ1 bs) fun ds => match ds with
  | [.int i, .int j, .int c] => ∃ n, RgC i j c n ∧ Q (rangeD i c n) ρ1
  | _ => False
theorem isxs_int1 {K : PySem.W.Frag} {G H : Hp} {vs : List V} {n : Int} (h : IsXs K G H vs [.int n]) : vs = [.int n] := by
  cases h with
  | cons h1 h2 => cases h2; rw [h1.int]
theorem isxs_int2 {K : PySem.W.Frag} {G H : Hp} {vs : List V} {n m : Int} (h : IsXs K G H vs [.int n, .int m]) : vs = [.int n, .int m] := by
  cases h with
  | cons h1 h2 => rw [h1.int, isxs_int1 h2]
theorem isxs_int3 {K : PySem.W.Frag} {G H : Hp} {vs : List V} {n m c : Int} (h : IsXs K G H vs [.int n, .int m, .int c]) : vs = [.int n, .int m, .int c] := by
  cases h with
  | cons h1 h2 => rw [h1.int, isxs_int2 h2]
theorem di_range1 {tg : Expr} {ta : TBs} {p : Pos} (hm : X.mg "range" = none) (ha : DBs X Γ [a] ta) (hg : Gl X "range" := by rfl) (hs : starEach [a] X.env = [(false, eval a X.env)] := by rfl) : DI X Γ tg (.Call (.Name "range" p) [a] [] pos) (iRg1 ta) := by
  refine ⟨pi_imp (pi_range1 hg hm ha.pa hs) ?_⟩
  rintro σ H R ⟨ρ, G, k, at_, h, fin⟩
  refine ⟨ρ, G, _, at_, h, fun bs ρ1 vs G1 H1 h1 _ a1 s1 r1 => ?_⟩
  obtain ⟨ds, l, h1⟩ := h1.to
  split at h1
  · rename_i n
    exact ⟨n, isxs_int1 (a1.isxs r1 l), h1.1.1, h1.1.2, fin _ _ _ _ _ h1.2 a1 s1 jok_range⟩
  · exact h1.elim
theorem di_range2 {tg : Expr} {ta : TBs} {p : Pos} (hm : X.mg "range" = none) (ha : DBs X Γ [a, b] ta) (hg : Gl X "range" := by rfl) (hs : starEach [a, b] X.env = [(false, eval a X.env), (false, eval b X.env)] := by rfl) (hs2 : starEach [b] X.env = [(false, eval b X.env)] := by rfl) : DI X Γ tg (.Call (.Name "range" p) [a, b] [] pos) (iRg2 ta) := by
  refine ⟨pi_imp (pi_range2 hg hm ha.pa hs hs2) ?_⟩
  rintro σ H R ⟨ρ, G, k, at_, h, fin⟩
  refine ⟨ρ, G, _, at_, h, fun bs ρ1 vs G1 H1 h1 _ a1 s1 r1 => ?_⟩
  obtain ⟨ds, l, h1⟩ := h1.to
  split at h1
  · rename_i m n
    exact ⟨m, n, isxs_int2 (a1.isxs r1 l), h1.1, fin _ _ _ _ _ h1.2 a1 s1 jok_range⟩
  · exact h1.elim
theorem di_range3 {tg c' : Expr} {ta : TBs} {p : Pos} (hm : X.mg "range" = none) (ha : DBs X Γ [a, b, c'] ta) (hg : Gl X "range" := by rfl) (hs : starEach [a, b, c'] X.env = (false, eval a X.env) :: starEach [b, c'] X.env := by rfl) (hpl : (backTo pos (starEach [b, c'] X.env)).any (·.1) = false := by rfl) : DI X Γ tg (.Call (.Name "range" p) [a, b, c'] [] pos) (iRg3 ta) := by
  refine ⟨pi_imp (pi_range3 hg hm ha.pa hs hpl) ?_⟩
  rintro σ H R ⟨ρ, G, k, at_, h, fin⟩
  refine ⟨ρ, G, _, at_, h, fun bs ρ1 vs G1 H1 h1 _ a1 s1 r1 => ?_⟩
  obtain ⟨ds, l, h1⟩ := h1.to
  split at h1
  · rename_i i j c
    obtain ⟨n, hc, h1⟩ := h1
    exact ⟨i, j, c, n, isxs_int3 (a1.isxs r1 l), hc, fin _ _ _ _ _ h1 a1 s1 jok_rangeC⟩
  · exact h1.elim

/-! ### comprehensions -/
def wipeR (ρ : Ro) : List Nat → Ro
  | [] => ρ
  | v :: vs => (wipeR ρ vs).set v .non
theorem wipeR_length (ρ : Ro) : ∀ vs : List Nat, (wipeR ρ vs).length = ρ.length
  | [] => rfl
  | v :: vs => by unfold wipeR; rw [List.length_set, wipeR_length ρ vs]
theorem wipeR_in {ρ : Ro} {i : Nat} {s : Sl} : ∀ {vs : List Nat}, (wipeR ρ vs)[i]? = some s → i ∈ vs → s = .non
  | [], _, h => by cases h
  | v :: vs, h, hi => by
    unfold wipeR at h
    by_cases hv : v = i
    · subst hv
      have l := (List.getElem?_eq_some_iff.mp h).1
      rw [List.length_set] at l
      rw [List.getElem?_set_self l] at h
      exact (Option.some.inj h).symm
    · rw [List.getElem?_set_ne hv] at h
      exact wipeR_in h ((List.mem_cons.mp hi).resolve_left fun z => hv z.symm)
theorem wipeR_out {ρ : Ro} {i : Nat} : ∀ {vs : List Nat}, i ∉ vs → (wipeR ρ vs)[i]? = ρ[i]?
  | [], _ => rfl
  | v :: vs, h => by
    rw [List.mem_cons, not_or] at h
    unfold wipeR
    rw [List.getElem?_set_ne (fun z => h.1 z.symm), wipeR_out h.2]
theorem wipe_out' {σ : L2.St} {i : Nat} : ∀ {vs : List Nat}, i ∉ vs → (wipe σ vs)[i]? = σ[i]?
  | [], _ => rfl
  | v :: vs, h => by
    rw [List.mem_cons, not_or] at h
    unfold wipe
    rw [List.getElem?_set_ne (fun z => h.1 z.symm), wipe_out' h.2]
theorem wipe_ext {σ σ' : L2.St} : ∀ {vs : List Nat}, σ'.length = σ.length → (∀ i, i ∉ vs → σ'[i]? = σ[i]?) → wipe σ' vs = wipe σ vs := by
  intro vs hl h
  apply List.ext_getElem?
  intro i
  by_cases hi : i ∈ vs
  · have f : ∀ (τ : L2.St) (us : List Nat), i ∈ us → (wipe τ us)[i]? = if i < τ.length then some none else none := by
      intro τ us
      induction us with
      | nil => intro z; cases z
      | cons v us ih =>
        intro z
        unfold wipe
        by_cases hv : v = i
        · subst hv
          by_cases hl : v < τ.length
          · rw [List.getElem?_set_self (by rw [wipe_length]; exact hl), if_pos hl]
          · rw [List.getElem?_eq_none (by rw [List.length_set, wipe_length]; omega), if_neg hl]
        · rw [List.getElem?_set_ne hv]
          exact ih ((List.mem_cons.mp z).resolve_left fun z => hv z.symm)
    rw [f _ _ hi, f _ _ hi, hl]
  · rw [wipe_out' hi, wipe_out' hi, h i hi]
/-- slots of some names forgotten, in the frame (τ told by σ but for these) -/
theorem At.wipe {K : PySem.W.Frag} {ρ : Ro} {σ τ : L2.St} {G H : Hp} {vs : List Nat} (a : At K Γ ρ σ G H) (hI : ∀ i ∈ Γ.I, i ∉ vs) (hl : τ.length = σ.length) (h : ∀ i, i ∉ vs → τ[i]? = σ[i]?) : At K Γ (wipeR ρ vs) τ G H where
  len := by rw [wipeR_length, hl, a.len]
  sl := fun i s o e1 e2 => by
    by_cases hi : i ∈ vs
    · rw [wipeR_in e1 hi]; exact True.intro
    · rw [wipeR_out hi] at e1
      rw [h i hi] at e2
      exact a.sl i s o e1 e2
  sep := fun i j di dj p e1 e2 e3 e4 => by
    have hi : i ∉ vs := fun z => by cases wipeR_in e1 z
    have hj : j ∉ vs := fun z => by cases wipeR_in e2 z
    rw [wipeR_out hi] at e1
    rw [wipeR_out hj] at e2
    rw [h i hi] at e3
    rw [h j hj] at e4
    exact a.sep i j di dj p e1 e2 e3 e4
  sub := a.sub
  old := a.old
  kept := a.kept
  inh := fun i hi => by rw [h i (hI i hi)]; exact a.inh i hi
  bas := a.bas
/-- the activation seen from a block within: what the block may lean on is G0, H0 -/
abbrev Gm.inn (Γ : Gm) (G0 H0 : Hp) : Gm := { Γ with G0 := G0, H0 := H0, W := fun _ _ => False }
theorem Cok.inn (c : Cok k X Γ) {s : Shared} {H : Hp} {scope : Scope} {cenv : Env} {fp : List Addr} {G0 H0 : Hp} (gh : Same G0 H0) : Cok k (X.blk s H scope cenv fp) (Γ.inn G0 H0) :=
  ⟨c.calm, c.nd, c.room, gh, PassesOwn.never, c.bl, fun σ pins H s e s' I q => by
    obtain ⟨_, _, _, cls, d, _, _, _, _, _, _, _, z⟩ := q
    obtain ⟨_, _, _, _, _, z⟩ := z
    exact z.elim⟩
/-- a list at p is laid aside, kept as it is -/
theorem At.aside {K : PySem.W.Frag} {ρ : Ro} {σ : L2.St} {G H : Hp} {p : Addr} {o : HO} (a : At K Γ ρ σ G H) (hp : H p = some o) (g0 : G p = none) (gg : Γ.G0 p = none) (hno : ∀ (j : Nat) dj, ρ[j]? = some (.own dj) → σ[j]? ≠ some (some (.ref p))) :
    At K (Γ.inn Γ.G0 (upd Γ.H0 p o)) ρ σ G H where
  len := a.len
  sl := fun i s u e1 e2 => by
    have q := a.sl i s u e1 e2
    cases s with
    | non => exact True.intro
    | val d => exact q
    | seq ds => exact q
    | own d =>
      obtain ⟨p', e, q1, q2, q3⟩ := q
      have ne : p' ≠ p := fun z => by
        subst z
        subst e
        exact hno i d e1 e2
      exact ⟨p', e, q1, by show upd Γ.H0 p o p' = none; rw [upd_ne ne]; exact q2, q3⟩
  sep := a.sep
  sub := a.sub
  old := fun b hb => by
    by_cases e : b = p
    · subst e; rw [g0]; exact gg.symm
    · exact a.old b (by have hb : upd Γ.H0 p o b ≠ none := hb; rw [upd_ne e] at hb; exact hb)
  kept := fun b u q => by
    have q : upd Γ.H0 p o b = some u := q
    by_cases e : b = p
    · subst e; rw [upd_same] at q; rw [hp]; exact q
    · rw [upd_ne e] at q; exact a.kept b u q
  inh := a.inh
  bas := a.bas
theorem At.back {K : PySem.W.Frag} {ρ : Ro} {σ : L2.St} {G H : Hp} {p : Addr} {o : HO} (a : At K (Γ.inn Γ.G0 (upd Γ.H0 p o)) ρ σ G H) (h0 : Γ.H0 p = none) (gg : Γ.G0 p = none) : At K Γ ρ σ G H ∧ H p = some o ∧ G p = none ∧ ∀ (j : Nat) dj, ρ[j]? = some (.own dj) → σ[j]? ≠ some (some (.ref p)) := by
  refine ⟨⟨a.len, fun i s u e1 e2 => ?_, a.sep, a.sub, fun b hb => ?_, fun b u q => ?_, a.inh, a.bas⟩, a.kept p o upd_same, ?_, fun j dj e1 e2 => ?_⟩
  · have q := a.sl i s u e1 e2
    cases s with
    | non => exact True.intro
    | val d => exact q
    | seq ds => exact q
    | own d =>
      obtain ⟨p', e, q1, q2, q3⟩ := q
      have ne : p' ≠ p := fun z => by
        subst z
        have q2 : upd Γ.H0 p' o p' = none := q2
        rw [upd_same] at q2
        cases q2
      exact ⟨p', e, q1, by have q2 : upd Γ.H0 p o p' = none := q2; rw [upd_ne ne] at q2; exact q2, q3⟩
  · have ne : b ≠ p := fun z => by subst z; exact hb h0
    exact a.old b (by show upd Γ.H0 p o b ≠ none; rw [upd_ne ne]; exact hb)
  · have ne : b ≠ p := fun z => by subst z; rw [h0] at q; cases q
    exact a.kept b u (by show upd Γ.H0 p o b = some u; rw [upd_ne ne]; exact q)
  · rw [a.old p (by show upd Γ.H0 p o p ≠ none; rw [upd_same]; exact fun z => nomatch z)]
    exact gg
  · obtain ⟨p', e, q1, q2, _⟩ := a.own e1
    rw [e2] at e
    cases e
    have q2 : upd Γ.H0 p o p = none := q2
    rw [upd_same] at q2
    cases q2
/-- a thing at p, that no slot holds, is changed -/
theorem At.poke {K : PySem.W.Frag} {ρ : Ro} {σ : L2.St} {G H : Hp} {p : Addr} {o : HO} (a : At K Γ ρ σ G H) (g0 : G p = none) (h0 : Γ.H0 p = none) (hno : ∀ (j : Nat) dj, ρ[j]? = some (.own dj) → σ[j]? ≠ some (some (.ref p))) : At K Γ ρ σ G (upd H p o) where
  len := a.len
  sl := fun i s u e1 e2 => by
    have q := a.sl i s u e1 e2
    cases s with
    | non => exact True.intro
    | val d => exact q
    | seq ds => exact q
    | own d =>
      obtain ⟨p', e, q1, q2, q3⟩ := q
      have ne : p' ≠ p := fun z => by
        subst z
        subst e
        exact hno i d e1 e2
      exact ⟨p', e, q1, q2, q3.mono (Same.refl _) (upd_ne ne)⟩
  sep := a.sep
  sub := fun b u q => by rw [upd_ne (ne_of_none q g0)]; exact a.sub b u q
  old := a.old
  kept := fun b u q => by rw [upd_ne (ne_of_none q h0)]; exact a.kept b u q
  inh := a.inh
  bas := a.bas
structure DTs (X : Cx) (Γ : Gm) (ifs : List Expr) (t : TT') : Prop where
  pt : PTs X ifs (rdT X.K Γ t)
theorem pts_imp {X : Cx} {e : List Expr} {t t' : TT} (h : PTs X e t) (i : ∀ σ H Q, t' σ H Q → t σ H Q) : PTs X e t' := ⟨fun pins s σ H Q I q => h.run pins s σ H Q I (i σ H Q q)⟩
def tYesD : TT' := fun ρ Q => Q true ρ
theorem dts_nil : DTs X Γ [] tYesD := ⟨pts_imp pts_nil fun σ H Q ⟨ρ, G, k, at_, h, fin⟩ => fin _ _ _ _ h at_ (Same.refl _)⟩
theorem dts_one {c : Expr} {t : TT'} (h : DT X Γ c t) : DTs X Γ [c] t := ⟨pts_one h.pt⟩
/-- [e for tg in ..]: I, by what is still to come and what is made -/
def dLc (ti : TI') (g : Hp → Hp → TDG) (tt : Hp → Hp → TT') (te : Hp → Hp → TD) (vs : List Nat) : TD := fun ρ Q => ti ρ fun ds ρ1 => ∃ I : List D → List D → Ro → Prop, I ds [] (wipeR ρ1 vs) ∧
  (∀ x r acc ρ, I (x :: r) acc ρ → ∀ G0 H0, g G0 H0 x ρ fun ρ2 => tt G0 H0 ρ2 fun b ρ3 => brn b (te G0 H0 ρ3 fun y ρ4 => acc.length < 16777216 ∧ I r (acc ++ [y]) (wipeR ρ4 vs)) (I r acc (wipeR ρ3 vs))) ∧
  ∀ acc ρ, I [] acc ρ → Q (.list acc) ρ
theorem wipeR_wipeR {ρ : Ro} {vs : List Nat} : wipeR (wipeR ρ vs) vs = wipeR ρ vs := by
  apply List.ext_getElem?
  intro i
  by_cases hi : i ∈ vs
  · have l : (wipeR (wipeR ρ vs) vs).length = (wipeR ρ vs).length := wipeR_length _ _
    cases h : (wipeR (wipeR ρ vs) vs)[i]? with
    | none => rw [List.getElem?_eq_none_iff] at h; rw [List.getElem?_eq_none (by omega)]
    | some s =>
      rw [wipeR_in h hi]
      have l2 := (List.getElem?_eq_some_iff.mp h).1
      cases h2 : (wipeR ρ vs)[i]? with
      | none => rw [List.getElem?_eq_none_iff] at h2; omega
      | some s2 => rw [wipeR_in h2 hi]
  · rw [wipeR_out hi]
theorem lc_rd {ti : TI'} {g : Hp → Hp → TDG} {tt : Hp → Hp → TT'} {te : Hp → Hp → TD} {vs js : List Nat} {K : PySem.W.Frag} (hI : ∀ i ∈ Γ.I, i ∉ vs) (hj : ∀ i ∈ js, i ∈ vs) (g00 : Same Γ.G0 Γ.H0)
    {wg : TG} {wt : TT} {we : TE} (hg : ∀ G0 H0, Same G0 H0 → ∀ v σ H Q, rdG K (Γ.inn G0 H0) js (g G0 H0) v σ H Q → wg v σ H Q) (ht : ∀ G0 H0, Same G0 H0 → ∀ σ H Q, rdT K (Γ.inn G0 H0) (tt G0 H0) σ H Q → wt σ H Q) (he : ∀ G0 H0, Same G0 H0 → ∀ σ H Q, rdE K (Γ.inn G0 H0) (te G0 H0) σ H Q → we σ H Q)
    {σ : L2.St} {H : Hp} {Q : VK} (h : rdF K Γ (dLc ti g tt te vs) σ H Q) : tLc (rdI K Γ ti) wg wt we vs σ H Q := by
  obtain ⟨ρ, G, k, at_, h, fin⟩ := h
  refine ⟨ρ, G, _, at_, h, fun ds ρ1 J G1 H1 ⟨I, h1, h2, h3⟩ a1 s1 j => fun p hp => ?_⟩
  have h0 : Γ.H0 p = none := a1.kept.free hp
  have g0 : Γ.G0 p = none := g00.free h0
  have aw := a1.wipe (τ := σ) (vs := vs) hI rfl fun _ _ => rfl
  obtain ⟨a2, q1, q2, q3⟩ := aw.fresh (o := .lst []) hp
  have sg : ∀ o, Same Γ.G0 (upd Γ.H0 p o) := fun o b u q => by rw [upd_ne (ne_of_none q g0)]; exact g00 b u q
  refine ⟨fun i m H' => m = ds.length - i ∧ i ≤ ds.length ∧ ∃ ρ' G' acc xs, At K Γ ρ' σ G' H' ∧ wipeR ρ' vs = ρ' ∧ Same G1 G' ∧ H' p = some (.lst xs) ∧ G' p = none ∧ IsAll K G' xs acc ∧ (∀ (j : Nat) dj, ρ'[j]? = some (.own dj) → σ[j]? ≠ some (some (.ref p))) ∧ I (ds.drop i) acc ρ',
    ⟨ds.length, by simp, Nat.zero_le _, _, G1, [], [], a2, wipeR_wipeR, Same.refl _, upd_same, q1, .nil, q3, h1⟩, ?_⟩
  rintro i m H' ⟨rfl, hi, ρ', G', acc, xs, a', hw, s', hp', gp', ra, hno, hI'⟩
  by_cases hlt : i < ds.length
  · refine .inr ⟨j.go i H' G' s' a'.sub hlt, fun H2 => ∃ ρ' G' acc xs, At K Γ ρ' σ G' H2 ∧ wipeR ρ' vs = ρ' ∧ Same G1 G' ∧ H2 p = some (.lst xs) ∧ G' p = none ∧ IsAll K G' xs acc ∧ (∀ (j : Nat) dj, ρ'[j]? = some (.own dj) → σ[j]? ≠ some (some (.ref p))) ∧ I (ds.drop (i + 1)) acc ρ',
      fun H2 ⟨ρ2, G2, acc2, xs2, r⟩ => ⟨ds.length - (i + 1), by omega, rfl, hlt, ρ2, G2, acc2, xs2, r⟩, fun x H2 y => ?_⟩
    obtain ⟨d, G2, hd, g2, r2⟩ := j.yld i H' G' x H2 s' a'.sub hlt y
    have e : ds.drop i = d :: ds.drop (i + 1) := by
      rw [List.drop_eq_getElem_cons hlt]
      rw [List.getElem?_eq_getElem hlt] at hd
      rw [Option.some.inj hd]
    rw [e] at hI'
    have a3 := a'.grow g2
    have s3 := s'.trans g2.gg
    have hp3 : H2 p = some (.lst xs) := g2.hh p _ hp'
    have gp3 : G2 p = none := by rw [g2.new p (some_ne hp')]; exact gp'
    have ra3 := ra.mono g2.gg
    -- inside: the new list laid aside
    have a4 := a3.aside hp3 gp3 g0 hno
    have a5 := a4.wipe (τ := wipe σ vs) (vs := vs) hI (wipe_length _ _) fun i hi => wipe_out' hi
    rw [hw] at a5
    refine hg Γ.G0 (upd Γ.H0 p (.lst xs)) (sg _) x (wipe σ vs) H2 _ ⟨ρ', G2, d, _, a5, r2, h2 d _ acc ρ' hI' _ _, fun ρ6 σ6 h6 a6 l6 f6 => ?_⟩
    have l6' : σ6.length = σ.length := l6.trans (wipe_length _ _)
    have f6' : ∀ i, i ∉ vs → σ6[i]? = σ[i]? := fun i hi => (f6 i fun z => hi (hj i z)).trans (wipe_out' hi)
    -- behind the turn
    have after : ∀ {ρ8 : Ro} {G8 H8 : Hp} {xs' : List V} {acc' : List D}, At K (Γ.inn Γ.G0 (upd Γ.H0 p (.lst xs))) ρ8 σ6 G8 H8 → Same G2 G8 → IsAll K G8 xs' acc' → I (ds.drop (i + 1)) acc' (wipeR ρ8 vs) →
        ∃ ρ' G' acc xs, At K Γ ρ' σ G' (upd H8 p (.lst xs')) ∧ wipeR ρ' vs = ρ' ∧ Same G1 G' ∧ (upd H8 p (.lst xs')) p = some (.lst xs) ∧ G' p = none ∧ IsAll K G' xs acc ∧ (∀ (j : Nat) dj, ρ'[j]? = some (.own dj) → σ[j]? ≠ some (some (.ref p))) ∧ I (ds.drop (i + 1)) acc ρ' := by
      intro ρ8 G8 H8 xs' acc' a8 s8 r8 i8
      obtain ⟨b8, e8, g8, n8⟩ := a8.back h0 g0
      have c8 := b8.wipe (τ := σ) (vs := vs) hI l6'.symm fun i hi => (f6' i hi).symm
      have n8' : ∀ (j : Nat) dj, (wipeR ρ8 vs)[j]? = some (.own dj) → σ[j]? ≠ some (some (.ref p)) := fun j dj z => by
        have hj : j ∉ vs := fun w => by cases wipeR_in z w
        rw [wipeR_out hj] at z
        rw [← f6' j hj]
        exact n8 j dj z
      exact ⟨_, G8, acc', xs', c8.poke g8 h0 n8', wipeR_wipeR, s3.trans s8, upd_same, g8, r8, n8', i8⟩
    refine ⟨wipe_ext l6' f6', ht Γ.G0 (upd Γ.H0 p (.lst xs)) (sg _) σ6 H2 _ ⟨ρ6, G2, _, a6, h6, fun b ρ7 G7 H7 hb1 a7 s7 => ?_⟩⟩
    cases b with
    | true =>
      refine iteT (he Γ.G0 (upd Γ.H0 p (.lst xs)) (sg _) σ6 H7 _ ⟨ρ7, G7, _, a7, hb1, fun y ρ8 yv G8 H8 ⟨hl, hI8⟩ a8 s8 r8 => ?_⟩)
      obtain ⟨_, e8, _, _⟩ := a8.back h0 g0
      exact ⟨xs, e8, line_lt (by rw [ra3.length]; exact hl), after a8 (s7.trans s8) ((ra3.mono (s7.trans s8)).append (.cons r8 .nil)) hI8⟩
    | false =>
      have q := after a7 s7 (ra3.mono s7) hb1
      obtain ⟨_, e7, _, _⟩ := a7.back h0 g0
      have eu : upd H7 p (.lst xs) = H7 := by
        funext b
        by_cases hb : b = p
        · subst hb; rw [upd_same, e7]
        · rw [upd_ne hb]
      rw [eu] at q
      exact iteF q
  · have e : i = ds.length := by omega
    subst e
    rw [List.drop_length] at hI'
    exact .inl ⟨j.stop H' G' s' a'.sub, fin _ _ _ _ _ (h3 _ _ hI') a' (s1.trans s') gp' h0 (.inl ⟨xs, acc, rfl, hp', ra⟩) hno⟩
end
end Dn
/-! Dn: comprehensions as terms, mutation, calls of defs, defs. -/
namespace Dn
open PySem PySem.Spec PyProof.Rows L2
section
variable {X : Cx} {Γ : Gm} {k : Nat} {a b e : Expr} {es : List Expr} {st : Stmt} {rest body orelse : List Stmt} {pos : Pos} {t u : TDS}
theorem pg_ex {ι : Type} {p : ι → Prop} {tg : Expr} {t : ι → TG} (h : ∀ i, p i → PG X tg (t i)) : PG X tg (fun v σ H Q => ∃ i, p i ∧ t i v σ H Q) := ⟨fun pins s σ H v u Q I r ⟨i, hp, q⟩ => (h i hp).run pins s σ H v u Q I r q⟩
theorem pts_ex {ι : Type} {p : ι → Prop} {es : List Expr} {t : ι → TT} (h : ∀ i, p i → PTs X es (t i)) : PTs X es (fun σ H Q => ∃ i, p i ∧ t i σ H Q) := ⟨fun pins s σ H Q I ⟨i, hp, q⟩ => (h i hp).run pins s σ H Q I q⟩
theorem pe_ex {ι : Type} {p : ι → Prop} {e : Expr} {t : ι → TE} (h : ∀ i, p i → PE X e (t i)) : PE X e (fun σ H Q => ∃ i, p i ∧ t i σ H Q) := ⟨fun pins s σ H Q I ⟨i, hp, q⟩ => (h i hp).run pins s σ H Q I q⟩
/-- the turns' contexts -/
abbrev InBlk (X : Cx) (Γ : Gm) (k : Nat) (scope : Scope) (P : Cx → Gm → Hp → Hp → Prop) : Prop := ∀ (G0 H0 : Hp) (s : Shared) (H : Hp) (C : Addr) (cl : List (Str × Addr)) (fp : List Addr), Cok k (X.blk s H scope (compEnvC scope cl C X.env) fp) (Γ.inn G0 H0) → P (X.blk s H scope (compEnvC scope cl C X.env) fp) (Γ.inn G0 H0) G0 H0
theorem df_lc {elt tg iter : Expr} {ifs : List Expr} {scope : Scope} {own : List (Str × Nat)} {ti : TI'} {js : List Nat} {g : Hp → Hp → TDG} {tt : Hp → Hp → TT'} {te : Hp → Hp → TD} (c : Cok k X Γ) (hi : DI X Γ tg iter ti) (ok : blkC X.N X.env.scope scope own = true)
    (hg : InBlk X Γ k scope fun X Γ G0 H0 => DG X Γ tg js (g G0 H0)) (ht : InBlk X Γ k scope fun X Γ G0 H0 => DTs X Γ ifs (tt G0 H0)) (he : InBlk X Γ k scope fun X Γ G0 H0 => DE X Γ elt (te G0 H0))
    (hI : ∀ i ∈ Γ.I, i ∉ own.map (·.2) := by first | exact fun i hi => nomatch hi | exact fun i hi => by cases List.mem_singleton.mp hi; decide) (hj : ∀ i ∈ js, i ∈ own.map (·.2) := by decide) (hs : ∀ x, foldedSetIterable iter X.env x = pure x := by intro _; rfl) :
    DF X Γ (.ListComp elt [⟨tg, iter, ifs, 0⟩] scope pos) (dLc ti g tt te (own.map (·.2))) := by
  refine ⟨pe_imp (pe_lc c.calm c.nd hi.pi (blkOk_by ok) (fun s H C cl fp => pg_ex (ι := Hp × Hp) (p := fun i => Same i.1 i.2) (t := fun i => rdG X.K (Γ.inn i.1 i.2) js (g i.1 i.2)) fun i hp => (hg i.1 i.2 s H C cl fp (c.inn hp)).pg) (fun s H C cl fp => pts_ex (ι := Hp × Hp) (p := fun i => Same i.1 i.2) (t := fun i => rdT X.K (Γ.inn i.1 i.2) (tt i.1 i.2)) fun i hp => (ht i.1 i.2 s H C cl fp (c.inn hp)).pt)
    (fun s H C cl fp => pe_ex (ι := Hp × Hp) (p := fun i => Same i.1 i.2) (t := fun i => rdE X.K (Γ.inn i.1 i.2) (te i.1 i.2)) fun i hp => (he i.1 i.2 s H C cl fp (c.inn hp)).pe) hs) fun σ H Q h => ?_⟩
  exact lc_rd hI hj c.gh (fun G0 H0 hp v σ H Q q => ⟨(G0, H0), hp, q⟩) (fun G0 H0 hp σ H Q q => ⟨(G0, H0), hp, q⟩) (fun G0 H0 hp σ H Q q => ⟨(G0, H0), hp, q⟩) h
/-- name = [.. for ..], on one line, the name a local -/
theorem ds_setLcF {i : Nat} {y : Str} {py spos : Pos} {elt tg iter : Expr} {ifs : List Expr} {scope : Scope} {own : List (Str × Nat)} {ti : TI'} {js : List Nat} {g : Hp → Hp → TDG} {tt : Hp → Hp → TT'} {te : Hp → Hp → TD} (c : Cok k X Γ) (hy : X.N[i]? = some y) (hyl : X.env.scope.names.lookup y = some .local)
    (hsw : swapsWith (.ListComp elt [⟨tg, iter, ifs, 0⟩] scope pos) (some (.Name y py)) spos.line X.env = pure true) (hi : DI X Γ tg iter ti) (ok : blkC X.N X.env.scope scope own = true)
    (hg : InBlk X Γ k scope fun X Γ G0 H0 => DG X Γ tg js (g G0 H0)) (ht : InBlk X Γ k scope fun X Γ G0 H0 => DTs X Γ ifs (tt G0 H0)) (he : InBlk X Γ k scope fun X Γ G0 H0 => DE X Γ elt (te G0 H0))
    (hI : ∀ i ∈ Γ.I, i ∉ own.map (·.2) := by first | exact fun i hi => nomatch hi | exact fun i hi => by cases List.mem_singleton.mp hi; decide) (hj : ∀ i ∈ js, i ∈ own.map (·.2) := by decide) (hIi : Γ.I.contains i = false := by rfl) (hs : ∀ x, foldedSetIterable iter X.env x = pure x := by intro _; rfl) :
    DS X Γ (.Assign [.Name y py] (.ListComp elt [⟨tg, iter, ifs, 0⟩] scope pos) spos) (sSetF (dLc ti g tt te (own.map (·.2))) i) := by
  refine ⟨ps_imp (ps_setLc c.calm c.nd hy hyl hsw hi.pi (blkOk_by ok) (fun s H C cl fp => pg_ex (ι := Hp × Hp) (p := fun i => Same i.1 i.2) (t := fun i => rdG X.K (Γ.inn i.1 i.2) js (g i.1 i.2)) fun i hp => (hg i.1 i.2 s H C cl fp (c.inn hp)).pg) (fun s H C cl fp => pts_ex (ι := Hp × Hp) (p := fun i => Same i.1 i.2) (t := fun i => rdT X.K (Γ.inn i.1 i.2) (tt i.1 i.2)) fun i hp => (ht i.1 i.2 s H C cl fp (c.inn hp)).pt)
    (fun s H C cl fp => pe_ex (ι := Hp × Hp) (p := fun i => Same i.1 i.2) (t := fun i => rdE X.K (Γ.inn i.1 i.2) (te i.1 i.2)) fun i hp => (he i.1 i.2 s H C cl fp (c.inn hp)).pe) hs) ?_⟩
  rintro E σ H ⟨ρ, G, R, at_, ok, h⟩
  refine lc_rd (K := X.K) (Γ := Γ) hI hj c.gh (fun G0 H0 hp v σ H Q q => ⟨(G0, H0), hp, q⟩) (fun G0 H0 hp σ H Q q => ⟨(G0, H0), hp, q⟩) (fun G0 H0 hp σ H Q q => ⟨(G0, H0), hp, q⟩) ⟨ρ, G, _, at_, h, fun d ρ' p G' H' hk a' s' g0 h0 own hno => ?_⟩
  exact ok.nx _ _ _ _ (a'.setOwn hIi g0 h0 own hno) s' hk
theorem ds_setLc {i : Nat} {y : Str} {py spos : Pos} {elt tg iter : Expr} {ifs : List Expr} {scope : Scope} {own : List (Str × Nat)} {ti : TI'} {js : List Nat} {g : Hp → Hp → TDG} {tt : Hp → Hp → TT'} {te : Hp → Hp → TD} (c : Cok k X Γ) (hy : X.N[i]? = some y) (hyl : X.env.scope.names.lookup y = some .local)
    (hsw : swapsWith (.ListComp elt [⟨tg, iter, ifs, 0⟩] scope pos) (some (.Name y py)) spos.line X.env = pure true) (hi : DI X Γ tg iter ti) (ok : blkC X.N X.env.scope scope own = true)
    (hg : InBlk X Γ k scope fun X Γ G0 H0 => DG X Γ tg js (g G0 H0)) (ht : InBlk X Γ k scope fun X Γ G0 H0 => DTs X Γ ifs (tt G0 H0)) (he : InBlk X Γ k scope fun X Γ G0 H0 => DE X Γ elt (te G0 H0))
    (hI : ∀ i ∈ Γ.I, i ∉ own.map (·.2) := by first | exact fun i hi => nomatch hi | exact fun i hi => by cases List.mem_singleton.mp hi; decide) (hj : ∀ i ∈ js, i ∈ own.map (·.2) := by decide) (hIi : Γ.I.contains i = false := by rfl) (hs : ∀ x, foldedSetIterable iter X.env x = pure x := by intro _; rfl) :
    DS X Γ (.Assign [.Name y py] (.ListComp elt [⟨tg, iter, ifs, 0⟩] scope pos) spos) (sSet (dLc ti g tt te (own.map (·.2))) i) := by
  refine ⟨ps_imp (ps_setLc c.calm c.nd hy hyl hsw hi.pi (blkOk_by ok) (fun s H C cl fp => pg_ex (ι := Hp × Hp) (p := fun i => Same i.1 i.2) (t := fun i => rdG X.K (Γ.inn i.1 i.2) js (g i.1 i.2)) fun i hp => (hg i.1 i.2 s H C cl fp (c.inn hp)).pg) (fun s H C cl fp => pts_ex (ι := Hp × Hp) (p := fun i => Same i.1 i.2) (t := fun i => rdT X.K (Γ.inn i.1 i.2) (tt i.1 i.2)) fun i hp => (ht i.1 i.2 s H C cl fp (c.inn hp)).pt)
    (fun s H C cl fp => pe_ex (ι := Hp × Hp) (p := fun i => Same i.1 i.2) (t := fun i => rdE X.K (Γ.inn i.1 i.2) (te i.1 i.2)) fun i hp => (he i.1 i.2 s H C cl fp (c.inn hp)).pe) hs) ?_⟩
  rintro E σ H ⟨ρ, G, R, at_, ok, h⟩
  refine lc_rd (K := X.K) (Γ := Γ) hI hj c.gh (fun G0 H0 hp v σ H Q q => ⟨(G0, H0), hp, q⟩) (fun G0 H0 hp σ H Q q => ⟨(G0, H0), hp, q⟩) (fun G0 H0 hp σ H Q q => ⟨(G0, H0), hp, q⟩) ⟨ρ, G, _, at_, h, fun d ρ' p G' H' hk a' s' g0 h0 own hno => ?_⟩
  obtain ⟨G2, a2, s2, r2⟩ := a'.give g0 h0 own hno
  exact ok.nx _ _ _ _ (a2.set hIi r2) (s'.trans s2) hk
/-! ### things of one's own, changed -/
def ownL (ρ : Ro) (i : Nat) (k : List D → Prop) : Prop := match ρ[i]? with
  | some (.own (.list xs)) => k xs
  | _ => False
theorem ownL.to {ρ : Ro} {i : Nat} {k : List D → Prop} (h : ownL ρ i k) : ∃ xs, ρ[i]? = some (.own (.list xs)) ∧ k xs := by
  unfold ownL at h
  split at h
  · exact ⟨_, by assumption, h⟩
  · exact h.elim
theorem At.ownLst {K : PySem.W.Frag} {ρ : Ro} {σ : L2.St} {G H : Hp} {i : Nat} {ds : List D} (a : At K Γ ρ σ G H) (h : ρ[i]? = some (.own (.list ds))) : ∃ p xs, σ[i]? = some (some (.ref p)) ∧ H p = some (.lst xs) ∧ IsAll K G xs ds := by
  obtain ⟨p, e, _, _, q⟩ := a.own h
  rcases q with ⟨xs, es, h1, h2, h3⟩ | ⟨_, _, _, h1, _⟩ | ⟨_, _, _, h1, _⟩
  · cases h1
    exact ⟨p, xs, e, h2, h3⟩
  · cases h1
  · cases h1
/-- name[j] = e, a list -/
def sPut (t : TD) (i : Nat) (tj : TB) : TDS := fun R ρ => t ρ fun d ρ1 => ownL ρ1 i fun _ => tj ρ1 fun x ρ2 => withD ρ2 x fun z => asI z fun j => ownL ρ2 i fun xs => optD (ixN xs.length j) fun m => R.nx (ρ2.set i (.own (.list (xs.set m d))))
theorem ds_put {i : Nat} {x : Str} {j : Expr} {p1 p2 : Pos} {t : TD} {tj : TB} (he : DE X Γ e t) (hj : DB X Γ j tj) (hN : X.N[i]? = some x := by rfl) (hv : Vis X.env.scope x := by first | exact Or.inl rfl | exact Or.inr (Or.inl rfl) | exact Or.inr (Or.inr rfl)) (hd : (x == ("__debug__" : Str)) = false := by decide)
    (hcd : (x == ("__classdict__" : Str)) = false := by decide)
    (ha : ∀ v, assign (.Subscript (.Name x p1) j p2) X.env v = (do
      let ov ← holding [v] (eval (.Name x p1) X.env)
      let iv ← holding [v, ov] (eval j X.env)
      standAt p2
      holding [v, ov, iv] (setItem ov iv v)
      release [v, ov, iv] []) := by intro _; rfl)
    (hs : swapsWithSole [.Subscript (.Name x p1) j p2] e pos.line X.env = pure false := by rfl) (hw : swappedStores [.Subscript (.Name x p1) j p2] e X.env = pure none := by rfl)
    (h1 : (assignEach [.Subscript (.Name x p1) j p2] X.env).map (·.2) = [assign (.Subscript (.Name x p1) j p2) X.env] := by rfl) : DS X Γ (.Assign [.Subscript (.Name x p1) j p2] e pos) (sPut t i tj) := by
  refine ⟨ps_imp (ps_asg he.pe (pg_sub (pe_var (i := i) hN hv hd hcd) hj.pe set_list ha) hs hw h1) ?_⟩
  rintro E σ H ⟨ρ, G, R, at_, ok, h⟩
  refine ⟨ρ, G, _, at_, h, fun d ρ1 v G1 H1 h1 a1 s1 r1 => ?_⟩
  obtain ⟨ys, e0, h1⟩ := h1.to
  obtain ⟨p, xs0, hp, _, _⟩ := a1.ownLst e0
  refine ⟨_, hp, ρ1, G1, _, a1, h1, fun y ρ2 w G2 H2 h2 a2 s2 r2 => ?_⟩
  obtain ⟨z, l, h2⟩ := withD.to h2
  obtain ⟨jj, ez, h2⟩ := asI.to h2
  subst ez
  obtain ⟨ds, e3, h2⟩ := ownL.to h2
  obtain ⟨m, e4, h2⟩ := optD.to h2
  obtain ⟨p', xs, hp', hx, rx⟩ := a2.ownLst e3
  rw [hp] at hp'
  cases hp'
  refine ⟨p, xs, jj, m, rfl, (a2.isx r2 l).int, hx, by rw [rx.length]; exact e4, ?_⟩
  exact ok.nx _ _ _ _ (a2.write e3 hp (.inl ⟨_, _, rfl, upd_same, rx.set (r1.mono s2) m⟩)) (s1.trans s2) h2
/-- name.append(e) -/
def sApp (i : Nat) (t : TD) : TDS := fun R ρ => ownL ρ i fun _ => t ρ fun d ρ1 => ownL ρ1 i fun xs => xs.length < 16777216 ∧ R.nx (ρ1.set i (.own (.list (xs ++ [d]))))
theorem ds_app {i : Nat} {x : Str} {p1 apos cpos : Pos} {t : TD} (he : DE X Γ e t) (hN : X.N[i]? = some x := by rfl) (hv : Vis X.env.scope x := by first | exact Or.inl rfl | exact Or.inr (Or.inl rfl) | exact Or.inr (Or.inr rfl)) (hd : (x == ("__debug__" : Str)) = false := by decide)
    (hcd : (x == ("__classdict__" : Str)) = false := by decide)
    (hbase : attributeBase (.Name x p1) "append" X.env (eval (.Name x p1) X.env) = eval (.Name x p1) X.env := by rfl)
    (hfew : ((backTo cpos (starEach [e] X.env)).all (fun x => !x.1) && (backToKw cpos (keywordEach [] X.env)).all (fun x => x.1.isSome)
      && decide ([e].length + ([] : List Keyword).length + (if ([] : List Keyword).isEmpty then 0 else 1) < 30)) = true := by rfl)
    (hline : (apos.endLine == cpos.line) = true := by rfl) (hs : starEach [e] X.env = (false, eval e X.env) :: starEach [] X.env := by rfl) (hplain : (backTo cpos (starEach [] X.env)).any (·.1) = false := by rfl)
    (hsw : swapsWith (.Call (.Attribute (.Name x p1) "append" apos) [e] [] cpos) none pos.line X.env = pure false := by rfl) :
    DS X Γ (.Expr (.Call (.Attribute (.Name x p1) "append" apos) [e] [] cpos) pos) (sApp i t) := by
  have hm : MtR X "list.append" rAppend := fun pins s σ H x xs v us Q I r rs h => mt_append pins s σ H x xs v us Q I r rs h
  refine ⟨ps_imp (ps_expr (pe_bm PySem.F.plainAttrs_list PySem.F.slot_list_append PySem.F.type_list_append hm (pe_var (i := i) hN hv hd hcd) (pa_cons he.pe pa_nil hs) hbase hfew hline hs hplain) hsw) ?_⟩
  rintro E σ H ⟨ρ, G, R, at_, ok, h⟩
  obtain ⟨ys, e0, h⟩ := h.to
  obtain ⟨p, xs0, hp, hx0, _⟩ := at_.ownLst e0
  refine ⟨_, hp, .inl ⟨rfl, _, SqL.of hx0⟩, ρ, G, _, at_, h, fun d ρ1 v G1 H1 h1 a1 s1 r1 => ?_⟩
  obtain ⟨ds, e1, h1⟩ := h1.to
  obtain ⟨p', xs, hp', hx, rx⟩ := a1.ownLst e1
  rw [hp] at hp'
  cases hp'
  refine ⟨p, xs, v, rfl, rfl, hx, line_lt (by rw [rx.length]; exact h1.1), ?_⟩
  exact ok.nx _ _ _ _ (a1.write e1 hp (.inl ⟨_, _, rfl, upd_same, rx.append (.cons r1 .nil)⟩)) s1 h1.2
end
end Dn
/-! Dn: calls of defs, exceptions, defs. -/
namespace Dn
open PySem PySem.Spec PyProof.Rows L2
abbrev DC := List D → (D → Prop) → (Exn → Prop) → Prop
abbrev DCM := D → List D → (D → D → Prop) → Prop
def spOf (K : PySem.W.Frag) (c : DC) : Sp := fun vs H Q E => ∃ G ds kq ke, Same G H ∧ IsAll K G vs ds ∧ c ds kq ke ∧ (∀ d v G' H', kq d → Grow G H G' H' → Is K G' v d → Q v H') ∧
  ∀ ex cls dd G' H', ke ex → Grow G H G' H' → XIs K G' H' cls dd ex → E cls dd H'
/-- what stood grows, the thing at a is changed -/
structure GrowX (a : Addr) (G H G' H' : Hp) : Prop where
  gg : Same G G'
  hh : ∀ b o, b ≠ a → H b = some o → H' b = some o
  gh : Same G' H'
  new : ∀ b, H b ≠ none → G' b = G b
def spOfM (K : PySem.W.Frag) (c : DCM) : Sp := fun vs H Q E => ∃ G d ds a vs' kq, vs = .ref a :: vs' ∧ Same G H ∧ G a = none ∧ Own K G H a d ∧ IsAll K G vs' ds ∧ c d ds kq ∧
  ∀ r d' v G' H', kq r d' → GrowX a G H G' H' → Own K G' H' a d' → Is K G' v r → Q v H'
structure Pf (P : Program) (w : World) (K : PySem.W.Frag) (mg : Str → Option Value) (base : Heap) (k : Nat) (x : Str) (n : Nat) (c : DC) : Prop where
  ex : ∃ f fd ps, ps.length = n ∧ FnOk P w K mg base (L2.CX P w) k f fd ps (spOf K c) ∧ mg x = some (.ref f) ∧ PySem.W.keepIn K (.ref f) = true ∧ Binds K fd ps []
structure PfM (P : Program) (w : World) (K : PySem.W.Frag) (mg : Str → Option Value) (base : Heap) (k : Nat) (x : Str) (n : Nat) (c : DCM) : Prop where
  ex : ∃ f fd ps, ps.length = n ∧ FnOk P w K mg base (L2.CX P w) k f fd ps (spOfM K c) ∧ mg x = some (.ref f) ∧ PySem.W.keepIn K (.ref f) = true ∧ Binds K fd ps []
section
variable {X : Cx} {Γ : Gm} {k j n : Nat} {a b e : Expr} {es : List Expr} {st : Stmt} {rest body orelse : List Stmt} {pos : Pos} {t u : TDS}
def dCall (c : DC) (W : Exn → Ro → Prop) (ta : TDs) : TD := fun ρ Q => ta ρ fun ds ρ1 => c ds (fun d => Q d ρ1) fun ex => W ex ρ1
theorem de_call {x : Str} {c' : DC} {ta : TDs} {p : Pos} (f : Pf X.prog X.w X.K X.mg X.base j x n c') (c : Cok k X Γ) (ha : DL X Γ (e :: es) ta) (hj : j ≤ k := by decide) (hg : Gl X x := by rfl) (hdb : (x == ("__debug__" : Str)) = false := by decide)
    (he : starEach (e :: es) X.env = (false, eval e X.env) :: starEach es X.env := by rfl) (hpl : (backTo pos (starEach es X.env)).any (·.1) = false := by rfl) : DE X Γ (.Call (.Name x p) (e :: es) [] pos) (dCall c' Γ.W ta) := by
  obtain ⟨f, fd, ps, _, F, hm, hk, hb⟩ := f.ex
  refine ⟨pe_imp (pe_callS F (c.room.mono hj) hg hm hk hb c.pa ha.pa hdb he hpl) ?_⟩
  rintro σ H Q ⟨ρ, G, k, at_, h, fin⟩
  exact ⟨ρ, G, _, at_, h, fun ds ρ1 vs G1 H1 h1 _ a1 s1 r1 => ⟨G1, ds, _, _, a1.sub, r1, h1, fun d v G' H' hk g i => fin d ρ1 v G' H' hk (a1.grow g) (s1.trans g.gg) i,
    fun ex cls dd G' H' hk g xi => ⟨ρ1, G', ex, a1.grow g, xi, hk⟩⟩⟩
theorem At.growX {K : PySem.W.Frag} {ρ : Ro} {σ : L2.St} {G H G' H' : Hp} {i : Nat} {d d' : D} {p : Addr} (a : At K Γ ρ σ G H) (h : ρ[i]? = some (.own d)) (hp : σ[i]? = some (some (.ref p))) (g : GrowX p G H G' H') (r : Own K G' H' p d') : At K Γ (ρ.set i (.own d')) σ G' H' := by
  obtain ⟨p', hp', h1, h2, h3⟩ := a.own h
  rw [hp] at hp'
  cases hp'
  obtain ⟨o0, ho0⟩ := h3.some
  have hl := (List.getElem?_eq_some_iff.mp h).1
  refine ⟨by rw [List.length_set]; exact a.len, fun j s u e1 e2 => ?_, fun j k dj dk q e1 e2 e3 e4 => ?_, g.gh, fun b hb => ?_, fun b u q => ?_, a.inh, a.bas.trans g.gg⟩
  · by_cases hj : i = j
    · subst hj
      rw [List.getElem?_set_self hl] at e1
      cases e1
      rw [hp] at e2
      cases e2
      exact ⟨_, rfl, by rw [g.new p (some_ne ho0)]; exact h1, h2, r⟩
    · rw [List.getElem?_set_ne hj] at e1
      have q := a.sl j s u e1 e2
      cases s with
      | non => exact True.intro
      | val d' => obtain ⟨v, e, q⟩ := q; exact ⟨v, e, q.mono g.gg⟩
      | seq ds => obtain ⟨p', xs, e, q1, q2⟩ := q; exact ⟨p', xs, e, g.gg.seq q1, q2.mono g.gg⟩
      | own d' =>
        obtain ⟨p', e, q1, q2, q3⟩ := q
        have ne : p' ≠ p := fun z => by
          subst z
          subst e
          exact hj (a.sep i j _ _ _ h e1 hp e2)
        obtain ⟨w, hw⟩ := q3.some
        exact ⟨p', e, by rw [g.new p' (some_ne hw)]; exact q1, q2, q3.mono g.gg (by rw [hw, g.hh p' w ne hw])⟩
  · have f : ∀ (k : Nat) dk, (ρ.set i (.own d'))[k]? = some (.own dk) → ∃ d2, ρ[k]? = some (.own d2) := fun k dk e => by
      by_cases hk : i = k
      · subst hk
        exact ⟨_, h⟩
      · rw [List.getElem?_set_ne hk] at e
        exact ⟨_, e⟩
    obtain ⟨d2, f1⟩ := f j dj e1
    obtain ⟨d3, f2⟩ := f k dk e2
    exact a.sep j k d2 d3 q f1 f2 e3 e4
  · obtain ⟨o, e⟩ := Option.ne_none_iff_exists'.mp hb
    rw [g.new b (some_ne (a.kept b o e)), a.old b hb]
  · have ne : b ≠ p := fun z => by subst z; rw [h2] at q; cases q
    exact g.hh b u ne (a.kept b u q)
def ownD (ρ : Ro) (i : Nat) (k : D → Prop) : Prop := match ρ[i]? with
  | some (.own d) => k d
  | _ => False
theorem ownD.to {ρ : Ro} {i : Nat} {k : D → Prop} (h : ownD ρ i k) : ∃ d, ρ[i]? = some (.own d) ∧ k d := by
  unfold ownD at h
  split at h
  · exact ⟨_, by assumption, h⟩
  · exact h.elim
def dCallM (c : DCM) (i : Nat) (ta : TDs) : TD := fun ρ Q => ownD ρ i fun _ => ta ρ fun ds ρ1 => ownD ρ1 i fun d => c d ds fun r d' => Q r (ρ1.set i (.own d'))
/-- f(name, ..), what stands under the name is changed by f -/
theorem de_callM {x y : Str} {i : Nat} {c' : DCM} {ta : TDs} {p py : Pos} (f : PfM X.prog X.w X.K X.mg X.base j x n c') (c : Cok k X Γ) (ha : DL X Γ es ta) (hj : j ≤ k := by decide) (hN : X.N[i]? = some y := by rfl) (hv : Vis X.env.scope y := by first | exact Or.inl rfl | exact Or.inr (Or.inl rfl) | exact Or.inr (Or.inr rfl))
    (hd : (y == ("__debug__" : Str)) = false := by decide) (hcd : (y == ("__classdict__" : Str)) = false := by decide) (hg : Gl X x := by rfl) (hdb : (x == ("__debug__" : Str)) = false := by decide)
    (he : starEach (.Name y py :: es) X.env = (false, eval (.Name y py) X.env) :: starEach es X.env := by rfl) (hpl : (backTo pos (starEach es X.env)).any (·.1) = false := by rfl) : DE X Γ (.Call (.Name x p) (.Name y py :: es) [] pos) (dCallM c' i ta) := by
  obtain ⟨f, fd, ps, _, F, hm, hk, hb⟩ := f.ex
  refine ⟨pe_imp (pe_callS F (c.room.mono hj) hg hm hk hb c.pa (pa_cons (pe_var (i := i) hN hv hd hcd) ha.pa he) hdb he hpl) ?_⟩
  rintro σ H Q ⟨ρ, G, k, at_, h, fin⟩
  obtain ⟨d0, e0, h⟩ := h.to
  obtain ⟨q, hq, _⟩ := at_.own e0
  refine ⟨_, hq, ρ, G, _, at_, h, fun ds ρ1 vs G1 H1 h1 _ a1 s1 r1 => ?_⟩
  obtain ⟨d, e1, h1⟩ := h1.to
  obtain ⟨q', hq', g1, _, ow⟩ := a1.own e1
  rw [hq] at hq'
  cases hq'
  exact ⟨G1, d, ds, q, vs, _, rfl, a1.sub, g1, ow, r1, h1, fun r d' v G' H' hk g ow' i => fin r _ v G' H' hk (a1.growX e1 hq g ow') (s1.trans g.gg) i⟩

/-! ### exceptions -/
/-- an own class over ValueError, without __init__ -/
structure ExcF (K : PySem.W.Frag) (mg : Str → Option Value) (x : Str) (C : Addr) : Prop where
  g : mg x = some (.ref C)
  xc : PySem.W.excIn K C [.type "ValueError", .type "Exception", .type "BaseException", .type "object"] "ValueError.__new__" = true
  k : PySem.W.keepIn K (.ref C) = true
  sb : PySem.W.subIn K (.ref C) (.type "BaseException") = some true
  ty : PySem.W.typeIn K (.ref C) = some (.type "type")
  xm : PySem.W.exmOne K (.ref C) (.ref C) = some true
theorem pmk_own0 {x : Str} {C : Addr} {p pos : Pos} (f : ExcF X.K X.mg x C) (hg : Gl X x) (hdb : (x == ("__debug__" : Str)) = false := by decide) : PMk X (.Call (.Name x p) [] [] pos) (fun _ H Q => Q (.ref C) none H) := by
  intro pins s σ H Q I h
  refine wpAny_Call_Name_kw (ld_glob I hg f.g ?_ hdb)
  refine PySem.W.callWith_K0 I.kIn f.k ?_
  show wpAny _ _ (call (.ref C) []) _ _ _
  obtain ⟨bm, N, nm, qn, bs, hdct, sn, sub, ab, col, dd, k0, k1, k2, k3, k5, mN, hC, hN, hni, T⟩ := exc_obj I.kIn f.xc
  refine wpAny_call_exc_subT PySem.F.excBase_ValueError T hC hN hni (fun h' e hm => ?_) (by show 0 ≤ sizeLine; exact Nat.zero_le _)
  exact mk_of I hm (raises_own f.sb f.ty) h (I.hok.gone hm.new)
def sRaise (C : Addr) (W : Exn → Ro → Prop) : TDS := fun _ ρ => W (.plain C) ρ
theorem ds_raise {x : Str} {C : Addr} {p p2 : Pos} (f : ExcF X.K X.mg x C) (c : Cok k X Γ) (tk : Takes X (liftW X.K Γ)) (hg : Gl X x := by rfl) (hdb : (x == ("__debug__" : Str)) = false := by decide) : DS X Γ (.Raise (some (.Call (.Name x p) [] [] p2)) none pos) (sRaise C Γ.W) := by
  refine ⟨ps_imp (ps_raise c.calm tk (pmk_own0 f hg hdb)) ?_⟩
  rintro E σ H ⟨ρ, G, R, at_, ok, h⟩
  exact ⟨ρ, G, .plain C, at_, ⟨rfl, rfl⟩, h⟩
theorem ds_dead : DS X Γ st fun _ _ => False := ⟨ps_imp ps_never fun E σ H ⟨ρ, G, R, at_, ok, h⟩ => h⟩
def Exn.cls : Exn → Value
  | .plain C => .ref C
  | .low C _ _ => .ref C
abbrev Gm.wi (Γ : Gm) (B : Hp) (W : Exn → Ro → Prop) : Gm := { Γ with B := B, W := W }
theorem pss_ex {ι : Type} {p : ι → Prop} {st : List Stmt} {t : ι → TS} (h : ∀ i, p i → PSs X st (t i)) : PSs X st (fun D σ H => ∃ i, p i ∧ t i D σ H) := ⟨fun pins s σ H D I ⟨i, hp, q⟩ => (h i hp).run pins s σ H D I q⟩
theorem At.wi {K : PySem.W.Frag} {ρ : Ro} {σ : L2.St} {G H : Hp} (a : At K Γ ρ σ G H) {W : Exn → Ro → Prop} : At K (Γ.wi G W) ρ σ G H := ⟨a.len, a.sl, a.sep, a.sub, a.old, a.kept, a.inh, Same.refl _⟩
theorem At.uw {K : PySem.W.Frag} {ρ : Ro} {σ : L2.St} {G H B : Hp} {W : Exn → Ro → Prop} (a : At K (Γ.wi B W) ρ σ G H) (h : Same Γ.B B) : At K Γ ρ σ G H := ⟨a.len, a.sl, a.sep, a.sub, a.old, a.kept, a.inh, h.trans a.bas⟩
/-- try: body, except x: suite -/
def sTry (K : PySem.W.Frag) (C : Value) (W : Exn → Ro → Prop) (T : Hp → (Exn → Ro → Prop) → TDS) (Ts : TDS) : TDS := fun R ρ => ∀ B, T B (fun ex ρ' => ∃ b, PySem.W.exmOne K ex.cls C = some b ∧ (b = true → Ts R ρ') ∧ (b = false → W ex ρ')) R ρ
theorem XIs.cls {K : PySem.W.Frag} {G H : Hp} {cls : Value} {d : Option Addr} {ex : Exn} (h : XIs K G H cls d ex) : cls = ex.cls := by
  cases ex with
  | plain C => exact h.1
  | low C f x => exact h.1
theorem ds_try {x : Str} {C : Value} {body suite : List Stmt} {b₀ : Stmt} {np pos' : Pos} {T : Hp → (Exn → Ro → Prop) → TDS} {Ts : TDS} (c : Cok k X Γ) (tk : Takes X (liftW X.K Γ)) (hc : Names X x C) (hs : X.stack = X.env :: X.outer) (hf : X.env.frame = some X.env.locals)
    (hb : ∀ (B : Hp) (W : Exn → Ro → Prop) (pn : List (Addr × Obj)) (xe : Value → Shared → Prop), Cok k (X.tr pn xe) (Γ.wi B W) → Takes (X.tr pn xe) (liftW X.K (Γ.wi B W)) → DSs (X.tr pn xe) (Γ.wi B W) body (T B W))
    (hsu : ∀ (a : Addr) (pn : List (Addr × Obj)), DSs (X.suite a pn) Γ (b₀ :: suite) Ts) :
    DS X Γ (.Try body [.ExceptHandler (some (.Name x np)) none (b₀ :: suite) pos'] [] [] pos) (sTry X.K C Γ.W T Ts) := by
  refine ⟨ps_imp (ps_try_only hs hf hc tk (tb := fun W E σ H => ∃ i : Hp × (Exn → Ro → Prop), (∀ cls d σ H, liftW X.K (Γ.wi i.1 i.2) cls d σ H → W cls d σ H) ∧ rdS X.K (Γ.wi i.1 i.2) (T i.1 i.2) E σ H) (ts := fun _ _ _ => rdS X.K Γ Ts)
    (fun W pn xe tk' po' => pss_ex fun i hW => ?_) (fun a oe cls d pn _ _ => (hsu a ((a, oe) :: pn)).ps)) ?_⟩
  · have tk2 : Takes (X.tr pn xe) (liftW X.K (Γ.wi i.1 i.2)) := tk'.imp hW
    exact (hb i.1 i.2 pn xe ⟨c.calm, c.nd, c.room, c.gh, po', c.bl, fun σ => passAt tk2 σ⟩ tk2).ps
  · rintro E σ H ⟨ρ, G, R, at_, ok, h⟩
    refine ⟨(G, fun ex ρ' => ∃ b, PySem.W.exmOne X.K ex.cls C = some b ∧ (b = true → Ts R ρ') ∧ (b = false → Γ.W ex ρ')), ?_, ρ, G, R, at_.wi, ?_, h G⟩
    · rintro cls d σ' H' ⟨ρ', G', ex, a', xi, b, h1, h2, h3⟩
      have a2 := a'.uw at_.bas
      rw [xi.cls]
      exact ⟨b, h1, fun hb a _ => ⟨ρ', G', R, a2, ok.mono a'.bas, h2 hb⟩, fun hb => ⟨ρ', G', ex, a2, xi.cls ▸ xi, h3 hb⟩⟩
    · exact ⟨fun ρ' σ' G' H' a' s' q => ok.nx _ _ _ _ (a'.uw at_.bas) s' q, fun d v ρ' σ' G' H' a' s' r q => ok.rt _ _ _ _ _ _ (a'.uw at_.bas) s' r q, fun ρ' σ' G' H' a' s' q => ok.bk _ _ _ _ (a'.uw at_.bas) s' q, fun ρ' σ' G' H' a' s' q => ok.ct _ _ _ _ (a'.uw at_.bas) s' q⟩
end

/-! ### defs -/
section
variable {P : Program} {w : World} {K : PySem.W.Frag} {mg : Str → Option Value} {base : Heap}
def startR (n : Nat) (ds : List D) : Ro := ds.map .val ++ List.replicate (n - ds.length) .non
theorem at_start {N : List Str} {vs : List V} {ds : List D} {G H : Hp} {W : Exn → Ro → Prop} (s : Same G H) (r : IsAll K G vs ds) : At K ⟨G, G, H, [], fun _ => 0, W⟩ (startR N.length ds) (L2.start N vs) G H where
  len := by
    unfold startR L2.start
    rw [List.length_append, List.length_append, List.length_map, List.length_map, List.length_replicate, List.length_replicate, r.length]
  sl := fun i sl o e1 e2 => by
    have hl := r.length
    unfold startR at e1
    unfold L2.start at e2
    by_cases hi : i < ds.length
    · rw [List.getElem?_append_left (by simpa using hi), List.getElem?_map] at e1
      rw [List.getElem?_append_left (by rw [List.length_map, hl]; exact hi), List.getElem?_map] at e2
      cases h1 : vs[i]? with
      | none => rw [List.getElem?_eq_none_iff] at h1; omega
      | some v =>
        obtain ⟨d, h2, h3⟩ := r.get h1
        rw [h2] at e1
        rw [h1] at e2
        cases e1; cases e2
        exact ⟨v, rfl, h3⟩
    · rw [List.getElem?_append_right (by simpa using hi), List.getElem?_replicate] at e1
      split at e1
      · cases e1; exact True.intro
      · cases e1
  sep := fun i j di dj p e1 _ _ _ => by
    unfold startR at e1
    by_cases hi : i < ds.length
    · rw [List.getElem?_append_left (by simpa using hi), List.getElem?_map] at e1
      cases h : ds[i]? with
      | none => rw [h] at e1; cases e1
      | some d => rw [h] at e1; cases e1
    · rw [List.getElem?_append_right (by simpa using hi), List.getElem?_replicate] at e1
      split at e1 <;> cases e1
  sub := s
  old := fun _ _ => rfl
  kept := Same.refl _
  inh := fun i hi => nomatch hi
  bas := Same.refl _
theorem At.toGrow {Γ : Gm} {ρ : Ro} {σ : L2.St} {G H G' H' : Hp} (a : At K Γ ρ σ G' H') (h0 : Γ.H0 = H) (g0 : Γ.G0 = G) (s : Same G G') : Grow G H G' H' :=
  ⟨s, h0 ▸ a.kept, a.sub, fun b hb => by rw [← g0]; exact a.old b (by rw [h0]; exact hb)⟩
abbrev cxD (P : Program) (w : World) (K : PySem.W.Frag) (mg : Str → Option Value) (base : Heap) (N : List Str) (qual : Str) (st : Stmt) (f : Addr) (cdv : Value) (A : Around) (outer : List Env) (s : Shared) (H : Hp) (E : XK) : Cx := cxOf (L2.CX P w) P w K mg base N qual (defScope st) f cdv A outer s H E
/-- a def of data -/
theorem pf_of {x qual : Str} {st : Stmt} {f : Addr} {fd : FuncData} {N ps : List Str} {k n : Nat} {c : DC} (F : Fun K x qual st f fd) (S : FnScope N ps (defScope st)) (hn : ps.length = n) (hm : mg x = some (.ref f)) (hb : Binds K fd ps [])
    (bl : ∀ x : Str, bnames.contains x = true → mg x = none) (len : ∀ ds kq ke, c ds kq ke → ds.length = n)
    (body : ∀ (cdv : Value) (A : Around) (outer : List Env) (s : Shared) (H G : Hp) (E : XK) (ds : List D) (kq : D → Prop) (ke : Exn → Prop), c ds kq ke → Cok k (cxD P w K mg base N qual st f cdv A outer s H E) ⟨G, G, H, [], fun _ => 0, fun ex _ => ke ex⟩ →
      Takes (cxD P w K mg base N qual st f cdv A outer s H E) (liftW K ⟨G, G, H, [], fun _ => 0, fun ex _ => ke ex⟩) →
      ∃ T, DSs (cxD P w K mg base N qual st f cdv A outer s H E) ⟨G, G, H, [], fun _ => 0, fun ex _ => ke ex⟩ (defBody st) T ∧ T { nx := fun _ => kq .none, rt := fun d _ => kq d } (startR N.length ds)) : Pf P w K mg base (k + 1) x n c := by
  refine ⟨f, fd, ps, hn, F.okX S (fun vs H Q E ⟨G, ds, kq, ke, _, r, hc, _⟩ => by rw [r.length, len _ _ _ hc, hn]) (fun cdv A outer s H vs Q E hr hsp => ?_), hm, F.kp, hb⟩
  obtain ⟨G, ds, kq, ke, sGH, r, hc, hq, he⟩ := hsp
  have tk : Takes (cxD P w K mg base N qual st f cdv A outer s H E) (liftW K ⟨G, G, H, [], fun _ => 0, fun ex _ => ke ex⟩) := by
    refine (takes_of (E := E) rfl rfl rfl rfl).imp ?_
    rintro cls d σ' H' ⟨ρ', G', ex, a', xi, hw⟩
    exact he ex cls d G' H' hw (a'.toGrow rfl rfl a'.bas) xi
  obtain ⟨T, h1, h2⟩ := body cdv A outer s H G E ds kq ke hc ⟨rfl, S.nd, hr, sGH, PassesOwn.leaving, bl, fun σ => passAt tk σ⟩ tk
  refine ⟨_, h1.ps, startR N.length ds, G, _, at_start sGH r, ⟨?_, ?_, ?_, ?_⟩, h2⟩
  · intro ρ' σ' G' H' a' s' q
    exact hq .none .non G' H' q (a'.toGrow rfl rfl s') .non
  · intro d v ρ' σ' G' H' a' s' i q
    exact hq d v G' H' q (a'.toGrow rfl rfl s') i
  · intro ρ' σ' G' H' a' s' q
    exact q.elim
  · intro ρ' σ' G' H' a' s' q
    exact q.elim
def hide (H : Hp) (a : Addr) : Hp := fun b => if b = a then none else H b
theorem hide_same {H : Hp} {a : Addr} : hide H a a = none := if_pos rfl
theorem hide_ne {H : Hp} {a b : Addr} (h : b ≠ a) : hide H a b = H b := if_neg h
theorem at_startM {N : List Str} {vs : List V} {ds : List D} {d : D} {a : Addr} {G H : Hp} (s : Same G H) (g : G a = none) (o : Own K G H a d) (r : IsAll K G vs ds) : At K ⟨G, G, hide H a, [0], fun _ => a, fun _ _ => False⟩ (.own d :: startR (N.length - 1) ds) (L2.start N (.ref a :: vs)) G H where
  len := by
    unfold startR L2.start
    rw [List.length_append, List.length_map, List.length_replicate, List.length_cons, List.length_cons, List.length_append, List.length_map, List.length_replicate, r.length]
    omega
  sl := fun i sl u e1 e2 => by
    have hl := r.length
    unfold startR at e1
    unfold L2.start at e2
    cases i with
    | zero =>
      rw [List.getElem?_cons_zero] at e1
      rw [List.map_cons, List.cons_append, List.getElem?_cons_zero] at e2
      cases e1; cases e2
      exact ⟨a, rfl, g, hide_same, o⟩
    | succ i =>
      rw [List.getElem?_cons_succ] at e1
      rw [List.map_cons, List.cons_append, List.getElem?_cons_succ] at e2
      by_cases hi : i < ds.length
      · rw [List.getElem?_append_left (by simpa using hi), List.getElem?_map] at e1
        rw [List.getElem?_append_left (by rw [List.length_map, hl]; exact hi), List.getElem?_map] at e2
        cases h1 : vs[i]? with
        | none => rw [List.getElem?_eq_none_iff] at h1; omega
        | some v =>
          obtain ⟨d, h2, h3⟩ := r.get h1
          rw [h2] at e1
          rw [h1] at e2
          cases e1; cases e2
          exact ⟨v, rfl, h3⟩
      · rw [List.getElem?_append_right (by simpa using hi), List.getElem?_replicate] at e1
        split at e1
        · cases e1; exact True.intro
        · cases e1
  sep := fun i j di dj p e1 e2 _ _ => by
    have f : ∀ (i : Nat) dd, (Sl.own d :: startR (N.length - 1) ds)[i]? = some (.own dd) → i = 0 := fun i dd e => by
      cases i with
      | zero => rfl
      | succ i =>
        rw [List.getElem?_cons_succ] at e
        unfold startR at e
        by_cases hi : i < ds.length
        · rw [List.getElem?_append_left (by simpa using hi), List.getElem?_map] at e
          cases h : ds[i]? with
          | none => rw [h] at e; cases e
          | some d => rw [h] at e; cases e
        · rw [List.getElem?_append_right (by simpa using hi), List.getElem?_replicate] at e
          split at e <;> cases e
    rw [f i di e1, f j dj e2]
  sub := s
  old := fun _ _ => rfl
  kept := fun b u q => by
    have q : hide H a b = some u := q
    by_cases e : b = a
    · subst e; rw [hide_same] at q; cases q
    · rw [hide_ne e] at q; exact q
  inh := fun i hi => by
    have e : i = 0 := by simpa using hi
    subst e
    unfold L2.start
    rfl
  bas := Same.refl _
/-- a def whose first argument is its caller's own thing, which it changes -/
theorem pf_ofM {x qual : Str} {st : Stmt} {f : Addr} {fd : FuncData} {N ps : List Str} {k n : Nat} {c : DCM} (F : Fun K x qual st f fd) (S : FnScope N ps (defScope st)) (hn : ps.length = n + 1) (hm : mg x = some (.ref f)) (hb : Binds K fd ps [])
    (bl : ∀ x : Str, bnames.contains x = true → mg x = none) (len : ∀ d ds kq, c d ds kq → ds.length = n)
    (body : ∀ (cdv : Value) (A : Around) (outer : List Env) (s : Shared) (H G : Hp) (a : Addr) (E : XK) (d : D) (ds : List D) (kq : D → D → Prop), c d ds kq → Cok k (cxD P w K mg base N qual st f cdv A outer s H E) ⟨G, G, hide H a, [0], fun _ => a, fun _ _ => False⟩ →
      Takes (cxD P w K mg base N qual st f cdv A outer s H E) (liftW K ⟨G, G, hide H a, [0], fun _ => a, fun _ _ => False⟩) →
      ∃ T, DSs (cxD P w K mg base N qual st f cdv A outer s H E) ⟨G, G, hide H a, [0], fun _ => a, fun _ _ => False⟩ (defBody st) T ∧ T { nx := fun ρ => ownD ρ 0 fun d' => kq .none d', rt := fun r ρ => ownD ρ 0 fun d' => kq r d' } (.own d :: startR (N.length - 1) ds)) : PfM P w K mg base (k + 1) x (n + 1) c := by
  refine ⟨f, fd, ps, hn, F.okX S (fun vs H Q E ⟨G, d, ds, a, vs', kq, e, _, _, _, r, hc, _⟩ => by rw [e, List.length_cons, r.length, len _ _ _ hc, hn]) (fun cdv A outer s H vs Q E hr hsp => ?_), hm, F.kp, hb⟩
  obtain ⟨G, d, ds, a, vs', kq, rfl, sGH, ga, ow, r, hc, hq⟩ := hsp
  have tk : Takes (cxD P w K mg base N qual st f cdv A outer s H E) (liftW K ⟨G, G, hide H a, [0], fun _ => a, fun _ _ => False⟩) := by
    refine (takes_of (E := E) rfl rfl rfl rfl).imp ?_
    rintro cls d σ' H' ⟨ρ', G', ex, a', xi, hw⟩
    exact hw.elim
  have gh : Same G (hide H a) := fun b u q => by rw [hide_ne (ne_of_none q ga)]; exact sGH b u q
  obtain ⟨T, h1, h2⟩ := body cdv A outer s H G a E d ds kq hc ⟨rfl, S.nd, hr, gh, PassesOwn.leaving, bl, fun σ => passAt tk σ⟩ tk
  have fin : ∀ {v : V} {dr : D} {ρ' : Ro} {σ' : L2.St} {G' H' : Hp}, At K ⟨G, G, hide H a, [0], fun _ => a, fun _ _ => False⟩ ρ' σ' G' H' → Same G G' → Is K G' v dr → ownD ρ' 0 (fun d' => kq dr d') → Q v H' := by
    intro v dr ρ' σ' G' H' a' s' i q
    obtain ⟨d', e, q⟩ := q.to
    obtain ⟨p, e1, g1, _, ow'⟩ := a'.own e
    have e2 := a'.inh 0 (by simp)
    rw [e1] at e2
    cases e2
    refine hq dr d' v G' H' q ⟨s', fun b o hb e => a'.kept b o (by show hide H a b = some o; rw [hide_ne hb]; exact e), a'.sub, fun b hb => ?_⟩ ow' i
    by_cases eb : b = a
    · subst eb; rw [g1, ga]
    · exact a'.old b (by show hide H a b ≠ none; rw [hide_ne eb]; exact hb)
  refine ⟨_, h1.ps, _, G, _, at_startM sGH ga ow r, ⟨?_, ?_, ?_, ?_⟩, h2⟩
  · intro ρ' σ' G' H' a' s' q
    exact fin a' s' .non q
  · intro d v ρ' σ' G' H' a' s' i q
    exact fin a' s' i q
  · intro ρ' σ' G' H' a' s' q
    exact q.elim
  · intro ρ' σ' G' H' a' s' q
    exact q.elim
end
end Dn
/-! Dn: built-in calls. -/
namespace Dn
open PySem PySem.Spec PyProof.Rows L2

/-! ### list(reversed(a list)), at the machine -/
section
variable {prog : Program} {w : World} {A : Around} {E : Value → Shared → Prop} {s : Shared}
theorem ext_rev {R : Result → Shared → Prop} {it l S : Addr} {items : Array Value} {c₀ : Nat} (hh : A.in1.handled = none) (hit : s.heap.IsRevIter it l ((items.size : Int) - 1)) (hl : s.heap.IsList l items) (hne : l ≠ it) (hSi : S ≠ it) (hSl : S ≠ l) (hn : items.size ≤ sizeLine)
    (hS : s.heap.get? S = some { cls := .type "list", data := .seq #[] c₀ })
    (hR : ∀ h' tk acc' c', (∀ b o, b ≠ it → b ≠ S → s.heap.get? b = some o → h'.get? b = some o) → h'.get? S = some { cls := .type "list", dict := none, data := .seq acc' c', slots := #[] } → ItemsOf (fun i v => items[items.size - 1 - i]? = some v) acc' items.size → R (.ok (.ret .none)) { s with heap := h', toks := tk }) :
    wpAny (model prog w) A.in1 (Builtin.List.listExtendWith (.ref S) (.ref it) .none)
      (fun fin s' => match fin with | .done f => R (.ok f) s' | .again c' => c'.quiet = true ∧ codeAny (model prog w) A c' R s') (fun e s' => R (.error e) s') s := by
  have W := (Walks.listRev (prog := prog) (w := w) (A := A.in1) hh it l hne items).toS
  have hSf : S ∉ [it, l] := by simp only [List.mem_cons, List.not_mem_nil, or_false, not_or]; exact ⟨hSi, hSl⟩
  have hT : s.TypeIs (.ref it) "list_reverseiterator" := hit.typeIs
  have same0 : Builtin.List.listSameRef (.ref S) (.ref it) = false := by simp [Builtin.List.listSameRef, hSi]
  unfold Builtin.List.listExtendWith
  refine wpAny_bind (wpAny_typeOf hT ?_)
  rw [if_neg (by rw [same0]; decide)]
  refine wpAny_bind (wpAny_pyIter_revIter hit ?_)
  refine wpAny_bind (wpAny_holding ?_)
  unfold Builtin.List.listLengthHint
  refine wpAny_bind (wpAny_specialOf hT RT.nolen_lri ?_)
  show wpAny _ _ (specialOf (Value.ref it) (Str.ofString "__length_hint__") >>= _) _ _ _
  refine wpAny_bind (wpAny_specialOf hT RT.hint_lri ?_)
  generalize hid : ("list_reverseiterator.__length_hint__" : String) = id0
  wp_delta
  rw [show splitId id0 = some ("list_reverseiterator", "__length_hint__") from by subst hid; decide +kernel]
  subst hid
  refine wpAny_bind (wpAny_isInstance (b := true) hT (by rw [isSubtype_type]; kernel_rfl) ?_)
  refine wpAny_pure ?_
  rw [if_neg (by decide)]
  refine wpAny_pure ⟨plainId_quiet F.plain_extend_loop _, codeAny_extend_loopS W hn _ hSf _ items.size 0 _ _ _ rfl (Nat.zero_le _) ⟨Nat.zero_le _, by rw [Int.natCast_zero, Int.sub_zero]; exact hit, hl⟩ hS (ItemsOf.nil _) fun s' acc' c' hm hS' hacc => ?_⟩
  rw [Moved.eq_with hm]
  refine hR s'.heap s'.toks acc' c' (fun b o hb hb2 e => hm.heap b o (fun z => ?_) e) hS' hacc
  rcases List.mem_cons.mp z with z | z
  · exact hb2 z
  · exact hb (List.mem_singleton.mp z)
theorem list_of_rev {it l : Addr} {items : Array Value} {Q : Value → Shared → Prop} (hh : A.handled = none) (hit : s.heap.IsRevIter it l ((items.size : Int) - 1)) (hl : s.heap.IsList l items) (hne : l ≠ it) (hn : items.size ≤ sizeLine)
    (hQ : ∀ (h' : Heap) (tk : Nat) (acc : Array Value) (c' : Nat), (∀ b o, b ≠ it → s.heap.get? b = some o → h'.get? b = some o) → h'.get? s.heap.objs.size = some { cls := .type "list", dict := none, data := .seq acc c', slots := #[] } → ItemsOf (fun i v => items[items.size - 1 - i]? = some v) acc items.size →
      Q (.ref s.heap.objs.size) { s with heap := h', toks := tk }) :
    wpAny (model prog w) A (call (.type "list") [.ref it]) Q E s := by
  obtain ⟨oi, hoi, _⟩ := id hit
  obtain ⟨ol, hol, _⟩ := id hl
  refine callType_codes (Q₁ := fun obj s₁ => obj = .ref s.heap.objs.size ∧ s₁ = { s with heap := s.heap.push { cls := .type "list", data := .seq #[] } }) F.called_list (F.typeCall_list_1 _) F.entry_list_init
    (code_list_new _ ⟨rfl, rfl⟩) fun obj s₁ h₁ => ?_
  obtain ⟨rfl, rfl⟩ := h₁
  have hS : (s.heap.push { cls := .type "list", data := .seq #[] }).get? s.heap.objs.size = some { cls := .type "list", data := .seq #[] } := Heap.get?_push_size _ rfl
  refine ⟨⟨_, hS, rfl⟩, F.args_list_init_2 _ _, ?_⟩
  show wpAny _ _ (do let old ← Builtin.List.listItems (.ref s.heap.objs.size); Builtin.List.listUpdate (.ref s.heap.objs.size) (fun _ => #[]); letGo old.toList.reverse; Builtin.List.listExtendWith (.ref s.heap.objs.size) (.ref it) .none) _ _ _
  refine wpAny_bind ?_
  unfold Builtin.List.listItems
  refine wpAny_bind (wpAny_seqItems hS rfl (wpAny_pure ?_))
  show wpAny _ _ (updateSeq s.heap.objs.size (fun _ => #[]) >>= fun _ => letGo (#[] : Array Value).toList.reverse >>= fun _ => Builtin.List.listExtendWith (.ref s.heap.objs.size) (.ref it) .none) _ _ _
  refine wpAny_bind (wpAny_updateSeq hS rfl ?_)
  refine wpAny_bind (wpAny_letGo ?_)
  have nei : it ≠ s.heap.objs.size := Nat.ne_of_lt (Heap.lt_size hoi)
  have nel : l ≠ s.heap.objs.size := Nat.ne_of_lt (Heap.lt_size hol)
  have keep : ∀ b o, b ≠ s.heap.objs.size → s.heap.get? b = some o → ((s.heap.push { cls := .type "list", data := .seq #[] }).update s.heap.objs.size (Obj.mapSeq (fun _ => (#[] : Array Value)))).get? b = some o :=
    fun b o hb e => (Heap.get?_update_other _ _ (Ne.symm hb)).trans (Heap.get?_push_of_some _ e)
  refine ext_rev (s := { s with heap := _ }) (A := A.in1) hh (hit.at fun o e => keep _ o nei e) ?_ hne (Ne.symm nei) (Ne.symm nel) hn (Heap.get?_update_self (Obj.mapSeq (fun _ => (#[] : Array Value))) hS rfl) fun h' tk acc' c' hk hS' hacc => ?_
  · obtain ⟨o, e, r⟩ := id hl
    exact ⟨o, keep _ o nel e, r⟩
  · exact ⟨rfl, hQ h' tk acc' c' (fun b o hb e => hk b o hb (Nat.ne_of_lt (Heap.lt_size e)) (keep b o (Nat.ne_of_lt (Heap.lt_size e)) e)) hS' hacc⟩
end

section
variable {X : Cx} {Γ : Gm} {k j n : Nat} {a b e : Expr} {es : List Expr} {st : Stmt} {rest body orelse : List Stmt} {pos : Pos} {t u : TDS}
theorem nb (c : Cok k X Γ) {x : Str} (h : bnames.contains x = true := by decide +kernel) : X.mg x = none := c.bl x h
/-! ### len, abs, int, bool -/
def lenD : OpN
  | [.str x], Q => x.length ≤ 16777216 ∧ Q (.int x.length)
  | [.list xs], Q => Q (.int xs.length)
  | [.tuple xs], Q => Q (.int xs.length)
  | _, _ => False
theorem isxs_1 {K : PySem.W.Frag} {G H : Hp} {vs : List V} {d : D} (h : IsXs K G H vs [d]) : ∃ v, vs = [v] ∧ IsX K G H v d := by
  cases h with
  | cons h1 h2 => cases h2; exact ⟨_, rfl, h1⟩
theorem isxs_2 {K : PySem.W.Frag} {G H : Hp} {vs : List V} {d e : D} (h : IsXs K G H vs [d, e]) : ∃ v u, vs = [v, u] ∧ IsX K G H v d ∧ IsX K G H u e := by
  cases h with
  | cons h1 h2 =>
    obtain ⟨u, rfl, h3⟩ := isxs_1 h2
    exact ⟨_, _, rfl, h1, h3⟩
theorem cd_len : CallD X (.builtin "len") lenD := by
  refine CallD.of call_len ?_
  rintro vs H Q ⟨G, ds, k, s, hx, h, fin⟩
  unfold lenD at h
  split at h
  · rename_i x
    obtain ⟨v, rfl, hv⟩ := isxs_1 hx
    exact ⟨v, x.length, rfl, by rw [hv.str]; exact ⟨line_le h.1, rfl⟩, fin _ _ G H h.2 (.refl s) (.int _)⟩
  · rename_i xs
    obtain ⟨v, rfl, hv⟩ := isxs_1 hx
    obtain ⟨p, us, rfl, h1, h2⟩ := hv.list s
    exact ⟨_, xs.length, rfl, .inl ⟨us, .of h1, h2.length.symm⟩, fin _ _ G H h (.refl s) (.int _)⟩
  · rename_i xs
    obtain ⟨v, rfl, hv⟩ := isxs_1 hx
    obtain ⟨p, us, rfl, h1, h2⟩ := hv.tup
    exact ⟨_, xs.length, rfl, .inr ⟨us, Same.sqt s h1, h2.length.symm⟩, fin _ _ G H h (.refl s) (.int _)⟩
  · exact h.elim
def absD : OpN
  | [.int i], Q => Q (.int (if i < 0 then -i else i))
  | _, _ => False
theorem cd_abs : CallD X (.builtin "abs") absD := by
  refine CallD.of call_abs ?_
  rintro vs H Q ⟨G, ds, k, s, hx, h, fin⟩
  unfold absD at h
  split at h
  · rename_i i
    obtain ⟨v, rfl, hv⟩ := isxs_1 hx
    rw [hv.int]
    exact ⟨i, rfl, fin _ _ G H h (.refl s) (.int _)⟩
  · exact h.elim
def intD : OpN
  | [.int i], Q => Q (.int i)
  | [.bool b], Q => Q (.int (if b then 1 else 0))
  | [.str x], Q => x.length ≤ 640 ∧ optD (PySem.intText? x) fun n => Q (.int n)
  | _, _ => False
theorem cd_int : CallD X (.type "int") intD := by
  refine CallD.of (call_int1.or call_int_str) ?_
  rintro vs H Q ⟨G, ds, k, s, hx, h, fin⟩
  unfold intD at h
  split at h
  · rename_i i
    obtain ⟨v, rfl, hv⟩ := isxs_1 hx
    rw [hv.int]
    exact .inl (.inl ⟨i, rfl, fin _ _ G H h (.refl s) (.int _)⟩)
  · rename_i i
    obtain ⟨v, rfl, hv⟩ := isxs_1 hx
    rw [hv.bl]
    exact .inl (.inr ⟨i, rfl, fin _ _ G H h (.refl s) (.int _)⟩)
  · rename_i x
    obtain ⟨v, rfl, hv⟩ := isxs_1 hx
    rw [hv.str]
    obtain ⟨n, h1, h2⟩ := optD.to h.2
    exact .inr ⟨x, n, rfl, h1, h.1, fin _ _ G H h2 (.refl s) (.int _)⟩
  · exact h.elim
/-! ### isinstance -/
inductive TyN where
  | int | bool | str | tuple | list | dict
def TyN.name : TyN → String
  | .int => "int"
  | .bool => "bool"
  | .str => "str"
  | .tuple => "tuple"
  | .list => "list"
  | .dict => "dict"
def isT : TyN → D → Bool
  | .int, .int _ => true
  | .int, .bool _ => true
  | .bool, .bool _ => true
  | .str, .str _ => true
  | .tuple, .tuple _ => true
  | .list, .list _ => true
  | .dict, .dict _ => true
  | _, _ => false
def tyT : D → String
  | .none => "NoneType"
  | .bool _ => "bool"
  | .int _ => "int"
  | .str _ => "str"
  | .list _ => "list"
  | .tuple _ => "tuple"
  | .dict _ => "dict"
theorem isT_kit (T : TyN) (d : D) : kitB (tyT d) T.name = some (isT T d) := by
  cases T <;> cases d <;> simp only [tyT, TyN.name, isT] <;> decide +kernel
theorem IsX.tyx {K : PySem.W.Frag} {G H : Hp} {v : V} {d : D} (s : Same G H) (h : IsX K G H v d) : TyX K H v (.type (tyT d)) := by
  have dk : ∀ {p : Addr} {kvs : List (Key × V)}, Rd H p (.dK kvs) → TyX K H (.ref p) (.type "dict") := fun r => by
    rcases r with r | ⟨o, r⟩
    · exact .base (.dK r)
    · exact .fDict r
  rcases h with h | ⟨p, rfl, h⟩
  · cases h with
    | non => exact .base .non
    | bl b => exact .base (.bl b)
    | int i => exact .base (.int i)
    | str i => exact .base (.str i)
    | lst h _ => exact .base (.lst (s _ _ h))
    | tup h _ =>
      rcases Same.sqt s h with (h | ⟨o, h⟩) | ⟨o, its, n, h, hc, _⟩
      · exact .base (.tup h)
      · exact .fTuple h
      · exact .kTuple h hc
    | dk h _ _ => exact dk (Same.rd s h)
    | dt h _ _ => exact .base (.dT (s _ _ h))
  · rcases h with ⟨xs, es, rfl, h2, h3⟩ | ⟨_, _, _, rfl, _, h, _⟩ | ⟨_, _, _, rfl, _, h, _⟩
    · exact .base (.lst h2)
    · exact .base (.dK h)
    · exact .base (.dT h)
def dIsi (T : TyN) (ta : TB) : TD := fun ρ Q => ta ρ fun x ρ1 => withD ρ1 x fun d => Q (.bool (isT T d)) ρ1
theorem de_isi {T : TyN} {ta : TB} {p p2 : Pos} {nm : Str} (c : Cok k X Γ) (ha : DB X Γ a ta) (hn : bootBuiltins nm = some (.type T.name)) (hgT : Gl X nm := by rfl) (hb : bnames.contains nm = true := by decide +kernel) (hnn : nm ≠ "__name__" := by decide) (hdT : (nm == ("__debug__" : Str)) = false := by decide)
    (hg : Gl X "isinstance" := by rfl) (he : starEach [a, .Name nm p2] X.env = (false, eval a X.env) :: starEach [.Name nm p2] X.env := by rfl) (he2 : starEach [.Name nm p2] X.env = (false, eval (.Name nm p2) X.env) :: starEach [] X.env := by rfl)
    (hpl : (backTo pos (starEach [.Name nm p2] X.env)).any (·.1) = false := by rfl) : DE X Γ (.Call (.Name "isinstance" p) [a, .Name nm p2] [] pos) (dIsi T ta) := by
  refine ⟨pe_imp (pe_callB call_isi hg (nb c) boot_isinstance (pa_cons ha.pe (pa_cons (pe_bltn (v := .ty T.name) hgT (nb c hb) hn rfl hnn hdT) pa_nil he2) he) (by decide) (by decide) he hpl) ?_⟩
  rintro σ H Q ⟨ρ, G, k, at_, h, fin⟩
  refine ⟨ρ, G, _, at_, h, fun x ρ1 v G1 H1 h1 a1 s1 r1 => ?_⟩
  obtain ⟨d, l, h1⟩ := withD.to h1
  have hx := a1.isx r1 l
  exact ⟨v, .ty T.name, _, _, isT T d, rfl, .ty _, hx.tyx a1.sub, kit_ty (isT_kit T d), fin _ _ _ _ _ h1 a1 s1 (.bl _)⟩
/-! ### list, tuple -/
def seqL (d : D) (k : List D → Prop) : Prop := match d with
  | .list xs => k xs
  | .tuple xs => k xs
  | _ => False
def dList (ta : TB) : TD := fun ρ Q => ta ρ fun x ρ1 => withD ρ1 x fun d => seqL d fun xs => Q (.list xs) ρ1
theorem df_list {ta : TB} {p : Pos} (c : Cok k X Γ) (ha : DB X Γ a ta) (hg : Gl X "list" := by rfl) (he : starEach [a] X.env = (false, eval a X.env) :: starEach [] X.env := by rfl) (hpl : (backTo pos (starEach [] X.env)).any (·.1) = false := by rfl) : DF X Γ (.Call (.Name "list" p) [a] [] pos) (dList ta) := by
  refine ⟨pe_imp (pe_callTy call_list_of hg (nb c) boot_list (pa_cons ha.pe pa_nil he) (by decide) (by decide) he hpl) ?_⟩
  rintro σ H Q ⟨ρ, G, k, at_, h, fin⟩
  refine ⟨ρ, G, _, at_, h, fun x ρ1 v G1 H1 h1 a1 s1 r1 => ?_⟩
  obtain ⟨d, l, h1⟩ := withD.to h1
  have hx := a1.isx r1 l
  have go : ∀ {xs : List V} {ds : List D}, IsAll X.K G1 xs ds → k (.list ds) ρ1 → ∀ q, H1 q = none → Q (.ref q) (upd H1 q (.lst xs)) := by
    intro xs ds r hk q hq
    obtain ⟨a2, g0, h0, hno⟩ := a1.fresh (o := .lst xs) hq
    exact fin _ _ q _ _ hk a2 s1 g0 h0 (.inl ⟨xs, ds, rfl, upd_same, r⟩) hno
  cases d with
  | list ds =>
    obtain ⟨p, xs, rfl, h2, h3⟩ := hx.list a1.sub
    exact ⟨p, xs, rfl, .inl (.of h2), go h3 h1⟩
  | tuple ds =>
    obtain ⟨p, xs, rfl, h2, h3⟩ := hx.tup
    exact ⟨p, xs, rfl, .inr (Same.sqt a1.sub h2), go h3 h1⟩
  | _ => exact (show False from h1).elim
/-- list(script): a list that is only read -/
def dListS (i : Nat) : TD := fun ρ Q => match ρ[i]? with
  | some (.seq ds) => Q (.list ds) ρ
  | _ => False
theorem df_listS {i : Nat} {x : Str} {p p1 : Pos} (c : Cok k X Γ) (hN : X.N[i]? = some x := by rfl) (hv : Vis X.env.scope x := by first | exact Or.inl rfl | exact Or.inr (Or.inl rfl) | exact Or.inr (Or.inr rfl)) (hd : (x == ("__debug__" : Str)) = false := by decide)
    (hcd : (x == ("__classdict__" : Str)) = false := by decide) (hg : Gl X "list" := by rfl) (he : starEach [.Name x p1] X.env = (false, eval (.Name x p1) X.env) :: starEach [] X.env := by rfl) (hpl : (backTo pos (starEach [] X.env)).any (·.1) = false := by rfl) : DF X Γ (.Call (.Name "list" p) [.Name x p1] [] pos) (dListS i) := by
  refine ⟨pe_imp (pe_callTy call_list_of hg (nb c) boot_list (pa_cons (pe_var (i := i) hN hv hd hcd) pa_nil he) (by decide) (by decide) he hpl) ?_⟩
  rintro σ H Q ⟨ρ, G, k, at_, h, fin⟩
  unfold dListS at h
  split at h
  · rename_i ds q
    obtain ⟨o, e⟩ := at_.lt q
    obtain ⟨p, xs, e1, e2, e3⟩ := at_.sl i _ o q e
    refine ⟨_, by rw [e, e1], p, xs, rfl, .inl (at_.sub.seq e2), fun q hq => ?_⟩
    obtain ⟨a2, g0, h0, hno⟩ := at_.fresh (o := .lst xs) hq
    exact fin _ _ q _ _ h a2 (Same.refl _) g0 h0 (.inl ⟨xs, ds, rfl, upd_same, e3⟩) hno
  · exact h.elim
def tupD : OpN
  | [.list xs], Q => Q (.tuple xs)
  | [.tuple xs], Q => Q (.tuple xs)
  | _, _ => False
theorem cd_tuple : CallD X (.type "tuple") tupD := by
  refine CallD.of call_tuple_of ?_
  rintro vs H Q ⟨G, ds, k, s, hx, h, fin⟩
  unfold tupD at h
  split at h
  · rename_i xs
    obtain ⟨v, rfl, hv⟩ := isxs_1 hx
    obtain ⟨p, us, rfl, h1, h2⟩ := hv.list s
    refine ⟨p, us, rfl, .inl ⟨.of h1, fun q hq => ?_⟩⟩
    have g := Grow.laid (o := .tup us) s hq
    exact fin _ _ _ _ h g (.tup (.of upd_same) (h2.mono g.gg))
  · rename_i xs
    obtain ⟨v, rfl, hv⟩ := isxs_1 hx
    obtain ⟨p, us, rfl, h1, h2⟩ := hv.tup
    exact ⟨p, us, rfl, .inr ⟨Same.sqt s h1, fin _ _ G H h (.refl s) (.tup h1 h2)⟩⟩
  · exact h.elim
/-- list(reversed(a list)) -/
def dListR (ta : TB) : TD := fun ρ Q => ta ρ fun x ρ1 => withD ρ1 x fun d => match d with
  | .list xs => Q (.list xs.reverse) ρ1
  | _ => False
theorem df_listR {ta : TB} {p p2 pos2 : Pos} (c : Cok k X Γ) (ha : DB X Γ a ta) (hg : Gl X "list" := by rfl) (hg2 : Gl X "reversed" := by rfl) (hs : starEach [a] X.env = (false, eval a X.env) :: starEach [] X.env := by rfl)
    (hs2 : starEach [.Call (.Name "reversed" p2) [a] [] pos2] X.env = (false, eval (.Call (.Name "reversed" p2) [a] [] pos2) X.env) :: starEach [] X.env := by rfl) : DF X Γ (.Call (.Name "list" p) [.Call (.Name "reversed" p2) [a] [] pos2] [] pos) (dListR ta) := by
  refine ⟨⟨fun pins s σ H Q I h => ?_⟩⟩
  obtain ⟨ρ, G, k, at_, h, fin⟩ := h
  refine Call_ (ld_blt I hg (nb c) boot_list (PyProof.Rows.callWith_type1 (args_cons (Call_ (ld_blt I hg2 (nb c) PyProof.Rows.boot_reversed (PyProof.Rows.callWith_type1 (args_cons (thn (ha.pe.run pins s σ H (fun v H1 => ∃ ρ1 G1 ds, At X.K Γ ρ1 σ G1 H1 ∧ Same G G1 ∧ IsX X.K G1 H1 v (.list ds) ∧ k (.list ds.reverse) ρ1) I ⟨ρ, G, _, at_, h, fun x ρ1 v G1 H1 h1 a1 s1 r1 => ?_⟩)
    fun u s1 ⟨v, H1, I1, r1, q1⟩ => args_nil ?_) hs) hs rfl))) hs2) hs2 rfl))
  · obtain ⟨d, l, h1⟩ := withD.to h1
    cases d with
    | list ds => exact ⟨ρ1, G1, ds, a1, s1, a1.isx r1 l, h1⟩
    | _ => exact (show False from h1).elim
  · obtain ⟨ρ1, G1, ds, a1, s1', hx, hk⟩ := q1
    obtain ⟨p, xs, rfl, hp, rx⟩ := hx.list a1.sub
    obtain rfl : u = Value.ref p := r1
    obtain ⟨its, rv, p', hz⟩ := I1.list (SqL.of hp)
    refine call_reversed_list p'.isList (args_nil ?_)
    have hl := p'.isList
    obtain ⟨ol, hol, _⟩ := id hl
    have I2 : Inv X pins σ H1 { s1 with heap := s1.heap.push (revObj p ((its.toArray.size : Int) - 1)) } := I1.kept (t' := s1.toks) fun b o e => Heap.get?_push_of_some _ e
    obtain ⟨f0, f1, f2, f3, f4, f5⟩ := I1.fpOk (H' := H1) (b := s1.heap.objs.size) (Nat.le_refl _) (I1.hok.fresh (Nat.le_refl _))
    have hn : its.toArray.size ≤ sizeLine := by rw [List.size_toArray, ← rv.length]; exact hz
    refine list_of_rev (s := { s1 with heap := s1.heap.push (revObj p ((its.toArray.size : Int) - 1)) }) (I1.ok.hd c.calm) ⟨_, Heap.get?_push_size _ rfl, rfl, rfl⟩ (hl.push _) (Nat.ne_of_lt (Heap.lt_size hol)) hn fun h' tk acc c' hkp hnew hi => ?_
    have hq : H1 (s1.heap.push (revObj p ((its.toArray.size : Int) - 1))).objs.size = none := I2.hok.fresh (Nat.le_refl _)
    obtain ⟨a2, g0, h0, hno⟩ := a1.fresh (o := .lst xs.reverse) hq
    have lz : xs.reverse.length ≤ sizeLine := by rw [List.length_reverse]; exact hz
    have I3 := I2.turnedNew (t' := tk) (h' := h') (ch := [s1.heap.objs.size]) (T := (s1.heap.push (revObj p ((its.toArray.size : Int) - 1))).objs.size) (ob := .lst xs.reverse) (fun b o hb e => hkp b o (fun z => hb (by rw [z]; exact List.mem_cons_self)) e)
      (fun b hb => by
        have e : b = s1.heap.objs.size := by simpa using hb
        subst e
        exact I1.fpOk (Nat.le_refl _) (I1.hok.fresh (Nat.le_refl _))) (Nat.le_refl _) ⟨lz, acc.toList, c', RT.vals_rev rv hi, by rw [Array.toArray_toList]; exact hnew⟩
    exact ⟨.ref (s1.heap.push (revObj p ((its.toArray.size : Int) - 1))).objs.size, _, I3, rfl, fin _ _ _ _ _ hk a2 s1' g0 h0 (.inl ⟨xs.reverse, ds.reverse, rfl, upd_same, rx.reverse⟩) hno⟩

/-! ### any, all, sum, in -/
def boolsOf : List D → Option (List Bool)
  | [] => some []
  | .bool b :: r => (boolsOf r).map (b :: ·)
  | _ :: _ => none
theorem boolsOf_eq : ∀ {ds : List D} {bs : List Bool}, boolsOf ds = some bs → ds = bs.map PyData.bool
  | [], bs, h => by cases h; rfl
  | d :: r, bs, h => by
    cases d with
    | bool b =>
      have h : (boolsOf r).map (b :: ·) = some bs := h
      cases e : boolsOf r with
      | none => rw [e] at h; cases h
      | some cs =>
        rw [e] at h
        cases h
        rw [boolsOf_eq e]; rfl
    | _ => cases h
theorem boolsOf_map {α : Type} (p : α → Bool) : ∀ xs : List α, boolsOf (xs.map fun x => PyData.bool (p x)) = some (xs.map p)
  | [] => rfl
  | x :: xs => by
    show (boolsOf (xs.map fun x => PyData.bool (p x))).map (p x :: ·) = _
    rw [boolsOf_map p xs]; rfl
def anyD : OpN
  | [.list xs], Q => optD (boolsOf xs) fun bs => Q (.bool (bs.any id))
  | _, _ => False
def allD : OpN
  | [.list xs], Q => optD (boolsOf xs) fun bs => Q (.bool (bs.all id))
  | _, _ => False
theorem cd_any (c : Cok k X Γ) : CallD X (.builtin "any") anyD := by
  refine CallD.of (cr_any c.calm) ?_
  rintro vs H Q ⟨G, ds, k, s, hx, h, fin⟩
  unfold anyD at h
  split at h
  · rename_i xs
    obtain ⟨bs, e, h⟩ := optD.to h
    obtain ⟨v, rfl, hv⟩ := isxs_1 hx
    obtain ⟨p, us, rfl, h1, h2⟩ := hv.list s
    rw [boolsOf_eq e] at h2
    rw [IsAll.bls h2] at h1
    exact ⟨p, bs, rfl, .of h1, fin _ _ G H h (.refl s) (.bl _)⟩
  · exact h.elim
theorem cd_all (c : Cok k X Γ) : CallD X (.builtin "all") allD := by
  refine CallD.of (cr_all c.calm) ?_
  rintro vs H Q ⟨G, ds, k, s, hx, h, fin⟩
  unfold allD at h
  split at h
  · rename_i xs
    obtain ⟨bs, e, h⟩ := optD.to h
    obtain ⟨v, rfl, hv⟩ := isxs_1 hx
    obtain ⟨p, us, rfl, h1, h2⟩ := hv.list s
    rw [boolsOf_eq e] at h2
    rw [IsAll.bls h2] at h1
    exact ⟨p, bs, rfl, .of h1, fin _ _ G H h (.refl s) (.bl _)⟩
  · exact h.elim
/-- x in a list, a tuple of data; in a text -/
def inD : Op2
  | d, .list xs, Q => dep 20 d = true ∧ xs.all (dep 19) = true ∧ Q (.bool (xs.any fun z => PyData.eqv z d))
  | d, .tuple xs, Q => dep 20 d = true ∧ xs.all (dep 19) = true ∧ Q (.bool (xs.any fun z => PyData.eqv z d))
  | .str x, .str y, Q => Q (.bool (!(Builtin.Str.occurrences y x 0 y.length 1).isEmpty))
  | _, _, _ => False
def ninD : Op2
  | d, .list xs, Q => dep 20 d = true ∧ xs.all (dep 19) = true ∧ Q (.bool (!xs.any fun z => PyData.eqv z d))
  | d, .tuple xs, Q => dep 20 d = true ∧ xs.all (dep 19) = true ∧ Q (.bool (!xs.any fun z => PyData.eqv z d))
  | .str x, .str y, Q => Q (.bool (!(!(Builtin.Str.occurrences y x 0 y.length 1).isEmpty)))
  | _, _, _ => False
def rInT (K : PySem.W.Frag) : R2 := fun x y H Q => ∃ d ds, Dp K H x d ∧ Dp K H y (.tuple ds) ∧ SeqAt.shaped d = true ∧ SeqAt.shaped (.tuple ds) = true ∧ Q (.bl (ds.any fun z => PyData.eqv z d)) H
def rNotInT (K : PySem.W.Frag) : R2 := fun x y H Q => ∃ d ds, Dp K H x d ∧ Dp K H y (.tuple ds) ∧ SeqAt.shaped d = true ∧ SeqAt.shaped (.tuple ds) = true ∧ Q (.bl (!ds.any fun z => PyData.eqv z d)) H
theorem op_inT (hu : X.A.units + 65 < cLine) : OpR X (compareOp .In) (rInT X.K) := by
  intro pins s σ H x y v u Q I rx ry h
  obtain ⟨d, ds, hd, he, sd, se, q⟩ := h
  obtain ⟨as, r1⟩ := Dp.reads I d x v hd rx
  obtain ⟨bs, r2⟩ := Dp.reads I (.tuple ds) y u he ry
  exact SeqAt.in_tuple_reads r2 r1 (SeqAt.canLay_of_shaped se) (SeqAt.canLay_of_shaped sd) (room_in_shaped sd hu) ⟨.bl _, H, I, rfl, q⟩
theorem op_notInT (hu : X.A.units + 65 < cLine) : OpR X (compareOp .NotIn) (rNotInT X.K) := by
  intro pins s σ H x y v u Q I rx ry h
  obtain ⟨d, ds, hd, he, sd, se, q⟩ := h
  obtain ⟨as, r1⟩ := Dp.reads I d x v hd rx
  obtain ⟨bs, r2⟩ := Dp.reads I (.tuple ds) y u he ry
  exact SeqAt.notIn_tuple_reads r2 r1 (SeqAt.canLay_of_shaped se) (SeqAt.canLay_of_shaped sd) (room_in_shaped sd hu) ⟨.bl _, H, I, rfl, q⟩
theorem od_in (c : Cok k X Γ) : OpD X (compareOp .In) inD := by
  refine OpD.or ((op_inD c.hu).or ((op_inT c.hu).or op_in_str)) ?_
  rintro x y H Q ⟨G, d, e, k, s, hx, hy, h, fin⟩
  unfold inD at h
  split at h
  · have h2 : dep 20 (.list _) = true := h.2.1
    exact .inl ⟨_, _, (hx.is s).dp (dep_depth _ _ h.1).1, (hy.is s).dp (dep_depth _ _ h2).1, shaped_of h.1 (by decide), shaped_of h2 (by decide), fin _ _ G H h.2.2 (.refl s) (.bl _)⟩
  · have h2 : dep 20 (.tuple _) = true := h.2.1
    exact .inr (.inl ⟨_, _, (hx.is s).dp (dep_depth _ _ h.1).1, (hy.is s).dp (dep_depth _ _ h2).1, shaped_of h.1 (by decide), shaped_of h2 (by decide), fin _ _ G H h.2.2 (.refl s) (.bl _)⟩)
  · exact .inr (.inr ⟨_, _, hx.str, hy.str, fin _ _ G H h (.refl s) (.bl _)⟩)
  · exact h.elim
theorem od_notin (c : Cok k X Γ) : OpD X (compareOp .NotIn) ninD := by
  refine OpD.or ((op_notInD c.hu).or ((op_notInT c.hu).or op_notin_str)) ?_
  rintro x y H Q ⟨G, d, e, k, s, hx, hy, h, fin⟩
  unfold ninD at h
  split at h
  · have h2 : dep 20 (.list _) = true := h.2.1
    exact .inl ⟨_, _, (hx.is s).dp (dep_depth _ _ h.1).1, (hy.is s).dp (dep_depth _ _ h2).1, shaped_of h.1 (by decide), shaped_of h2 (by decide), fin _ _ G H h.2.2 (.refl s) (.bl _)⟩
  · have h2 : dep 20 (.tuple _) = true := h.2.1
    exact .inr (.inl ⟨_, _, (hx.is s).dp (dep_depth _ _ h.1).1, (hy.is s).dp (dep_depth _ _ h2).1, shaped_of h.1 (by decide), shaped_of h2 (by decide), fin _ _ G H h.2.2 (.refl s) (.bl _)⟩)
  · exact .inr (.inr ⟨_, _, hx.str, hy.str, fin _ _ G H h (.refl s) (.bl _)⟩)
  · exact h.elim
/-! ### new lists by + and * -/
theorem df_bin {op : Operator} {r : R2} {f : Op2} {ta tb : TB} (ho : OpR X (binaryOp op) r) (ha : DB X Γ a ta) (hb : DB X Γ b tb)
    (i : ∀ x y H Q, (∃ G d e k, Same G H ∧ IsX X.K G H x d ∧ IsX X.K G H y e ∧ f d e k ∧ ∀ ds xs, k (.list ds) → IsAll X.K G xs ds → ∀ p, H p = none → Q (.ref p) (upd H p (.lst xs))) → r x y H Q) : DF X Γ (.BinOp a op b pos) (dBin f ta tb) := by
  refine ⟨pe_imp (pe_op ho ha.pe hb.pe) ?_⟩
  rintro σ H Q ⟨ρ, G, k, at_, h, fin⟩
  refine ⟨ρ, G, _, at_, h, fun x ρ1 v1 G1 H1 h1 a1 s1 r1 => ⟨ρ1, G1, _, a1, h1, fun y ρ2 v2 G2 H2 h2 a2 s2 r2 => ?_⟩⟩
  obtain ⟨d, l1, h2⟩ := withD.to h2
  obtain ⟨e, l2, h2⟩ := withD.to h2
  refine i _ _ _ _ ⟨G2, d, e, _, a2.sub, a2.isx (r1.mono s2) l1, a2.isx r2 l2, h2, fun ds xs hk r p hp => ?_⟩
  obtain ⟨a3, g0, h0, hno⟩ := a2.fresh (o := .lst xs) hp
  exact fin _ _ p _ _ hk a3 (s1.trans s2) g0 h0 (.inl ⟨xs, ds, rfl, upd_same, r⟩) hno
theorem df_cat {ta tb : TB} (ha : DB X Γ a ta) (hb : DB X Γ b tb) : DF X Γ (.BinOp a .Add b pos) (dBin addL ta tb) := by
  refine df_bin op_cat ha hb ?_
  rintro x y H Q ⟨G, d, e, k, s, hx, hy, h, fin⟩
  cases d with
  | list xs =>
    cases e with
    | list ys =>
      obtain ⟨p, us, rfl, h1, h2⟩ := hx.list s
      obtain ⟨q, ws, rfl, h3, h4⟩ := hy.list s
      exact ⟨p, q, us, ws, rfl, rfl, h1, h3, line_le (by rw [h2.length, h4.length]; exact h.1), fun p hp => fin _ _ h.2 (h2.append h4) p hp⟩
    | _ => exact (show False from h).elim
  | _ => exact (show False from h).elim
def repL : Op2
  | .list xs, .int n, Q => (-(2 ^ 63) ≤ n ∧ n < 2 ^ 63 ∧ xs.length * n.toNat ≤ 16777216) ∧ Q (.list (List.replicate n.toNat xs).flatten)
  | _, _, _ => False
theorem IsAll.rep {K : PySem.W.Frag} {G : Hp} {xs : List V} {ds : List D} (h : IsAll K G xs ds) : ∀ n : Nat, IsAll K G (List.replicate n xs).flatten (List.replicate n ds).flatten
  | 0 => .nil
  | n + 1 => by
    rw [List.replicate_succ, List.replicate_succ, List.flatten_cons, List.flatten_cons]
    exact h.append (IsAll.rep h n)
theorem df_rep {ta tb : TB} (ha : DB X Γ a ta) (hb : DB X Γ b tb) : DF X Γ (.BinOp a .Mult b pos) (dBin repL ta tb) := by
  refine df_bin op_rep ha hb ?_
  rintro x y H Q ⟨G, d, e, k, s, hx, hy, h, fin⟩
  cases d with
  | list xs =>
    cases e with
    | int n =>
      obtain ⟨p, us, rfl, h1, h2⟩ := hx.list s
      exact ⟨p, n, us, rfl, hy.int, h1, h.1.1, h.1.2.1, line_le (by rw [h2.length]; exact h.1.2.2), fun p hp => fin _ _ h.2 (h2.rep _) p hp⟩
    | _ => exact (show False from h).elim
  | _ => exact (show False from h).elim
end
theorem cdv_lt {j : Int} {a : Nat} (h : j ≠ 0) (hj : j.natAbs < 2 ^ a) (ha : a ≤ 9000 := by decide) : CDV j := ⟨h, Nat.lt_of_lt_of_le hj (Nat.pow_le_pow_right (by decide) ha)⟩
theorem cm_lt {i j : Int} {a b : Nat} (h : i.natAbs < 2 ^ a) (hj : j.natAbs < 2 ^ b) (hab : a + b ≤ 1000000 := by decide) : CM i j := .inl ⟨_, _, h, hj, hab⟩
theorem cm_r {i j : Int} (h : -(2 ^ 64) < j ∧ j < 2 ^ 64 := by decide) : CM i j := .inr (.inr h)
theorem cm_l {i j : Int} (h : -(2 ^ 64) < i ∧ i < 2 ^ 64 := by decide) : CM i j := .inr (.inl h)
theorem cut_from {α : Type} (xs : List α) (i : Nat) : cutD xs (some (i : Int)) none = xs.drop i := by
  unfold cutD
  rw [HT.sIx_nat, HT.sIx_none]
  apply List.ext_getElem?
  intro j
  rw [List.getElem?_take, List.getElem?_drop, List.getElem?_drop]
  split
  · rw [Nat.min_def]; split
    · rfl
    · rw [List.getElem?_eq_none (by omega), List.getElem?_eq_none (by omega)]
  · rw [List.getElem?_eq_none (by omega)]
theorem cut_to {α : Type} (xs : List α) (i : Nat) : cutD xs none (some (i : Int)) = xs.take i := by
  unfold cutD
  rw [HT.sIx_nat, HT.sIx_none, List.drop_zero, Nat.sub_zero]
  apply List.ext_getElem?
  intro j
  rw [List.getElem?_take, List.getElem?_take]
  split <;> split
  · rfl
  · omega
  · rw [List.getElem?_eq_none (by omega)]
  · rfl
theorem cut_mid {α : Type} (xs : List α) (i k : Nat) : cutD xs (some (i : Int)) (some (k : Int)) = (xs.take k).drop i := by
  unfold cutD
  rw [HT.sIx_nat, HT.sIx_nat]
  apply List.ext_getElem?
  intro j
  rw [List.getElem?_take, List.getElem?_drop, List.getElem?_drop, List.getElem?_take]
  split <;> split
  · rw [show min i xs.length + j = i + j by omega]
  · rw [List.getElem?_eq_none (by omega)]
  · rw [List.getElem?_eq_none (by omega)]
  · rfl
theorem cut_tail {α : Type} (x : α) (xs : List α) : cutD (x :: xs) (some 1) none = xs := cut_from (x :: xs) 1
theorem at_nat {α : Type} (xs : List α) (i : Nat) : L2.atI xs (i : Int) = xs[i]? := by
  unfold L2.atI ixN
  rw [if_pos (by omega)]
  by_cases h : (i : Int) < xs.length
  · rw [if_pos h]; rfl
  · rw [if_neg h, List.getElem?_eq_none (by omega)]; rfl
theorem at_neg {α : Type} (xs : List α) (i : Nat) (h : i < xs.length) : L2.atI xs (-((i + 1 : Nat) : Int)) = xs[xs.length - (i + 1)]? := by
  unfold L2.atI ixN
  rw [if_neg (by omega), if_pos (by omega)]
  show xs[((-((i + 1 : Nat) : Int)) + (xs.length : Int)).toNat]? = _
  rw [show ((-((i + 1 : Nat) : Int)) + (xs.length : Int)).toNat = xs.length - (i + 1) by omega]
theorem at_0 {α : Type} (x : α) (xs : List α) : L2.atI (x :: xs) 0 = some x := at_nat (x :: xs) 0
theorem at_1 {α : Type} (x y : α) (xs : List α) : L2.atI (x :: y :: xs) 1 = some y := at_nat (x :: y :: xs) 1
end Dn
/-! Dn: the law itself, and what the end asks. -/
namespace Dn
open PySem PySem.Spec PyProof.Rows L2
section
variable {P : Program} {w : World} {K : PySem.W.Frag} {mg : Str → Option Value} {base : Heap}
def spLawD (K : PySem.W.Frag) : Sp := fun vs H Q _ => ∃ (a : Addr) (ns : List Int), vs = [.ref a] ∧ SqL K H a (ns.map V.int) ∧ ns.length ≤ 63 ∧ ∀ H', Q (.bl true) H'
abbrev cxL (P : Program) (w : World) (K : PySem.W.Frag) (mg : Str → Option Value) (base : Heap) (N : List Str) (qual : Str) (st : Stmt) (f : Addr) (cdv : Value) (A : Around) (outer : List Env) (s : Shared) (H : Hp) (E : XK) : Cx := (cxOf CX0 P w K mg base N qual (defScope st) f cdv A outer s H E).nox
def lawR (n : Nat) (ns : List Int) : Ro := .seq (ns.map .int) :: List.replicate (n - 1) .non
theorem at_law {N : List Str} {ns : List Int} {a : Addr} {H : Hp} (h : SqL K H a (ns.map V.int)) : At K ⟨H, H, H, [], fun _ => 0, fun _ _ => False⟩ (lawR N.length ns) (L2.start N [.ref a]) H H where
  len := by
    unfold lawR L2.start
    rw [List.length_append, List.length_map, List.length_replicate, List.length_cons, List.length_cons, List.length_replicate]
    simp; omega
  sl := fun i sl o e1 e2 => by
    unfold lawR at e1
    unfold L2.start at e2
    cases i with
    | zero =>
      rw [List.getElem?_cons_zero] at e1
      rw [List.map_cons, List.cons_append, List.getElem?_cons_zero] at e2
      cases e1; cases e2
      exact ⟨a, _, rfl, h, IsAll.of_ints ns⟩
    | succ i =>
      rw [List.getElem?_cons_succ, List.getElem?_replicate] at e1
      split at e1
      · cases e1; exact True.intro
      · cases e1
  sep := fun i j di dj p e1 _ _ _ => by
    unfold lawR at e1
    cases i with
    | zero => cases e1
    | succ i =>
      rw [List.getElem?_cons_succ, List.getElem?_replicate] at e1
      split at e1 <;> cases e1
  sub := Same.refl _
  old := fun _ _ => rfl
  kept := Same.refl _
  inh := fun i hi => nomatch hi
  bas := Same.refl _
theorem law_ok {x qual : Str} {st : Stmt} {f : Addr} {fd : FuncData} {N : List Str} {k : Nat} (F : Fun K x qual st f fd) (S : FnScope N ["script"] (defScope st)) (bl : ∀ x : Str, bnames.contains x = true → mg x = none)
    (body : ∀ (cdv : Value) (A : Around) (outer : List Env) (s : Shared) (H : Hp) (E : XK) (ns : List Int), ns.length ≤ 63 → Cok k (cxL P w K mg base N qual st f cdv A outer s H E) ⟨H, H, H, [], fun _ => 0, fun _ _ => False⟩ →
      Takes (cxL P w K mg base N qual st f cdv A outer s H E) (liftW K ⟨H, H, H, [], fun _ => 0, fun _ _ => False⟩) →
      ∃ T, DSs (cxL P w K mg base N qual st f cdv A outer s H E) ⟨H, H, H, [], fun _ => 0, fun _ _ => False⟩ (defBody st) T ∧ T { nx := fun _ => False, rt := fun d _ => d = .bool true } (lawR N.length ns)) : FnOk P w K mg base CX0 (k + 1) f fd ["script"] (spLawD K) := by
  refine F.ok S (fun vs H Q E ⟨a, ns, e, _⟩ => by rw [e]; rfl) (fun cdv A outer s H vs Q E hr hsp => ?_)
  obtain ⟨a, ns, rfl, hS, hl, hq⟩ := hsp
  have tk : Takes (cxL P w K mg base N qual st f cdv A outer s H E) (liftW K ⟨H, H, H, [], fun _ => 0, fun _ _ => False⟩) := by
    refine takes0.imp ?_
    rintro cls d σ' H' ⟨ρ', G', ex, a', xi, hw⟩
    exact hw
  obtain ⟨T, h1, h2⟩ := body cdv A outer s H E ns hl ⟨rfl, S.nd, hr, Same.refl _, PassesOwn.never, bl, fun σ => passAt tk σ⟩ tk
  refine ⟨_, h1.ps, _, H, _, at_law hS, ⟨?_, ?_, ?_, ?_⟩, h2⟩
  · intro ρ' σ' G' H' a' s' q
    exact q.elim
  · intro d v ρ' σ' G' H' a' s' i q
    cases q
    cases i
    exact hq _
  · intro ρ' σ' G' H' a' s' q
    exact q.elim
  · intro ρ' σ' G' H' a' s' q
    exact q.elim
end
/-- does «except C» take one of the class at S? -/
theorem exm_by {K : PySem.W.Frag} {S C : Addr} {b : Bool} (h1 : PySem.W.subIn K (.ref C) (.type "BaseException") = some true) (h2 : PySem.W.isClsIn K C = true) (h3 : PySem.W.typeIn K (.ref C) = some (.type "type")) (h4 : PySem.W.subIn K (.ref S) (.ref C) = some b) :
    PySem.W.exmOne K (.ref S) (.ref C) = some b := by
  unfold PySem.W.exmOne PySem.W.kitCls
  have h2' : (PySem.W.clsIn K C).isSome = true := h2
  simp [h1, h2', h3, h4]
/-- a place to rest: N holds behind the statement -/
def sCut (t : TDS) : TDS := fun R ρ => ∃ N : Ro → Prop, t { R with nx := N } ρ ∧ ∀ ρ', N ρ' → R.nx ρ'
theorem ds_cut {X : Cx} {Γ : Gm} {st : Stmt} {t : TDS} (h : DS X Γ st t) : DS X Γ st (sCut t) := by
  refine ⟨ps_imp h.ps ?_⟩
  rintro E σ H ⟨ρ, G, R, at_, ok, N, h1, h2⟩
  exact ⟨ρ, G, { R with nx := N }, at_, ⟨fun ρ' σ' G' H' a' s' q => ok.nx _ _ _ _ a' s' (h2 _ q), ok.rt, ok.bk, ok.ct⟩, h1⟩
theorem walkD {l : PySem.W.OpenLaw} {q : Program} {loose : List Str} {XP : (Str → Option Value) → Heap → Prop} {YP : World → Heap → Prop} {d : DefRec} {K : Params → PySem.W.Frag} {k : Nat} (hk : Room k callerA) (hn : l.most = some 63) (hdf : d.params.defaults = [])
    (hY : ∀ (w : World) (h : Heap), YP w h → (K w.params).In h)
    (F : ∀ (w : World) (mg : Str → Option Value) (fa : Addr) (h : Heap), (K w.params).In h → h.Ns mainGlobals mg → mg d.name = some (.ref fa) →
      ∃ fd : FuncData, (∀ (s : Shared) (u : Value), BindsTo s fd ⟨[u], []⟩ [("script", u)]) ∧ ∀ base : Heap, (K w.params).In base → base.Ns mainGlobals mg → FnOk l.prog w (K w.params) mg base CX0 k fa fd ["script"] (spLawD (K w.params))) :
    PySem.W.WalkO q loose XP YP l.row.toRowW d [] (fun f vs => PySem.call f vs) :=
  L2.walk_of (n := 63) (k := k) (x := "script") (CX := fun _ => CX0) (sp := fun w => spLawD (K w.params)) hn (by decide) hdf hk hY F (fun _ _ a ns hl _ hS => ⟨a, ns, rfl, hS, hl, fun _ => rfl⟩) fun _ _ _ _ _ z => z
theorem names_free {mg : Str → Option Value} (h : ∀ x ∈ bnames, mg x = none) : ∀ x : Str, bnames.contains x = true → mg x = none := fun x hx => h x (List.contains_iff_mem.mp hx)
end Dn
namespace K00
open PySem PySem.Spec PyProof.Rows L2 Dn
local macro_rules | `(tactic| walk_at "r") => `(tactic| ((conv => whnf); (repeat (refine ⟨rfl, rfl, ?_⟩; (conv => whnf)))))
def topS (i : Nat) : Stmt := PySem.Challenge.pw_linesfitted_k00_fractions_by_the_rules_o.main.body.getD i (.Pass ⟨0, 0, 0, 0⟩)
/-! ### fractions -/
def Bd (n : Nat) (q : Rat) : Prop := q.num.natAbs < 2 ^ n ∧ q.den < 2 ^ n
theorem Bd.mono {m n : Nat} {q : Rat} (h : Bd m q) (hn : m ≤ n) : Bd n q :=
  have e := Nat.pow_le_pow_right (show 0 < 2 by decide) hn
  ⟨Nat.lt_of_lt_of_le h.1 e, Nat.lt_of_lt_of_le h.2 e⟩
theorem bd_divInt {a : Nat} {n d : Int} (h : d ≠ 0) (hn : n.natAbs < 2 ^ a) (hd : d.natAbs < 2 ^ a) : Bd a (Rat.divInt n d) := by
  refine ⟨?_, ?_⟩
  · rw [Rat.num_divInt n d]
    have e : (d.sign * n / (d.gcd n : Int)).natAbs ≤ (d.sign * n).natAbs := by
      rw [Int.natAbs_ediv_of_dvd]
      · exact Nat.div_le_self _ _
      · exact Int.dvd_mul_of_dvd_right (Int.gcd_dvd_right ..)
    have e2 : (d.sign * n).natAbs = n.natAbs := by
      rw [Int.natAbs_mul, Int.natAbs_sign_of_ne_zero h, Nat.one_mul]
    omega
  · rw [Rat.den_divInt, if_neg h]
    exact Nat.lt_of_le_of_lt (Nat.div_le_self _ _) hd
theorem den_ne (x : Rat) : (x.den : Int) ≠ 0 := by have := x.den_nz; omega
theorem add_eq (x y : Rat) : x + y = Rat.divInt (x.num * y.den + y.num * x.den) (x.den * y.den) := by
  rw [← Rat.divInt_add_divInt _ _ (den_ne x) (den_ne y), Rat.num_divInt_den, Rat.num_divInt_den]
theorem sub_eq (x y : Rat) : x - y = Rat.divInt (x.num * y.den - y.num * x.den) (x.den * y.den) := by
  rw [← Rat.divInt_sub_divInt _ _ (den_ne x) (den_ne y), Rat.num_divInt_den, Rat.num_divInt_den]
theorem mul_eq (x y : Rat) : x * y = Rat.divInt (x.num * y.num) (x.den * y.den) := by
  rw [← Rat.divInt_mul_divInt, Rat.num_divInt_den, Rat.num_divInt_den]
theorem div_eq (x y : Rat) : x / y = Rat.divInt (x.num * y.den) (x.den * y.num) := by
  rw [Rat.div_def, Rat.inv_def, ← Rat.divInt_mul_divInt, Rat.num_divInt_den]
theorem pow_mul_lt {a b : Nat} {i j : Nat} (h : i < 2 ^ a) (k : j < 2 ^ b) : i * j < 2 ^ (a + b) := by
  rw [Nat.pow_add]
  exact Nat.mul_lt_mul'' h k
theorem nat_mul_lt {a b : Nat} {i j : Int} (h : i.natAbs < 2 ^ a) (k : j.natAbs < 2 ^ b) : (i * j).natAbs < 2 ^ (a + b) := by
  rw [Int.natAbs_mul]
  exact pow_mul_lt h k
theorem nat_add_lt {a : Nat} {i j : Int} (h : i.natAbs < 2 ^ a) (k : j.natAbs < 2 ^ a) : (i + j).natAbs < 2 ^ (a + 1) := by
  have := Int.natAbs_add_le i j
  rw [Nat.pow_succ]
  omega
theorem nat_sub_lt {a : Nat} {i j : Int} (h : i.natAbs < 2 ^ a) (k : j.natAbs < 2 ^ a) : (i - j).natAbs < 2 ^ (a + 1) := by
  have := Int.natAbs_sub_le i j
  rw [Nat.pow_succ]
  omega
theorem Bd.den {n : Nat} {q : Rat} (h : Bd n q) : (q.den : Int).natAbs < 2 ^ n := by rw [Int.natAbs_natCast]; exact h.2
theorem den_mul_ne (x y : Rat) : (x.den : Int) * y.den ≠ 0 := Int.mul_ne_zero (den_ne x) (den_ne y)
theorem lt_pow_mono {a b : Nat} {i : Nat} (h : i < 2 ^ a) (hab : a ≤ b) : i < 2 ^ b := Nat.lt_of_lt_of_le h (Nat.pow_le_pow_right (by decide) hab)
theorem bd_add {a b : Nat} {x y : Rat} (h : Bd a x) (k : Bd b y) : Bd (a + b + 1) (x + y) := by
  rw [add_eq]
  refine bd_divInt (den_mul_ne x y) (nat_add_lt (nat_mul_lt h.1 k.den) ?_) (lt_pow_mono (nat_mul_lt h.den k.den) (by omega))
  rw [Nat.add_comm a b]
  exact nat_mul_lt k.1 h.den
theorem bd_mul {a b : Nat} {x y : Rat} (h : Bd a x) (k : Bd b y) : Bd (a + b) (x * y) := by
  rw [mul_eq]
  exact bd_divInt (den_mul_ne x y) (nat_mul_lt h.1 k.1) (nat_mul_lt h.den k.den)
theorem bd_neg {a : Nat} {x : Rat} (h : Bd a x) : Bd a (-x) := by
  refine ⟨?_, ?_⟩
  · rw [Rat.neg_num, Int.natAbs_neg]; exact h.1
  · rw [Rat.neg_den]; exact h.2
def encQ (q : Rat) : D := .tuple [.int q.num, .int q.den]
theorem dep_encQ (n : Nat) (q : Rat) : dep (n + 1) (encQ q) = true := by cases n <;> rfl
theorem eqv_encQ (p q : Rat) : PyData.eqv (encQ p) (encQ q) = decide (p = q) := by
  have e : PyData.eqv (encQ p) (encQ q) = ((p.num == q.num) && (((p.den : Int) == (q.den : Int)) && true)) := by simp only [encQ, PyData.eqv, PyData.eqvAll]
  rw [e]
  by_cases h : p = q
  · subst h; simp
  · rw [decide_eq_false h]
    by_cases h1 : p.num = q.num
    · by_cases h2 : p.den = q.den
      · exact absurd (Rat.ext h1 h2) h
      · have : ((p.den : Int) == (q.den : Int)) = false := beq_eq_false_iff_ne.mpr (by omega)
        rw [this, Bool.false_and, Bool.and_false]
    · rw [beq_eq_false_iff_ne.mpr h1, Bool.false_and]
/-! ### contracts -/
def oI : Option Int → D
  | none => .none
  | some i => .int i
def geO (lo : Option Int) (i : Int) : Bool := match lo with
  | none => true
  | some l => decide (l ≤ i)
def leO (hi : Option Int) (i : Int) : Bool := match hi with
  | none => true
  | some l => decide (i ≤ l)
def isInt (v : D) (lo hi : Option Int) : Bool := match v with
  | .int i => geO lo i && leO hi i
  | _ => false
theorem isInt_int (i : Int) (lo hi : Option Int) : isInt (.int i) lo hi = (geO lo i && leO hi i) := rfl
theorem geO_some (l i : Int) : geO (some l) i = decide (l ≤ i) := rfl
theorem leO_some (l i : Int) : leO (some l) i = decide (i ≤ l) := rfl
theorem geO_none (i : Int) : geO none i = true := rfl
theorem leO_none (i : Int) : leO none i = true := rfl
def c_is_integer : DC := fun ds Q _ => ∃ v lo hi, ds = [v, oI lo, oI hi] ∧ Q (.bool (isInt v lo hi))
theorem len_is_integer : ∀ ds kq ke, c_is_integer ds kq ke → ds.length = 3 := by rintro _ _ _ ⟨v, lo, hi, rfl, _⟩; rfl
def c_common_divisor : DC := fun ds Q _ => ∃ a b : Int, ds = [.int a, .int b] ∧ Q (.int (a.gcd b : Nat))
theorem len_common_divisor : ∀ ds kq ke, c_common_divisor ds kq ke → ds.length = 2 := by rintro _ _ _ ⟨a, b, rfl, _⟩; rfl
def c_power : DC := fun ds Q _ => ∃ (b : Int) (e : Nat), ds = [.int b, .int e] ∧ b.natAbs < 2 ^ 8 ∧ e ≤ 64 ∧ Q (.int (b ^ e))
theorem len_power : ∀ ds kq ke, c_power ds kq ke → ds.length = 2 := by rintro _ _ _ ⟨a, b, rfl, _⟩; rfl
def c_fraction (C : Addr) : DC := fun ds Q E => ∃ n d : Int, ds = [.int n, .int d] ∧ n.natAbs < 2 ^ 3000 ∧ d.natAbs < 2 ^ 3000 ∧ (d = 0 → E (.plain C)) ∧ (d ≠ 0 → Q (encQ (Rat.divInt n d)))
theorem len_fraction {C : Addr} : ∀ ds kq ke, c_fraction C ds kq ke → ds.length = 2 := by rintro _ _ _ ⟨a, b, rfl, _⟩; rfl
def c_whole : DC := fun ds Q _ => ∃ n : Int, ds = [.int n] ∧ Q (.tuple [.int n, .int 1])
theorem len_whole : ∀ ds kq ke, c_whole ds kq ke → ds.length = 1 := by rintro _ _ _ ⟨a, rfl, _⟩; rfl
def isFr2 (x y : D) : Bool := match x, y with
  | .int a, .int b => decide (1 ≤ b) && (((a.gcd b : Nat) : Int) == 1)
  | _, _ => false
def isFr (v : D) : Bool := match v with
  | .tuple [x, y] => isFr2 x y
  | _ => false
def c_is_fraction : DC := fun ds Q _ => ∃ v, ds = [v] ∧ Q (.bool (isFr v))
theorem len_is_fraction : ∀ ds kq ke, c_is_fraction ds kq ke → ds.length = 1 := by rintro _ _ _ ⟨a, rfl, _⟩; rfl
def c2 (g : Rat → Rat → (D → Prop) → Prop) : DC := fun ds Q _ => ∃ x y, ds = [encQ x, encQ y] ∧ Bd 1000 x ∧ Bd 1000 y ∧ g x y Q
theorem len_c2 {g : Rat → Rat → (D → Prop) → Prop} : ∀ ds kq ke, c2 g ds kq ke → ds.length = 2 := by rintro _ _ _ ⟨x, y, rfl, _⟩; rfl
abbrev c_plus : DC := c2 fun x y Q => Q (encQ (x + y))
abbrev c_minus : DC := c2 fun x y Q => Q (encQ (x - y))
abbrev c_times : DC := c2 fun x y Q => Q (encQ (x * y))
abbrev c_is_less : DC := c2 fun x y Q => Q (.bool (decide (x < y)))
abbrev len_plus := @len_c2 fun x y Q => Q (encQ (x + y))
abbrev len_minus := @len_c2 fun x y Q => Q (encQ (x - y))
abbrev len_times := @len_c2 fun x y Q => Q (encQ (x * y))
abbrev len_is_less := @len_c2 fun x y Q => Q (.bool (decide (x < y)))
def c_over (C : Addr) : DC := fun ds Q E => ∃ x y, ds = [encQ x, encQ y] ∧ Bd 1000 x ∧ Bd 1000 y ∧ (y = 0 → E (.plain C)) ∧ (y ≠ 0 → Q (encQ (x / y)))
theorem len_over {C : Addr} : ∀ ds kq ke, c_over C ds kq ke → ds.length = 2 := by rintro _ _ _ ⟨x, y, rfl, _⟩; rfl
def c1 (g : Rat → (D → Prop) → Prop) : DC := fun ds Q _ => ∃ x, ds = [encQ x] ∧ Bd 1000 x ∧ g x Q
theorem len_c1 {g : Rat → (D → Prop) → Prop} : ∀ ds kq ke, c1 g ds kq ke → ds.length = 1 := by rintro _ _ _ ⟨x, rfl, _⟩; rfl
abbrev c_negative : DC := c1 fun x Q => Q (encQ (-x))
abbrev c_floor_of : DC := c1 fun x Q => Q (.int x.floor)
abbrev c_rounded_up : DC := c1 fun x Q => Q (.int x.ceil)
abbrev c_nearest : DC := c1 fun x Q => Q (.int (x + 1 / 2).floor)
abbrev len_negative := @len_c1 fun x Q => Q (encQ (-x))
abbrev len_floor_of := @len_c1 fun x Q => Q (.int x.floor)
abbrev len_rounded_up := @len_c1 fun x Q => Q (.int x.ceil)
abbrev len_nearest := @len_c1 fun x Q => Q (.int (x + 1 / 2).floor)
def encL (b : Bool) (qs : List Rat) : D := if b then .list (qs.map encQ) else .tuple (qs.map encQ)
def c_sum_of : DC := fun ds Q _ => ∃ b qs, ds = [encL b qs] ∧ qs.length ≤ 6 ∧ (∀ q ∈ qs, Bd 41 q) ∧ Q (encQ (qs.foldl (· + ·) 0))
theorem len_sum_of : ∀ ds kq ke, c_sum_of ds kq ke → ds.length = 1 := by rintro _ _ _ ⟨b, x, rfl, _⟩; rfl
def c_least_of : DC := fun ds Q _ => ∃ qs : List Rat, ds = [.list (qs.map encQ)] ∧ qs ≠ [] ∧ qs.length ≤ 6 ∧ (∀ q ∈ qs, Bd 41 q) ∧ ∀ m, m ∈ qs → (∀ q ∈ qs, m ≤ q) → Q (encQ m)
theorem len_least_of : ∀ ds kq ke, c_least_of ds kq ke → ds.length = 1 := by rintro _ _ _ ⟨x, rfl, _⟩; rfl
def c_greatest_of : DC := fun ds Q _ => ∃ qs : List Rat, ds = [.list (qs.map encQ)] ∧ qs ≠ [] ∧ qs.length ≤ 6 ∧ (∀ q ∈ qs, Bd 41 q) ∧ ∀ m, m ∈ qs → (∀ q ∈ qs, q ≤ m) → Q (encQ m)
theorem len_greatest_of : ∀ ds kq ke, c_greatest_of ds kq ke → ds.length = 1 := by rintro _ _ _ ⟨x, rfl, _⟩; rfl
section
variable {P : Program} {w : World} {K : PySem.W.Frag} {mg : Str → Option Value} {base : Heap}
abbrev s_is_integer : Stmt := topS 4
theorem sc_is_integer : FnScope ["value", "low", "high"] ["value", "low", "high"] (defScope s_is_integer) := ⟨rfl, rfl, rfl, by decide +kernel, rfl, by decide +kernel, by decide +kernel⟩
theorem ok_is_integer {f : Addr} {fd : FuncData} (F : Fun K "is_integer" "is_integer" s_is_integer f fd) (hm : mg "is_integer" = some (.ref f)) (hb : Binds K fd ["value", "low", "high"] []) (bl : ∀ x : Str, bnames.contains x = true → mg x = none) : Pf P w K mg base 1 "is_integer" 3 c_is_integer := by
  refine pf_of (k := 0) F sc_is_integer rfl hm hb bl (len_is_integer) fun cdv A outer s H G E ds kq ke hc c tk => ?_
  refine ⟨_, (dss_cons (ds_if (dw_or (dt_not (dt_tru (de_isi (T := .int) c (db_var 0) boot_int).toB)) (dw_or1 (dt_tru (de_isi (T := .bool) c (db_var 0) boot_bool).toB))).t (dss_one (ds_ret de_bl)) dss_nil)
      (dss_one (ds_ret (de_and (de_or (de_cmp od_is (db_var 1) de_non.toB) (de_one (de_cmp od_ge (db_var 0) (db_var 1)))) (de_one (de_or (de_cmp od_is (db_var 2) de_non.toB) (de_one (de_cmp od_le (db_var 0) (db_var 2))))))))), ?_⟩
  obtain ⟨v, lo, hi, rfl, hq⟩ := hc
  cases v with
  | int i =>
    cases lo with
    | none =>
      cases hi with
      | none => walk_at "r"; exact hq
      | some h => walk_at "r"; exact hq
    | some l =>
      cases hi with
      | none =>
        rw [isInt_int, geO_some, leO_none, Bool.and_true] at hq
        walk_at "r"
        refine brn.of (fun h => ?_) fun h => ?_
        · walk_at "r"
          rw [show decide (l ≤ i) = true from h] at hq; exact hq
        · rw [show decide (l ≤ i) = false from h] at hq; exact hq
      | some h' =>
        rw [isInt_int, geO_some, leO_some] at hq
        walk_at "r"
        refine brn.of (fun h => ?_) fun h => ?_
        · walk_at "r"
          rw [show decide (l ≤ i) = true from h, Bool.true_and] at hq; exact hq
        · rw [show decide (l ≤ i) = false from h, Bool.false_and] at hq; exact hq
  | _ => walk_at "r"; exact hq
theorem fmod_lt (x y : Int) (h : y ≠ 0) : (x.fmod y).natAbs < y.natAbs := by
  rw [Int.fmod_eq_emod]
  have h1 := Int.emod_nonneg x h
  have h2 := Int.emod_lt x h
  by_cases hc : 0 ≤ y ∨ y ∣ x
  · rw [if_pos hc]; omega
  · rw [if_neg hc]
    have h3 : ¬ y ∣ x := fun z => hc (Or.inr z)
    have h4 : x % y ≠ 0 := fun z => h3 (Int.dvd_of_emod_eq_zero z)
    omega
theorem pow_bd {b : Int} (h : b.natAbs < 2 ^ 8) (i : Nat) : (b ^ i).natAbs < 2 ^ (8 * i + 1) := by
  rw [Int.natAbs_pow, Nat.pow_succ, Nat.pow_mul]
  have := Nat.pow_le_pow_left (Nat.le_of_lt h) i
  have := Nat.pow_pos (n := i) (show 0 < 2 ^ 8 by decide)
  omega
theorem pow_cm {b : Int} (h : b.natAbs < 2 ^ 8) {i j : Nat} (hi : i ≤ 64) (hj : j ≤ 64) : CM (b ^ i) (b ^ j) := .inl ⟨_, _, pow_bd h i, pow_bd h j, by omega⟩
theorem fmod_gcd (x y : Int) : y.gcd (x.fmod y) = x.gcd y := by
  rw [Int.fmod_def, Int.gcd_comm x y, Int.sub_eq_add_neg, ← Int.mul_neg]
  exact Int.gcd_add_mul_left_right ..
abbrev s_common_divisor : Stmt := topS 5
theorem sc_common_divisor : FnScope ["one", "two"] ["one", "two"] (defScope s_common_divisor) := ⟨rfl, rfl, rfl, by decide +kernel, rfl, by decide +kernel, by decide +kernel⟩
theorem ok_common_divisor {f : Addr} {fd : FuncData} (F : Fun K "common_divisor" "common_divisor" s_common_divisor f fd) (hm : mg "common_divisor" = some (.ref f)) (hb : Binds K fd ["one", "two"] []) (bl : ∀ x : Str, bnames.contains x = true → mg x = none) : Pf P w K mg base 1 "common_divisor" 2 c_common_divisor := by
  refine pf_of (k := 0) F sc_common_divisor rfl hm hb bl (len_common_divisor) fun cdv A outer s H G E ds kq ke hc c tk => ?_
  refine ⟨_, (dss_cons (ds_while c (dt_tru (db_var 1)) (dss_one (ds_par (i := 0) (j := 1) c rfl rfl (by decide) rfl rfl (da_cons (de_var 1) (da_cons (de_bin od_mod (db_var 0) (db_var 1)) da_nil)))))
      (dss_one (ds_ret (de_callB cd_abs (nb c) boot_abs (dbs_cons (db_var 0) dbs_nil))))), ?_⟩
  obtain ⟨a, b, rfl, hq⟩ := hc
  walk_at "r"
  refine ⟨fun m ρ => ∃ x y : Int, ρ = [.val (.int x), .val (.int y)] ∧ x.gcd y = a.gcd b ∧ m = y.natAbs, ⟨_, a, b, rfl, rfl, rfl⟩, ?_⟩
  rintro m ρ ⟨x, y, rfl, hg, rfl⟩
  walk_at "r"
  refine brn.of (fun h => ?_) fun h => ?_
  · have hy : y ≠ 0 := by simpa using h
    walk_at "r"
    refine ⟨hy, ?_⟩
    walk_at "r"
    exact ⟨(x.fmod y).natAbs, fmod_lt x y hy, y, x.fmod y, rfl, by rw [fmod_gcd]; exact hg, rfl⟩
  · have hy : y = 0 := by simpa using h
    subst hy
    walk_at "r"
    rw [← hg, Int.gcd_zero_right] at hq
    have e : (if x < 0 then -x else x) = (x.natAbs : Int) := by split <;> omega
    exact e ▸ hq
abbrev s_power : Stmt := topS 6
theorem sc_power : FnScope ["base", "exponent", "found", "here", "rest"] ["base", "exponent"] (defScope s_power) := ⟨rfl, rfl, rfl, by decide +kernel, rfl, by decide +kernel, by decide +kernel⟩
theorem ok_power {f : Addr} {fd : FuncData} (F : Fun K "power" "power" s_power f fd) (hm : mg "power" = some (.ref f)) (hb : Binds K fd ["base", "exponent"] []) (bl : ∀ x : Str, bnames.contains x = true → mg x = none) : Pf P w K mg base 1 "power" 2 c_power := by
  refine pf_of (k := 0) F sc_power rfl hm hb bl (len_power) fun cdv A outer s H G E ds kq ke hc c tk => ?_
  refine ⟨_, (dss_cons (ds_par3 (i := 2) (j := 3) (l := 4) c rfl rfl rfl (by decide) (by decide) (by decide) rfl rfl rfl (da_cons de_int (da_cons (de_var 0) (da_cons (de_var 1) da_nil))))
      (dss_cons (ds_while c (dt_tru (db_var 4)) (dss_cons (ds_if (dt_tru (de_bin od_mod (db_var 4) de_int.toB).toB) (dss_one (ds_aug (i := 2) c rfl (Or.inl rfl) od_imul (db_var 3))) dss_nil)
        (dss_cons (ds_aug (i := 4) c rfl (Or.inl rfl) od_ifdiv de_int.toB)
        (dss_one (ds_if (dt_tru (db_var 4)) (dss_one (ds_aug (i := 3) c rfl (Or.inl rfl) od_imul (db_var 3))) dss_nil)))))
      (dss_one (ds_ret (de_var 2))))), ?_⟩
  obtain ⟨b, e, rfl, hb', he, hq⟩ := hc
  walk_at "r"
  have hE : (startR 5 [.int b, .int e] : Ro) = [.val (.int b), .val (.int e), .non, .non, .non] := rfl
  refine ⟨fun m ρ => ∃ i j : Nat, ρ = [.val (.int b), .val (.int e), .val (.int (b ^ i)), .val (.int (b ^ j)), .val (.int m)] ∧ i + j * m = e ∧ (m ≠ 0 → j ≤ e), ⟨e, 0, 1, ?_, by omega, fun h => by omega⟩, ?_⟩
  · rw [Int.pow_zero, show (b ^ 1 : Int) = b by rw [Int.pow_succ, Int.pow_zero, Int.one_mul]]; rfl
  rintro m ρ ⟨i, j, rfl, h1, h2⟩
  walk_at "r"
  refine brn.of (fun h => ?_) fun h => ?_
  · have hm : m ≠ 0 := by simp at h; omega
    walk_at "r"
    refine ⟨by decide, ?_⟩
    walk_at "r"
    have e0 : (Int.fmod (m : Int) 2) = ((m % 2 : Nat) : Int) := by rw [Int.fmod_eq_emod_of_nonneg _ (by decide)]; rfl
    have e1 : (Int.fdiv (m : Int) 2) = ((m / 2 : Nat) : Int) := by rw [Int.fdiv_eq_ediv_of_nonneg _ (by decide)]; rfl
    have hj := h2 hm
    have hjm : j * m = j * (m % 2) + (j * 2) * (m / 2) := by
      rw [Nat.mul_assoc, ← Nat.mul_add, Nat.mod_add_div]
    have hi : i ≤ e := by omega
    refine brn.of (fun h => ?_) fun h => ?_
    · have hm2 : m % 2 = 1 := by rw [e0] at h; simp at h; omega
      walk_at "r"
      refine ⟨pow_cm hb' (by omega) (by omega), ?_⟩
      walk_at "r"
      refine ⟨cdv_lt (a := 2) (by decide) (by decide), ?_⟩
      walk_at "r"
      rw [← Int.pow_add]
      rw [hm2, Nat.mul_one] at hjm
      refine brn.of (fun h => ?_) fun h => ?_
      · have hm3 : m / 2 ≠ 0 := by rw [e1] at h; simp at h; omega
        have : j * 2 ≤ (j * 2) * (m / 2) := Nat.le_mul_of_pos_right _ (by omega)
        walk_at "r"
        refine ⟨pow_cm hb' (by omega) (by omega), ?_⟩
        walk_at "r"
        rw [← Int.pow_add]
        exact ⟨m / 2, by omega, i + j, j + j, by rw [← e1]; rfl, by rw [← Nat.mul_two]; omega, fun _ => by omega⟩
      · have hm3 : m / 2 = 0 := by rw [e1] at h; simp at h; omega
        walk_at "r"
        exact ⟨m / 2, by omega, i + j, j, by rw [← e1]; rfl, by rw [hm3]; rw [hm3] at hjm; omega, fun z => absurd hm3 z⟩
    · have hm2 : m % 2 = 0 := by rw [e0] at h; simp at h; omega
      walk_at "r"
      refine ⟨cdv_lt (a := 2) (by decide) (by decide), ?_⟩
      walk_at "r"
      rw [hm2, Nat.mul_zero, Nat.zero_add] at hjm
      refine brn.of (fun h => ?_) fun h => ?_
      · have hm3 : m / 2 ≠ 0 := by rw [e1] at h; simp at h; omega
        have : j * 2 ≤ (j * 2) * (m / 2) := Nat.le_mul_of_pos_right _ (by omega)
        walk_at "r"
        refine ⟨pow_cm hb' (by omega) (by omega), ?_⟩
        walk_at "r"
        rw [← Int.pow_add]
        exact ⟨m / 2, by omega, i, j + j, by rw [← e1]; rfl, by rw [← Nat.mul_two]; omega, fun _ => by omega⟩
      · have hm3 : m / 2 = 0 := by rw [e1] at h; simp at h; omega
        omega
  · have hm : m = 0 := by simp at h; omega
    subst hm
    walk_at "r"
    rw [Nat.mul_zero, Nat.add_zero] at h1
    rw [h1]
    exact hq
end
end K00
namespace K00
open PySem PySem.Spec PyProof.Rows L2 Dn
local macro_rules | `(tactic| walk_at "r") => `(tactic| ((conv => whnf); (repeat (refine ⟨rfl, rfl, ?_⟩; (conv => whnf)))))
section
variable {P : Program} {w : World} {K : PySem.W.Frag} {mg : Str → Option Value} {base : Heap}
theorem num_frac (n d : Int) (h : d < 0) : (Rat.divInt n d).num = n.fdiv (-(n.gcd d : Nat)) := by
  have h1 : (-(n.gcd d : Nat) : Int) ∣ n := Int.neg_dvd.mpr (Int.gcd_dvd_left ..)
  rw [Rat.num_divInt, Int.fdiv_eq_ediv_of_dvd h1, Int.sign_eq_neg_one_of_neg h, Int.gcd_comm d n, Int.ediv_neg, Int.neg_one_mul, Int.neg_ediv_of_dvd (Int.gcd_dvd_left ..)]
theorem num_frac' (n d : Int) (h : 0 < d) : (Rat.divInt n d).num = n.fdiv (n.gcd d : Nat) := by
  rw [Rat.num_divInt, Int.fdiv_eq_ediv_of_dvd (Int.gcd_dvd_left ..), Int.sign_eq_one_of_pos h, Int.gcd_comm d n, Int.one_mul]
theorem den_frac (n d : Int) (h : d < 0) : ((Rat.divInt n d).den : Int) = d.fdiv (-(n.gcd d : Nat)) := by
  have h1 : (-(n.gcd d : Nat) : Int) ∣ d := Int.neg_dvd.mpr (Int.gcd_dvd_right ..)
  rw [Rat.den_divInt, if_neg (by omega), Int.fdiv_eq_ediv_of_dvd h1, Int.gcd_comm d n, Int.ediv_neg, ← Int.neg_ediv_of_dvd (Int.gcd_dvd_right ..), Int.natCast_ediv]
  rw [show ((d.natAbs : Nat) : Int) = -d by omega]
theorem den_frac' (n d : Int) (h : 0 < d) : ((Rat.divInt n d).den : Int) = d.fdiv (n.gcd d : Nat) := by
  rw [Rat.den_divInt, if_neg (by omega), Int.fdiv_eq_ediv_of_dvd (Int.gcd_dvd_right ..), Int.gcd_comm d n, Int.natCast_ediv]
  rw [show ((d.natAbs : Nat) : Int) = d by omega]
abbrev s_fraction : Stmt := topS 7
theorem sc_fraction : FnScope ["over", "under", "common"] ["over", "under"] (defScope s_fraction) := ⟨rfl, rfl, rfl, by decide +kernel, rfl, by decide +kernel, by decide +kernel⟩
theorem ok_fraction {f : Addr} {fd : FuncData} (F : Fun K "fraction" "fraction" s_fraction f fd) (hm : mg "fraction" = some (.ref f)) (hb : Binds K fd ["over", "under"] []) (bl : ∀ x : Str, bnames.contains x = true → mg x = none) {C_NoSuch : Addr} (x_NoSuch : ExcF K mg "NoSuch" C_NoSuch) (p_common_divisor : Pf P w K mg base 1 "common_divisor" 2 c_common_divisor) : Pf P w K mg base 2 "fraction" 2 (c_fraction C_NoSuch) := by
  refine pf_of (k := 1) F sc_fraction rfl hm hb bl (len_fraction) fun cdv A outer s H G E ds kq ke hc c tk => ?_
  refine ⟨_, (dss_cons (ds_if (dt_cmp (od_eq c) (db_var 1) de_int.toB) (dss_one (ds_raise x_NoSuch c tk)) dss_nil)
      (dss_cons (ds_set (i := 2) c rfl (Or.inl rfl) (de_call p_common_divisor c (da_cons (de_var 0) (da_cons (de_var 1) da_nil))))
      (dss_cons (ds_if (dt_cmp od_lt (db_var 1) de_int.toB) (dss_one (ds_set (i := 2) c rfl (Or.inl rfl) (de_neg (db_var 2)))) dss_nil)
      (dss_one (ds_ret (de_tup (da_cons (de_bin od_fdiv (db_var 0) (db_var 2)) (da_cons (de_bin od_fdiv (db_var 1) (db_var 2)) da_nil)))))))), ?_⟩
  obtain ⟨n, d, rfl, hn, hd, hz, hq⟩ := hc
  walk_at "r"
  refine brn.of (fun h => ?_) fun h => ?_
  · walk_at "r"
    exact hz (by simpa [PyData.eqv] using h)
  · have h0 : d ≠ 0 := by simpa [PyData.eqv] using h
    have hg : n.gcd d ≠ 0 := fun z => h0 (Int.gcd_eq_zero_iff.mp z).2
    have hgd : n.gcd d < 2 ^ 3000 := Nat.lt_of_le_of_lt (Nat.le_of_dvd (by omega) (Int.gcd_dvd_natAbs_right ..)) hd
    walk_at "r"
    refine ⟨n, d, rfl, ?_⟩
    walk_at "r"
    refine brn.of (fun h => ?_) fun h => ?_
    · walk_at "r"
      refine ⟨cdv_lt (a := 3000) (by omega) (by omega), ?_⟩
      walk_at "r"
      refine ⟨cdv_lt (a := 3000) (by omega) (by omega), ?_⟩
      walk_at "r"
      have h' : d < 0 := by simpa using h
      have q := hq h0
      unfold encQ at q
      rw [num_frac _ _ h', den_frac _ _ h'] at q
      exact q
    · walk_at "r"
      refine ⟨cdv_lt (a := 3000) (by omega) (by omega), ?_⟩
      walk_at "r"
      refine ⟨cdv_lt (a := 3000) (by omega) (by omega), ?_⟩
      walk_at "r"
      have h' : 0 < d := by have : ¬ d < 0 := by simpa using h
                            omega
      have q := hq h0
      unfold encQ at q
      rw [num_frac' _ _ h', den_frac' _ _ h'] at q
      exact q
abbrev s_whole : Stmt := topS 8
theorem sc_whole : FnScope ["number"] ["number"] (defScope s_whole) := ⟨rfl, rfl, rfl, by decide +kernel, rfl, by decide +kernel, by decide +kernel⟩
theorem ok_whole {f : Addr} {fd : FuncData} (F : Fun K "whole" "whole" s_whole f fd) (hm : mg "whole" = some (.ref f)) (hb : Binds K fd ["number"] []) (bl : ∀ x : Str, bnames.contains x = true → mg x = none) : Pf P w K mg base 1 "whole" 1 c_whole := by
  refine pf_of (k := 0) F sc_whole rfl hm hb bl (len_whole) fun cdv A outer s H G E ds kq ke hc c tk => ?_
  refine ⟨_, (dss_one (ds_ret (de_tup (da_cons (de_var 0) (da_cons de_int da_nil))))), ?_⟩
  obtain ⟨n, rfl, hq⟩ := hc
  walk_at "r"
  exact hq
abbrev s_is_fraction : Stmt := topS 9
theorem sc_is_fraction : FnScope ["value"] ["value"] (defScope s_is_fraction) := ⟨rfl, rfl, rfl, by decide +kernel, rfl, by decide +kernel, by decide +kernel⟩
theorem ok_is_fraction {f : Addr} {fd : FuncData} (F : Fun K "is_fraction" "is_fraction" s_is_fraction f fd) (hm : mg "is_fraction" = some (.ref f)) (hb : Binds K fd ["value"] []) (bl : ∀ x : Str, bnames.contains x = true → mg x = none) (p_is_integer : Pf P w K mg base 1 "is_integer" 3 c_is_integer) (p_common_divisor : Pf P w K mg base 1 "common_divisor" 2 c_common_divisor) : Pf P w K mg base 2 "is_fraction" 1 c_is_fraction := by
  refine pf_of (k := 1) F sc_is_fraction rfl hm hb bl (len_is_fraction) fun cdv A outer s H G E ds kq ke hc c tk => ?_
  refine ⟨_, (dss_cons (ds_if (dw_or (dt_not (dt_tru (de_isi (T := .tuple) c (db_var 0) boot_tuple).toB)) (dw_or1 (dt_cmp (od_ne c) (de_callB cd_len (nb c) PySem.boot_len (dbs_cons (db_var 0) dbs_nil)).toB de_int.toB))).t (dss_one (ds_ret de_bl)) dss_nil)
      (dss_cons (ds_if (dw_or (dt_not (dt_tru (de_call p_is_integer c (da_cons (de_ix (db_var 0) de_int.toB) (da_cons de_non (da_cons de_non da_nil)))).toB)) (dw_or1 (dt_not (dt_tru (de_call p_is_integer c (da_cons (de_ix (db_var 0) de_int.toB) (da_cons de_int (da_cons de_non da_nil)))).toB)))).t (dss_one (ds_ret de_bl)) dss_nil)
      (dss_one (ds_ret (de_cmp (od_eq c) (de_call p_common_divisor c (da_cons (de_ix (db_var 0) de_int.toB) (da_cons (de_ix (db_var 0) de_int.toB) da_nil))).toB de_int.toB))))), ?_⟩
  obtain ⟨v, rfl, hq⟩ := hc
  cases v with
  | tuple xs =>
    cases xs with
    | nil => walk_at "r"; exact hq
    | cons x xs =>
      cases xs with
      | nil => walk_at "r"; exact hq
      | cons y xs =>
        cases xs with
        | nil => 
          have e : isFr (.tuple [x, y]) = isFr2 x y := rfl
          rw [e] at hq
          walk_at "r"
          refine ⟨x, none, none, rfl, ?_⟩
          cases x with
          | int a =>
            walk_at "r"
            refine ⟨y, some 1, none, rfl, ?_⟩
            cases y with
            | int b =>
              rw [isInt_int, geO_some, leO_none, Bool.and_true]
              walk_at "r"
              have e2 : isFr2 (.int a) (.int b) = (decide (1 ≤ b) && (((a.gcd b : Nat) : Int) == 1)) := rfl
              rw [e2] at hq
              refine brn.of (fun h => ?_) fun h => ?_
              · have h' : decide (1 ≤ b) = false := by simpa using h
                rw [h', Bool.false_and] at hq
                walk_at "r"
                exact hq
              · have h' : decide (1 ≤ b) = true := by simpa using h
                rw [h', Bool.true_and] at hq
                walk_at "r"
                refine ⟨a, b, rfl, ?_⟩
                walk_at "r"
                rw [show PyData.eqv (.int ((a.gcd b : Nat) : Int)) (.int 1) = (((a.gcd b : Nat) : Int) == 1) by simp [PyData.eqv]]
                exact hq
            | _ =>
              have e2 : ∀ d, isInt d (some 1) none = false → isFr2 (.int a) d = false → True := fun _ _ _ => trivial
              walk_at "r"
              exact hq
          | _ => walk_at "r"; exact hq
        | cons z xs =>
          walk_at "r"
          exact hq
  | _ => walk_at "r"; exact hq
theorem pr_neg {x : Rat} : (-x.num).natAbs = x.num.natAbs := Int.natAbs_neg ..
theorem cm_nd {a b : Nat} {x y : Rat} (h : Bd a x) (k : Bd b y) (hab : a + b ≤ 1000000 := by decide) : CM x.num y.den := cm_lt h.1 k.den hab
theorem cm_dd {a b : Nat} {x y : Rat} (h : Bd a x) (k : Bd b y) (hab : a + b ≤ 1000000 := by decide) : CM x.den y.den := cm_lt h.den k.den hab
theorem cm_nn {a b : Nat} {x y : Rat} (h : Bd a x) (k : Bd b y) (hab : a + b ≤ 1000000 := by decide) : CM x.num y.num := cm_lt h.1 k.1 hab
theorem cm_dn {a b : Nat} {x y : Rat} (h : Bd a x) (k : Bd b y) (hab : a + b ≤ 1000000 := by decide) : CM x.den y.num := cm_lt h.den k.1 hab
abbrev s_plus : Stmt := topS 10
theorem sc_plus : FnScope ["one", "two"] ["one", "two"] (defScope s_plus) := ⟨rfl, rfl, rfl, by decide +kernel, rfl, by decide +kernel, by decide +kernel⟩
theorem ok_plus {f : Addr} {fd : FuncData} (F : Fun K "plus" "plus" s_plus f fd) (hm : mg "plus" = some (.ref f)) (hb : Binds K fd ["one", "two"] []) (bl : ∀ x : Str, bnames.contains x = true → mg x = none) {C_NoSuch : Addr} (p_fraction : Pf P w K mg base 2 "fraction" 2 (c_fraction C_NoSuch)) : Pf P w K mg base 3 "plus" 2 c_plus := by
  refine pf_of (k := 2) F sc_plus rfl hm hb bl (len_plus) fun cdv A outer s H G E ds kq ke hc c tk => ?_
  refine ⟨_, (dss_one (ds_ret (de_call p_fraction c (da_cons (de_bin od_add (de_bin od_mul (de_ix (db_var 0) de_int.toB).toB (de_ix (db_var 1) de_int.toB).toB).toB (de_bin od_mul (de_ix (db_var 1) de_int.toB).toB (de_ix (db_var 0) de_int.toB).toB).toB) (da_cons (de_bin od_mul (de_ix (db_var 0) de_int.toB).toB (de_ix (db_var 1) de_int.toB).toB) da_nil))))), ?_⟩
  obtain ⟨x, y, rfl, hx, hy, hq⟩ := hc
  walk_at "r"
  refine ⟨cm_nd hx hy, ?_⟩
  walk_at "r"
  refine ⟨cm_nd hy hx, ?_⟩
  walk_at "r"
  refine ⟨cm_dd hx hy, ?_⟩
  walk_at "r"
  refine ⟨_, _, rfl, lt_pow_mono (nat_add_lt (nat_mul_lt hx.1 hy.den) (nat_mul_lt hy.1 hx.den)) (by decide), lt_pow_mono (nat_mul_lt hx.den hy.den) (by decide), fun z => absurd z (den_mul_ne x y), fun _ => ?_⟩
  rw [add_eq] at hq
  exact hq
abbrev s_minus : Stmt := topS 11
theorem sc_minus : FnScope ["one", "two"] ["one", "two"] (defScope s_minus) := ⟨rfl, rfl, rfl, by decide +kernel, rfl, by decide +kernel, by decide +kernel⟩
theorem ok_minus {f : Addr} {fd : FuncData} (F : Fun K "minus" "minus" s_minus f fd) (hm : mg "minus" = some (.ref f)) (hb : Binds K fd ["one", "two"] []) (bl : ∀ x : Str, bnames.contains x = true → mg x = none) {C_NoSuch : Addr} (p_fraction : Pf P w K mg base 2 "fraction" 2 (c_fraction C_NoSuch)) : Pf P w K mg base 3 "minus" 2 c_minus := by
  refine pf_of (k := 2) F sc_minus rfl hm hb bl (len_minus) fun cdv A outer s H G E ds kq ke hc c tk => ?_
  refine ⟨_, (dss_one (ds_ret (de_call p_fraction c (da_cons (de_bin od_sub (de_bin od_mul (de_ix (db_var 0) de_int.toB).toB (de_ix (db_var 1) de_int.toB).toB).toB (de_bin od_mul (de_ix (db_var 1) de_int.toB).toB (de_ix (db_var 0) de_int.toB).toB).toB) (da_cons (de_bin od_mul (de_ix (db_var 0) de_int.toB).toB (de_ix (db_var 1) de_int.toB).toB) da_nil))))), ?_⟩
  obtain ⟨x, y, rfl, hx, hy, hq⟩ := hc
  walk_at "r"
  refine ⟨cm_nd hx hy, ?_⟩
  walk_at "r"
  refine ⟨cm_nd hy hx, ?_⟩
  walk_at "r"
  refine ⟨cm_dd hx hy, ?_⟩
  walk_at "r"
  refine ⟨_, _, rfl, lt_pow_mono (nat_sub_lt (nat_mul_lt hx.1 hy.den) (nat_mul_lt hy.1 hx.den)) (by decide), lt_pow_mono (nat_mul_lt hx.den hy.den) (by decide), fun z => absurd z (den_mul_ne x y), fun _ => ?_⟩
  rw [sub_eq] at hq
  exact hq
abbrev s_times : Stmt := topS 12
theorem sc_times : FnScope ["one", "two"] ["one", "two"] (defScope s_times) := ⟨rfl, rfl, rfl, by decide +kernel, rfl, by decide +kernel, by decide +kernel⟩
theorem ok_times {f : Addr} {fd : FuncData} (F : Fun K "times" "times" s_times f fd) (hm : mg "times" = some (.ref f)) (hb : Binds K fd ["one", "two"] []) (bl : ∀ x : Str, bnames.contains x = true → mg x = none) {C_NoSuch : Addr} (p_fraction : Pf P w K mg base 2 "fraction" 2 (c_fraction C_NoSuch)) : Pf P w K mg base 3 "times" 2 c_times := by
  refine pf_of (k := 2) F sc_times rfl hm hb bl (len_times) fun cdv A outer s H G E ds kq ke hc c tk => ?_
  refine ⟨_, (dss_one (ds_ret (de_call p_fraction c (da_cons (de_bin od_mul (de_ix (db_var 0) de_int.toB).toB (de_ix (db_var 1) de_int.toB).toB) (da_cons (de_bin od_mul (de_ix (db_var 0) de_int.toB).toB (de_ix (db_var 1) de_int.toB).toB) da_nil))))), ?_⟩
  obtain ⟨x, y, rfl, hx, hy, hq⟩ := hc
  walk_at "r"
  refine ⟨cm_nn hx hy, ?_⟩
  walk_at "r"
  refine ⟨cm_dd hx hy, ?_⟩
  walk_at "r"
  refine ⟨_, _, rfl, lt_pow_mono (nat_mul_lt hx.1 hy.1) (by decide), lt_pow_mono (nat_mul_lt hx.den hy.den) (by decide), fun z => absurd z (den_mul_ne x y), fun _ => ?_⟩
  rw [mul_eq] at hq
  exact hq
theorem num_zero {y : Rat} : y.num = 0 ↔ y = 0 := Rat.num_eq_zero
abbrev s_over : Stmt := topS 13
theorem sc_over : FnScope ["one", "two"] ["one", "two"] (defScope s_over) := ⟨rfl, rfl, rfl, by decide +kernel, rfl, by decide +kernel, by decide +kernel⟩
theorem ok_over {f : Addr} {fd : FuncData} (F : Fun K "over" "over" s_over f fd) (hm : mg "over" = some (.ref f)) (hb : Binds K fd ["one", "two"] []) (bl : ∀ x : Str, bnames.contains x = true → mg x = none) {C_NoSuch : Addr} (p_fraction : Pf P w K mg base 2 "fraction" 2 (c_fraction C_NoSuch)) : Pf P w K mg base 3 "over" 2 (c_over C_NoSuch) := by
  refine pf_of (k := 2) F sc_over rfl hm hb bl (len_over) fun cdv A outer s H G E ds kq ke hc c tk => ?_
  refine ⟨_, (dss_one (ds_ret (de_call p_fraction c (da_cons (de_bin od_mul (de_ix (db_var 0) de_int.toB).toB (de_ix (db_var 1) de_int.toB).toB) (da_cons (de_bin od_mul (de_ix (db_var 0) de_int.toB).toB (de_ix (db_var 1) de_int.toB).toB) da_nil))))), ?_⟩
  obtain ⟨x, y, rfl, hx, hy, hz, hq⟩ := hc
  walk_at "r"
  refine ⟨cm_nd hx hy, ?_⟩
  walk_at "r"
  refine ⟨cm_dn hx hy, ?_⟩
  walk_at "r"
  refine ⟨_, _, rfl, lt_pow_mono (nat_mul_lt hx.1 hy.den) (by decide), lt_pow_mono (nat_mul_lt hx.den hy.1) (by decide), fun z => ?_, fun z => ?_⟩
  · exact hz (num_zero.mp ((Int.mul_eq_zero.mp z).resolve_left (den_ne x)))
  · have q := hq fun e => z (by rw [num_zero.mpr e, Int.mul_zero])
    rw [div_eq] at q
    exact q
abbrev s_negative : Stmt := topS 14
theorem sc_negative : FnScope ["one"] ["one"] (defScope s_negative) := ⟨rfl, rfl, rfl, by decide +kernel, rfl, by decide +kernel, by decide +kernel⟩
theorem ok_negative {f : Addr} {fd : FuncData} (F : Fun K "negative" "negative" s_negative f fd) (hm : mg "negative" = some (.ref f)) (hb : Binds K fd ["one"] []) (bl : ∀ x : Str, bnames.contains x = true → mg x = none) : Pf P w K mg base 1 "negative" 1 c_negative := by
  refine pf_of (k := 0) F sc_negative rfl hm hb bl (len_negative) fun cdv A outer s H G E ds kq ke hc c tk => ?_
  refine ⟨_, (dss_one (ds_ret (de_tup (da_cons (de_neg (de_ix (db_var 0) de_int.toB).toB) (da_cons (de_ix (db_var 0) de_int.toB) da_nil))))), ?_⟩
  obtain ⟨x, rfl, hx, hq⟩ := hc
  walk_at "r"
  unfold encQ at hq
  rw [Rat.neg_num, Rat.neg_den] at hq
  exact hq
abbrev s_is_less : Stmt := topS 15
theorem sc_is_less : FnScope ["one", "two"] ["one", "two"] (defScope s_is_less) := ⟨rfl, rfl, rfl, by decide +kernel, rfl, by decide +kernel, by decide +kernel⟩
theorem ok_is_less {f : Addr} {fd : FuncData} (F : Fun K "is_less" "is_less" s_is_less f fd) (hm : mg "is_less" = some (.ref f)) (hb : Binds K fd ["one", "two"] []) (bl : ∀ x : Str, bnames.contains x = true → mg x = none) : Pf P w K mg base 1 "is_less" 2 c_is_less := by
  refine pf_of (k := 0) F sc_is_less rfl hm hb bl (len_is_less) fun cdv A outer s H G E ds kq ke hc c tk => ?_
  refine ⟨_, (dss_one (ds_ret (de_cmp od_lt (de_bin od_mul (de_ix (db_var 0) de_int.toB).toB (de_ix (db_var 1) de_int.toB).toB).toB (de_bin od_mul (de_ix (db_var 1) de_int.toB).toB (de_ix (db_var 0) de_int.toB).toB).toB))), ?_⟩
  obtain ⟨x, y, rfl, hx, hy, hq⟩ := hc
  walk_at "r"
  refine ⟨cm_nd hx hy, ?_⟩
  walk_at "r"
  refine ⟨cm_nd hy hx, ?_⟩
  walk_at "r"
  rw [decide_eq_decide.mpr (Rat.lt_iff x y)] at hq
  exact hq
theorem cdv_den {a : Nat} {x : Rat} (h : Bd a x) (ha : a ≤ 9000 := by decide) : CDV x.den := cdv_lt (den_ne x) h.den ha
theorem fdiv_den (i : Int) (x : Rat) : i.fdiv x.den = i / x.den := Int.fdiv_eq_ediv_of_nonneg _ (by omega)
abbrev s_floor_of : Stmt := topS 16
theorem sc_floor_of : FnScope ["one"] ["one"] (defScope s_floor_of) := ⟨rfl, rfl, rfl, by decide +kernel, rfl, by decide +kernel, by decide +kernel⟩
theorem ok_floor_of {f : Addr} {fd : FuncData} (F : Fun K "floor_of" "floor_of" s_floor_of f fd) (hm : mg "floor_of" = some (.ref f)) (hb : Binds K fd ["one"] []) (bl : ∀ x : Str, bnames.contains x = true → mg x = none) : Pf P w K mg base 1 "floor_of" 1 c_floor_of := by
  refine pf_of (k := 0) F sc_floor_of rfl hm hb bl (len_floor_of) fun cdv A outer s H G E ds kq ke hc c tk => ?_
  refine ⟨_, (dss_one (ds_ret (de_bin od_fdiv (de_ix (db_var 0) de_int.toB).toB (de_ix (db_var 0) de_int.toB).toB))), ?_⟩
  obtain ⟨x, rfl, hx, hq⟩ := hc
  walk_at "r"
  refine ⟨cdv_den hx, ?_⟩
  walk_at "r"
  rw [Rat.floor_def, ← fdiv_den] at hq
  exact hq
abbrev s_rounded_up : Stmt := topS 17
theorem sc_rounded_up : FnScope ["one"] ["one"] (defScope s_rounded_up) := ⟨rfl, rfl, rfl, by decide +kernel, rfl, by decide +kernel, by decide +kernel⟩
theorem ok_rounded_up {f : Addr} {fd : FuncData} (F : Fun K "rounded_up" "rounded_up" s_rounded_up f fd) (hm : mg "rounded_up" = some (.ref f)) (hb : Binds K fd ["one"] []) (bl : ∀ x : Str, bnames.contains x = true → mg x = none) : Pf P w K mg base 1 "rounded_up" 1 c_rounded_up := by
  refine pf_of (k := 0) F sc_rounded_up rfl hm hb bl (len_rounded_up) fun cdv A outer s H G E ds kq ke hc c tk => ?_
  refine ⟨_, (dss_one (ds_ret (de_neg (de_bin od_fdiv (de_neg (de_ix (db_var 0) de_int.toB).toB).toB (de_ix (db_var 0) de_int.toB).toB).toB))), ?_⟩
  obtain ⟨x, rfl, hx, hq⟩ := hc
  walk_at "r"
  refine ⟨cdv_den hx, ?_⟩
  walk_at "r"
  rw [Rat.ceil_eq_neg_floor_neg, Rat.floor_def, Rat.neg_num, Rat.neg_den, ← fdiv_den] at hq
  exact hq
theorem floor_divInt (a b : Int) (h : 0 < b) : (Rat.divInt a b).floor = a.fdiv b := by
  have hg : b.gcd a ≠ 0 := fun z => by have := (Int.gcd_eq_zero_iff.mp z).1; omega
  obtain ⟨p, hp⟩ := Int.gcd_dvd_left (a := b) (b := a)
  obtain ⟨q, hq⟩ := Int.gcd_dvd_right (a := b) (b := a)
  have hg' : ((b.gcd a : Nat) : Int) ≠ 0 := by omega
  rw [Rat.floor_def, Rat.num_divInt, Rat.den_divInt, if_neg (by omega), Int.sign_eq_one_of_pos h, Int.one_mul, Int.natCast_ediv, show ((b.natAbs : Nat) : Int) = b by omega, Int.fdiv_eq_ediv_of_nonneg _ (by omega)]
  have hg2 : 0 < ((b.gcd a : Nat) : Int) := by omega
  generalize ((b.gcd a : Nat) : Int) = g at *
  subst hp hq
  rw [Int.mul_ediv_cancel_left _ hg', Int.mul_ediv_cancel_left _ hg', Int.mul_ediv_mul_of_pos _ _ hg2]
theorem half_eq (x : Rat) : x + 1 / 2 = Rat.divInt (2 * x.num + x.den) (2 * x.den) := by
  rw [add_eq, show (1 / 2 : Rat).num = 1 by decide +kernel, show (1 / 2 : Rat).den = 2 by decide +kernel, Int.mul_comm x.num, Int.mul_comm (x.den : Int), Int.one_mul]
  rfl
abbrev s_nearest : Stmt := topS 18
theorem sc_nearest : FnScope ["one"] ["one"] (defScope s_nearest) := ⟨rfl, rfl, rfl, by decide +kernel, rfl, by decide +kernel, by decide +kernel⟩
theorem ok_nearest {f : Addr} {fd : FuncData} (F : Fun K "nearest" "nearest" s_nearest f fd) (hm : mg "nearest" = some (.ref f)) (hb : Binds K fd ["one"] []) (bl : ∀ x : Str, bnames.contains x = true → mg x = none) : Pf P w K mg base 1 "nearest" 1 c_nearest := by
  refine pf_of (k := 0) F sc_nearest rfl hm hb bl (len_nearest) fun cdv A outer s H G E ds kq ke hc c tk => ?_
  refine ⟨_, (dss_one (ds_ret (de_bin od_fdiv (de_bin od_add (de_bin od_mul de_int.toB (de_ix (db_var 0) de_int.toB).toB).toB (de_ix (db_var 0) de_int.toB).toB).toB (de_bin od_mul de_int.toB (de_ix (db_var 0) de_int.toB).toB).toB))), ?_⟩
  obtain ⟨x, rfl, hx, hq⟩ := hc
  walk_at "r"
  refine ⟨cm_l, ?_⟩
  walk_at "r"
  refine ⟨cm_l, ?_⟩
  walk_at "r"
  refine ⟨cdv_lt (a := 1001) (by have := den_ne x; omega) (by have := hx.2; rw [Nat.pow_succ]; omega), ?_⟩
  walk_at "r"
  rw [half_eq, floor_divInt _ _ (by have := den_ne x; omega)] at hq
  exact hq
theorem map_cons_inv {α β : Type} {f : α → β} {x : β} {r : List β} {ps : List α} (h : x :: r = ps.map f) : ∃ p ps', ps = p :: ps' ∧ x = f p ∧ r = ps'.map f := by
  cases ps with
  | nil => cases h
  | cons p ps => cases h; exact ⟨p, ps, rfl, rfl, rfl⟩
theorem map_nil_inv {α β : Type} {f : α → β} {ps : List α} (h : [] = ps.map f) : ps = [] := by
  cases ps with
  | nil => rfl
  | cons p ps => cases h
def sumI (L : D) (t : Rat) (r : List D) (ρ : Ro) : Prop := ∃ (ps : List Rat) (x : Rat) (j : Nat) (v : Sl), ρ = [.val L, .val (encQ x), v] ∧ r = ps.map encQ ∧ ps.foldl (· + ·) x = t ∧ Bd (42 * j + 1) x ∧ j + ps.length ≤ 6 ∧ ∀ q ∈ ps, Bd 41 q
theorem bd_one : Bd 1 0 := ⟨by decide, by decide⟩
abbrev s_sum_of : Stmt := topS 19
theorem sc_sum_of : FnScope ["values", "found", "value"] ["values"] (defScope s_sum_of) := ⟨rfl, rfl, rfl, by decide +kernel, rfl, by decide +kernel, by decide +kernel⟩
theorem ok_sum_of {f : Addr} {fd : FuncData} (F : Fun K "sum_of" "sum_of" s_sum_of f fd) (hm : mg "sum_of" = some (.ref f)) (hb : Binds K fd ["values"] []) (bl : ∀ x : Str, bnames.contains x = true → mg x = none) (p_plus : Pf P w K mg base 3 "plus" 2 c_plus) : Pf P w K mg base 4 "sum_of" 1 c_sum_of := by
  refine pf_of (k := 3) F sc_sum_of rfl hm hb bl (len_sum_of) fun cdv A outer s H G E ds kq ke hc c tk => ?_
  refine ⟨_, (dss_cons (ds_set (i := 1) c rfl (Or.inl rfl) (de_tup (da_cons de_int (da_cons de_int da_nil))))
      (dss_cons (ds_for c (di_seq (de_var 0)) (dg_name (i := 2) c rfl (by first | exact Or.inl rfl | exact Or.inr rfl)) (dss_one (ds_set (i := 1) c rfl (Or.inl rfl) (de_call p_plus c (da_cons (de_var 1) (da_cons (de_var 2) da_nil))))))
      (dss_one (ds_ret (de_var 1))))), ?_⟩
  obtain ⟨b, qs, rfl, hl, hb', hq⟩ := hc
  have key : ∀ (L : D), (∀ ρ, sumI L (qs.foldl (· + ·) 0) [] ρ → sRet (dVar [] 1) { nx := fun x => kq PyData.none, rt := fun d x => kq d } ρ) ∧ sumI L (qs.foldl (· + ·) 0) (qs.map encQ) [.val L, .val (encQ 0), .non] := fun L => by
    refine ⟨?_, qs, 0, 0, .non, rfl, rfl, rfl, bd_one, by omega, hb'⟩
    rintro ρ ⟨ps, x, j, v, rfl, h1, h2, _⟩
    cases map_nil_inv h1
    walk_at "r"
    rw [← h2] at hq
    exact hq
  cases b
  all_goals
    walk_at "r"
    refine ⟨sumI (encL _ qs) (qs.foldl (· + ·) 0), (key _).2, ?_, (key _).1⟩
    rintro x r ρ ⟨ps, y, j, v, rfl, h1, h2, h3, h4, h5⟩
    obtain ⟨p, ps, rfl, rfl, rfl⟩ := map_cons_inv h1
    have hp := h5 p (List.mem_cons_self ..)
    have hl := h4
    rw [List.length_cons] at hl
    walk_at "r"
    refine ⟨y, p, rfl, h3.mono (by omega), hp.mono (by decide), ?_⟩
    walk_at "r"
    exact ⟨ps, y + p, j + 1, _, rfl, rfl, h2, (bd_add h3 hp).mono (by omega), by omega, fun q hq => h5 q (List.mem_cons_of_mem _ hq)⟩
abbrev s_least_of : Stmt := topS 20
theorem sc_least_of : FnScope ["values", "best", "value"] ["values"] (defScope s_least_of) := ⟨rfl, rfl, rfl, by decide +kernel, rfl, by decide +kernel, by decide +kernel⟩
theorem ok_least_of {f : Addr} {fd : FuncData} (F : Fun K "least_of" "least_of" s_least_of f fd) (hm : mg "least_of" = some (.ref f)) (hb : Binds K fd ["values"] []) (bl : ∀ x : Str, bnames.contains x = true → mg x = none) (p_is_less : Pf P w K mg base 1 "is_less" 2 c_is_less) : Pf P w K mg base 2 "least_of" 1 c_least_of := by
  refine pf_of (k := 1) F sc_least_of rfl hm hb bl (len_least_of) fun cdv A outer s H G E ds kq ke hc c tk => ?_
  refine ⟨_, (dss_cons (ds_set (i := 1) c rfl (Or.inl rfl) (de_ix (db_var 0) de_int.toB))
      (dss_cons (ds_for c (di_seq (de_slice (db_var 0) (dp_some de_int.toB) dp_none)) (dg_name (i := 2) c rfl (by first | exact Or.inl rfl | exact Or.inr rfl)) (dss_one (ds_if (dt_tru (de_call p_is_less c (da_cons (de_var 2) (da_cons (de_var 1) da_nil))).toB) (dss_one (ds_set (i := 1) c rfl (Or.inl rfl) (de_var 2))) dss_nil)))
      (dss_one (ds_ret (de_var 1))))), ?_⟩
  obtain ⟨qs, rfl, hn, hl, hb', hq⟩ := hc
  cases qs with
  | nil => exact absurd rfl hn
  | cons q0 qs =>
    walk_at "r"
    rw [List.map_cons, at_0]
    walk_at "r"
    rw [cut_tail]
    refine ⟨fun r ρ => ∃ (L : D) (ps : List Rat) (m : Rat) (v : Sl), ρ = [.val L, .val (encQ m), v] ∧ r = ps.map encQ ∧ m ∈ q0 :: qs ∧ (∀ q ∈ ps, q ∈ q0 :: qs) ∧ ∀ q ∈ q0 :: qs, q ∈ ps ∨ m ≤ q, ?_, ?_, ?_⟩
    · exact ⟨_, qs, q0, .non, rfl, rfl, List.mem_cons_self .., fun q h => List.mem_cons_of_mem _ h, fun q h => (List.mem_cons.mp h).elim (fun e => Or.inr (e ▸ Rat.le_refl)) Or.inl⟩
    · rintro x r ρ ⟨L, ps, m, v, rfl, h1, h2, h3, h4⟩
      obtain ⟨p, ps, rfl, rfl, rfl⟩ := map_cons_inv h1
      have hp := h3 p (List.mem_cons_self ..)
      have h3' : ∀ q ∈ ps, q ∈ q0 :: qs := fun q h => h3 q (List.mem_cons_of_mem _ h)
      walk_at "r"
      refine ⟨p, m, rfl, (hb' p hp).mono (by decide), (hb' m h2).mono (by decide), ?_⟩
      walk_at "r"
      refine brn.of (fun h => ?_) fun h => ?_
      · have h := of_decide_eq_true h
        walk_at "r"
        exact ⟨_, ps, p, _, rfl, rfl, hp, h3', fun q hq => (h4 q hq).elim (fun z => (List.mem_cons.mp z).elim (fun e => Or.inr (e ▸ Rat.le_refl)) Or.inl) fun z => Or.inr (Rat.le_trans (Rat.le_of_lt h) z)⟩
      · have h := Rat.not_lt.mp (of_decide_eq_false h)
        walk_at "r"
        exact ⟨_, ps, m, _, rfl, rfl, h2, h3', fun q hq => (h4 q hq).elim (fun z => (List.mem_cons.mp z).elim (fun e => Or.inr (e ▸ h)) Or.inl) Or.inr⟩
    · rintro ρ ⟨L, ps, m, v, rfl, h1, h2, h3, h4⟩
      cases map_nil_inv h1
      walk_at "r"
      exact hq m h2 fun q hq => (h4 q hq).elim (fun z => nomatch z) id
abbrev s_greatest_of : Stmt := topS 21
theorem sc_greatest_of : FnScope ["values", "best", "value"] ["values"] (defScope s_greatest_of) := ⟨rfl, rfl, rfl, by decide +kernel, rfl, by decide +kernel, by decide +kernel⟩
theorem ok_greatest_of {f : Addr} {fd : FuncData} (F : Fun K "greatest_of" "greatest_of" s_greatest_of f fd) (hm : mg "greatest_of" = some (.ref f)) (hb : Binds K fd ["values"] []) (bl : ∀ x : Str, bnames.contains x = true → mg x = none) (p_is_less : Pf P w K mg base 1 "is_less" 2 c_is_less) : Pf P w K mg base 2 "greatest_of" 1 c_greatest_of := by
  refine pf_of (k := 1) F sc_greatest_of rfl hm hb bl (len_greatest_of) fun cdv A outer s H G E ds kq ke hc c tk => ?_
  refine ⟨_, (dss_cons (ds_set (i := 1) c rfl (Or.inl rfl) (de_ix (db_var 0) de_int.toB))
      (dss_cons (ds_for c (di_seq (de_slice (db_var 0) (dp_some de_int.toB) dp_none)) (dg_name (i := 2) c rfl (by first | exact Or.inl rfl | exact Or.inr rfl)) (dss_one (ds_if (dt_tru (de_call p_is_less c (da_cons (de_var 1) (da_cons (de_var 2) da_nil))).toB) (dss_one (ds_set (i := 1) c rfl (Or.inl rfl) (de_var 2))) dss_nil)))
      (dss_one (ds_ret (de_var 1))))), ?_⟩
  obtain ⟨qs, rfl, hn, hl, hb', hq⟩ := hc
  cases qs with
  | nil => exact absurd rfl hn
  | cons q0 qs =>
    walk_at "r"
    rw [List.map_cons, at_0]
    walk_at "r"
    rw [cut_tail]
    refine ⟨fun r ρ => ∃ (L : D) (ps : List Rat) (m : Rat) (v : Sl), ρ = [.val L, .val (encQ m), v] ∧ r = ps.map encQ ∧ m ∈ q0 :: qs ∧ (∀ q ∈ ps, q ∈ q0 :: qs) ∧ ∀ q ∈ q0 :: qs, q ∈ ps ∨ q ≤ m, ?_, ?_, ?_⟩
    · exact ⟨_, qs, q0, .non, rfl, rfl, List.mem_cons_self .., fun q h => List.mem_cons_of_mem _ h, fun q h => (List.mem_cons.mp h).elim (fun e => Or.inr (e ▸ Rat.le_refl)) Or.inl⟩
    · rintro x r ρ ⟨L, ps, m, v, rfl, h1, h2, h3, h4⟩
      obtain ⟨p, ps, rfl, rfl, rfl⟩ := map_cons_inv h1
      have hp := h3 p (List.mem_cons_self ..)
      have h3' : ∀ q ∈ ps, q ∈ q0 :: qs := fun q h => h3 q (List.mem_cons_of_mem _ h)
      walk_at "r"
      refine ⟨m, p, rfl, (hb' m h2).mono (by decide), (hb' p hp).mono (by decide), ?_⟩
      walk_at "r"
      refine brn.of (fun h => ?_) fun h => ?_
      · have h := of_decide_eq_true h
        walk_at "r"
        exact ⟨_, ps, p, _, rfl, rfl, hp, h3', fun q hq => (h4 q hq).elim (fun z => (List.mem_cons.mp z).elim (fun e => Or.inr (e ▸ Rat.le_refl)) Or.inl) fun z => Or.inr (Rat.le_trans z (Rat.le_of_lt h))⟩
      · have h := Rat.not_lt.mp (of_decide_eq_false h)
        walk_at "r"
        exact ⟨_, ps, m, _, rfl, rfl, h2, h3', fun q hq => (h4 q hq).elim (fun z => (List.mem_cons.mp z).elim (fun e => Or.inr (e ▸ h)) Or.inl) Or.inr⟩
    · rintro ρ ⟨L, ps, m, v, rfl, h1, h2, h3, h4⟩
      cases map_nil_inv h1
      walk_at "r"
      exact hq m h2 fun q hq => (h4 q hq).elim (fun z => nomatch z) id
end
end K00
namespace K00
open PySem PySem.Spec PyProof.Rows L2 Dn
local macro_rules | `(tactic| walk_at "r") => `(tactic| ((conv => whnf); (repeat (refine ⟨rfl, rfl, ?_⟩; (conv => whnf)))))
def isSt (d : D) : Prop := ∃ (s0 : Int) (p : Nat) (ns : List Int) (s3 : Int), d = .list [.int s0, .int p, .list (ns.map .int), .int s3]
def c__law_draw : DCM := fun d ds Q => ∃ n : Int, ds = [.int n] ∧ 0 < n ∧ n < 2 ^ 60 ∧ isSt d ∧ ∀ r d', 0 ≤ r → r < n → isSt d' → Q (.int r) d'
theorem len__law_draw : ∀ d ds kq, c__law_draw d ds kq → ds.length = 1 := by rintro _ _ _ ⟨n, rfl, _⟩; rfl
def c__law_same : DC := fun ds Q _ => ∃ a b : Bool, ds = [.bool a, .bool b] ∧ Q (.bool (a == b))
theorem len__law_same : ∀ ds kq ke, c__law_same ds kq ke → ds.length = 2 := by rintro _ _ _ ⟨a, b, rfl, _⟩; rfl
def c__law_number : DCM := fun d ds Q => ds = [] ∧ isSt d ∧ ∀ r d', -(10 ^ 12) ≤ r → r ≤ 10 ^ 12 → isSt d' → Q (.int r) d'
theorem len__law_number : ∀ d ds kq, c__law_number d ds kq → ds.length = 0 := by rintro _ _ _ ⟨rfl, _⟩; rfl
def c__law_fraction : DCM := fun d ds Q => ds = [] ∧ isSt d ∧ ∀ q d', Bd 41 q → isSt d' → Q (encQ q) d'
theorem len__law_fraction : ∀ d ds kq, c__law_fraction d ds kq → ds.length = 0 := by rintro _ _ _ ⟨rfl, _⟩; rfl
def c__law_over : DC := fun ds Q _ => ∃ x y, ds = [encQ x, encQ y] ∧ Bd 1000 x ∧ Bd 1000 y ∧ (y = 0 → Q .none) ∧ (y ≠ 0 → Q (encQ (x / y)))
theorem len__law_over : ∀ ds kq ke, c__law_over ds kq ke → ds.length = 2 := by rintro _ _ _ ⟨x, y, rfl, _⟩; rfl
abbrev c__law_rounds : DC := fun ds Q _ => ∃ x, ds = [encQ x] ∧ Bd 41 x ∧ Q (.bool true)
theorem len__law_rounds : ∀ ds kq ke, c__law_rounds ds kq ke → ds.length = 1 := by rintro _ _ _ ⟨x, rfl, _⟩; rfl
def c__law_forms : DCM := fun d ds Q => ∃ x, ds = [encQ x] ∧ Bd 41 x ∧ isSt d ∧ ∀ d', isSt d' → Q (.bool true) d'
theorem len__law_forms : ∀ d ds kq, c__law_forms d ds kq → ds.length = 1 := by rintro _ _ _ ⟨n, rfl, _⟩; rfl
section
variable {P : Program} {w : World} {K : PySem.W.Frag} {mg : Str → Option Value} {base : Heap}
abbrev s__law_draw : Stmt := topS 23
theorem sc__law_draw : FnScope ["state", "limit", "digit", "position", "cell", "mixed"] ["state", "limit"] (defScope s__law_draw) := ⟨rfl, rfl, rfl, by decide +kernel, rfl, by decide +kernel, by decide +kernel⟩
theorem ok__law_draw {f : Addr} {fd : FuncData} (F : Fun K "_law_draw" "_law_draw" s__law_draw f fd) (hm : mg "_law_draw" = some (.ref f)) (hb : Binds K fd ["state", "limit"] []) (bl : ∀ x : Str, bnames.contains x = true → mg x = none) : PfM P w K mg base 1 "_law_draw" 2 c__law_draw := by
  refine pf_ofM (k := 0) F sc__law_draw rfl hm hb bl (len__law_draw) fun cdv A outer s H G a E d ds kq hc c tk => ?_
  refine ⟨_, (dss_cons (ds_if (dt_cmp od_lt (de_ix (db_var 0) de_int.toB).toB (db_var 1)) (dss_cons (ds_set (i := 3) c rfl (Or.inl rfl) (de_ix (db_var 0) de_int.toB))
        (dss_cons (ds_put (i := 0) (de_bin od_add (db_var 3) de_int.toB) de_int.toB)
        (dss_cons (ds_set (i := 4) c rfl (Or.inl rfl) de_int)
        (dss_cons (ds_if (dt_cmp od_lt (db_var 3) (de_callB cd_len (nb c) PySem.boot_len (dbs_cons (de_ix (db_var 0) de_int.toB).toB dbs_nil)).toB) (dss_one (ds_set (i := 4) c rfl (Or.inl rfl) (de_ix (de_ix (db_var 0) de_int.toB).toB (db_var 3)))) dss_nil)
        (dss_one (ds_if (dt_cmp od_ge (db_var 4) (de_bin od_pow de_int.toB de_int.toB).toB) (dss_one (ds_put (i := 0) (de_var 4) de_int.toB)) (dss_cons (ds_put (i := 0) (de_bin od_mod (de_callT cd_int (nb c) boot_int (dbs_cons (de_bin od_mul (de_bin od_add (de_bin od_add (de_bin od_add (de_ix (db_var 0) de_int.toB).toB (de_bin od_mod (de_callT cd_int (nb c) boot_int (dbs_cons (db_var 4) dbs_nil)).toB de_int.toB).toB).toB (db_var 3)).toB de_int.toB).toB de_int.toB).toB dbs_nil)).toB de_int.toB) de_int.toB)
          (dss_cons (ds_set (i := 5) c rfl (Or.inl rfl) (de_bin od_mod (de_callT cd_int (nb c) boot_int (dbs_cons (de_bin od_add (de_bin od_mul (de_ix (db_var 0) de_int.toB).toB de_int.toB).toB de_int.toB).toB dbs_nil)).toB de_int.toB))
          (dss_one (ds_put (i := 0) (de_bin od_add (de_bin od_mul (db_var 5) de_int.toB).toB (de_bin od_mod (de_callT cd_int (nb c) boot_int (dbs_cons (de_bin od_add (de_bin od_mul (db_var 5) de_int.toB).toB (de_ix (db_var 0) de_int.toB).toB).toB dbs_nil)).toB de_int.toB).toB) de_int.toB)))))))))) dss_nil)
      (dss_cons (ds_set (i := 2) c rfl (Or.inl rfl) (de_bin od_mod (de_callT cd_int (nb c) boot_int (dbs_cons (de_ix (db_var 0) de_int.toB).toB dbs_nil)).toB (db_var 1)))
      (dss_cons (ds_put (i := 0) (de_bin od_fdiv (de_ix (db_var 0) de_int.toB).toB (db_var 1)) de_int.toB)
      (dss_one (ds_ret (de_var 2)))))), ?_⟩
  obtain ⟨n, rfl, hn, hn2, ⟨s0, p, ns, s3, rfl⟩, hq⟩ := hc
  walk_at "r"
  refine brn.of (fun h => ?t) fun h => ?e
  case' t =>
    walk_at "r"
    refine brn.of (fun h => ?t1) fun h => ?t2
    case' t1 =>
      have hp : p < ns.length := by simpa using h
      walk_at "r"
      rw [at_nat, List.getElem?_map, List.getElem?_eq_getElem hp, Option.map_some]
      walk_at "r"
      refine ⟨⟨by decide, by decide, by decide⟩, ?_⟩
      walk_at "r"
      refine brn.of (fun h => ?t11) fun h => ?t12
    case' t2 =>
      walk_at "r"
      refine ⟨⟨by decide, by decide, by decide⟩, ?_⟩
  all_goals walk_at "r"
  case' t12 =>
    refine ⟨by decide, ?_⟩
    walk_at "r"
    refine ⟨cm_r, ?_⟩
    walk_at "r"
    refine ⟨by decide, ?_⟩
    walk_at "r"
    refine ⟨cm_r, ?_⟩
    walk_at "r"
    refine ⟨by decide, ?_⟩
    walk_at "r"
    refine ⟨cm_r, ?_⟩
    walk_at "r"
    refine ⟨cm_r, ?_⟩
    walk_at "r"
    refine ⟨by decide, ?_⟩
    walk_at "r"
  case' t2 =>
    refine ⟨by decide, ?_⟩
    walk_at "r"
    refine ⟨cm_r, ?_⟩
    walk_at "r"
    refine ⟨by decide, ?_⟩
    walk_at "r"
    refine ⟨cm_r, ?_⟩
    walk_at "r"
    refine ⟨by decide, ?_⟩
    walk_at "r"
    refine ⟨cm_r, ?_⟩
    walk_at "r"
    refine ⟨cm_r, ?_⟩
    walk_at "r"
    refine ⟨by decide, ?_⟩
    walk_at "r"
  all_goals
    refine ⟨by omega, ?_⟩
    walk_at "r"
    refine ⟨cdv_lt (a := 60) (by omega) (by omega), ?_⟩
    walk_at "r"
    refine hq _ _ (Int.fmod_nonneg_of_pos _ hn) (Int.fmod_lt_of_pos _ hn) ?_
  case' e => exact ⟨_, p, ns, _, rfl⟩
  all_goals exact ⟨_, p + 1, ns, _, rfl⟩
abbrev s__law_same : Stmt := topS 24
theorem sc__law_same : FnScope ["told", "due"] ["told", "due"] (defScope s__law_same) := ⟨rfl, rfl, rfl, by decide +kernel, rfl, by decide +kernel, by decide +kernel⟩
theorem ok__law_same {f : Addr} {fd : FuncData} (F : Fun K "_law_same" "_law_same" s__law_same f fd) (hm : mg "_law_same" = some (.ref f)) (hb : Binds K fd ["told", "due"] []) (bl : ∀ x : Str, bnames.contains x = true → mg x = none) : Pf P w K mg base 1 "_law_same" 2 c__law_same := by
  refine pf_of (k := 0) F sc__law_same rfl hm hb bl (len__law_same) fun cdv A outer s H G E ds kq ke hc c tk => ?_
  refine ⟨_, (dss_one (ds_ret (de_and (de_cmp (od_eq c) (de_cmp od_is (db_var 0) de_bl.toB).toB (db_var 1)) (de_one (de_cmp (od_ne c) (de_cmp od_is (db_var 0) de_bl.toB).toB (db_var 1)))))), ?_⟩
  obtain ⟨a, b, rfl, hq⟩ := hc
  cases a <;> cases b <;> walk_at "r" <;> exact hq
theorem bd_int {n : Int} (h : -(10 ^ 12) ≤ n) (h2 : n ≤ 10 ^ 12) : n.natAbs < 2 ^ 41 := by omega
abbrev s__law_number : Stmt := topS 25
theorem sc__law_number : FnScope ["state", "size"] ["state"] (defScope s__law_number) := ⟨rfl, rfl, rfl, by decide +kernel, rfl, by decide +kernel, by decide +kernel⟩
theorem ok__law_number {f : Addr} {fd : FuncData} (F : Fun K "_law_number" "_law_number" s__law_number f fd) (hm : mg "_law_number" = some (.ref f)) (hb : Binds K fd ["state"] []) (bl : ∀ x : Str, bnames.contains x = true → mg x = none) (p__law_draw : PfM P w K mg base 1 "_law_draw" 2 c__law_draw) : PfM P w K mg base 2 "_law_number" 1 c__law_number := by
  refine pf_ofM (k := 1) F sc__law_number rfl hm hb bl (len__law_number) fun cdv A outer s H G a E d ds kq hc c tk => ?_
  refine ⟨_, (dss_cons (ds_set (i := 1) c rfl (Or.inl rfl) (de_ix (df_lst (da_cons de_int (da_cons de_int (da_cons de_int (da_cons (de_bin od_pow de_int.toB de_int.toB) da_nil))))).toE.toB (de_callM (i := 0) p__law_draw c (da_cons de_int da_nil)).toB))
      (dss_one (ds_ret (de_bin od_sub (de_callM (i := 0) p__law_draw c (da_cons (de_bin od_add (de_bin od_mul de_int.toB (db_var 1)).toB de_int.toB) da_nil)).toB (db_var 1))))), ?_⟩
  obtain ⟨rfl, hst, hq⟩ := hc
  walk_at "r"
  refine ⟨⟨by decide, by decide, by decide⟩, ?_⟩
  walk_at "r"
  refine ⟨4, rfl, by decide, by decide, hst, fun r d' h1 h2 h3 => ?_⟩
  walk_at "r"
  have hr : r = 0 ∨ r = 1 ∨ r = 2 ∨ r = 3 := by omega
  rcases hr with rfl | rfl | rfl | rfl
  all_goals
    walk_at "r"
    refine ⟨cm_l, ?_⟩
    walk_at "r"
    refine ⟨_, rfl, by decide, by decide, h3, fun r d' h1 h2 h3 => ?_⟩
    walk_at "r"
    refine hq _ _ ?_ ?_ h3
  all_goals
    have e : (10 : Int) ^ (Int.toNat 12) = 10 ^ 12 := rfl
    try rw [e] at h2
    try rw [e]
    omega
abbrev s__law_fraction : Stmt := topS 26
theorem sc__law_fraction : FnScope ["state", "under", "k"] ["state"] (defScope s__law_fraction) := ⟨rfl, rfl, rfl, by decide +kernel, rfl, by decide +kernel, by decide +kernel⟩
theorem ok__law_fraction {f : Addr} {fd : FuncData} (F : Fun K "_law_fraction" "_law_fraction" s__law_fraction f fd) (hm : mg "_law_fraction" = some (.ref f)) (hb : Binds K fd ["state"] []) (bl : ∀ x : Str, bnames.contains x = true → mg x = none) {C_NoSuch : Addr} (p__law_number : PfM P w K mg base 2 "_law_number" 1 c__law_number) (p_fraction : Pf P w K mg base 2 "fraction" 2 (c_fraction C_NoSuch)) : PfM P w K mg base 3 "_law_fraction" 1 c__law_fraction := by
  refine pf_ofM (k := 2) F sc__law_fraction rfl hm hb bl (len__law_fraction) fun cdv A outer s H G a E d ds kq hc c tk => ?_
  refine ⟨_, (dss_cons (ds_set (i := 1) c rfl (Or.inl rfl) de_int)
      (dss_cons (ds_for c (di_range1 (nb c) (dbs_cons de_int.toB dbs_nil)) (dg_name (i := 2) c rfl (by first | exact Or.inl rfl | exact Or.inr rfl)) (dss_one (ds_set (i := 1) c rfl (Or.inl rfl) (de_if (dt_cmp (od_eq c) (db_var 1) de_int.toB) (de_callM (i := 0) p__law_number c da_nil) (de_var 1)))))
      (dss_one (ds_ret (de_call p_fraction c (da_cons (de_callM (i := 0) p__law_number c da_nil) (da_cons (de_if (dt_cmp (od_ne c) (db_var 1) de_int.toB) (de_var 1) de_int) da_nil))))))), ?_⟩
  obtain ⟨rfl, hst, hq⟩ := hc
  walk_at "r"
  refine ⟨by decide, ?_⟩
  walk_at "r"
  refine ⟨fun r ρ => ∃ (d : D) (n : Int) (v : Sl), ρ = [.own d, .val (.int n), v] ∧ isSt d ∧ n.natAbs < 2 ^ 41, ?_, ?_, ?_⟩
  · exact ⟨_, 0, _, rfl, hst, by decide⟩
  · rintro x r ρ ⟨d, n, v, rfl, h1, h2⟩
    walk_at "r"
    refine brn.of (fun h => ?_) fun h => ?_
    · walk_at "r"
      refine ⟨rfl, h1, fun r d' h3 h4 h5 => ?_⟩
      walk_at "r"
      exact ⟨_, r, _, rfl, h5, bd_int h3 h4⟩
    · walk_at "r"
      exact ⟨_, n, _, rfl, h1, h2⟩
  · rintro ρ ⟨d, n, v, rfl, h1, h2⟩
    walk_at "r"
    refine ⟨rfl, h1, fun r d' h3 h4 h5 => ?_⟩
    walk_at "r"
    refine brn.of (fun h => ?_) fun h => ?_
    · have h0 : n ≠ 0 := by simpa [PyData.eqv] using h
      walk_at "r"
      refine ⟨_, _, rfl, lt_pow_mono (bd_int h3 h4) (by decide), lt_pow_mono h2 (by decide), fun z => absurd z h0, fun _ => ?_⟩
      walk_at "r"
      exact hq _ _ (bd_divInt h0 (bd_int h3 h4) h2) h5
    · walk_at "r"
      refine ⟨_, _, rfl, lt_pow_mono (bd_int h3 h4) (by decide), lt_pow_mono (show Int.natAbs 7 < 2 ^ 3 by decide) (by decide), fun z => absurd z (by decide), fun _ => ?_⟩
      walk_at "r"
      exact hq _ _ (bd_divInt (by decide) (bd_int h3 h4) (by decide)) h5
abbrev s__law_over : Stmt := topS 27
theorem sc__law_over : FnScope ["one", "two"] ["one", "two"] (defScope s__law_over) := ⟨rfl, rfl, rfl, by decide +kernel, rfl, by decide +kernel, by decide +kernel⟩
theorem ok__law_over {f : Addr} {fd : FuncData} (F : Fun K "_law_over" "_law_over" s__law_over f fd) (hm : mg "_law_over" = some (.ref f)) (hb : Binds K fd ["one", "two"] []) (bl : ∀ x : Str, bnames.contains x = true → mg x = none) {C_NoSuch : Addr} (x_NoSuch : ExcF K mg "NoSuch" C_NoSuch) (p_over : Pf P w K mg base 3 "over" 2 (c_over C_NoSuch)) : Pf P w K mg base 4 "_law_over" 2 c__law_over := by
  refine pf_of (k := 3) F sc__law_over rfl hm hb bl (len__law_over) fun cdv A outer s H G E ds kq ke hc c tk => ?_
  refine ⟨_, (dss_one (ds_try c tk ⟨rfl, by decide, .inl x_NoSuch.g⟩ rfl rfl (fun _ _ _ _ c tk => (dss_one (ds_ret (de_call p_over c (da_cons (de_var 0) (da_cons (de_var 1) da_nil)))))) (fun _ _ => (dss_one (ds_ret de_non))))), ?_⟩
  obtain ⟨x, y, rfl, hx, hy, hz, hq⟩ := hc
  walk_at "r"
  intro B
  walk_at "r"
  refine ⟨x, y, rfl, hx, hy, fun z => ?_, fun z => hq z⟩
  walk_at "r"
  refine ⟨true, x_NoSuch.xm, fun _ => ?_, fun z => nomatch z⟩
  walk_at "r"
  exact hz z
theorem floor_bd {a : Nat} {x : Rat} (h : Bd a x) : x.floor.natAbs < 2 ^ a := by
  refine Nat.lt_of_le_of_lt ?_ h.1
  rw [Rat.floor_def]
  have h1 := Int.natAbs_ediv_le_natAbs x.num x.den
  exact h1
theorem ceil_bd {a : Nat} {x : Rat} (h : Bd a x) : x.ceil.natAbs < 2 ^ a := by
  rw [Rat.ceil_eq_neg_floor_neg, Int.natAbs_neg]
  exact floor_bd (bd_neg h)
theorem den_pos (x : Rat) : (0 : Int) < x.den := by have := den_ne x; omega
theorem floor_1 (x : Rat) : x.floor * x.den ≤ x.num := by rw [Rat.floor_def]; exact Int.ediv_mul_le _ (den_ne x)
theorem floor_2 (x : Rat) : x.num < (x.floor + 1) * x.den := by rw [Rat.floor_def]; exact Int.lt_ediv_add_one_mul_self _ (den_pos x)
theorem ceil_1 (x : Rat) : x.num ≤ x.ceil * x.den := by
  have h := floor_1 (-x)
  rw [Rat.neg_num, Rat.neg_den] at h
  rw [Rat.ceil_eq_neg_floor_neg, Int.neg_mul]
  omega
theorem ceil_2 (x : Rat) : (x.ceil - 1) * x.den < x.num := by
  have h := floor_2 (-x)
  rw [Rat.neg_num, Rat.neg_den] at h
  rw [Rat.ceil_eq_neg_floor_neg, show -(-x).floor - 1 = -((-x).floor + 1) by omega, Int.neg_mul]
  omega
theorem near_1 (x : Rat) : x.floor ≤ (x + 1 / 2).floor := Rat.floor_monotone (by grind)
theorem near_2 (x : Rat) : (x + 1 / 2).floor ≤ x.ceil := by
  have h1 := Rat.floor_le (x + 1 / 2)
  have h2 := Rat.le_ceil (x := x)
  have h3 : ((x + 1 / 2).floor : Rat) < ((x.ceil + 1 : Int) : Rat) := by
    rw [Rat.intCast_add]
    grind
  have := Rat.intCast_lt_intCast.mp h3
  omega
theorem whole_1 (x : Rat) : (x.floor = x.ceil) ↔ ((x.den : Int) = 1) := by
  constructor
  · intro h
    have h1 := floor_1 x
    have h2 := ceil_1 x
    rw [← h] at h2
    have h3 : x.num = x.floor * x.den := by omega
    have h4 : x.den ∣ x.num.natAbs := ⟨x.floor.natAbs, by rw [h3, Int.natAbs_mul, Int.natAbs_natCast, Nat.mul_comm]⟩
    have h5 : x.den = 1 := Nat.dvd_one.mp (by have := Nat.dvd_gcd h4 (Nat.dvd_refl _); rw [x.reduced] at this; exact this)
    omega
  · intro h
    rw [Rat.ceil_eq_neg_floor_neg, Rat.floor_def, Rat.floor_def, Rat.neg_den, Rat.neg_num, h, Int.ediv_one, Int.ediv_one, Int.neg_neg]
theorem half_num : (1 / 2 : Rat).num = 1 := by decide +kernel
theorem half_den : (1 / 2 : Rat).den = 2 := by decide +kernel
theorem encQ_half : encQ (1 / 2) = .tuple [.int 1, .int 2] := by unfold encQ; rw [half_num, half_den]; rfl
theorem bd_half : Bd 2 (1 / 2) := ⟨by rw [half_num]; decide, by rw [half_den]; decide⟩
theorem eqvI (i j : Int) : PyData.eqv (.int i) (.int j) = decide (i = j) := by rw [Bool.eq_iff_iff]; simp [PyData.eqv]
abbrev s__law_rounds : Stmt := topS 28
theorem sc__law_rounds : FnScope ["one", "low", "high", "near"] ["one"] (defScope s__law_rounds) := ⟨rfl, rfl, rfl, by decide +kernel, rfl, by decide +kernel, by decide +kernel⟩
theorem ok__law_rounds {f : Addr} {fd : FuncData} (F : Fun K "_law_rounds" "_law_rounds" s__law_rounds f fd) (hm : mg "_law_rounds" = some (.ref f)) (hb : Binds K fd ["one"] []) (bl : ∀ x : Str, bnames.contains x = true → mg x = none) (p_floor_of : Pf P w K mg base 1 "floor_of" 1 c_floor_of) (p_rounded_up : Pf P w K mg base 1 "rounded_up" 1 c_rounded_up) (p_nearest : Pf P w K mg base 1 "nearest" 1 c_nearest) (p_plus : Pf P w K mg base 3 "plus" 2 c_plus) (p_negative : Pf P w K mg base 1 "negative" 1 c_negative) (p_whole : Pf P w K mg base 1 "whole" 1 c_whole) (p__law_same : Pf P w K mg base 1 "_law_same" 2 c__law_same) : Pf P w K mg base 4 "_law_rounds" 1 c__law_rounds := by
  refine pf_of (k := 3) F sc__law_rounds rfl hm hb bl (len__law_rounds) fun cdv A outer s H G E ds kq ke hc c tk => ?_
  refine ⟨_, (dss_cons (ds_set (i := 1) c rfl (Or.inl rfl) (de_call p_floor_of c (da_cons (de_var 0) da_nil)))
      (dss_cons (ds_set (i := 2) c rfl (Or.inl rfl) (de_call p_rounded_up c (da_cons (de_var 0) da_nil)))
      (dss_cons (ds_if (dw_or (dt_cmp od_gt (de_bin od_mul (db_var 1) (de_ix (db_var 0) de_int.toB).toB).toB (de_ix (db_var 0) de_int.toB).toB) (dw_or (dt_cmp od_le (de_bin od_mul (de_bin od_add (db_var 1) de_int.toB).toB (de_ix (db_var 0) de_int.toB).toB).toB (de_ix (db_var 0) de_int.toB).toB) (dw_or (dt_cmp od_lt (de_bin od_mul (db_var 2) (de_ix (db_var 0) de_int.toB).toB).toB (de_ix (db_var 0) de_int.toB).toB) (dw_or1 (dt_cmp od_ge (de_bin od_mul (de_bin od_sub (db_var 2) de_int.toB).toB (de_ix (db_var 0) de_int.toB).toB).toB (de_ix (db_var 0) de_int.toB).toB))))).t (dss_one (ds_ret de_bl)) dss_nil)
      (dss_cons (ds_set (i := 3) c rfl (Or.inl rfl) (de_call p_nearest c (da_cons (de_var 0) da_nil)))
      (dss_cons (ds_if (dw_or (dt_cmp (od_ne c) (db_var 3) (de_call p_floor_of c (da_cons (de_call p_plus c (da_cons (de_var 0) (da_cons (de_tup (da_cons de_int (da_cons de_int da_nil))) da_nil))) da_nil)).toB) (dw_or (dt_cmp od_lt (db_var 3) (db_var 1)) (dw_or (dt_cmp od_gt (db_var 3) (db_var 2)) (dw_or1 (dt_cmp (od_ne c) (de_bin od_sub de_int.toB (de_call p_floor_of c (da_cons (de_call p_negative c (da_cons (de_var 0) da_nil)) da_nil)).toB).toB (db_var 2)))))).t (dss_one (ds_ret de_bl)) dss_nil)
      (dss_one (ds_ret (de_and (de_cmp (od_eq c) (de_call p_whole c (da_cons (de_var 1) da_nil)).toB (de_tup (da_cons (de_var 1) (da_cons de_int da_nil))).toB) (de_one (de_call p__law_same c (da_cons (de_cmp (od_eq c) (db_var 1) (db_var 2)) (da_cons (de_cmp (od_eq c) (de_ix (db_var 0) de_int.toB).toB de_int.toB) da_nil)))))))))))), ?_⟩
  obtain ⟨x, rfl, hx, hq⟩ := hc
  walk_at "r"
  refine ⟨x, rfl, hx.mono (by decide), ?_⟩
  walk_at "r"
  refine ⟨x, rfl, hx.mono (by decide), ?_⟩
  walk_at "r"
  refine ⟨cm_lt (floor_bd hx) hx.den, ?_⟩
  walk_at "r"
  refine brn.ff (decide_eq_false (Int.not_lt.mpr (floor_1 x))) ?_
  walk_at "r"
  refine ⟨cm_lt (a := 42) (by have := floor_bd hx; omega) hx.den, ?_⟩
  walk_at "r"
  refine brn.ff (decide_eq_false (Int.not_le.mpr (floor_2 x))) ?_
  walk_at "r"
  refine ⟨cm_lt (ceil_bd hx) hx.den, ?_⟩
  walk_at "r"
  refine brn.ff (decide_eq_false (Int.not_lt.mpr (ceil_1 x))) ?_
  walk_at "r"
  refine ⟨cm_lt (a := 42) (by have := ceil_bd hx; omega) hx.den, ?_⟩
  walk_at "r"
  refine brn.ff (decide_eq_false (Int.not_le.mpr (ceil_2 x))) ?_
  walk_at "r"
  refine ⟨x, rfl, hx.mono (by decide), ?_⟩
  walk_at "r"
  refine ⟨x, 1 / 2, by rw [encQ_half], hx.mono (by decide), bd_half.mono (by decide), ?_⟩
  walk_at "r"
  refine ⟨x + 1 / 2, rfl, (bd_add hx bd_half).mono (by decide), ?_⟩
  walk_at "r"
  refine brn.ff (by rw [eqvI, decide_eq_true rfl]; rfl) ?_
  walk_at "r"
  refine brn.ff (decide_eq_false (Int.not_lt.mpr (near_1 x))) ?_
  walk_at "r"
  refine brn.ff (decide_eq_false (Int.not_lt.mpr (near_2 x))) ?_
  walk_at "r"
  refine ⟨x, rfl, hx.mono (by decide), ?_⟩
  walk_at "r"
  refine ⟨-x, rfl, (bd_neg hx).mono (by decide), ?_⟩
  walk_at "r"
  refine brn.ff (by rw [eqvI, Rat.ceil_eq_neg_floor_neg, Int.zero_sub, decide_eq_true rfl]; rfl) ?_
  walk_at "r"
  refine ⟨_, rfl, ?_⟩
  walk_at "r"
  refine brn.tt (by simp [PyData.eqv, PyData.eqvAll]) ?_
  walk_at "r"
  refine ⟨_, _, rfl, ?_⟩
  walk_at "r"
  rw [eqvI, eqvI, decide_eq_decide.mpr (whole_1 x), beq_self_eq_true]
  exact hq
theorem isFr_q (x : Rat) : isFr (encQ x) = true := by
  show (decide (1 ≤ (x.den : Int)) && (((x.num.gcd x.den : Nat) : Int) == 1)) = true
  have h1 := den_pos x
  have h2 : x.num.gcd x.den = 1 := x.reduced
  rw [h2, decide_eq_true (by omega)]
  rfl
theorem isFr_bad {a b : Int} (h : b < 1 ∨ a.gcd b ≠ 1) : isFr (.tuple [.int a, .int b]) = false := by
  show (decide (1 ≤ b) && (((a.gcd b : Nat) : Int) == 1)) = false
  rcases h with h | h
  · rw [decide_eq_false (by omega), Bool.false_and]
  · rw [Bool.and_eq_false_iff]; right
    rw [beq_eq_false_iff_ne]
    omega
theorem bad_ix (x : Rat) (r : Int) (h0 : 0 ≤ r) (h1 : r < 10) : ∃ v, L2.atI [.tuple [.int (x.num * 2), .int (x.den * 2)], .tuple [.int x.num, .int 0], .tuple [.int x.num, .int (0 - x.den)], .list [.int x.num, .int x.den], .tuple [.int x.num], .tuple [.bool true, .int 1],
    .tuple [.int x.num, .bool true], .tuple [.str "1", .int 1], .none, .tuple [.int 0, .int 2]] r = some v ∧ isFr v = false := by
  have hr : r = 0 ∨ r = 1 ∨ r = 2 ∨ r = 3 ∨ r = 4 ∨ r = 5 ∨ r = 6 ∨ r = 7 ∨ r = 8 ∨ r = 9 := by omega
  have h1 := den_pos x
  have h2 : x.num.gcd x.den = 1 := x.reduced
  rcases hr with rfl | rfl | rfl | rfl | rfl | rfl | rfl | rfl | rfl | rfl
  · exact ⟨_, rfl, isFr_bad (.inr (by rw [Int.gcd_mul_right, h2]; decide))⟩
  · exact ⟨_, rfl, isFr_bad (.inl (by decide))⟩
  · exact ⟨_, rfl, isFr_bad (.inl (by omega))⟩
  · exact ⟨_, rfl, rfl⟩
  · exact ⟨_, rfl, rfl⟩
  · exact ⟨_, rfl, rfl⟩
  · exact ⟨_, rfl, rfl⟩
  · exact ⟨_, rfl, rfl⟩
  · exact ⟨_, rfl, rfl⟩
  · exact ⟨_, rfl, isFr_bad (.inr (by decide))⟩
theorem lo_ix (a b : Int) (r : Int) (h0 : 0 ≤ r) (h1 : r < 3) : ∃ o : Option Int, L2.atI [.none, .int a, .int b] r = some (oI o) := by
  have hr : r = 0 ∨ r = 1 ∨ r = 2 := by omega
  rcases hr with rfl | rfl | rfl
  · exact ⟨none, rfl⟩
  · exact ⟨some _, rfl⟩
  · exact ⟨some _, rfl⟩
abbrev s__law_forms : Stmt := topS 29
theorem sc__law_forms : FnScope ["state", "one", "bad", "value", "low", "high", "plain"] ["state", "one"] (defScope s__law_forms) := ⟨rfl, rfl, rfl, by decide +kernel, rfl, by decide +kernel, by decide +kernel⟩
theorem ok__law_forms {f : Addr} {fd : FuncData} (F : Fun K "_law_forms" "_law_forms" s__law_forms f fd) (hm : mg "_law_forms" = some (.ref f)) (hb : Binds K fd ["state", "one"] []) (bl : ∀ x : Str, bnames.contains x = true → mg x = none) (p__law_same : Pf P w K mg base 1 "_law_same" 2 c__law_same) (p_is_fraction : Pf P w K mg base 2 "is_fraction" 1 c_is_fraction) (p__law_draw : PfM P w K mg base 1 "_law_draw" 2 c__law_draw) (p__law_number : PfM P w K mg base 2 "_law_number" 1 c__law_number) (p_is_integer : Pf P w K mg base 1 "is_integer" 3 c_is_integer) : PfM P w K mg base 3 "_law_forms" 2 c__law_forms := by
  refine pf_ofM (k := 2) F sc__law_forms rfl hm hb bl (len__law_forms) fun cdv A outer s H G a E d ds kq hc c tk => ?_
  refine ⟨_, (dss_cons (ds_set (i := 2) c rfl (Or.inl rfl) (df_lst (da_cons (de_tup (da_cons (de_bin od_mul (de_ix (db_var 1) de_int.toB).toB de_int.toB) (da_cons (de_bin od_mul (de_ix (db_var 1) de_int.toB).toB de_int.toB) da_nil))) (da_cons (de_tup (da_cons (de_ix (db_var 1) de_int.toB) (da_cons de_int da_nil))) (da_cons (de_tup (da_cons (de_ix (db_var 1) de_int.toB) (da_cons (de_bin od_sub de_int.toB (de_ix (db_var 1) de_int.toB).toB) da_nil))) (da_cons (df_list c (db_var 1)).toE (da_cons (de_tup (da_cons (de_ix (db_var 1) de_int.toB) da_nil)) (da_cons (de_tup (da_cons de_bl (da_cons de_int da_nil))) (da_cons (de_tup (da_cons (de_ix (db_var 1) de_int.toB) (da_cons de_bl da_nil))) (da_cons (de_tup (da_cons de_str (da_cons de_int da_nil))) (da_cons de_non (da_cons (de_tup (da_cons de_int (da_cons de_int da_nil))) da_nil))))))))))).toE)
      (dss_cons (ds_if (dw_or (dt_not (dt_tru (de_call p__law_same c (da_cons (de_call p_is_fraction c (da_cons (de_ix (db_var 2) (de_callM (i := 0) p__law_draw c (da_cons de_int da_nil)).toB) da_nil)) (da_cons de_bl da_nil))).toB)) (dw_or1 (dt_not (dt_tru (de_call p__law_same c (da_cons (de_call p_is_fraction c (da_cons (de_var 1) da_nil)) (da_cons de_bl da_nil))).toB)))).t (dss_one (ds_ret de_bl)) dss_nil)
      (dss_cons (ds_set (i := 3) c rfl (Or.inl rfl) (de_ix (df_lst (da_cons (de_callM (i := 0) p__law_number c da_nil) (da_cons de_bl (da_cons de_non (da_cons de_str (da_cons (de_tup (da_cons de_int da_nil)) da_nil)))))).toE.toB (de_callM (i := 0) p__law_draw c (da_cons de_int da_nil)).toB))
      (dss_cons (ds_set (i := 4) c rfl (Or.inl rfl) (de_ix (df_lst (da_cons de_non (da_cons (de_bin od_sub de_int.toB de_int.toB) (da_cons de_int da_nil)))).toE.toB (de_callM (i := 0) p__law_draw c (da_cons de_int da_nil)).toB))
      (dss_cons (ds_set (i := 5) c rfl (Or.inl rfl) (de_ix (df_lst (da_cons de_non (da_cons de_int (da_cons (de_bin od_pow de_int.toB de_int.toB) da_nil)))).toE.toB (de_callM (i := 0) p__law_draw c (da_cons de_int da_nil)).toB))
      (dss_cons (ds_set (i := 6) c rfl (Or.inl rfl) (de_and (de_isi (T := .int) c (db_var 3) boot_int) (de_one (de_not (de_isi (T := .bool) c (db_var 3) boot_bool)))))
      (dss_one (ds_ret (de_call p__law_same c (da_cons (de_call p_is_integer c (da_cons (de_var 3) (da_cons (de_var 4) (da_cons (de_var 5) da_nil)))) (da_cons (de_and (de_var 6) (de_and (de_or (de_cmp od_is (db_var 4) de_non.toB) (de_one (de_cmp od_ge (db_var 3) (db_var 4)))) (de_one (de_or (de_cmp od_is (db_var 5) de_non.toB) (de_one (de_cmp od_le (db_var 3) (db_var 5))))))) da_nil))))))))))), ?_⟩
  obtain ⟨x, rfl, hx, hst, hq⟩ := hc
  walk_at "r"
  refine ⟨cm_r, ?_⟩
  walk_at "r"
  refine ⟨cm_r, ?_⟩
  walk_at "r"
  refine ⟨10, rfl, by decide, by decide, hst, fun r d1 h1 h2 hst => ?_⟩
  obtain ⟨v, hv, hf⟩ := bad_ix x r h1 h2
  walk_at "r"
  rw [hv]
  walk_at "r"
  refine ⟨v, rfl, ?_⟩
  rw [hf]
  walk_at "r"
  refine ⟨false, false, rfl, ?_⟩
  walk_at "r"
  refine ⟨_, rfl, ?_⟩
  rw [isFr_q]
  walk_at "r"
  refine ⟨true, true, rfl, ?_⟩
  walk_at "r"
  refine ⟨rfl, hst, fun n d1 h1 h2 hst => ?_⟩
  walk_at "r"
  refine ⟨5, rfl, by decide, by decide, hst, fun r d1 h1 h2 hst => ?_⟩
  have hr : r = 0 ∨ r = 1 ∨ r = 2 ∨ r = 3 ∨ r = 4 := by omega
  rcases hr with rfl | rfl | rfl | rfl | rfl
  all_goals
    walk_at "r"
    refine ⟨3, rfl, by decide, by decide, hst, fun r d1 h1 h2 hst => ?_⟩
    obtain ⟨lo, hlo⟩ := lo_ix (0 - 3) 5 r h1 h2
    walk_at "r"
    rw [hlo]
    walk_at "r"
    refine ⟨⟨by decide, by decide, by decide⟩, ?_⟩
    walk_at "r"
    refine ⟨3, rfl, by decide, by decide, hst, fun r d1 h1 h2 hst => ?_⟩
    obtain ⟨hi, hhi⟩ := lo_ix 2 (10 ^ 6) r h1 h2
    walk_at "r"
    have hhi' : L2.atI [PyData.none, .int 2, .int (10 ^ Int.toNat 6)] r = some (oI hi) := hhi
    rw [hhi']
    walk_at "r"
  all_goals
    refine ⟨_, lo, hi, rfl, ?_⟩
  case' inl =>
    rw [isInt_int]
    cases lo with
    | none =>
      rw [geO_none, Bool.true_and]
      cases hi with
      | none =>
        rw [leO_none]
        walk_at "r"
        refine ⟨_, _, rfl, ?_⟩
        walk_at "r"
        exact hq _ hst
      | some h =>
        rw [leO_some]
        walk_at "r"
        refine ⟨_, _, rfl, ?_⟩
        rw [beq_self_eq_true]
        walk_at "r"
        exact hq _ hst
    | some l =>
      rw [geO_some]
      walk_at "r"
      cases hi with
      | none =>
        rw [leO_none, Bool.and_true]
        refine brn.of (fun h => ?_) fun h => ?_
        · walk_at "r"
          refine ⟨_, _, rfl, ?_⟩
          rw [show decide (l ≤ n) = true from h]
          walk_at "r"
          exact hq _ hst
        · walk_at "r"
          refine ⟨_, _, rfl, ?_⟩
          rw [show decide (l ≤ n) = false from h]
          walk_at "r"
          exact hq _ hst
      | some u =>
        rw [leO_some]
        refine brn.of (fun h => ?_) fun h => ?_
        · walk_at "r"
          refine ⟨_, _, rfl, ?_⟩
          rw [show decide (l ≤ n) = true from h, Bool.true_and, beq_self_eq_true]
          walk_at "r"
          exact hq _ hst
        · walk_at "r"
          refine ⟨_, _, rfl, ?_⟩
          rw [show decide (l ≤ n) = false from h]
          walk_at "r"
          exact hq _ hst
  all_goals
    walk_at "r"
    refine ⟨_, _, rfl, ?_⟩
    walk_at "r"
    exact hq _ hst
end
end K00
namespace K00
open PySem PySem.Spec PyProof.Rows L2 Dn
local macro_rules | `(tactic| walk_at "r") => `(tactic| ((conv => whnf); (repeat (refine ⟨rfl, rfl, ?_⟩; (conv => whnf)))))
section
variable {P : Program} {w : World} {K : PySem.W.Frag} {mg : Str → Option Value} {base : Heap}
theorem ne_q {a b : Rat} (h : a = b) : (!PyData.eqv (encQ a) (encQ b)) = false := by rw [eqv_encQ, decide_eq_true h]; rfl
theorem encQ_0 : encQ 0 = .tuple [.int 0, .int 1] := rfl
theorem encQ_1 : encQ 1 = .tuple [.int 1, .int 1] := rfl
def encP (p : Rat × Rat) : D := .tuple [encQ p.1, encQ p.2]
def frR (ns : List Int) (d : D) (one two : Rat) (r : List Sl) : Ro := .seq (ns.map .int) :: .own d :: .val (encQ one) :: .val (encQ two) :: r
theorem bd1 {a : Nat} {x : Rat} (h : Bd a x) (ha : a ≤ 1000 := by decide) : Bd 1000 x := h.mono ha
theorem bd_sub {a b : Nat} {x y : Rat} (h : Bd a x) (k : Bd b y) : Bd (a + b + 1) (x - y) := by
  rw [Rat.sub_eq_add_neg]
  exact bd_add h (bd_neg k)
theorem bd_o : Bd 2 1 := ⟨by decide, by decide⟩
theorem less_q (x y : Rat) : decide (x < y) = decide (x.num * y.den < y.num * x.den) := decide_eq_decide.mpr (Rat.lt_iff x y)
theorem less_same (x y z : Rat) : (decide (x + z < y + z) == decide (decide (x < y) = true)) = true := by
  by_cases h : x < y
  · have h' := Rat.add_lt_add_right (c := z) |>.mpr h
    simp [h, h']
  · have h' : ¬ x + z < y + z := fun q => h (Rat.add_lt_add_right.mp q)
    simp [h, h']
theorem sum_app (qs : List Rat) : ∀ x y : Rat, qs.foldl (· + ·) (x + y) = x + qs.foldl (· + ·) y := by
  induction qs with
  | nil => intro x y; rfl
  | cons q qs ih => intro x y; rw [List.foldl_cons, List.foldl_cons, Rat.add_assoc, ih]
theorem sum_rev (qs : List Rat) : qs.reverse.foldl (· + ·) 0 = qs.foldl (· + ·) 0 := by
  induction qs with
  | nil => rfl
  | cons q qs ih =>
    rw [List.reverse_cons, List.foldl_append, ih, List.foldl_cons, List.foldl_cons, List.foldl_nil, Rat.add_comm 0 q, sum_app]
    exact Rat.add_comm ..
theorem all_dep (qs : List Rat) : (qs.map encQ).all (dep 19) = true := by
  rw [List.all_map]
  exact List.all_eq_true.mpr fun q _ => dep_encQ 18 q
theorem mem_in {m : Rat} {qs : List Rat} (h : m ∈ qs) : (!(qs.map encQ).any fun z => PyData.eqv z (encQ m)) = false := by
  have e : ((qs.map encQ).any fun z => PyData.eqv z (encQ m)) = true := List.any_eq_true.mpr ⟨encQ m, List.mem_map_of_mem h, by rw [eqv_encQ, decide_eq_true rfl]⟩
  rw [e]; rfl
theorem bools_rep (n : Nat) : boolsOf (List.replicate n (.bool false)) = some (List.replicate n false) := by
  induction n with
  | zero => rfl
  | succ n ih =>
    show (boolsOf (List.replicate n (.bool false))).map (false :: ·) = _
    rw [ih]; rfl
abbrev s_law : Stmt := topS 30
theorem sc_law : FnScope ["script", "state", "one", "two", "three", "rows", "total", "row", "low", "high", "base", "early", "late", "common", "first", "second", "back", "k"] ["script"] (defScope s_law) := ⟨rfl, rfl, rfl, by decide +kernel, rfl, by decide +kernel, by decide +kernel⟩
theorem ok_law {f : Addr} {fd : FuncData} (F : Fun K "law" "law" s_law f fd) (bl : ∀ x : Str, bnames.contains x = true → mg x = none) (p__law_fraction : PfM P w K mg base 3 "_law_fraction" 1 c__law_fraction) (p__law_draw : PfM P w K mg base 1 "_law_draw" 2 c__law_draw) (p_plus : Pf P w K mg base 3 "plus" 2 c_plus) (p_times : Pf P w K mg base 3 "times" 2 c_times) (p_minus : Pf P w K mg base 3 "minus" 2 c_minus) (p_negative : Pf P w K mg base 1 "negative" 1 c_negative) (p__law_over : Pf P w K mg base 4 "_law_over" 2 c__law_over) (p__law_same : Pf P w K mg base 1 "_law_same" 2 c__law_same) (p_is_less : Pf P w K mg base 1 "is_less" 2 c_is_less) (p_least_of : Pf P w K mg base 2 "least_of" 1 c_least_of) (p_greatest_of : Pf P w K mg base 2 "greatest_of" 1 c_greatest_of) (p_sum_of : Pf P w K mg base 4 "sum_of" 1 c_sum_of) (p_power : Pf P w K mg base 1 "power" 2 c_power) (p_common_divisor : Pf P w K mg base 1 "common_divisor" 2 c_common_divisor) (p__law_rounds : Pf P w K mg base 4 "_law_rounds" 1 c__law_rounds) (p__law_forms : PfM P w K mg base 3 "_law_forms" 2 c__law_forms) : FnOk P w K mg base CX0 5 f fd ["script"] (spLawD K) := by
  refine law_ok (k := 4) F sc_law bl fun cdv A outer s H E ns hns c tk => ?_
  refine ⟨_, (dss_cons (ds_setF (i := 1) c rfl (Or.inr rfl) (df_lst (da_cons de_int (da_cons de_int (da_cons (df_listS (i := 0) c).toE (da_cons de_int da_nil))))))
      (dss_cons (ds_set (i := 2) c rfl (Or.inl rfl) (de_callM (i := 1) p__law_fraction c da_nil))
      (dss_cons (ds_cut (ds_set (i := 3) c rfl (Or.inl rfl) (de_if (dt_cmp od_gt (de_callM (i := 1) p__law_draw c (da_cons de_int da_nil)).toB de_int.toB) (de_callM (i := 1) p__law_fraction c da_nil) (de_var 2))))
      (dss_cons (ds_set (i := 4) c rfl (Or.inl rfl) (de_callM (i := 1) p__law_fraction c da_nil))
      (dss_cons (ds_for c (di_seq (df_lst (da_cons (de_tup (da_cons (de_var 2) (da_cons (de_var 3) da_nil))) (da_cons (de_tup (da_cons (de_var 3) (da_cons (de_var 4) da_nil))) (da_cons (de_tup (da_cons (de_var 2) (da_cons (de_var 2) da_nil))) da_nil)))).toE) (dg_tup c (dgs_cons (dg_name (i := 14) c rfl (by first | exact Or.inl rfl | exact Or.inr rfl)) (dgs_cons (dg_name (i := 15) c rfl (by first | exact Or.inl rfl | exact Or.inr rfl)) dgs_nil))) (dss_cons (ds_if (dw_or (dt_cmp (od_ne c) (de_call p_plus c (da_cons (de_var 14) (da_cons (de_var 15) da_nil))).toB (de_call p_plus c (da_cons (de_var 15) (da_cons (de_var 14) da_nil))).toB) (dw_or (dt_cmp (od_ne c) (de_call p_times c (da_cons (de_var 14) (da_cons (de_var 15) da_nil))).toB (de_call p_times c (da_cons (de_var 15) (da_cons (de_var 14) da_nil))).toB) (dw_or1 (dt_cmp (od_ne c) (de_call p_minus c (da_cons (de_var 14) (da_cons (de_var 15) da_nil))).toB (de_call p_plus c (da_cons (de_var 14) (da_cons (de_call p_negative c (da_cons (de_var 15) da_nil)) da_nil))).toB)))).t (dss_one (ds_ret de_bl)) dss_nil)
        (dss_cons (ds_if (dw_or (dt_cmp (od_ne c) (de_call p_minus c (da_cons (de_call p_plus c (da_cons (de_var 14) (da_cons (de_var 15) da_nil))) (da_cons (de_var 15) da_nil))).toB (db_var 14)) (dw_or (dt_cmp (od_ne c) (de_call p_plus c (da_cons (de_var 14) (da_cons (de_call p_negative c (da_cons (de_var 14) da_nil)) da_nil))).toB (de_tup (da_cons de_int (da_cons de_int da_nil))).toB) (dw_or1 (dt_cmp (od_ne c) (de_call p_times c (da_cons (de_var 14) (da_cons (de_tup (da_cons de_int (da_cons de_int da_nil))) da_nil))).toB (db_var 14))))).t (dss_one (ds_ret de_bl)) dss_nil)
        (dss_cons (ds_cut (ds_set (i := 16) c rfl (Or.inl rfl) (de_call p__law_over c (da_cons (de_call p_times c (da_cons (de_var 14) (da_cons (de_var 15) da_nil))) (da_cons (de_var 15) da_nil)))))
        (dss_cons (ds_cut (ds_if (dw_or (dt_cmp (od_ne c) (de_cmp od_is (db_var 16) de_non.toB).toB (de_cmp (od_eq c) (de_ix (db_var 15) de_int.toB).toB de_int.toB).toB) (dw_or1 (dw_and (dt_cmp od_isn (db_var 16) de_non.toB) (dw_and1 (dt_cmp (od_ne c) (db_var 16) (db_var 14)))).t)).t (dss_one (ds_ret de_bl)) dss_nil))
        (dss_one (ds_if (dw_or (dt_not (dt_tru (de_call p__law_same c (da_cons (de_call p_is_less c (da_cons (de_var 14) (da_cons (de_var 15) da_nil))) (da_cons (de_cmp od_lt (de_bin od_mul (de_ix (db_var 14) de_int.toB).toB (de_ix (db_var 15) de_int.toB).toB).toB (de_bin od_mul (de_ix (db_var 15) de_int.toB).toB (de_ix (db_var 14) de_int.toB).toB).toB) da_nil))).toB)) (dw_or1 (dw_and (dt_tru (de_call p_is_less c (da_cons (de_var 14) (da_cons (de_var 15) da_nil))).toB) (dw_and1 (dt_tru (de_call p_is_less c (da_cons (de_var 15) (da_cons (de_var 14) da_nil))).toB))).t)).t (dss_one (ds_ret de_bl)) dss_nil)))))))
      (dss_cons (ds_if (dw_or (dt_cmp (od_ne c) (de_call p_plus c (da_cons (de_call p_plus c (da_cons (de_var 2) (da_cons (de_var 3) da_nil))) (da_cons (de_var 4) da_nil))).toB (de_call p_plus c (da_cons (de_var 2) (da_cons (de_call p_plus c (da_cons (de_var 3) (da_cons (de_var 4) da_nil))) da_nil))).toB) (dw_or1 (dt_cmp (od_ne c) (de_call p_times c (da_cons (de_call p_times c (da_cons (de_var 2) (da_cons (de_var 3) da_nil))) (da_cons (de_var 4) da_nil))).toB (de_call p_times c (da_cons (de_var 2) (da_cons (de_call p_times c (da_cons (de_var 3) (da_cons (de_var 4) da_nil))) da_nil))).toB))).t (dss_one (ds_ret de_bl)) dss_nil)
      (dss_cons (ds_if (dw_or (dt_cmp (od_ne c) (de_call p_times c (da_cons (de_var 2) (da_cons (de_call p_plus c (da_cons (de_var 3) (da_cons (de_var 4) da_nil))) da_nil))).toB (de_call p_plus c (da_cons (de_call p_times c (da_cons (de_var 2) (da_cons (de_var 3) da_nil))) (da_cons (de_call p_times c (da_cons (de_var 2) (da_cons (de_var 4) da_nil))) da_nil))).toB) (dw_or1 (dt_not (dt_tru (de_call p__law_same c (da_cons (de_call p_is_less c (da_cons (de_call p_plus c (da_cons (de_var 2) (da_cons (de_var 4) da_nil))) (da_cons (de_call p_plus c (da_cons (de_var 3) (da_cons (de_var 4) da_nil))) da_nil))) (da_cons (de_cmp od_is (de_call p_is_less c (da_cons (de_var 2) (da_cons (de_var 3) da_nil))).toB de_bl.toB) da_nil))).toB)))).t (dss_one (ds_ret de_bl)) dss_nil)
      (dss_cons (ds_cut (ds_set (i := 5) c rfl (Or.inl rfl) (de_bin od_add (df_lc (own := [("k", 17)]) c (di_range1 (nb c) (dbs_cons (de_bin od_add de_int.toB (de_callM (i := 1) p__law_draw c (da_cons de_int da_nil)).toB).toB dbs_nil)) rfl (fun _ _ _ _ _ _ _ c => (dg_name (i := 17) c rfl (by first | exact Or.inl rfl | exact Or.inr rfl))) (fun _ _ _ _ _ _ _ c => dts_nil) (fun _ _ _ _ _ _ _ c => (de_callM (i := 1) p__law_fraction c da_nil))).toE.toB (df_lst (da_cons (de_var 2) da_nil)).toE.toB)))
      (dss_cons (ds_set (i := 6) c rfl (Or.inl rfl) (de_tup (da_cons de_int (da_cons de_int da_nil))))
      (dss_cons (ds_for c (di_seq (de_var 5)) (dg_name (i := 7) c rfl (by first | exact Or.inl rfl | exact Or.inr rfl)) (dss_one (ds_set (i := 6) c rfl (Or.inl rfl) (de_call p_plus c (da_cons (de_var 6) (da_cons (de_var 7) da_nil))))))
      (dss_cons (ds_set (i := 8) c rfl (Or.inr rfl) (de_call p_least_of c (da_cons (df_list c (db_var 5)).toE da_nil)))
      (dss_cons (ds_set (i := 9) c rfl (Or.inr rfl) (de_call p_greatest_of c (da_cons (df_list c (db_var 5)).toE da_nil)))
      (dss_cons (ds_if (dw_or (dt_cmp (od_ne c) (de_call p_sum_of c (da_cons (df_list c (db_var 5)).toE da_nil)).toB (db_var 6)) (dw_or (dt_cmp (od_ne c) (de_call p_sum_of c (da_cons (df_listR c (db_var 5)).toE da_nil)).toB (db_var 6)) (dw_or (dt_cmp (od_ne c) (de_call p_sum_of c (da_cons (de_tup da_nil) da_nil)).toB (de_tup (da_cons de_int (da_cons de_int da_nil))).toB) (dw_or (dt_cmp (od_notin c) (db_var 8) (db_var 5)) (dw_or1 (dt_cmp (od_notin c) (db_var 9) (db_var 5))))))).t (dss_one (ds_ret de_bl)) dss_nil)
      (dss_cons (ds_cut (ds_if (dw_or (dt_tru (de_callB (cd_any c) (nb c) boot_any (dbs_cons (df_lc (own := [("row", 7)]) c (di_seq (de_var 5)) rfl (fun _ _ _ _ _ _ _ c => (dg_name (i := 7) c rfl (by first | exact Or.inl rfl | exact Or.inr rfl))) (fun _ _ _ _ _ _ _ c => dts_nil) (fun _ _ _ _ _ _ _ c => (de_or (de_call p_is_less c (da_cons (de_var 7) (da_cons (de_var 8) da_nil))) (de_one (de_call p_is_less c (da_cons (de_var 9) (da_cons (de_var 7) da_nil))))))).toE.toB dbs_nil)).toB) (dw_or1 (dt_cmp (od_ne c) (de_call p_least_of c (da_cons (df_lc (own := [("row", 7)]) c (di_seq (de_var 5)) rfl (fun _ _ _ _ _ _ _ c => (dg_name (i := 7) c rfl (by first | exact Or.inl rfl | exact Or.inr rfl))) (fun _ _ _ _ _ _ _ c => dts_nil) (fun _ _ _ _ _ _ _ c => (de_call p_negative c (da_cons (de_var 7) da_nil)))).toE da_nil)).toB (de_call p_negative c (da_cons (de_var 9) da_nil)).toB))).t (dss_one (ds_ret de_bl)) dss_nil))
      (dss_cons (ds_set (i := 10) c rfl (Or.inl rfl) (de_bin od_sub (de_callM (i := 1) p__law_draw c (da_cons de_int da_nil)).toB de_int.toB))
      (dss_cons (ds_set (i := 11) c rfl (Or.inl rfl) (de_callM (i := 1) p__law_draw c (da_cons de_int da_nil)))
      (dss_cons (ds_set (i := 12) c rfl (Or.inl rfl) (de_callM (i := 1) p__law_draw c (da_cons de_int da_nil)))
      (dss_cons (ds_if (dw_or (dt_cmp (od_ne c) (de_call p_power c (da_cons (de_var 10) (da_cons (de_bin od_add (db_var 11) (db_var 12)) da_nil))).toB (de_bin od_mul (de_call p_power c (da_cons (de_var 10) (da_cons (de_var 11) da_nil))).toB (de_call p_power c (da_cons (de_var 10) (da_cons (de_var 12) da_nil))).toB).toB) (dw_or (dt_cmp (od_ne c) (de_call p_power c (da_cons (de_var 10) (da_cons de_int da_nil))).toB de_int.toB) (dw_or1 (dt_cmp (od_ne c) (de_call p_power c (da_cons (de_var 10) (da_cons de_int da_nil))).toB (db_var 10))))).t (dss_one (ds_ret de_bl)) dss_nil)
      (dss_cons (ds_set (i := 13) c rfl (Or.inl rfl) (de_call p_common_divisor c (da_cons (de_bin od_mul (de_ix (db_var 2) de_int.toB).toB de_int.toB) (da_cons (de_bin od_mul (de_ix (db_var 2) de_int.toB).toB de_int.toB) da_nil))))
      (dss_one (ds_ret (de_and (de_cmp (od_eq c) (db_var 13) de_int.toB) (de_and (de_cmp (od_eq c) (de_call p_common_divisor c (da_cons de_int (da_cons (de_bin od_sub de_int.toB de_int.toB) da_nil))).toB de_int.toB) (de_and (de_call p__law_rounds c (da_cons (de_var 2) da_nil)) (de_and (de_call p__law_rounds c (da_cons (de_var 4) da_nil)) (de_one (de_callM (i := 1) p__law_forms c (da_cons (de_var 3) da_nil)))))))))))))))))))))))))))), ?_⟩
  walk_at "r"
  refine ⟨rfl, ⟨0, 0, ns, 1, rfl⟩, fun one d1 b1 st1 => ?_⟩
  walk_at "r"
  refine ⟨fun ρ => ∃ d two, isSt d ∧ Bd 41 two ∧ ρ = frR ns d one two (List.replicate 14 .non), ?_, ?_⟩
  · walk_at "r"
    refine ⟨4, rfl, by decide, by decide, st1, fun r d2 h1 h2 st2 => ?_⟩
    walk_at "r"
    refine brn.of (fun h => ?_) fun h => ?_
    · walk_at "r"
      refine ⟨rfl, st2, fun two d3 b2 st3 => ?_⟩
      exact ⟨d3, two, st3, b2, rfl⟩
    · walk_at "r"
      exact ⟨d2, one, st2, b1, rfl⟩
  rintro ρ ⟨d2, two, st2, b2, rfl⟩
  walk_at "r"
  refine ⟨rfl, st2, fun three d3 b3 st3 => ?_⟩
  walk_at "r"
  refine ⟨fun r ρ => ∃ (ps : List (Rat × Rat)) (a b c : Sl), r = ps.map encP ∧ (∀ p ∈ ps, Bd 41 p.1 ∧ Bd 41 p.2) ∧ ρ = frR ns d3 one two (.val (encQ three) :: (List.replicate 9 .non ++ [a, b, c, .non])), ?_, ?_, ?_⟩
  · exact ⟨[(one, two), (two, three), (one, one)], .non, .non, .non, rfl, by simp [b1, b2, b3], rfl⟩
  · rintro v r ρ ⟨ps, a, b, c, h1, h2, rfl⟩
    obtain ⟨⟨x, y⟩, ps, rfl, rfl, rfl⟩ := map_cons_inv h1
    obtain ⟨hx, hy⟩ := h2 _ (List.mem_cons_self ..)
    have hps : ∀ p ∈ ps, Bd 41 p.1 ∧ Bd 41 p.2 := fun p hp => h2 p (List.mem_cons_of_mem _ hp)
    have hx : Bd 41 x := hx
    have hy : Bd 41 y := hy
    have hs := bd_add hx hy
    have hm := bd_mul hx hy
    have ny := bd_neg hy
    have nx := bd_neg hx
    walk_at "r"
    refine ⟨x, y, rfl, bd1 hx, bd1 hy, ?_⟩
    walk_at "r"
    refine ⟨y, x, rfl, bd1 hy, bd1 hx, ?_⟩
    walk_at "r"
    refine brn.ff (ne_q (Rat.add_comm x y)) ?_
    walk_at "r"
    refine ⟨x, y, rfl, bd1 hx, bd1 hy, ?_⟩
    walk_at "r"
    refine ⟨y, x, rfl, bd1 hy, bd1 hx, ?_⟩
    walk_at "r"
    refine brn.ff (ne_q (Rat.mul_comm x y)) ?_
    walk_at "r"
    refine ⟨x, y, rfl, bd1 hx, bd1 hy, ?_⟩
    walk_at "r"
    refine ⟨y, rfl, bd1 hy, ?_⟩
    walk_at "r"
    refine ⟨x, -y, rfl, bd1 hx, bd1 ny, ?_⟩
    walk_at "r"
    refine brn.ff (ne_q (Rat.sub_eq_add_neg x y)) ?_
    walk_at "r"
    refine ⟨x, y, rfl, bd1 hx, bd1 hy, ?_⟩
    walk_at "r"
    refine ⟨x + y, y, rfl, bd1 hs, bd1 hy, ?_⟩
    walk_at "r"
    refine brn.ff (ne_q (by grind)) ?_
    walk_at "r"
    refine ⟨x, rfl, bd1 hx, ?_⟩
    walk_at "r"
    refine ⟨x, -x, rfl, bd1 hx, bd1 nx, ?_⟩
    walk_at "r"
    refine brn.ff (ne_q (b := 0) (by grind)) ?_
    walk_at "r"
    refine ⟨x, 1, rfl, bd1 hx, bd1 bd_o, ?_⟩
    walk_at "r"
    refine brn.ff (ne_q (by grind)) ?_
    walk_at "r"
    refine ⟨fun ρ => ∃ bk, ((y = 0 ∧ bk = .none) ∨ (y ≠ 0 ∧ bk = encQ x)) ∧ ρ = frR ns d3 one two (.val (encQ three) :: (List.replicate 9 .non ++ [.val (encQ x), .val (encQ y), .val bk, .non])), ?_, ?_⟩
    · walk_at "r"
      refine ⟨x, y, rfl, bd1 hx, bd1 hy, ?_⟩
      walk_at "r"
      refine ⟨x * y, y, rfl, bd1 hm, bd1 hy, fun h0 => ?_, fun h0 => ?_⟩
      · exact ⟨_, .inl ⟨h0, rfl⟩, rfl⟩
      · exact ⟨_, .inr ⟨h0, rfl⟩, by rw [Rat.mul_div_cancel h0]; rfl⟩
    rintro ρ ⟨bk, hbk, rfl⟩
    walk_at "r"
    refine ⟨fun ρ => ρ = frR ns d3 one two (.val (encQ three) :: (List.replicate 9 .non ++ [.val (encQ x), .val (encQ y), .val bk, .non])), ?_, ?_⟩
    · rcases hbk with ⟨h0, rfl⟩ | ⟨h0, rfl⟩
      · walk_at "r"
        refine brn.ff (by rw [eqvI, decide_eq_true (num_zero.mpr h0)]; rfl) ?_
        walk_at "r"
      · walk_at "r"
        refine brn.ff (by rw [eqvI, decide_eq_false (fun z => h0 (num_zero.mp z))]; rfl) ?_
        walk_at "r"
        refine brn.ff (ne_q rfl) ?_
        walk_at "r"
    rintro ρ rfl
    walk_at "r"
    refine ⟨x, y, rfl, bd1 hx, bd1 hy, ?_⟩
    walk_at "r"
    refine ⟨cm_nd hx hy, ?_⟩
    walk_at "r"
    refine ⟨cm_nd hy hx, ?_⟩
    walk_at "r"
    refine ⟨_, _, rfl, ?_⟩
    rw [less_q, beq_self_eq_true]
    walk_at "r"
    refine ⟨x, y, rfl, bd1 hx, bd1 hy, ?_⟩
    walk_at "r"
    refine brn.of (fun h => ?_) fun h => ?_
    · have h := of_decide_eq_true h
      walk_at "r"
      refine ⟨y, x, rfl, bd1 hy, bd1 hx, ?_⟩
      walk_at "r"
      refine brn.ff (decide_eq_false (by grind)) ?_
      walk_at "r"
      exact ⟨ps, _, _, _, rfl, hps, rfl⟩
    · walk_at "r"
      exact ⟨ps, _, _, _, rfl, hps, rfl⟩
  · rintro ρ ⟨ps, a, b, c, h1, h2, rfl⟩
    clear h1 h2
    have h12 := bd_add b1 b2
    have h23 := bd_add b2 b3
    have h13 := bd_add b1 b3
    have m12 := bd_mul b1 b2
    have m23 := bd_mul b2 b3
    have m13 := bd_mul b1 b3
    walk_at "r"
    refine ⟨one, two, rfl, bd1 b1, bd1 b2, ?_⟩
    walk_at "r"
    refine ⟨one + two, three, rfl, bd1 h12, bd1 b3, ?_⟩
    walk_at "r"
    refine ⟨two, three, rfl, bd1 b2, bd1 b3, ?_⟩
    walk_at "r"
    refine ⟨one, two + three, rfl, bd1 b1, bd1 h23, ?_⟩
    walk_at "r"
    refine brn.ff (ne_q (by grind)) ?_
    walk_at "r"
    refine ⟨one, two, rfl, bd1 b1, bd1 b2, ?_⟩
    walk_at "r"
    refine ⟨one * two, three, rfl, bd1 m12, bd1 b3, ?_⟩
    walk_at "r"
    refine ⟨two, three, rfl, bd1 b2, bd1 b3, ?_⟩
    walk_at "r"
    refine ⟨one, two * three, rfl, bd1 b1, bd1 m23, ?_⟩
    walk_at "r"
    refine brn.ff (ne_q (by grind)) ?_
    walk_at "r"
    refine ⟨two, three, rfl, bd1 b2, bd1 b3, ?_⟩
    walk_at "r"
    refine ⟨one, two + three, rfl, bd1 b1, bd1 h23, ?_⟩
    walk_at "r"
    refine ⟨one, two, rfl, bd1 b1, bd1 b2, ?_⟩
    walk_at "r"
    refine ⟨one, three, rfl, bd1 b1, bd1 b3, ?_⟩
    walk_at "r"
    refine ⟨one * two, one * three, rfl, bd1 m12, bd1 m13, ?_⟩
    walk_at "r"
    refine brn.ff (ne_q (by grind)) ?_
    walk_at "r"
    refine ⟨one, three, rfl, bd1 b1, bd1 b3, ?_⟩
    walk_at "r"
    refine ⟨two, three, rfl, bd1 b2, bd1 b3, ?_⟩
    walk_at "r"
    refine ⟨one + three, two + three, rfl, bd1 h13, bd1 h23, ?_⟩
    walk_at "r"
    refine ⟨one, two, rfl, bd1 b1, bd1 b2, ?_⟩
    walk_at "r"
    refine ⟨_, _, rfl, ?_⟩
    rw [less_same]
    walk_at "r"
    refine ⟨fun ρ => ∃ (d : D) (qs : List Rat), isSt d ∧ qs.length ≤ 6 ∧ qs ≠ [] ∧ (∀ q ∈ qs, Bd 41 q) ∧ ∃ k, ρ = frR ns d one two (.val (encQ three) :: .val (.list (qs.map encQ)) :: (List.replicate 8 .non ++ [a, b, c, k])), ?_, ?_⟩
    · walk_at "r"
      refine ⟨5, rfl, by decide, by decide, st3, fun r d4 h1 h2 st4 => ?_⟩
      walk_at "r"
      have hr : ∃ n : Nat, r = n ∧ n < 5 := ⟨r.toNat, by omega, by omega⟩
      obtain ⟨n, rfl, hn⟩ := hr
      refine ⟨by omega, ?_⟩
      walk_at "r"
      refine ⟨fun r acc ρ => ∃ (d : D) (qs : List Rat), isSt d ∧ acc = qs.map encQ ∧ (∀ q ∈ qs, Bd 41 q) ∧ qs.length + r.length ≤ 5 ∧ ρ = frR ns d one two (.val (encQ three) :: (List.replicate 9 .non ++ [a, b, c, .non])), ?_, ?_, ?_⟩
      · refine ⟨d4, [], st4, rfl, by simp, ?_, rfl⟩
        show 0 + _ ≤ 5
        simp [rangeD]
        omega
      · rintro x r acc ρ ⟨d, qs, st5, rfl, hb, hl, rfl⟩ G0 H0
        walk_at "r"
        refine ⟨rfl, st5, fun q d6 b6 st6 => ?_⟩
        walk_at "r"
        refine ⟨?_, d6, qs ++ [q], st6, by simp, ?_, ?_, rfl⟩
        · rw [List.length_cons] at hl; simp; omega
        · intro q' hq'
          rcases List.mem_append.mp hq' with h | h
          · exact hb _ h
          · rw [List.mem_singleton.mp h]; exact b6
        · rw [List.length_cons] at hl; simp; omega
      · rintro acc ρ ⟨d, qs, st5, rfl, hb, hl, rfl⟩
        walk_at "r"
        refine ⟨by simp; omega, d, qs ++ [one], st5, by simp; omega, by simp, ?_, .non, ?_⟩
        · intro q' hq'
          rcases List.mem_append.mp hq' with h | h
          · exact hb _ h
          · rw [List.mem_singleton.mp h]; exact b1
        · rw [List.map_append]; rfl
    rintro ρ ⟨d4, qs, st4, hl, hne, hb, k, rfl⟩
    walk_at "r"
    refine ⟨fun r ρ => ∃ (ps : List Rat) (x : Rat) (j : Nat) (v : Sl), ρ = frR ns d4 one two (.val (encQ three) :: .val (.list (qs.map encQ)) :: .val (encQ x) :: v :: (List.replicate 6 .non ++ [a, b, c, k])) ∧ r = ps.map encQ ∧ ps.foldl (· + ·) x = qs.foldl (· + ·) 0 ∧ Bd (42 * j + 1) x ∧ j + ps.length ≤ 6 ∧ ∀ q ∈ ps, Bd 41 q, ?_, ?_, ?_⟩
    · exact ⟨qs, 0, 0, _, rfl, rfl, rfl, bd_one, by omega, hb⟩
    · rintro x r ρ ⟨ps, y, j, v, rfl, h1, h2, h3, h4, h5⟩
      obtain ⟨p, ps, rfl, rfl, rfl⟩ := map_cons_inv h1
      have hp := h5 p (List.mem_cons_self ..)
      have hl := h4
      rw [List.length_cons] at hl
      walk_at "r"
      refine ⟨y, p, rfl, h3.mono (by omega), hp.mono (by decide), ?_⟩
      walk_at "r"
      exact ⟨ps, y + p, j + 1, _, rfl, rfl, h2, (bd_add h3 hp).mono (by omega), by omega, fun q hq => h5 q (List.mem_cons_of_mem _ hq)⟩
    · rintro ρ ⟨ps, x, j, v, rfl, h1, h2, h3, h4, h5⟩
      cases map_nil_inv h1
      have h2 : x = qs.foldl (· + ·) 0 := h2
      have hx : Bd 1000 x := h3.mono (by simp at h4; omega)
      walk_at "r"
      refine ⟨qs, rfl, hne, hl, hb, fun lo lo1 lo2 => ?_⟩
      walk_at "r"
      refine ⟨qs, rfl, hne, hl, hb, fun hi hi1 hi2 => ?_⟩
      walk_at "r"
      refine ⟨true, qs, rfl, hl, hb, ?_⟩
      walk_at "r"
      refine brn.ff (ne_q h2.symm) ?_
      walk_at "r"
      refine ⟨true, qs.reverse, by rw [← List.map_reverse]; rfl, by rw [List.length_reverse]; exact hl, fun q h => hb q (List.mem_reverse.mp h), ?_⟩
      walk_at "r"
      refine brn.ff (ne_q ((sum_rev qs).trans h2.symm)) ?_
      walk_at "r"
      refine ⟨false, [], rfl, by decide, by simp, ?_⟩
      walk_at "r"
      refine ⟨rfl, all_dep qs, ?_⟩
      walk_at "r"
      refine brn.ff (mem_in lo1) ?_
      walk_at "r"
      refine ⟨rfl, all_dep qs, ?_⟩
      walk_at "r"
      refine brn.ff (mem_in hi1) ?_
      walk_at "r"
      have blo := hb lo lo1
      have bhi := hb hi hi1
      refine ⟨fun ρ => ∃ v, ρ = frR ns d4 one two (.val (encQ three) :: .val (.list (qs.map encQ)) :: .val (encQ x) :: v :: .val (encQ lo) :: .val (encQ hi) :: (List.replicate 4 .non ++ [a, b, c, k])), ?_, ?_⟩
      · walk_at "r"
        refine ⟨fun r acc ρ => ∃ (ps : List Rat) (n : Nat), r = ps.map encQ ∧ (∀ p ∈ ps, p ∈ qs) ∧ acc = List.replicate n (.bool false) ∧ n + ps.length ≤ 6 ∧ ρ = frR ns d4 one two (.val (encQ three) :: .val (.list (qs.map encQ)) :: .val (encQ x) :: .non :: .val (encQ lo) :: .val (encQ hi) :: (List.replicate 4 .non ++ [a, b, c, k])), ?_, ?_, ?_⟩
        · exact ⟨qs, 0, rfl, fun _ h => h, rfl, by omega, rfl⟩
        · rintro x r acc ρ ⟨ps, n, h1, h2, rfl, h4, rfl⟩ G0 H0
          obtain ⟨p, ps, rfl, rfl, rfl⟩ := map_cons_inv h1
          have hp := h2 p (List.mem_cons_self ..)
          rw [List.length_cons] at h4
          walk_at "r"
          refine ⟨p, lo, rfl, bd1 (hb p hp), bd1 blo, ?_⟩
          walk_at "r"
          refine brn.ff (decide_eq_false (Rat.not_lt.mpr (lo2 p hp))) ?_
          walk_at "r"
          refine ⟨hi, p, rfl, bd1 bhi, bd1 (hb p hp), ?_⟩
          walk_at "r"
          refine ⟨by rw [List.length_replicate]; omega, ps, n + 1, rfl, fun q hq => h2 q (List.mem_cons_of_mem _ hq), ?_, by omega, rfl⟩
          rw [decide_eq_false (Rat.not_lt.mpr (hi2 p hp)), List.replicate_succ']
        · rintro acc ρ ⟨ps, n, h1, h2, rfl, h4, rfl⟩
          walk_at "r"
          rw [bools_rep]
          walk_at "r"
          refine brn.ff (by rw [List.any_replicate]; simp) ?_
          walk_at "r"
          refine ⟨fun r acc ρ => ∃ (ps done : List Rat), r = ps.map encQ ∧ acc = (done.map (- ·)).map encQ ∧ done ++ ps = qs ∧ ρ = frR ns d4 one two (.val (encQ three) :: .val (.list (qs.map encQ)) :: .val (encQ x) :: .non :: .val (encQ lo) :: .val (encQ hi) :: (List.replicate 4 .non ++ [a, b, c, k])), ?_, ?_, ?_⟩
          · exact ⟨qs, [], rfl, rfl, rfl, rfl⟩
          · rintro x r acc ρ ⟨ps, done, h1, rfl, h3, rfl⟩ G0 H0
            obtain ⟨p, ps, rfl, rfl, rfl⟩ := map_cons_inv h1
            have hp : p ∈ qs := by rw [← h3]; simp
            walk_at "r"
            refine ⟨p, rfl, bd1 (hb p hp), ?_⟩
            walk_at "r"
            refine ⟨?_, ps, done ++ [p], rfl, by simp, by rw [← h3]; simp, rfl⟩
            have := congrArg List.length h3
            simp at this ⊢
            omega
          · rintro acc ρ ⟨ps, done, h1, rfl, h3, rfl⟩
            cases map_nil_inv h1
            rw [List.append_nil] at h3
            subst h3
            walk_at "r"
            refine ⟨done.map (- ·), rfl, by simpa using hne, by rw [List.length_map]; exact hl, ?_, fun m m1 m2 => ?_⟩
            · intro q hq
              obtain ⟨q', h, rfl⟩ := List.mem_map.mp hq
              exact bd_neg (hb q' h)
            walk_at "r"
            refine ⟨hi, rfl, bd1 bhi, ?_⟩
            walk_at "r"
            refine brn.ff (ne_q ?_) ?_
            · obtain ⟨q', h, rfl⟩ := List.mem_map.mp m1
              exact Rat.le_antisymm (m2 _ (List.mem_map_of_mem hi1)) (Rat.neg_le_neg (hi2 q' h))
            walk_at "r"
            exact ⟨_, rfl⟩
      rintro ρ ⟨v, rfl⟩
      walk_at "r"
      refine ⟨41, rfl, by decide, by decide, st4, fun r1 d5 h1 h2 st5 => ?_⟩
      walk_at "r"
      refine ⟨20, rfl, by decide, by decide, st5, fun r2 d6 h3 h4 st6 => ?_⟩
      walk_at "r"
      refine ⟨20, rfl, by decide, by decide, st6, fun r3 d7 h5 h6 st7 => ?_⟩
      walk_at "r"
      obtain ⟨e, he, he'⟩ : ∃ n : Nat, r2 = n ∧ n < 20 := ⟨r2.toNat, by omega, by omega⟩
      obtain ⟨l, hl, hl'⟩ : ∃ n : Nat, r3 = n ∧ n < 20 := ⟨r3.toNat, by omega, by omega⟩
      subst he hl
      refine ⟨r1 - 20, e + l, rfl, by omega, by omega, ?_⟩
      walk_at "r"
      refine ⟨r1 - 20, e, rfl, by omega, by omega, ?_⟩
      walk_at "r"
      refine ⟨r1 - 20, l, rfl, by omega, by omega, ?_⟩
      walk_at "r"
      refine ⟨pow_cm (by omega) (by omega) (by omega), ?_⟩
      walk_at "r"
      refine brn.ff (by rw [eqvI, Int.pow_add, decide_eq_true rfl]; rfl) ?_
      walk_at "r"
      refine ⟨r1 - 20, 0, rfl, by omega, by omega, ?_⟩
      walk_at "r"
      refine brn.ff (by rw [eqvI, Int.pow_zero, decide_eq_true rfl]; rfl) ?_
      walk_at "r"
      refine ⟨r1 - 20, 1, rfl, by omega, by omega, ?_⟩
      walk_at "r"
      refine brn.ff (by rw [eqvI, decide_eq_true (by rw [Int.pow_succ, Int.pow_zero, Int.one_mul])]; rfl) ?_
      walk_at "r"
      refine ⟨cm_r, ?_⟩
      walk_at "r"
      refine ⟨cm_r, ?_⟩
      walk_at "r"
      refine ⟨_, _, rfl, ?_⟩
      have hg : (((one.num * 6).gcd (one.den * 6) : Nat) : Int) = 6 := by
        rw [Int.gcd_mul_right, show one.num.gcd one.den = 1 from one.reduced]; rfl
      rw [hg]
      walk_at "r"
      refine ⟨0, 0 - 5, rfl, ?_⟩
      walk_at "r"
      refine ⟨one, rfl, b1, ?_⟩
      walk_at "r"
      refine ⟨three, rfl, b3, ?_⟩
      walk_at "r"
      refine ⟨two, rfl, b2, st7, fun d8 st8 => ?_⟩
      walk_at "r"
end
end K00
namespace K00
open PySem PySem.Spec PyProof.Rows L2 Dn
theorem all_mk {P : Program} {w : World} {K : PySem.W.Frag} {h : Heap} {mg : Str → Option Value} {fa C_NoSuch f_is_integer f_common_divisor f_power f_fraction f_whole f_is_fraction f_plus f_minus f_times f_over f_negative f_is_less f_floor_of f_rounded_up f_nearest f_sum_of f_least_of f_greatest_of f__law_draw f__law_same f__law_number f__law_fraction f__law_over f__law_rounds f__law_forms f_law : Addr} (X : K.In h) (G : h.Ns mainGlobals mg) (hfa : mg "law" = some (.ref fa))
    {oc_is_integer kV_is_integer dc_is_integer pm_is_integer cd_is_integer ct_is_integer : Value} {od_is_integer an_is_integer : Option Addr} {sl_is_integer : Array (Option Value)}
    {oc_common_divisor kV_common_divisor dc_common_divisor pm_common_divisor cd_common_divisor ct_common_divisor : Value} {od_common_divisor an_common_divisor : Option Addr} {sl_common_divisor : Array (Option Value)}
    {oc_power kV_power dc_power pm_power cd_power ct_power : Value} {od_power an_power : Option Addr} {sl_power : Array (Option Value)}
    {oc_fraction kV_fraction dc_fraction pm_fraction cd_fraction ct_fraction : Value} {od_fraction an_fraction : Option Addr} {sl_fraction : Array (Option Value)}
    {oc_whole kV_whole dc_whole pm_whole cd_whole ct_whole : Value} {od_whole an_whole : Option Addr} {sl_whole : Array (Option Value)}
    {oc_is_fraction kV_is_fraction dc_is_fraction pm_is_fraction cd_is_fraction ct_is_fraction : Value} {od_is_fraction an_is_fraction : Option Addr} {sl_is_fraction : Array (Option Value)}
    {oc_plus kV_plus dc_plus pm_plus cd_plus ct_plus : Value} {od_plus an_plus : Option Addr} {sl_plus : Array (Option Value)}
    {oc_minus kV_minus dc_minus pm_minus cd_minus ct_minus : Value} {od_minus an_minus : Option Addr} {sl_minus : Array (Option Value)}
    {oc_times kV_times dc_times pm_times cd_times ct_times : Value} {od_times an_times : Option Addr} {sl_times : Array (Option Value)}
    {oc_over kV_over dc_over pm_over cd_over ct_over : Value} {od_over an_over : Option Addr} {sl_over : Array (Option Value)}
    {oc_negative kV_negative dc_negative pm_negative cd_negative ct_negative : Value} {od_negative an_negative : Option Addr} {sl_negative : Array (Option Value)}
    {oc_is_less kV_is_less dc_is_less pm_is_less cd_is_less ct_is_less : Value} {od_is_less an_is_less : Option Addr} {sl_is_less : Array (Option Value)}
    {oc_floor_of kV_floor_of dc_floor_of pm_floor_of cd_floor_of ct_floor_of : Value} {od_floor_of an_floor_of : Option Addr} {sl_floor_of : Array (Option Value)}
    {oc_rounded_up kV_rounded_up dc_rounded_up pm_rounded_up cd_rounded_up ct_rounded_up : Value} {od_rounded_up an_rounded_up : Option Addr} {sl_rounded_up : Array (Option Value)}
    {oc_nearest kV_nearest dc_nearest pm_nearest cd_nearest ct_nearest : Value} {od_nearest an_nearest : Option Addr} {sl_nearest : Array (Option Value)}
    {oc_sum_of kV_sum_of dc_sum_of pm_sum_of cd_sum_of ct_sum_of : Value} {od_sum_of an_sum_of : Option Addr} {sl_sum_of : Array (Option Value)}
    {oc_least_of kV_least_of dc_least_of pm_least_of cd_least_of ct_least_of : Value} {od_least_of an_least_of : Option Addr} {sl_least_of : Array (Option Value)}
    {oc_greatest_of kV_greatest_of dc_greatest_of pm_greatest_of cd_greatest_of ct_greatest_of : Value} {od_greatest_of an_greatest_of : Option Addr} {sl_greatest_of : Array (Option Value)}
    {oc__law_draw kV__law_draw dc__law_draw pm__law_draw cd__law_draw ct__law_draw : Value} {od__law_draw an__law_draw : Option Addr} {sl__law_draw : Array (Option Value)}
    {oc__law_same kV__law_same dc__law_same pm__law_same cd__law_same ct__law_same : Value} {od__law_same an__law_same : Option Addr} {sl__law_same : Array (Option Value)}
    {oc__law_number kV__law_number dc__law_number pm__law_number cd__law_number ct__law_number : Value} {od__law_number an__law_number : Option Addr} {sl__law_number : Array (Option Value)}
    {oc__law_fraction kV__law_fraction dc__law_fraction pm__law_fraction cd__law_fraction ct__law_fraction : Value} {od__law_fraction an__law_fraction : Option Addr} {sl__law_fraction : Array (Option Value)}
    {oc__law_over kV__law_over dc__law_over pm__law_over cd__law_over ct__law_over : Value} {od__law_over an__law_over : Option Addr} {sl__law_over : Array (Option Value)}
    {oc__law_rounds kV__law_rounds dc__law_rounds pm__law_rounds cd__law_rounds ct__law_rounds : Value} {od__law_rounds an__law_rounds : Option Addr} {sl__law_rounds : Array (Option Value)}
    {oc__law_forms kV__law_forms dc__law_forms pm__law_forms cd__law_forms ct__law_forms : Value} {od__law_forms an__law_forms : Option Addr} {sl__law_forms : Array (Option Value)}
    {oc_law kV_law dc_law pm_law cd_law ct_law : Value} {od_law an_law : Option Addr} {sl_law : Array (Option Value)}
    (eA_NoSuch : PySem.W.nsIn K mainGlobals "NoSuch" = some (some (.ref C_NoSuch)))
    (eX_NoSuch : PySem.W.excIn K C_NoSuch [.type "ValueError", .type "Exception", .type "BaseException", .type "object"] "ValueError.__new__" = true)
    (eK_NoSuch : PySem.W.keepIn K (.ref C_NoSuch) = true)
    (eB_NoSuch : PySem.W.subIn K (.ref C_NoSuch) (.type "BaseException") = some true)
    (eT_NoSuch : PySem.W.typeIn K (.ref C_NoSuch) = some (.type "type"))
    (eI_NoSuch : PySem.W.isClsIn K C_NoSuch = true)
    (eS_NoSuch : PySem.W.subIn K (.ref C_NoSuch) (.ref C_NoSuch) = some true)
    (a_is_integer : PySem.W.nsIn K mainGlobals "is_integer" = some (some (.ref f_is_integer)))
    (l_is_integer : K.lookup f_is_integer = some ⟨oc_is_integer, od_is_integer, .func (PySem.W.fnOf "is_integer" "is_integer" (defArgs s_is_integer) (defBody s_is_integer) (defScope s_is_integer) .none kV_is_integer dc_is_integer pm_is_integer an_is_integer cd_is_integer ct_is_integer), sl_is_integer⟩)
    (c_o_is_integer : PySem.W.codeIn K cd_is_integer "is_integer" = true)
    (k_is_integer : PySem.W.keepIn K (.ref f_is_integer) = true)
    (a_common_divisor : PySem.W.nsIn K mainGlobals "common_divisor" = some (some (.ref f_common_divisor)))
    (l_common_divisor : K.lookup f_common_divisor = some ⟨oc_common_divisor, od_common_divisor, .func (PySem.W.fnOf "common_divisor" "common_divisor" (defArgs s_common_divisor) (defBody s_common_divisor) (defScope s_common_divisor) .none kV_common_divisor dc_common_divisor pm_common_divisor an_common_divisor cd_common_divisor ct_common_divisor), sl_common_divisor⟩)
    (c_o_common_divisor : PySem.W.codeIn K cd_common_divisor "common_divisor" = true)
    (k_common_divisor : PySem.W.keepIn K (.ref f_common_divisor) = true)
    (a_power : PySem.W.nsIn K mainGlobals "power" = some (some (.ref f_power)))
    (l_power : K.lookup f_power = some ⟨oc_power, od_power, .func (PySem.W.fnOf "power" "power" (defArgs s_power) (defBody s_power) (defScope s_power) .none kV_power dc_power pm_power an_power cd_power ct_power), sl_power⟩)
    (c_o_power : PySem.W.codeIn K cd_power "power" = true)
    (k_power : PySem.W.keepIn K (.ref f_power) = true)
    (a_fraction : PySem.W.nsIn K mainGlobals "fraction" = some (some (.ref f_fraction)))
    (l_fraction : K.lookup f_fraction = some ⟨oc_fraction, od_fraction, .func (PySem.W.fnOf "fraction" "fraction" (defArgs s_fraction) (defBody s_fraction) (defScope s_fraction) .none kV_fraction dc_fraction pm_fraction an_fraction cd_fraction ct_fraction), sl_fraction⟩)
    (c_o_fraction : PySem.W.codeIn K cd_fraction "fraction" = true)
    (k_fraction : PySem.W.keepIn K (.ref f_fraction) = true)
    (a_whole : PySem.W.nsIn K mainGlobals "whole" = some (some (.ref f_whole)))
    (l_whole : K.lookup f_whole = some ⟨oc_whole, od_whole, .func (PySem.W.fnOf "whole" "whole" (defArgs s_whole) (defBody s_whole) (defScope s_whole) .none kV_whole dc_whole pm_whole an_whole cd_whole ct_whole), sl_whole⟩)
    (c_o_whole : PySem.W.codeIn K cd_whole "whole" = true)
    (k_whole : PySem.W.keepIn K (.ref f_whole) = true)
    (a_is_fraction : PySem.W.nsIn K mainGlobals "is_fraction" = some (some (.ref f_is_fraction)))
    (l_is_fraction : K.lookup f_is_fraction = some ⟨oc_is_fraction, od_is_fraction, .func (PySem.W.fnOf "is_fraction" "is_fraction" (defArgs s_is_fraction) (defBody s_is_fraction) (defScope s_is_fraction) .none kV_is_fraction dc_is_fraction pm_is_fraction an_is_fraction cd_is_fraction ct_is_fraction), sl_is_fraction⟩)
    (c_o_is_fraction : PySem.W.codeIn K cd_is_fraction "is_fraction" = true)
    (k_is_fraction : PySem.W.keepIn K (.ref f_is_fraction) = true)
    (a_plus : PySem.W.nsIn K mainGlobals "plus" = some (some (.ref f_plus)))
    (l_plus : K.lookup f_plus = some ⟨oc_plus, od_plus, .func (PySem.W.fnOf "plus" "plus" (defArgs s_plus) (defBody s_plus) (defScope s_plus) .none kV_plus dc_plus pm_plus an_plus cd_plus ct_plus), sl_plus⟩)
    (c_o_plus : PySem.W.codeIn K cd_plus "plus" = true)
    (k_plus : PySem.W.keepIn K (.ref f_plus) = true)
    (a_minus : PySem.W.nsIn K mainGlobals "minus" = some (some (.ref f_minus)))
    (l_minus : K.lookup f_minus = some ⟨oc_minus, od_minus, .func (PySem.W.fnOf "minus" "minus" (defArgs s_minus) (defBody s_minus) (defScope s_minus) .none kV_minus dc_minus pm_minus an_minus cd_minus ct_minus), sl_minus⟩)
    (c_o_minus : PySem.W.codeIn K cd_minus "minus" = true)
    (k_minus : PySem.W.keepIn K (.ref f_minus) = true)
    (a_times : PySem.W.nsIn K mainGlobals "times" = some (some (.ref f_times)))
    (l_times : K.lookup f_times = some ⟨oc_times, od_times, .func (PySem.W.fnOf "times" "times" (defArgs s_times) (defBody s_times) (defScope s_times) .none kV_times dc_times pm_times an_times cd_times ct_times), sl_times⟩)
    (c_o_times : PySem.W.codeIn K cd_times "times" = true)
    (k_times : PySem.W.keepIn K (.ref f_times) = true)
    (a_over : PySem.W.nsIn K mainGlobals "over" = some (some (.ref f_over)))
    (l_over : K.lookup f_over = some ⟨oc_over, od_over, .func (PySem.W.fnOf "over" "over" (defArgs s_over) (defBody s_over) (defScope s_over) .none kV_over dc_over pm_over an_over cd_over ct_over), sl_over⟩)
    (c_o_over : PySem.W.codeIn K cd_over "over" = true)
    (k_over : PySem.W.keepIn K (.ref f_over) = true)
    (a_negative : PySem.W.nsIn K mainGlobals "negative" = some (some (.ref f_negative)))
    (l_negative : K.lookup f_negative = some ⟨oc_negative, od_negative, .func (PySem.W.fnOf "negative" "negative" (defArgs s_negative) (defBody s_negative) (defScope s_negative) .none kV_negative dc_negative pm_negative an_negative cd_negative ct_negative), sl_negative⟩)
    (c_o_negative : PySem.W.codeIn K cd_negative "negative" = true)
    (k_negative : PySem.W.keepIn K (.ref f_negative) = true)
    (a_is_less : PySem.W.nsIn K mainGlobals "is_less" = some (some (.ref f_is_less)))
    (l_is_less : K.lookup f_is_less = some ⟨oc_is_less, od_is_less, .func (PySem.W.fnOf "is_less" "is_less" (defArgs s_is_less) (defBody s_is_less) (defScope s_is_less) .none kV_is_less dc_is_less pm_is_less an_is_less cd_is_less ct_is_less), sl_is_less⟩)
    (c_o_is_less : PySem.W.codeIn K cd_is_less "is_less" = true)
    (k_is_less : PySem.W.keepIn K (.ref f_is_less) = true)
    (a_floor_of : PySem.W.nsIn K mainGlobals "floor_of" = some (some (.ref f_floor_of)))
    (l_floor_of : K.lookup f_floor_of = some ⟨oc_floor_of, od_floor_of, .func (PySem.W.fnOf "floor_of" "floor_of" (defArgs s_floor_of) (defBody s_floor_of) (defScope s_floor_of) .none kV_floor_of dc_floor_of pm_floor_of an_floor_of cd_floor_of ct_floor_of), sl_floor_of⟩)
    (c_o_floor_of : PySem.W.codeIn K cd_floor_of "floor_of" = true)
    (k_floor_of : PySem.W.keepIn K (.ref f_floor_of) = true)
    (a_rounded_up : PySem.W.nsIn K mainGlobals "rounded_up" = some (some (.ref f_rounded_up)))
    (l_rounded_up : K.lookup f_rounded_up = some ⟨oc_rounded_up, od_rounded_up, .func (PySem.W.fnOf "rounded_up" "rounded_up" (defArgs s_rounded_up) (defBody s_rounded_up) (defScope s_rounded_up) .none kV_rounded_up dc_rounded_up pm_rounded_up an_rounded_up cd_rounded_up ct_rounded_up), sl_rounded_up⟩)
    (c_o_rounded_up : PySem.W.codeIn K cd_rounded_up "rounded_up" = true)
    (k_rounded_up : PySem.W.keepIn K (.ref f_rounded_up) = true)
    (a_nearest : PySem.W.nsIn K mainGlobals "nearest" = some (some (.ref f_nearest)))
    (l_nearest : K.lookup f_nearest = some ⟨oc_nearest, od_nearest, .func (PySem.W.fnOf "nearest" "nearest" (defArgs s_nearest) (defBody s_nearest) (defScope s_nearest) .none kV_nearest dc_nearest pm_nearest an_nearest cd_nearest ct_nearest), sl_nearest⟩)
    (c_o_nearest : PySem.W.codeIn K cd_nearest "nearest" = true)
    (k_nearest : PySem.W.keepIn K (.ref f_nearest) = true)
    (a_sum_of : PySem.W.nsIn K mainGlobals "sum_of" = some (some (.ref f_sum_of)))
    (l_sum_of : K.lookup f_sum_of = some ⟨oc_sum_of, od_sum_of, .func (PySem.W.fnOf "sum_of" "sum_of" (defArgs s_sum_of) (defBody s_sum_of) (defScope s_sum_of) .none kV_sum_of dc_sum_of pm_sum_of an_sum_of cd_sum_of ct_sum_of), sl_sum_of⟩)
    (c_o_sum_of : PySem.W.codeIn K cd_sum_of "sum_of" = true)
    (k_sum_of : PySem.W.keepIn K (.ref f_sum_of) = true)
    (a_least_of : PySem.W.nsIn K mainGlobals "least_of" = some (some (.ref f_least_of)))
    (l_least_of : K.lookup f_least_of = some ⟨oc_least_of, od_least_of, .func (PySem.W.fnOf "least_of" "least_of" (defArgs s_least_of) (defBody s_least_of) (defScope s_least_of) .none kV_least_of dc_least_of pm_least_of an_least_of cd_least_of ct_least_of), sl_least_of⟩)
    (c_o_least_of : PySem.W.codeIn K cd_least_of "least_of" = true)
    (k_least_of : PySem.W.keepIn K (.ref f_least_of) = true)
    (a_greatest_of : PySem.W.nsIn K mainGlobals "greatest_of" = some (some (.ref f_greatest_of)))
    (l_greatest_of : K.lookup f_greatest_of = some ⟨oc_greatest_of, od_greatest_of, .func (PySem.W.fnOf "greatest_of" "greatest_of" (defArgs s_greatest_of) (defBody s_greatest_of) (defScope s_greatest_of) .none kV_greatest_of dc_greatest_of pm_greatest_of an_greatest_of cd_greatest_of ct_greatest_of), sl_greatest_of⟩)
    (c_o_greatest_of : PySem.W.codeIn K cd_greatest_of "greatest_of" = true)
    (k_greatest_of : PySem.W.keepIn K (.ref f_greatest_of) = true)
    (a__law_draw : PySem.W.nsIn K mainGlobals "_law_draw" = some (some (.ref f__law_draw)))
    (l__law_draw : K.lookup f__law_draw = some ⟨oc__law_draw, od__law_draw, .func (PySem.W.fnOf "_law_draw" "_law_draw" (defArgs s__law_draw) (defBody s__law_draw) (defScope s__law_draw) .none kV__law_draw dc__law_draw pm__law_draw an__law_draw cd__law_draw ct__law_draw), sl__law_draw⟩)
    (c_o__law_draw : PySem.W.codeIn K cd__law_draw "_law_draw" = true)
    (k__law_draw : PySem.W.keepIn K (.ref f__law_draw) = true)
    (a__law_same : PySem.W.nsIn K mainGlobals "_law_same" = some (some (.ref f__law_same)))
    (l__law_same : K.lookup f__law_same = some ⟨oc__law_same, od__law_same, .func (PySem.W.fnOf "_law_same" "_law_same" (defArgs s__law_same) (defBody s__law_same) (defScope s__law_same) .none kV__law_same dc__law_same pm__law_same an__law_same cd__law_same ct__law_same), sl__law_same⟩)
    (c_o__law_same : PySem.W.codeIn K cd__law_same "_law_same" = true)
    (k__law_same : PySem.W.keepIn K (.ref f__law_same) = true)
    (a__law_number : PySem.W.nsIn K mainGlobals "_law_number" = some (some (.ref f__law_number)))
    (l__law_number : K.lookup f__law_number = some ⟨oc__law_number, od__law_number, .func (PySem.W.fnOf "_law_number" "_law_number" (defArgs s__law_number) (defBody s__law_number) (defScope s__law_number) .none kV__law_number dc__law_number pm__law_number an__law_number cd__law_number ct__law_number), sl__law_number⟩)
    (c_o__law_number : PySem.W.codeIn K cd__law_number "_law_number" = true)
    (k__law_number : PySem.W.keepIn K (.ref f__law_number) = true)
    (a__law_fraction : PySem.W.nsIn K mainGlobals "_law_fraction" = some (some (.ref f__law_fraction)))
    (l__law_fraction : K.lookup f__law_fraction = some ⟨oc__law_fraction, od__law_fraction, .func (PySem.W.fnOf "_law_fraction" "_law_fraction" (defArgs s__law_fraction) (defBody s__law_fraction) (defScope s__law_fraction) .none kV__law_fraction dc__law_fraction pm__law_fraction an__law_fraction cd__law_fraction ct__law_fraction), sl__law_fraction⟩)
    (c_o__law_fraction : PySem.W.codeIn K cd__law_fraction "_law_fraction" = true)
    (k__law_fraction : PySem.W.keepIn K (.ref f__law_fraction) = true)
    (a__law_over : PySem.W.nsIn K mainGlobals "_law_over" = some (some (.ref f__law_over)))
    (l__law_over : K.lookup f__law_over = some ⟨oc__law_over, od__law_over, .func (PySem.W.fnOf "_law_over" "_law_over" (defArgs s__law_over) (defBody s__law_over) (defScope s__law_over) .none kV__law_over dc__law_over pm__law_over an__law_over cd__law_over ct__law_over), sl__law_over⟩)
    (c_o__law_over : PySem.W.codeIn K cd__law_over "_law_over" = true)
    (k__law_over : PySem.W.keepIn K (.ref f__law_over) = true)
    (a__law_rounds : PySem.W.nsIn K mainGlobals "_law_rounds" = some (some (.ref f__law_rounds)))
    (l__law_rounds : K.lookup f__law_rounds = some ⟨oc__law_rounds, od__law_rounds, .func (PySem.W.fnOf "_law_rounds" "_law_rounds" (defArgs s__law_rounds) (defBody s__law_rounds) (defScope s__law_rounds) .none kV__law_rounds dc__law_rounds pm__law_rounds an__law_rounds cd__law_rounds ct__law_rounds), sl__law_rounds⟩)
    (c_o__law_rounds : PySem.W.codeIn K cd__law_rounds "_law_rounds" = true)
    (k__law_rounds : PySem.W.keepIn K (.ref f__law_rounds) = true)
    (a__law_forms : PySem.W.nsIn K mainGlobals "_law_forms" = some (some (.ref f__law_forms)))
    (l__law_forms : K.lookup f__law_forms = some ⟨oc__law_forms, od__law_forms, .func (PySem.W.fnOf "_law_forms" "_law_forms" (defArgs s__law_forms) (defBody s__law_forms) (defScope s__law_forms) .none kV__law_forms dc__law_forms pm__law_forms an__law_forms cd__law_forms ct__law_forms), sl__law_forms⟩)
    (c_o__law_forms : PySem.W.codeIn K cd__law_forms "_law_forms" = true)
    (k__law_forms : PySem.W.keepIn K (.ref f__law_forms) = true)
    (a_law : PySem.W.nsIn K mainGlobals "law" = some (some (.ref f_law)))
    (l_law : K.lookup f_law = some ⟨oc_law, od_law, .func (PySem.W.fnOf "law" "law" (defArgs s_law) (defBody s_law) (defScope s_law) .none kV_law dc_law pm_law an_law cd_law ct_law), sl_law⟩)
    (c_o_law : PySem.W.codeIn K cd_law "law" = true)
    (k_law : PySem.W.keepIn K (.ref f_law) = true)
    (z0 : PySem.W.nsIn K mainGlobals "len" = some none)
    (z1 : PySem.W.nsIn K mainGlobals "range" = some none)
    (z2 : PySem.W.nsIn K mainGlobals "int" = some none)
    (z3 : PySem.W.nsIn K mainGlobals "isinstance" = some none)
    (z4 : PySem.W.nsIn K mainGlobals "sum" = some none)
    (z5 : PySem.W.nsIn K mainGlobals "any" = some none)
    (z6 : PySem.W.nsIn K mainGlobals "all" = some none)
    (z7 : PySem.W.nsIn K mainGlobals "enumerate" = some none)
    (z8 : PySem.W.nsIn K mainGlobals "sorted" = some none)
    (z9 : PySem.W.nsIn K mainGlobals "list" = some none)
    (z10 : PySem.W.nsIn K mainGlobals "tuple" = some none)
    (z11 : PySem.W.nsIn K mainGlobals "str" = some none)
    (z12 : PySem.W.nsIn K mainGlobals "max" = some none)
    (z13 : PySem.W.nsIn K mainGlobals "min" = some none)
    (z14 : PySem.W.nsIn K mainGlobals "zip" = some none)
    (z15 : PySem.W.nsIn K mainGlobals "dict" = some none)
    (z16 : PySem.W.nsIn K mainGlobals "abs" = some none)
    (z17 : PySem.W.nsIn K mainGlobals "reversed" = some none)
    (z18 : PySem.W.nsIn K mainGlobals "bool" = some none)
    (z19 : PySem.W.nsIn K mainGlobals "super" = some none)
    (z20 : PySem.W.nsIn K mainGlobals "ValueError" = some none)
    : ∃ fd : FuncData, (∀ (s : Shared) (u : Value), BindsTo s fd ⟨[u], []⟩ [("script", u)]) ∧ ∀ base : Heap, K.In base → base.Ns mainGlobals mg → FnOk P w K mg base CX0 5 fa fd ["script"] (spLawD K) := by
  have e := hfa.symm.trans (PySem.W.mg_of X G a_law)
  cases e
  have bl : ∀ x : Str, bnames.contains x = true → mg x = none := names_free fun x hx => by
    simp only [bnames, List.mem_cons, List.not_mem_nil, or_false] at hx
    rcases hx with rfl | rfl | rfl | rfl | rfl | rfl | rfl | rfl | rfl | rfl | rfl | rfl | rfl | rfl | rfl | rfl | rfl | rfl | rfl | rfl | rfl
    · exact PySem.W.mg_none_of X G z0
    · exact PySem.W.mg_none_of X G z1
    · exact PySem.W.mg_none_of X G z2
    · exact PySem.W.mg_none_of X G z3
    · exact PySem.W.mg_none_of X G z4
    · exact PySem.W.mg_none_of X G z5
    · exact PySem.W.mg_none_of X G z6
    · exact PySem.W.mg_none_of X G z7
    · exact PySem.W.mg_none_of X G z8
    · exact PySem.W.mg_none_of X G z9
    · exact PySem.W.mg_none_of X G z10
    · exact PySem.W.mg_none_of X G z11
    · exact PySem.W.mg_none_of X G z12
    · exact PySem.W.mg_none_of X G z13
    · exact PySem.W.mg_none_of X G z14
    · exact PySem.W.mg_none_of X G z15
    · exact PySem.W.mg_none_of X G z16
    · exact PySem.W.mg_none_of X G z17
    · exact PySem.W.mg_none_of X G z18
    · exact PySem.W.mg_none_of X G z19
    · exact PySem.W.mg_none_of X G z20
  have x_NoSuch : ExcF K mg "NoSuch" C_NoSuch := ⟨PySem.W.mg_of X G eA_NoSuch, eX_NoSuch, eK_NoSuch, eB_NoSuch, eT_NoSuch, exm_by eB_NoSuch eI_NoSuch eT_NoSuch eS_NoSuch⟩
  have F_is_integer := fun_mk (st := s_is_integer) l_is_integer c_o_is_integer k_is_integer
  have b_is_integer := F_is_integer.binds (ps := ["value", "low", "high"]) fun _ _ _ _ _ _ us hl => match us, hl with | [_, _, _], _ => rfl
  have F_common_divisor := fun_mk (st := s_common_divisor) l_common_divisor c_o_common_divisor k_common_divisor
  have b_common_divisor := F_common_divisor.binds (ps := ["one", "two"]) fun _ _ _ _ _ _ us hl => match us, hl with | [_, _], _ => rfl
  have F_power := fun_mk (st := s_power) l_power c_o_power k_power
  have b_power := F_power.binds (ps := ["base", "exponent"]) fun _ _ _ _ _ _ us hl => match us, hl with | [_, _], _ => rfl
  have F_fraction := fun_mk (st := s_fraction) l_fraction c_o_fraction k_fraction
  have b_fraction := F_fraction.binds (ps := ["over", "under"]) fun _ _ _ _ _ _ us hl => match us, hl with | [_, _], _ => rfl
  have F_whole := fun_mk (st := s_whole) l_whole c_o_whole k_whole
  have b_whole := F_whole.binds (ps := ["number"]) fun _ _ _ _ _ _ us hl => match us, hl with | [_], _ => rfl
  have F_is_fraction := fun_mk (st := s_is_fraction) l_is_fraction c_o_is_fraction k_is_fraction
  have b_is_fraction := F_is_fraction.binds (ps := ["value"]) fun _ _ _ _ _ _ us hl => match us, hl with | [_], _ => rfl
  have F_plus := fun_mk (st := s_plus) l_plus c_o_plus k_plus
  have b_plus := F_plus.binds (ps := ["one", "two"]) fun _ _ _ _ _ _ us hl => match us, hl with | [_, _], _ => rfl
  have F_minus := fun_mk (st := s_minus) l_minus c_o_minus k_minus
  have b_minus := F_minus.binds (ps := ["one", "two"]) fun _ _ _ _ _ _ us hl => match us, hl with | [_, _], _ => rfl
  have F_times := fun_mk (st := s_times) l_times c_o_times k_times
  have b_times := F_times.binds (ps := ["one", "two"]) fun _ _ _ _ _ _ us hl => match us, hl with | [_, _], _ => rfl
  have F_over := fun_mk (st := s_over) l_over c_o_over k_over
  have b_over := F_over.binds (ps := ["one", "two"]) fun _ _ _ _ _ _ us hl => match us, hl with | [_, _], _ => rfl
  have F_negative := fun_mk (st := s_negative) l_negative c_o_negative k_negative
  have b_negative := F_negative.binds (ps := ["one"]) fun _ _ _ _ _ _ us hl => match us, hl with | [_], _ => rfl
  have F_is_less := fun_mk (st := s_is_less) l_is_less c_o_is_less k_is_less
  have b_is_less := F_is_less.binds (ps := ["one", "two"]) fun _ _ _ _ _ _ us hl => match us, hl with | [_, _], _ => rfl
  have F_floor_of := fun_mk (st := s_floor_of) l_floor_of c_o_floor_of k_floor_of
  have b_floor_of := F_floor_of.binds (ps := ["one"]) fun _ _ _ _ _ _ us hl => match us, hl with | [_], _ => rfl
  have F_rounded_up := fun_mk (st := s_rounded_up) l_rounded_up c_o_rounded_up k_rounded_up
  have b_rounded_up := F_rounded_up.binds (ps := ["one"]) fun _ _ _ _ _ _ us hl => match us, hl with | [_], _ => rfl
  have F_nearest := fun_mk (st := s_nearest) l_nearest c_o_nearest k_nearest
  have b_nearest := F_nearest.binds (ps := ["one"]) fun _ _ _ _ _ _ us hl => match us, hl with | [_], _ => rfl
  have F_sum_of := fun_mk (st := s_sum_of) l_sum_of c_o_sum_of k_sum_of
  have b_sum_of := F_sum_of.binds (ps := ["values"]) fun _ _ _ _ _ _ us hl => match us, hl with | [_], _ => rfl
  have F_least_of := fun_mk (st := s_least_of) l_least_of c_o_least_of k_least_of
  have b_least_of := F_least_of.binds (ps := ["values"]) fun _ _ _ _ _ _ us hl => match us, hl with | [_], _ => rfl
  have F_greatest_of := fun_mk (st := s_greatest_of) l_greatest_of c_o_greatest_of k_greatest_of
  have b_greatest_of := F_greatest_of.binds (ps := ["values"]) fun _ _ _ _ _ _ us hl => match us, hl with | [_], _ => rfl
  have F__law_draw := fun_mk (st := s__law_draw) l__law_draw c_o__law_draw k__law_draw
  have b__law_draw := F__law_draw.binds (ps := ["state", "limit"]) fun _ _ _ _ _ _ us hl => match us, hl with | [_, _], _ => rfl
  have F__law_same := fun_mk (st := s__law_same) l__law_same c_o__law_same k__law_same
  have b__law_same := F__law_same.binds (ps := ["told", "due"]) fun _ _ _ _ _ _ us hl => match us, hl with | [_, _], _ => rfl
  have F__law_number := fun_mk (st := s__law_number) l__law_number c_o__law_number k__law_number
  have b__law_number := F__law_number.binds (ps := ["state"]) fun _ _ _ _ _ _ us hl => match us, hl with | [_], _ => rfl
  have F__law_fraction := fun_mk (st := s__law_fraction) l__law_fraction c_o__law_fraction k__law_fraction
  have b__law_fraction := F__law_fraction.binds (ps := ["state"]) fun _ _ _ _ _ _ us hl => match us, hl with | [_], _ => rfl
  have F__law_over := fun_mk (st := s__law_over) l__law_over c_o__law_over k__law_over
  have b__law_over := F__law_over.binds (ps := ["one", "two"]) fun _ _ _ _ _ _ us hl => match us, hl with | [_, _], _ => rfl
  have F__law_rounds := fun_mk (st := s__law_rounds) l__law_rounds c_o__law_rounds k__law_rounds
  have b__law_rounds := F__law_rounds.binds (ps := ["one"]) fun _ _ _ _ _ _ us hl => match us, hl with | [_], _ => rfl
  have F__law_forms := fun_mk (st := s__law_forms) l__law_forms c_o__law_forms k__law_forms
  have b__law_forms := F__law_forms.binds (ps := ["state", "one"]) fun _ _ _ _ _ _ us hl => match us, hl with | [_, _], _ => rfl
  have F_law := fun_mk (st := s_law) l_law c_o_law k_law
  refine ⟨PySem.W.fnOf "law" "law" (defArgs s_law) (defBody s_law) (defScope s_law) .none kV_law dc_law pm_law an_law cd_law ct_law, fun s u => .of_eq rfl, fun base _ _ => ?_⟩
  have p_is_integer := ok_is_integer (P := P) (w := w) (base := base) F_is_integer (PySem.W.mg_of X G a_is_integer) b_is_integer bl
  have p_common_divisor := ok_common_divisor (P := P) (w := w) (base := base) F_common_divisor (PySem.W.mg_of X G a_common_divisor) b_common_divisor bl
  have p_power := ok_power (P := P) (w := w) (base := base) F_power (PySem.W.mg_of X G a_power) b_power bl
  have p_whole := ok_whole (P := P) (w := w) (base := base) F_whole (PySem.W.mg_of X G a_whole) b_whole bl
  have p_negative := ok_negative (P := P) (w := w) (base := base) F_negative (PySem.W.mg_of X G a_negative) b_negative bl
  have p_is_less := ok_is_less (P := P) (w := w) (base := base) F_is_less (PySem.W.mg_of X G a_is_less) b_is_less bl
  have p_floor_of := ok_floor_of (P := P) (w := w) (base := base) F_floor_of (PySem.W.mg_of X G a_floor_of) b_floor_of bl
  have p_rounded_up := ok_rounded_up (P := P) (w := w) (base := base) F_rounded_up (PySem.W.mg_of X G a_rounded_up) b_rounded_up bl
  have p_nearest := ok_nearest (P := P) (w := w) (base := base) F_nearest (PySem.W.mg_of X G a_nearest) b_nearest bl
  have p__law_draw := ok__law_draw (P := P) (w := w) (base := base) F__law_draw (PySem.W.mg_of X G a__law_draw) b__law_draw bl
  have p__law_same := ok__law_same (P := P) (w := w) (base := base) F__law_same (PySem.W.mg_of X G a__law_same) b__law_same bl
  have p_fraction := ok_fraction (P := P) (w := w) (base := base) F_fraction (PySem.W.mg_of X G a_fraction) b_fraction bl x_NoSuch p_common_divisor
  have p_is_fraction := ok_is_fraction (P := P) (w := w) (base := base) F_is_fraction (PySem.W.mg_of X G a_is_fraction) b_is_fraction bl p_is_integer p_common_divisor
  have p_least_of := ok_least_of (P := P) (w := w) (base := base) F_least_of (PySem.W.mg_of X G a_least_of) b_least_of bl p_is_less
  have p_greatest_of := ok_greatest_of (P := P) (w := w) (base := base) F_greatest_of (PySem.W.mg_of X G a_greatest_of) b_greatest_of bl p_is_less
  have p__law_number := ok__law_number (P := P) (w := w) (base := base) F__law_number (PySem.W.mg_of X G a__law_number) b__law_number bl p__law_draw
  have p_plus := ok_plus (P := P) (w := w) (base := base) F_plus (PySem.W.mg_of X G a_plus) b_plus bl p_fraction
  have p_minus := ok_minus (P := P) (w := w) (base := base) F_minus (PySem.W.mg_of X G a_minus) b_minus bl p_fraction
  have p_times := ok_times (P := P) (w := w) (base := base) F_times (PySem.W.mg_of X G a_times) b_times bl p_fraction
  have p_over := ok_over (P := P) (w := w) (base := base) F_over (PySem.W.mg_of X G a_over) b_over bl p_fraction
  have p__law_fraction := ok__law_fraction (P := P) (w := w) (base := base) F__law_fraction (PySem.W.mg_of X G a__law_fraction) b__law_fraction bl p__law_number p_fraction
  have p__law_forms := ok__law_forms (P := P) (w := w) (base := base) F__law_forms (PySem.W.mg_of X G a__law_forms) b__law_forms bl p__law_same p_is_fraction p__law_draw p__law_number p_is_integer
  have p_sum_of := ok_sum_of (P := P) (w := w) (base := base) F_sum_of (PySem.W.mg_of X G a_sum_of) b_sum_of bl p_plus
  have p__law_over := ok__law_over (P := P) (w := w) (base := base) F__law_over (PySem.W.mg_of X G a__law_over) b__law_over bl x_NoSuch p_over
  have p__law_rounds := ok__law_rounds (P := P) (w := w) (base := base) F__law_rounds (PySem.W.mg_of X G a__law_rounds) b__law_rounds bl p_floor_of p_rounded_up p_nearest p_plus p_negative p_whole p__law_same
  exact ok_law F_law bl p__law_fraction p__law_draw p_plus p_times p_minus p_negative p__law_over p__law_same p_is_less p_least_of p_greatest_of p_sum_of p_power p_common_divisor p__law_rounds p__law_forms
end K00
open PySem PySem.W PyProof.Rows in
set_option maxRecDepth 100000 in
set_option maxHeartbeats 0 in
theorem PySem.Challenge.cw_linesfitted_k00_fractions_by_the_rules_o_holds : PySem.Challenge.rw_linesfitted_k00_fractions_by_the_rules_o.Holds := by
  w_on; o_law; k_head; (case hw => w_witness2)
  k_fill
  refine Dn.walkD (l := PySem.Challenge.rw_linesfitted_k00_fractions_by_the_rules_o) (k := 5) ⟨rfl, by decide, by decide⟩ rfl rfl (fun w h Y => PySem.W.kIn_of Y) ?F
  case F =>
    intro w mg fa h KX G hmg
    refine' K00.all_mk KX G hmg ?eA_NoSuch ?eX_NoSuch ?eK_NoSuch ?eB_NoSuch ?eT_NoSuch ?eI_NoSuch ?eS_NoSuch ?a_is_integer ?l_is_integer ?c_o_is_integer ?k_is_integer ?a_common_divisor ?l_common_divisor ?c_o_common_divisor ?k_common_divisor ?a_power ?l_power ?c_o_power ?k_power ?a_fraction ?l_fraction ?c_o_fraction ?k_fraction ?a_whole ?l_whole ?c_o_whole ?k_whole ?a_is_fraction ?l_is_fraction ?c_o_is_fraction ?k_is_fraction ?a_plus ?l_plus ?c_o_plus ?k_plus ?a_minus ?l_minus ?c_o_minus ?k_minus ?a_times ?l_times ?c_o_times ?k_times ?a_over ?l_over ?c_o_over ?k_over ?a_negative ?l_negative ?c_o_negative ?k_negative ?a_is_less ?l_is_less ?c_o_is_less ?k_is_less ?a_floor_of ?l_floor_of ?c_o_floor_of ?k_floor_of ?a_rounded_up ?l_rounded_up ?c_o_rounded_up ?k_rounded_up ?a_nearest ?l_nearest ?c_o_nearest ?k_nearest ?a_sum_of ?l_sum_of ?c_o_sum_of ?k_sum_of ?a_least_of ?l_least_of ?c_o_least_of ?k_least_of ?a_greatest_of ?l_greatest_of ?c_o_greatest_of ?k_greatest_of ?a__law_draw ?l__law_draw ?c_o__law_draw ?k__law_draw ?a__law_same ?l__law_same ?c_o__law_same ?k__law_same ?a__law_number ?l__law_number ?c_o__law_number ?k__law_number ?a__law_fraction ?l__law_fraction ?c_o__law_fraction ?k__law_fraction ?a__law_over ?l__law_over ?c_o__law_over ?k__law_over ?a__law_rounds ?l__law_rounds ?c_o__law_rounds ?k__law_rounds ?a__law_forms ?l__law_forms ?c_o__law_forms ?k__law_forms ?a_law ?l_law ?c_o_law ?k_law ?z0 ?z1 ?z2 ?z3 ?z4 ?z5 ?z6 ?z7 ?z8 ?z9 ?z10 ?z11 ?z12 ?z13 ?z14 ?z15 ?z16 ?z17 ?z18 ?z19 ?z20
    (case eA_NoSuch => k_is)
    (case eX_NoSuch => k_exc)
    (case eK_NoSuch => k_is)
    (case eB_NoSuch => k_is)
    (case eT_NoSuch => k_is)
    (case eI_NoSuch => k_is)
    (case eS_NoSuch => k_is)
    (case a_is_integer => k_is)
    (case l_is_integer => k_is)
    (case c_o_is_integer => k_is)
    (case k_is_integer => k_is)
    (case a_common_divisor => k_is)
    (case l_common_divisor => k_is)
    (case c_o_common_divisor => k_is)
    (case k_common_divisor => k_is)
    (case a_power => k_is)
    (case l_power => k_is)
    (case c_o_power => k_is)
    (case k_power => k_is)
    (case a_fraction => k_is)
    (case l_fraction => k_is)
    (case c_o_fraction => k_is)
    (case k_fraction => k_is)
    (case a_whole => k_is)
    (case l_whole => k_is)
    (case c_o_whole => k_is)
    (case k_whole => k_is)
    (case a_is_fraction => k_is)
    (case l_is_fraction => k_is)
    (case c_o_is_fraction => k_is)
    (case k_is_fraction => k_is)
    (case a_plus => k_is)
    (case l_plus => k_is)
    (case c_o_plus => k_is)
    (case k_plus => k_is)
    (case a_minus => k_is)
    (case l_minus => k_is)
    (case c_o_minus => k_is)
    (case k_minus => k_is)
    (case a_times => k_is)
    (case l_times => k_is)
    (case c_o_times => k_is)
    (case k_times => k_is)
    (case a_over => k_is)
    (case l_over => k_is)
    (case c_o_over => k_is)
    (case k_over => k_is)
    (case a_negative => k_is)
    (case l_negative => k_is)
    (case c_o_negative => k_is)
    (case k_negative => k_is)
    (case a_is_less => k_is)
    (case l_is_less => k_is)
    (case c_o_is_less => k_is)
    (case k_is_less => k_is)
    (case a_floor_of => k_is)
    (case l_floor_of => k_is)
    (case c_o_floor_of => k_is)
    (case k_floor_of => k_is)
    (case a_rounded_up => k_is)
    (case l_rounded_up => k_is)
    (case c_o_rounded_up => k_is)
    (case k_rounded_up => k_is)
    (case a_nearest => k_is)
    (case l_nearest => k_is)
    (case c_o_nearest => k_is)
    (case k_nearest => k_is)
    (case a_sum_of => k_is)
    (case l_sum_of => k_is)
    (case c_o_sum_of => k_is)
    (case k_sum_of => k_is)
    (case a_least_of => k_is)
    (case l_least_of => k_is)
    (case c_o_least_of => k_is)
    (case k_least_of => k_is)
    (case a_greatest_of => k_is)
    (case l_greatest_of => k_is)
    (case c_o_greatest_of => k_is)
    (case k_greatest_of => k_is)
    (case a__law_draw => k_is)
    (case l__law_draw => k_is)
    (case c_o__law_draw => k_is)
    (case k__law_draw => k_is)
    (case a__law_same => k_is)
    (case l__law_same => k_is)
    (case c_o__law_same => k_is)
    (case k__law_same => k_is)
    (case a__law_number => k_is)
    (case l__law_number => k_is)
    (case c_o__law_number => k_is)
    (case k__law_number => k_is)
    (case a__law_fraction => k_is)
    (case l__law_fraction => k_is)
    (case c_o__law_fraction => k_is)
    (case k__law_fraction => k_is)
    (case a__law_over => k_is)
    (case l__law_over => k_is)
    (case c_o__law_over => k_is)
    (case k__law_over => k_is)
    (case a__law_rounds => k_is)
    (case l__law_rounds => k_is)
    (case c_o__law_rounds => k_is)
    (case k__law_rounds => k_is)
    (case a__law_forms => k_is)
    (case l__law_forms => k_is)
    (case c_o__law_forms => k_is)
    (case k__law_forms => k_is)
    (case a_law => k_is)
    (case l_law => k_is)
    (case c_o_law => k_is)
    (case k_law => k_is)
    (case z0 => k_is)
    (case z1 => k_is)
    (case z2 => k_is)
    (case z3 => k_is)
    (case z4 => k_is)
    (case z5 => k_is)
    (case z6 => k_is)
    (case z7 => k_is)
    (case z8 => k_is)
    (case z9 => k_is)
    (case z10 => k_is)
    (case z11 => k_is)
    (case z12 => k_is)
    (case z13 => k_is)
    (case z14 => k_is)
    (case z15 => k_is)
    (case z16 => k_is)
    (case z17 => k_is)
    (case z18 => k_is)
    (case z19 => k_is)
    (case z20 => k_is)
