import PyProof.Rows.All
import Wide.All
import OpenK.AllK
import Wide.FinOn
import HandS.ForMost
import HandS.ForExc
import HandS.Deep
import HandS.Wide
import HandS.TupAny
import HandS.Conv
import HandS.Style
import HandS.IsInst
import HandS.Rev
import HandS.Walk
import HandS.RevTup
import KE.GoesEnum
import HandS.TupMul
import HandS.Zip
import HandS.Flow
import HandS.SortInts
import PySem.Challenge.RW_linesfitted_k19_sheets_that_are_read_aga
set_option Elab.async false
set_option linter.all false
set_option maxRecDepth 100000
set_option maxHeartbeats 1000000
/-! Dn: values as data, one assertion for the heap, readings that speak of data alone. -/
namespace Dn
open PySem PySem.Spec PyProof.Rows L2

abbrev D := PyData
def keyD : Key → D
  | .inl i => .int i
  | .inr x => .str x
mutual
inductive Is (K : PySem.W.Frag) (H : Hp) : V → D → Prop
  | non : Is K H .non .none
  | bl (b : Bool) : Is K H (.bl b) (.bool b)
  | int (i : Int) : Is K H (.int i) (.int i)
  | str (x : Str) : Is K H (.str x) (.str x)
  | lst {a : Addr} {xs : List V} {ds : List D} : H a = some (.lst xs) → IsAll K H xs ds → Is K H (.ref a) (.list ds)
  | tup {a : Addr} {xs : List V} {ds : List D} : SqT K H a xs → IsAll K H xs ds → Is K H (.ref a) (.tuple ds)
  | dk {a : Addr} {ks : List Key} {vs : List V} {ds : List D} : Rd H a (.dK (ks.zip vs)) → ks.length = vs.length → IsAll K H vs ds → Is K H (.ref a) (.dict ((ks.map keyD).zip ds))
  | dt {a : Addr} {ks : List (List Key)} {vs : List V} {ds : List D} : H a = some (.dT (ks.zip vs)) → ks.length = vs.length → IsAll K H vs ds → Is K H (.ref a) (.dict ((ks.map fun k => PyData.tuple (k.map keyD)).zip ds))
inductive IsAll (K : PySem.W.Frag) (H : Hp) : List V → List D → Prop
  | nil : IsAll K H [] []
  | cons {v : V} {vs : List V} {d : D} {ds : List D} : Is K H v d → IsAll K H vs ds → IsAll K H (v :: vs) (d :: ds)
end

theorem Same.sqt {K : PySem.W.Frag} {H H' : Hp} {a : Addr} {xs : List V} (e : Same H H') (h : SqT K H a xs) : SqT K H' a xs := by
  rcases h with (h | ⟨o, h⟩) | h
  · exact .inl (.inl (e _ _ h))
  · exact .inl (.inr ⟨o, e _ _ h⟩)
  · exact .inr h
theorem Same.rd {H H' : Hp} {a : Addr} {u : HO} (e : Same H H') (h : Rd H a u) : Rd H' a u := by
  rcases h with h | ⟨o, h⟩
  · exact .inl (e _ _ h)
  · exact .inr ⟨o, e _ _ h⟩
section
variable {K : PySem.W.Frag} {H H' : Hp}
mutual
theorem Is.mono (e : Same H H') : ∀ {v : V} {d : D}, Is K H v d → Is K H' v d
  | _, _, .non => .non
  | _, _, .bl b => .bl b
  | _, _, .int i => .int i
  | _, _, .str x => .str x
  | _, _, .lst h a => .lst (e _ _ h) (IsAll.mono e a)
  | _, _, .tup h a => .tup (Same.sqt e h) (IsAll.mono e a)
  | _, _, .dk h l a => .dk (Same.rd e h) l (IsAll.mono e a)
  | _, _, .dt h l a => .dt (e _ _ h) l (IsAll.mono e a)
theorem IsAll.mono (e : Same H H') : ∀ {vs : List V} {ds : List D}, IsAll K H vs ds → IsAll K H' vs ds
  | _, _, .nil => .nil
  | _, _, .cons h t => .cons (Is.mono e h) (IsAll.mono e t)
end
theorem IsAll.length : ∀ {vs : List V} {ds : List D}, IsAll K H vs ds → vs.length = ds.length
  | _, _, .nil => rfl
  | _, _, .cons _ t => by simp [IsAll.length t]
theorem IsAll.get : ∀ {vs : List V} {ds : List D} {i : Nat} {v : V}, IsAll K H vs ds → vs[i]? = some v → ∃ d, ds[i]? = some d ∧ Is K H v d
  | _, _, _, _, .nil, e => by simp at e
  | _, _, 0, _, .cons h _, e => by simp at e; subst e; exact ⟨_, rfl, h⟩
  | _, _, i + 1, v, .cons _ t, e => by
    obtain ⟨d, h1, h2⟩ := IsAll.get (i := i) (v := v) t (by simpa using e)
    exact ⟨d, by simpa using h1, h2⟩
theorem IsAll.get' : ∀ {vs : List V} {ds : List D} {i : Nat} {d : D}, IsAll K H vs ds → ds[i]? = some d → ∃ v, vs[i]? = some v ∧ Is K H v d
  | _, _, _, _, .nil, e => by simp at e
  | _, _, 0, _, .cons h _, e => by simp at e; subst e; exact ⟨_, rfl, h⟩
  | _, _, i + 1, v, .cons _ t, e => by
    obtain ⟨d, h1, h2⟩ := IsAll.get' (i := i) t (by simpa using e)
    exact ⟨d, by simpa using h1, h2⟩
theorem IsAll.append : ∀ {vs us : List V} {ds es : List D}, IsAll K H vs ds → IsAll K H us es → IsAll K H (vs ++ us) (ds ++ es)
  | _, _, _, _, .nil, s => s
  | _, _, _, _, .cons r t, s => .cons r (IsAll.append t s)
theorem IsAll.set {x : V} {u : D} (r : Is K H x u) : ∀ {xs : List V} {us : List D} (i : Nat), IsAll K H xs us → IsAll K H (xs.set i x) (us.set i u)
  | _, _, _, .nil => .nil
  | _, _, 0, .cons _ t => .cons r t
  | _, _, i + 1, .cons q t => .cons q (IsAll.set r i t)
theorem IsAll.take : ∀ {xs : List V} {us : List D} (n : Nat), IsAll K H xs us → IsAll K H (xs.take n) (us.take n)
  | _, _, 0, _ => .nil
  | _, _, _ + 1, .nil => .nil
  | _, _, n + 1, .cons r t => .cons r (IsAll.take n t)
theorem IsAll.drop : ∀ {xs : List V} {us : List D} (n : Nat), IsAll K H xs us → IsAll K H (xs.drop n) (us.drop n)
  | _, _, 0, r => r
  | _, _, _ + 1, .nil => .nil
  | _, _, n + 1, .cons _ t => IsAll.drop n t
theorem IsAll.reverse {xs : List V} {us : List D} (h : IsAll K H xs us) : IsAll K H xs.reverse us.reverse := by
  induction xs generalizing us with
  | nil => cases h; exact .nil
  | cons x xs ih =>
    cases h with
    | cons r t =>
      rw [List.reverse_cons, List.reverse_cons]
      exact (ih t).append (.cons r .nil)
theorem IsAll.dropLast {xs : List V} {us : List D} (h : IsAll K H xs us) : IsAll K H xs.dropLast us.dropLast := by
  rw [List.dropLast_eq_take, List.dropLast_eq_take, h.length]
  exact h.take _
theorem IsAll.ints : ∀ {ns : List Int} {xs : List V}, IsAll K H xs (ns.map PyData.int) → xs = ns.map V.int
  | [], _, h => by cases h; rfl
  | n :: ns, _, h => by
    cases h with
    | cons r t => cases r; rw [IsAll.ints t]; rfl
theorem IsAll.of_ints : ∀ ns : List Int, IsAll K H (ns.map V.int) (ns.map PyData.int)
  | [] => .nil
  | n :: ns => .cons (.int n) (IsAll.of_ints ns)
theorem IsAll.strs : ∀ {ns : List Str} {xs : List V}, IsAll K H xs (ns.map PyData.str) → xs = ns.map V.str
  | [], _, h => by cases h; rfl
  | n :: ns, _, h => by
    cases h with
    | cons r t => cases r; rw [IsAll.strs t]; rfl
theorem IsAll.of_strs : ∀ ns : List Str, IsAll K H (ns.map V.str) (ns.map PyData.str)
  | [] => .nil
  | n :: ns => .cons (.str n) (IsAll.of_strs ns)
theorem IsAll.bls : ∀ {ns : List Bool} {xs : List V}, IsAll K H xs (ns.map PyData.bool) → xs = ns.map V.bl
  | [], _, h => by cases h; rfl
  | n :: ns, _, h => by
    cases h with
    | cons r t => cases r; rw [IsAll.bls t]; rfl
end

/-! ### what a frame holds -/
inductive Sl where
  | non
  | val (d : D)
  | own (d : D)
  /-- a list that is only read -/
  | seq (ds : List D)
inductive Exn where
  | plain (C : Addr)
  | low (C : Addr) (f : Str) (d : D)
abbrev Ro := List Sl
structure Gm where
  B : Hp
  G0 : Hp
  H0 : Hp
  I : List Nat
  ad : Nat → Addr
  W : Exn → Ro → Prop
def Own (K : PySem.W.Frag) (G H : Hp) (a : Addr) (d : D) : Prop :=
  (∃ xs ds, d = .list ds ∧ H a = some (.lst xs) ∧ IsAll K G xs ds) ∨
  (∃ (ks : List Key) (vs : List V) (ds : List D), d = .dict ((ks.map keyD).zip ds) ∧ ks.length = vs.length ∧ H a = some (.dK (ks.zip vs)) ∧ IsAll K G vs ds) ∨
  (∃ (ks : List (List Key)) (vs : List V) (ds : List D), d = .dict ((ks.map fun k => PyData.tuple (k.map keyD)).zip ds) ∧ ks.length = vs.length ∧ H a = some (.dT (ks.zip vs)) ∧ IsAll K G vs ds)
theorem Own.some {K : PySem.W.Frag} {G H : Hp} {a : Addr} {d : D} (h : Own K G H a d) : ∃ o, H a = some o := by
  rcases h with ⟨_, _, _, h, _⟩ | ⟨_, _, _, _, _, h, _⟩ | ⟨_, _, _, _, _, h, _⟩ <;> exact ⟨_, h⟩
theorem Own.mono {K : PySem.W.Frag} {G H G' H' : Hp} {a : Addr} {d : D} (h : Own K G H a d) (e : Same G G') (e' : H' a = H a) : Own K G' H' a d := by
  rcases h with ⟨xs, ds, h1, h2, h3⟩ | ⟨ks, vs, ds, h1, h2, h3, h4⟩ | ⟨ks, vs, ds, h1, h2, h3, h4⟩
  · exact .inl ⟨xs, ds, h1, by rw [e', h2], h3.mono e⟩
  · exact .inr (.inl ⟨ks, vs, ds, h1, h2, by rw [e', h3], h4.mono e⟩)
  · exact .inr (.inr ⟨ks, vs, ds, h1, h2, by rw [e', h3], h4.mono e⟩)
/-- given away: from now on it stands still -/
theorem Own.is {K : PySem.W.Frag} {G H G' : Hp} {a : Addr} {d : D} (h : Own K G H a d) (e : Same G G') (e' : G' a = H a) : Is K G' (.ref a) d := by
  rcases h with ⟨xs, ds, h1, h2, h3⟩ | ⟨ks, vs, ds, h1, h2, h3, h4⟩ | ⟨ks, vs, ds, h1, h2, h3, h4⟩
  · rw [h1]; exact .lst (by rw [e', h2]) (h3.mono e)
  · rw [h1]; exact .dk (.of (by rw [e', h3])) h2 (h4.mono e)
  · rw [h1]; exact .dt (by rw [e', h3]) h2 (h4.mono e)
def SlOk (K : PySem.W.Frag) (H0 G H : Hp) (s : Sl) (o : Option V) : Prop :=
  match s with
  | .non => True
  | .val d => ∃ v, o = some v ∧ Is K G v d
  | .own d => ∃ a, o = some (.ref a) ∧ G a = none ∧ H0 a = none ∧ Own K G H a d
  | .seq ds => ∃ a xs, o = some (.ref a) ∧ SqL K G a xs ∧ IsAll K G xs ds
structure At (K : PySem.W.Frag) (Γ : Gm) (ρ : Ro) (σ : L2.St) (G H : Hp) : Prop where
  len : σ.length = ρ.length
  sl : ∀ (i : Nat) (s : Sl) (o : Option V), ρ[i]? = some s → σ[i]? = some o → SlOk K Γ.H0 G H s o
  sep : ∀ (i j : Nat) (di dj : D) (a : Addr), ρ[i]? = some (.own di) → ρ[j]? = some (.own dj) → σ[i]? = some (some (.ref a)) → σ[j]? = some (some (.ref a)) → i = j
  sub : Same G H
  old : ∀ a, Γ.H0 a ≠ none → G a = Γ.G0 a
  kept : Same Γ.H0 H
  inh : ∀ (i : Nat), i ∈ Γ.I → σ[i]? = some (some (.ref (Γ.ad i)))
  bas : Same Γ.B G
structure Grow (G H G' H' : Hp) : Prop where
  gg : Same G G'
  hh : Same H H'
  gh : Same G' H'
  new : ∀ a, H a ≠ none → G' a = G a
theorem Grow.refl {G H : Hp} (h : Same G H) : Grow G H G H := ⟨Same.refl _, Same.refl _, h, fun _ _ => rfl⟩
theorem some_ne {α : Type} {x : Option α} {a : α} (h : x = some a) : x ≠ none := by rw [h]; exact fun z => nomatch z
theorem Grow.trans {G H G1 H1 G2 H2 : Hp} (a : Grow G H G1 H1) (b : Grow G1 H1 G2 H2) : Grow G H G2 H2 where
  gg := a.gg.trans b.gg
  hh := a.hh.trans b.hh
  gh := b.gh
  new := fun p h => by
    obtain ⟨o, e⟩ := Option.ne_none_iff_exists'.mp h
    rw [b.new p (some_ne (a.hh p o e)), a.new p h]
/-- a new thing that stands still -/
theorem Grow.laid {G H : Hp} {p : Addr} {o : HO} (e : Same G H) (h : H p = none) : Grow G H (upd G p o) (upd H p o) where
  gg := fun b u q => by rw [upd_ne (ne_of_none q (e.free h))]; exact q
  hh := fun b u q => by rw [upd_ne (ne_of_none q h)]; exact q
  gh := fun b u q => by
    by_cases hb : b = p
    · subst hb; rw [upd_same] at q ⊢; exact q
    · rw [upd_ne hb] at q ⊢; exact e b u q
  new := fun b q => upd_ne (fun z => q (by rw [z]; exact h))
section
variable {K : PySem.W.Frag} {Γ : Gm} {ρ : Ro} {σ : L2.St} {G H G' H' : Hp}
theorem At.grow (a : At K Γ ρ σ G H) (g : Grow G H G' H') : At K Γ ρ σ G' H' where
  len := a.len
  sl := fun i s o h1 h2 => by
    have q := a.sl i s o h1 h2
    cases s with
    | non => exact True.intro
    | val d => obtain ⟨v, e, q⟩ := q; exact ⟨v, e, q.mono g.gg⟩
    | seq ds => obtain ⟨p, xs, e, q1, q2⟩ := q; exact ⟨p, xs, e, g.gg.seq q1, q2.mono g.gg⟩
    | own d =>
      obtain ⟨p, e, q1, q2, q3⟩ := q
      obtain ⟨u, hu⟩ := q3.some
      exact ⟨p, e, by rw [g.new p (some_ne hu)]; exact q1, q2, q3.mono g.gg (by rw [hu, g.hh p u hu])⟩
  sep := a.sep
  sub := g.gh
  old := fun p h => by
    obtain ⟨o, e⟩ := Option.ne_none_iff_exists'.mp h
    rw [g.new p (some_ne (a.kept p o e)), a.old p h]
  kept := a.kept.trans g.hh
  inh := a.inh
  bas := a.bas.trans g.gg
/- theorem At.w {Γ' : Gm} (a : At K Γ ρ σ G H) (h1 : Γ'.G0 = Γ.G0) (h2 : Γ'.H0 = Γ.H0) (h3 : Γ'.I = Γ.I) (h4 : Γ'.ad = Γ.ad) : At K Γ' ρ σ G H :=
  ⟨a.len, fun i s o => by rw [h2]; exact a.sl i s o, a.sep, a.sub, fun p => by rw [h1, h2]; exact a.old p, by rw [h2]; exact a.kept, by rw [h3, h4]; exact a.inh⟩ -/
theorem At.lt (a : At K Γ ρ σ G H) {i : Nat} {s : Sl} (h : ρ[i]? = some s) : ∃ o, σ[i]? = some o := by
  have := (List.getElem?_eq_some_iff.mp h).1
  exact ⟨σ[i]'(by rw [a.len]; exact this), List.getElem?_eq_getElem _⟩
theorem At.val (a : At K Γ ρ σ G H) {i : Nat} {d : D} (h : ρ[i]? = some (.val d)) : ∃ v, σ[i]? = some (some v) ∧ Is K G v d := by
  obtain ⟨o, e⟩ := a.lt h
  obtain ⟨v, e2, q⟩ := a.sl i _ o h e
  exact ⟨v, by rw [e, e2], q⟩
theorem At.own (a : At K Γ ρ σ G H) {i : Nat} {d : D} (h : ρ[i]? = some (.own d)) : ∃ p, σ[i]? = some (some (.ref p)) ∧ G p = none ∧ Γ.H0 p = none ∧ Own K G H p d := by
  obtain ⟨o, e⟩ := a.lt h
  obtain ⟨v, e2, q⟩ := a.sl i _ o h e
  exact ⟨v, by rw [e, e2], q⟩
/-- a slot is given a value -/
theorem At.set (a : At K Γ ρ σ G H) {i : Nat} {v : V} {d : D} (hi : Γ.I.contains i = false) (r : Is K G v d) : At K Γ (ρ.set i (.val d)) (σ.set i (some v)) G H where
  len := by rw [List.length_set, List.length_set, a.len]
  sl := fun j s o h1 h2 => by
    by_cases hj : i = j
    · subst hj
      have l := (List.getElem?_eq_some_iff.mp h1).1
      rw [List.length_set] at l
      rw [List.getElem?_set_self l] at h1
      rw [List.getElem?_set_self (by rw [a.len]; exact l)] at h2
      cases h1; cases h2
      exact ⟨v, rfl, r⟩
    · rw [List.getElem?_set_ne hj] at h1 h2
      exact a.sl j s o h1 h2
  sep := fun j k dj dk p h1 h2 h3 h4 => by
    by_cases hj : i = j
    · subst hj
      have l := (List.getElem?_eq_some_iff.mp h1).1
      rw [List.length_set] at l
      rw [List.getElem?_set_self l] at h1
      cases h1
    · by_cases hk : i = k
      · subst hk
        have l := (List.getElem?_eq_some_iff.mp h2).1
        rw [List.length_set] at l
        rw [List.getElem?_set_self l] at h2
        cases h2
      · rw [List.getElem?_set_ne hj] at h1 h3
        rw [List.getElem?_set_ne hk] at h2 h4
        exact a.sep j k dj dk p h1 h2 h3 h4
  sub := a.sub
  old := a.old
  kept := a.kept
  inh := fun j hj => by
    have : i ≠ j := fun z => by
      subst z
      rw [List.contains_iff_mem.mpr hj] at hi
      cases hi
    rw [List.getElem?_set_ne this]
    exact a.inh j hj
  bas := a.bas
/-- a slot is given a new thing of its own -/
theorem At.setOwn (a : At K Γ ρ σ G H) {i : Nat} {p : Addr} {d : D} (hi : Γ.I.contains i = false) (h0 : G p = none) (h1 : Γ.H0 p = none) (r : Own K G H p d) (hno : ∀ (j : Nat) dj, ρ[j]? = some (.own dj) → σ[j]? ≠ some (some (.ref p))) :
    At K Γ (ρ.set i (.own d)) (σ.set i (some (.ref p))) G H where
  len := by rw [List.length_set, List.length_set, a.len]
  sl := fun j s o h1' h2 => by
    by_cases hj : i = j
    · subst hj
      have l := (List.getElem?_eq_some_iff.mp h1').1
      rw [List.length_set] at l
      rw [List.getElem?_set_self l] at h1'
      rw [List.getElem?_set_self (by rw [a.len]; exact l)] at h2
      cases h1'; cases h2
      exact ⟨p, rfl, h0, h1, r⟩
    · rw [List.getElem?_set_ne hj] at h1' h2
      exact a.sl j s o h1' h2
  sep := fun j k dj dk q h1 h2 h3 h4 => by
    by_cases hj : i = j
    · subst hj
      by_cases hk : i = k
      · exact hk
      · have l := (List.getElem?_eq_some_iff.mp h3).1
        rw [List.length_set] at l
        rw [List.getElem?_set_self l] at h3
        cases h3
        rw [List.getElem?_set_ne hk] at h2 h4
        exact absurd h4 (hno k dk h2)
    · by_cases hk : i = k
      · subst hk
        have l := (List.getElem?_eq_some_iff.mp h4).1
        rw [List.length_set] at l
        rw [List.getElem?_set_self l] at h4
        cases h4
        rw [List.getElem?_set_ne hj] at h1 h3
        exact absurd h3 (hno j dj h1)
      · rw [List.getElem?_set_ne hj] at h1 h3
        rw [List.getElem?_set_ne hk] at h2 h4
        exact a.sep j k dj dk q h1 h2 h3 h4
  sub := a.sub
  old := a.old
  kept := a.kept
  inh := fun j hj => by
    have : i ≠ j := fun z => by
      subst z
      rw [List.contains_iff_mem.mpr hj] at hi
      cases hi
    rw [List.getElem?_set_ne this]
    exact a.inh j hj
  bas := a.bas
/-- a thing of its own is given away -/
theorem At.freeze (a : At K Γ ρ σ G H) {i : Nat} {d : D} (h : ρ[i]? = some (.own d)) : ∃ p G', σ[i]? = some (some (.ref p)) ∧ At K Γ (ρ.set i (.val d)) σ G' H ∧ Same G G' ∧ Is K G' (.ref p) d := by
  obtain ⟨p, hp, h1, h2, h3⟩ := a.own h
  obtain ⟨o, ho⟩ := h3.some
  have gg : Same G (upd G p o) := fun b u q => by rw [upd_ne (ne_of_none q h1)]; exact q
  have hl := (List.getElem?_eq_some_iff.mp h).1
  have hd : Is K (upd G p o) (.ref p) d := h3.is gg (by rw [upd_same, ho])
  refine ⟨p, upd G p o, hp, ⟨by rw [List.length_set]; exact a.len, fun j s u e1 e2 => ?_, fun j k dj dk q e1 e2 e3 e4 => ?_, fun b u q => ?_, fun b q => ?_, a.kept, a.inh, a.bas.trans gg⟩, gg, hd⟩
  · by_cases hj : i = j
    · subst hj
      rw [List.getElem?_set_self hl] at e1
      cases e1
      rw [hp] at e2
      cases e2
      exact ⟨_, rfl, hd⟩
    · rw [List.getElem?_set_ne hj] at e1
      have q := a.sl j s u e1 e2
      cases s with
      | non => exact True.intro
      | val d' => obtain ⟨v, e, q⟩ := q; exact ⟨v, e, q.mono gg⟩
      | seq ds => obtain ⟨p', xs, e, q1, q2⟩ := q; exact ⟨p', xs, e, gg.seq q1, q2.mono gg⟩
      | own d' =>
        obtain ⟨p', e, q1, q2, q3⟩ := q
        have ne : p' ≠ p := fun z => by
          subst z
          subst e
          exact hj (a.sep i j _ _ _ h e1 hp e2)
        exact ⟨p', e, by rw [upd_ne ne]; exact q1, q2, q3.mono gg rfl⟩
  · have f : ∀ (k : Nat) dk, (ρ.set i (.val d))[k]? = some (.own dk) → ρ[k]? = some (.own dk) := fun k dk e => by
      by_cases hk : i = k
      · subst hk
        rw [List.getElem?_set_self hl] at e
        cases e
      · rw [List.getElem?_set_ne hk] at e
        exact e
    exact a.sep j k dj dk q (f j dj e1) (f k dk e2) e3 e4
  · by_cases hb : b = p
    · subst hb; rw [upd_same] at q; rw [ho]; exact q
    · rw [upd_ne hb] at q; exact a.sub b u q
  · rw [upd_ne (fun z => by subst z; exact q h2)]
    exact a.old b q
/-- a thing of its own is changed -/
theorem At.write (a : At K Γ ρ σ G H) {i : Nat} {d d' : D} {p : Addr} {o : HO} (h : ρ[i]? = some (.own d)) (hp : σ[i]? = some (some (.ref p))) (r : Own K G (upd H p o) p d') : At K Γ (ρ.set i (.own d')) σ G (upd H p o) := by
  obtain ⟨p', hp', h1, h2, h3⟩ := a.own h
  rw [hp] at hp'
  cases hp'
  have hl := (List.getElem?_eq_some_iff.mp h).1
  refine ⟨by rw [List.length_set]; exact a.len, fun j s u e1 e2 => ?_, fun j k dj dk q e1 e2 e3 e4 => ?_, fun b u q => ?_, a.old, fun b u q => ?_, a.inh, a.bas⟩
  · by_cases hj : i = j
    · subst hj
      rw [List.getElem?_set_self hl] at e1
      cases e1
      rw [hp] at e2
      cases e2
      exact ⟨_, rfl, h1, h2, r⟩
    · rw [List.getElem?_set_ne hj] at e1
      have q := a.sl j s u e1 e2
      cases s with
      | non => exact True.intro
      | val d' => obtain ⟨v, e, q⟩ := q; exact ⟨v, e, q⟩
      | seq ds => exact q
      | own d' =>
        obtain ⟨p', e, q1, q2, q3⟩ := q
        have ne : p' ≠ p := fun z => by
          subst z
          subst e
          exact hj (a.sep i j _ _ _ h e1 hp e2)
        exact ⟨p', e, q1, q2, q3.mono (Same.refl _) (upd_ne ne)⟩
  · have f : ∀ (k : Nat) dk, (ρ.set i (.own d'))[k]? = some (.own dk) → ∃ d2, ρ[k]? = some (.own d2) := fun k dk e => by
      by_cases hk : i = k
      · subst hk
        exact ⟨_, h⟩
      · rw [List.getElem?_set_ne hk] at e
        exact ⟨_, e⟩
    obtain ⟨d2, f1⟩ := f j dj e1
    obtain ⟨d3, f2⟩ := f k dk e2
    exact a.sep j k d2 d3 q f1 f2 e3 e4
  · rw [upd_ne (ne_of_none q h1)]
    exact a.sub b u q
  · rw [upd_ne (ne_of_none q h2)]
    exact a.kept b u q
end
end Dn
/-! Dn: judgements and expressions. -/
namespace Dn
open PySem PySem.Spec PyProof.Rows L2

def XIs (K : PySem.W.Frag) (G H : Hp) (cls : Value) (d : Option Addr) : Exn → Prop
  | .plain C => cls = .ref C ∧ d = none
  | .low C f x => cls = .ref C ∧ ∃ a v, d = some a ∧ H a = some (.xd [(f, v)]) ∧ Is K G v x
def liftW (K : PySem.W.Frag) (Γ : Gm) : WX := fun cls d σ H => ∃ ρ G ex, At K Γ ρ σ G H ∧ XIs K G H cls d ex ∧ Γ.W ex ρ
/-- the built-in names that the text leaves as they are -/
def bnames : List Str := ["len", "range", "int", "isinstance", "sum", "any", "all", "enumerate", "sorted", "list", "tuple", "str", "max", "min", "zip", "dict", "abs", "reversed", "bool", "super", "ValueError"]
structure Cok (k : Nat) (X : Cx) (Γ : Gm) : Prop where
  calm : X.calm = true
  nd : X.N.Nodup
  room : Room k X.A
  gh : Same Γ.G0 Γ.H0
  po : PassesOwn (model X.prog X.w) X.A X.env X.xe
  bl : ∀ x : Str, bnames.contains x = true → X.mg x = none
  pa : ∀ σ, PassesAt (L2.CX X.prog X.w) X σ (WE (liftW X.K Γ) σ)
theorem Cok.hu {k : Nat} {X : Cx} {Γ : Gm} (c : Cok k X Γ) : X.A.units + 65 < cLine := by have := c.room.un; omega
/-- no exception -/
abbrev Gm.nx (Γ : Gm) : Gm := { Γ with W := fun _ _ => False }
theorem liftW_nx {K : PySem.W.Frag} {Γ : Gm} {cls d σ H} (h : liftW K Γ.nx cls d σ H) : False := by
  obtain ⟨_, _, _, _, _, h⟩ := h
  exact h
theorem Cok.blk {k : Nat} {X : Cx} {Γ : Gm} (c : Cok k X Γ) {s : Shared} {H : Hp} {scope : Scope} {cenv : Env} {fp : List Addr} : Cok k (X.blk s H scope cenv fp) Γ.nx :=
  ⟨c.calm, c.nd, c.room, c.gh, PassesOwn.never, c.bl, fun σ pins H s e s' I q => by
    obtain ⟨_, _, _, cls, d, _, _, _, _, _, _, _, z⟩ := q
    exact (liftW_nx z).elim⟩

/-! ### judgements -/
abbrev TD := Ro → (D → Ro → Prop) → Prop
inductive B where
  | dat (d : D)
  | slot (i : Nat)
abbrev TB := Ro → (B → Ro → Prop) → Prop
abbrev TT' := Ro → (Bool → Ro → Prop) → Prop
abbrev TDs := Ro → (List D → Ro → Prop) → Prop
def IsB (K : PySem.W.Frag) (σ : L2.St) (G : Hp) (v : V) : B → Prop
  | .dat d => Is K G v d
  | .slot i => σ[i]? = some (some v)
theorem IsB.mono {K : PySem.W.Frag} {σ : L2.St} {G G' : Hp} {v : V} {b : B} (e : Same G G') (h : IsB K σ G v b) : IsB K σ G' v b := by
  cases b with
  | dat d => exact Is.mono e h
  | slot i => exact h
def look (ρ : Ro) : B → Option D
  | .dat d => some d
  | .slot i => match ρ[i]? with
    | some (.val d) => some d
    | some (.own d) => some d
    | _ => none
def withD (ρ : Ro) (b : B) (k : D → Prop) : Prop := match look ρ b with
  | some d => k d
  | none => False
theorem withD.to {ρ : Ro} {b : B} {k : D → Prop} (h : withD ρ b k) : ∃ d, look ρ b = some d ∧ k d := by
  unfold withD at h
  split at h
  · exact ⟨_, by assumption, h⟩
  · exact h.elim
/-- data, its top one's own at most -/
def IsX (K : PySem.W.Frag) (G H : Hp) (v : V) (d : D) : Prop := Is K G v d ∨ ∃ a, v = .ref a ∧ Own K G H a d
section
variable {K : PySem.W.Frag} {Γ : Gm} {ρ : Ro} {σ : L2.St} {G H : Hp} {v : V} {b : B} {d : D}
theorem At.isx (a : At K Γ ρ σ G H) (h : IsB K σ G v b) (l : look ρ b = some d) : IsX K G H v d := by
  cases b with
  | dat e => cases l; exact .inl h
  | slot i =>
    have h' : σ[i]? = some (some v) := h
    have l' : (match ρ[i]? with | some (.val d) => some d | some (.own d) => some d | _ => none) = some d := l
    cases q : ρ[i]? with
    | none => rw [q] at l'; cases l'
    | some s =>
      rw [q] at l'
      cases s with
      | non => cases l'
      | seq _ => cases l'
      | val e =>
        cases l'
        obtain ⟨w, e1, e2⟩ := a.val q
        rw [h'] at e1
        cases e1
        exact .inl e2
      | own e =>
        cases l'
        obtain ⟨p, e1, _, _, e2⟩ := a.own q
        rw [h'] at e1
        cases e1
        exact .inr ⟨p, rfl, e2⟩
theorem IsX.list {ds : List D} (s : Same G H) (h : IsX K G H v (.list ds)) : ∃ a xs, v = .ref a ∧ H a = some (.lst xs) ∧ IsAll K G xs ds := by
  rcases h with h | ⟨a, rfl, h⟩
  · cases h with
    | lst h1 h2 => exact ⟨_, _, rfl, s _ _ h1, h2⟩
  · rcases h with ⟨xs, es, h1, h2, h3⟩ | ⟨_, _, _, h1, _⟩ | ⟨_, _, _, h1, _⟩
    · cases h1
      exact ⟨a, xs, rfl, h2, h3⟩
    · cases h1
    · cases h1
theorem IsX.tup {ds : List D} (h : IsX K G H v (.tuple ds)) : ∃ a xs, v = .ref a ∧ SqT K G a xs ∧ IsAll K G xs ds := by
  rcases h with h | ⟨a, rfl, h⟩
  · cases h with
    | tup h1 h2 => exact ⟨_, _, rfl, h1, h2⟩
  · rcases h with ⟨xs, es, h1, h2, h3⟩ | ⟨_, _, _, h1, _⟩ | ⟨_, _, _, h1, _⟩ <;> cases h1
theorem IsX.flat (h : IsX K G H v d) (hd : ∀ ds, d ≠ .list ds) (hd2 : ∀ ds, d ≠ .dict ds) : Is K G v d := by
  rcases h with h | ⟨a, rfl, h⟩
  · exact h
  · rcases h with ⟨xs, es, h1, h2, h3⟩ | ⟨_, _, _, h1, _⟩ | ⟨_, _, _, h1, _⟩
    · exact absurd h1 (hd _)
    · exact absurd h1 (hd2 _)
    · exact absurd h1 (hd2 _)
theorem IsX.int {i : Int} (h : IsX K G H v (.int i)) : v = .int i := by
  cases h.flat (fun _ z => nomatch z) (fun _ z => nomatch z); rfl
theorem IsX.str {i : Str} (h : IsX K G H v (.str i)) : v = .str i := by
  cases h.flat (fun _ z => nomatch z) (fun _ z => nomatch z); rfl
theorem IsX.bl {i : Bool} (h : IsX K G H v (.bool i)) : v = .bl i := by
  cases h.flat (fun _ z => nomatch z) (fun _ z => nomatch z); rfl
theorem IsX.non (h : IsX K G H v .none) : v = .non := by
  cases h.flat (fun _ z => nomatch z) (fun _ z => nomatch z); rfl
theorem IsX.is (s : Same G H) (h : IsX K G H v d) : Is K H v d := by
  rcases h with h | ⟨a, rfl, h⟩
  · exact h.mono s
  · exact h.is s rfl
end
/-- no dict within, not deeper than n -/
def dep : Nat → D → Bool
  | _, .none => true
  | _, .bool _ => true
  | _, .int _ => true
  | _, .str x => PySem.PyData.strOk x
  | 0, _ => false
  | n + 1, .list xs => xs.all (dep n)
  | n + 1, .tuple xs => xs.all (dep n)
  | _ + 1, .dict _ => false
theorem dep_depth : ∀ (n : Nat) (d : D), dep n d = true → d.canLay0 = true ∧ d.depth ≤ n := by
  have all (n : Nat) (ih : ∀ d : D, dep n d = true → d.canLay0 = true ∧ d.depth ≤ n) : ∀ xs : List D, xs.all (dep n) = true → PyData.canLayAll0 xs = true ∧ PyData.depthAll xs ≤ n := by
    intro xs
    induction xs with
    | nil => intro _; exact ⟨by simp [PyData.canLayAll0], by simp [PyData.depthAll]⟩
    | cons x xs ih2 =>
      intro h
      rw [List.all_cons, Bool.and_eq_true] at h
      obtain ⟨h1, h2⟩ := ih x h.1
      obtain ⟨h3, h4⟩ := ih2 h.2
      refine ⟨by simp [PyData.canLayAll0, h1, h3], ?_⟩
      simp only [PyData.depthAll]
      omega
  intro n
  induction n with
  | zero =>
    intro d h
    cases d with
    | none => exact ⟨by simp [PyData.canLay0], by simp [PyData.depth]⟩
    | bool b => exact ⟨by simp [PyData.canLay0], by simp [PyData.depth]⟩
    | int b => exact ⟨by simp [PyData.canLay0], by simp [PyData.depth]⟩
    | str b => exact ⟨by simpa [PyData.canLay0, dep] using h, by simp [PyData.depth]⟩
    | _ => simp [dep] at h
  | succ n ih =>
    intro d h
    cases d with
    | none => exact ⟨by simp [PyData.canLay0], by simp [PyData.depth]⟩
    | bool b => exact ⟨by simp [PyData.canLay0], by simp [PyData.depth]⟩
    | int b => exact ⟨by simp [PyData.canLay0], by simp [PyData.depth]⟩
    | str b => exact ⟨by simpa [PyData.canLay0, dep] using h, by simp [PyData.depth]⟩
    | list xs =>
      obtain ⟨h1, h2⟩ := all n ih xs (by simpa [dep] using h)
      exact ⟨by simpa [PyData.canLay0] using h1, by simp only [PyData.depth]; omega⟩
    | tuple xs =>
      obtain ⟨h1, h2⟩ := all n ih xs (by simpa [dep] using h)
      exact ⟨by simpa [PyData.canLay0] using h1, by simp only [PyData.depth]; omega⟩
    | dict _ => simp [dep] at h
theorem shaped_of {n : Nat} {d : D} (h : dep n d = true) (hn : n ≤ 64) : SeqAt.shaped d = true := by
  obtain ⟨h1, h2⟩ := dep_depth n d h
  unfold SeqAt.shaped
  rw [h1, Bool.true_and]
  exact decide_eq_true (by omega)
section
variable {K : PySem.W.Frag} {H : Hp}
mutual
theorem Is.dp : ∀ {v : V} {d : D}, Is K H v d → d.canLay0 = true → Dp K H v d
  | _, _, .non, _ => .non
  | _, _, .bl b, _ => .bl b
  | _, _, .int i, _ => .int i
  | _, _, .str x, _ => .str x
  | _, _, .lst h a, q => .lst (SqL.of h) (IsAll.dp a (by simpa [PyData.canLay0] using q))
  | _, _, .tup h a, q => .tup h (IsAll.dp a (by simpa [PyData.canLay0] using q))
  | _, _, .dk h l a, q => by simp [PyData.canLay0] at q
  | _, _, .dt h l a, q => by simp [PyData.canLay0] at q
theorem IsAll.dp : ∀ {vs : List V} {ds : List D}, IsAll K H vs ds → PyData.canLayAll0 ds = true → DpAll K H vs ds
  | _, _, .nil, _ => .nil
  | _, _, .cons h t, q => by
    simp only [PyData.canLayAll0, Bool.and_eq_true] at q
    exact .cons (Is.dp h q.1) (IsAll.dp t q.2)
end
end

theorem pe_imp {X : Cx} {e : Expr} {t t' : TE} (h : PE X e t) (i : ∀ σ H Q, t' σ H Q → t σ H Q) : PE X e t' := ⟨fun pins s σ H Q I q => h.run pins s σ H Q I (i σ H Q q)⟩
theorem pt_imp {X : Cx} {e : Expr} {t t' : TT} (h : PT X e t) (i : ∀ σ H Q, t' σ H Q → t σ H Q) : PT X e t' := ⟨fun pins s σ H Q I q => h.run pins s σ H Q I (i σ H Q q)⟩
theorem pa_imp {X : Cx} {es : List Expr} {t t' : TA} (h : PA X es t) (i : ∀ σ H Q, t' σ H Q → t σ H Q) : PA X es t' := ⟨fun po pins s σ H Q I q => h.run po pins s σ H Q I (i σ H Q q)⟩

def rdE (K : PySem.W.Frag) (Γ : Gm) (t : TD) : TE := fun σ H Q => ∃ ρ G k, At K Γ ρ σ G H ∧ t ρ k ∧ ∀ d ρ' v G' H', k d ρ' → At K Γ ρ' σ G' H' → Same G G' → Is K G' v d → Q v H'
def rdB (K : PySem.W.Frag) (Γ : Gm) (t : TB) : TE := fun σ H Q => ∃ ρ G k, At K Γ ρ σ G H ∧ t ρ k ∧ ∀ b ρ' v G' H', k b ρ' → At K Γ ρ' σ G' H' → Same G G' → IsB K σ G' v b → Q v H'
def rdT (K : PySem.W.Frag) (Γ : Gm) (t : TT') : TT := fun σ H Q => ∃ ρ G k, At K Γ ρ σ G H ∧ t ρ k ∧ ∀ b ρ' G' H', k b ρ' → At K Γ ρ' σ G' H' → Same G G' → Q b H'
def rdA (K : PySem.W.Frag) (Γ : Gm) (t : TDs) : TA := fun σ H Q => ∃ ρ G k, At K Γ ρ σ G H ∧ t ρ k ∧ ∀ ds ρ' vs G' H', k ds ρ' → At K Γ ρ' σ G' H' → Same G G' → IsAll K G' vs ds → Q vs H'
/-- a new list (or dict) at a place that nobody knows yet -/
def rdF (K : PySem.W.Frag) (Γ : Gm) (t : TD) : TE := fun σ H Q => ∃ ρ G k, At K Γ ρ σ G H ∧ t ρ k ∧ ∀ d ρ' p G' H', k d ρ' → At K Γ ρ' σ G' H' → Same G G' → G' p = none → Γ.H0 p = none → Own K G' H' p d →
  (∀ (j : Nat) dj, ρ'[j]? = some (.own dj) → σ[j]? ≠ some (some (.ref p))) → Q (.ref p) H'
structure DE (X : Cx) (Γ : Gm) (e : Expr) (t : TD) : Prop where
  pe : PE X e (rdE X.K Γ t)
structure DB (X : Cx) (Γ : Gm) (e : Expr) (t : TB) : Prop where
  pe : PE X e (rdB X.K Γ t)
structure DT (X : Cx) (Γ : Gm) (e : Expr) (t : TT') : Prop where
  pt : PT X e (rdT X.K Γ t)
structure DA (X : Cx) (Γ : Gm) (es : List Expr) (t : TDs) : Prop where
  pa : PA X es (rdA X.K Γ t)
structure DF (X : Cx) (Γ : Gm) (e : Expr) (t : TD) : Prop where
  pe : PE X e (rdF X.K Γ t)

section
variable {X : Cx} {Γ : Gm} {k : Nat} {a b e : Expr} {es : List Expr} {pos : Pos}
/-! ### names, constants -/
def dVar (I : List Nat) (i : Nat) : TD := fun ρ Q => match ρ[i]? with
  | some (.val d) => Q d ρ
  | some (.own d) => I.contains i = false ∧ Q d (ρ.set i (.val d))
  | _ => False
theorem de_var (i : Nat) {x : Str} (hN : X.N[i]? = some x := by rfl) (hv : Vis X.env.scope x := by first | exact Or.inl rfl | exact Or.inr (Or.inl rfl) | exact Or.inr (Or.inr rfl)) (hd : (x == ("__debug__" : Str)) = false := by decide)
    (hcd : (x == ("__classdict__" : Str)) = false := by decide) : DE X Γ (.Name x pos) (dVar Γ.I i) := by
  refine ⟨pe_imp (pe_var (i := i) hN hv hd hcd) ?_⟩
  rintro σ H Q ⟨ρ, G, k, at_, h, fin⟩
  unfold dVar at h
  split at h
  · rename_i d q
    obtain ⟨v, e1, e2⟩ := at_.val q
    exact ⟨v, e1, fin d ρ v G H h at_ (Same.refl _) e2⟩
  · rename_i d q
    obtain ⟨p, G', e1, a2, gg, e2⟩ := at_.freeze q
    exact ⟨_, e1, fin d _ _ G' H h.2 a2 gg e2⟩
  · exact h.elim
def dSlot (i : Nat) : TB := fun ρ Q => match ρ[i]? with
  | some (.val d) => Q (.dat d) ρ
  | some (.own _) => Q (.slot i) ρ
  | _ => False
theorem db_var (i : Nat) {x : Str} (hN : X.N[i]? = some x := by rfl) (hv : Vis X.env.scope x := by first | exact Or.inl rfl | exact Or.inr (Or.inl rfl) | exact Or.inr (Or.inr rfl)) (hd : (x == ("__debug__" : Str)) = false := by decide)
    (hcd : (x == ("__classdict__" : Str)) = false := by decide) : DB X Γ (.Name x pos) (dSlot i) := by
  refine ⟨pe_imp (pe_var (i := i) hN hv hd hcd) ?_⟩
  rintro σ H Q ⟨ρ, G, k, at_, h, fin⟩
  unfold dSlot at h
  split at h
  · rename_i d q
    obtain ⟨v, e1, e2⟩ := at_.val q
    exact ⟨v, e1, fin _ ρ v G H h at_ (Same.refl _) e2⟩
  · rename_i d q
    obtain ⟨p, e1, _, _, _⟩ := at_.own q
    exact ⟨_, e1, fin _ ρ _ G H h at_ (Same.refl _) e1⟩
  · exact h.elim
def dOf (t : TD) : TB := fun ρ Q => t ρ fun d ρ' => Q (.dat d) ρ'
theorem DE.toB {t : TD} (h : DE X Γ e t) : DB X Γ e (dOf t) := by
  refine ⟨pe_imp h.pe ?_⟩
  rintro σ H Q ⟨ρ, G, k, at_, h, fin⟩
  exact ⟨ρ, G, _, at_, h, fun d ρ' v G' H' hk a' s' r => fin (.dat d) ρ' v G' H' hk a' s' r⟩
/-- what nobody knows yet is given away -/
theorem At.give {K : PySem.W.Frag} {ρ : Ro} {σ : L2.St} {G H : Hp} {p : Addr} {d : D} (a : At K Γ ρ σ G H) (g0 : G p = none) (h0 : Γ.H0 p = none) (own : Own K G H p d) (hno : ∀ (j : Nat) dj, ρ[j]? = some (.own dj) → σ[j]? ≠ some (some (.ref p))) : ∃ G2, At K Γ ρ σ G2 H ∧ Same G G2 ∧ Is K G2 (.ref p) d := by
  obtain ⟨o, ho⟩ := own.some
  have gg : Same G (upd G p o) := fun b u q => by rw [upd_ne (ne_of_none q g0)]; exact q
  refine ⟨upd G p o, ⟨a.len, fun j s u e1 e2 => ?_, a.sep, fun b u q => ?_, fun b q => ?_, a.kept, a.inh, a.bas.trans gg⟩, gg, own.is gg (by rw [upd_same, ho])⟩
  · have q := a.sl j s u e1 e2
    cases s with
    | non => exact True.intro
    | val d' => obtain ⟨v, e, q⟩ := q; exact ⟨v, e, q.mono gg⟩
    | seq ds => obtain ⟨p', xs, e, q1, q2⟩ := q; exact ⟨p', xs, e, gg.seq q1, q2.mono gg⟩
    | own d' =>
      obtain ⟨p', e, q1, q2, q3⟩ := q
      have ne : p' ≠ p := fun z => by
        subst z
        exact hno j d' e1 (by rw [e2, e])
      exact ⟨p', e, by rw [upd_ne ne]; exact q1, q2, q3.mono gg rfl⟩
  · by_cases hb : b = p
    · subst hb; rw [upd_same] at q; rw [ho]; exact q
    · rw [upd_ne hb] at q; exact a.sub b u q
  · rw [upd_ne (fun z => by subst z; exact q h0)]
    exact a.old b q
theorem DF.toE {t : TD} (h : DF X Γ e t) : DE X Γ e t := by
  refine ⟨pe_imp h.pe ?_⟩
  rintro σ H Q ⟨ρ, G, k, at_, h, fin⟩
  refine ⟨ρ, G, _, at_, h, fun d ρ' p G' H' hk a' s' g0 h0 own hno => ?_⟩
  obtain ⟨G2, a2, s2, r2⟩ := a'.give g0 h0 own hno
  exact fin d ρ' (.ref p) G2 H' hk a2 (s'.trans s2) r2
def dC (d : D) : TD := fun ρ Q => Q d ρ
theorem de_c {v : V} {d : D} (h : PE X e (tC v)) (r : ∀ G, Is X.K G v d) : DE X Γ e (dC d) := by
  refine ⟨pe_imp h ?_⟩
  rintro σ H Q ⟨ρ, G, k, at_, h, fin⟩
  exact fin d ρ v G H h at_ (Same.refl _) (r G)
theorem de_int {i j} : DE X Γ (.Constant (.int i) j pos) (dC (.int i)) := de_c pe_int fun _ => .int i
theorem de_bl {i j} : DE X Γ (.Constant (.bool i) j pos) (dC (.bool i)) := de_c pe_bl fun _ => .bl i
theorem de_non {j} : DE X Γ (.Constant .none j pos) (dC .none) := de_c pe_non fun _ => .non
theorem de_str {i j} : DE X Γ (.Constant (.str i) j pos) (dC (.str i)) := de_c pe_str fun _ => .str i
/-- a module's constant -/
theorem de_glob {x : Str} {v : V} {u : Value} {d : D} (hg : Gl X x) (hm : X.mg x = some u) (r : RelV v u) (i : ∀ G, Is X.K G v d) (hd : (x == ("__debug__" : Str)) = false := by decide) : DE X Γ (.Name x pos) (dC d) := de_c (pe_glob hg hm r hd) i

/-! ### two operands -/
abbrev Op2 := D → D → (D → Prop) → Prop
def OpD (X : Cx) (fn : Value → Value → Sem Value) (f : Op2) : Prop :=
  OpR X fn fun x y H Q => ∃ G d e k, Same G H ∧ IsX X.K G H x d ∧ IsX X.K G H y e ∧ f d e k ∧ ∀ r v G' H', k r → Grow G H G' H' → Is X.K G' v r → Q v H'
def dBin (f : Op2) (ta tb : TB) : TD := fun ρ Q => ta ρ fun x ρ1 => tb ρ1 fun y ρ2 => withD ρ2 x fun d => withD ρ2 y fun e => f d e fun r => Q r ρ2
theorem bin_rd {f : Op2} {ta tb : TB} {r : R2} {K : PySem.W.Frag} {σ : L2.St} {H : Hp} {Q : VK}
    (hr : ∀ x y H Q, (∃ G d e k, Same G H ∧ IsX K G H x d ∧ IsX K G H y e ∧ f d e k ∧ ∀ r v G' H', k r → Grow G H G' H' → Is K G' v r → Q v H') → r x y H Q)
    (h : rdE K Γ (dBin f ta tb) σ H Q) : tOp r (rdB K Γ ta) (rdB K Γ tb) σ H Q := by
  obtain ⟨ρ, G, k, at_, h, fin⟩ := h
  refine ⟨ρ, G, _, at_, h, fun x ρ1 v1 G1 H1 h1 a1 s1 r1 => ⟨ρ1, G1, _, a1, h1, fun y ρ2 v2 G2 H2 h2 a2 s2 r2 => ?_⟩⟩
  obtain ⟨d, l1, h2⟩ := h2.to
  obtain ⟨e, l2, h2⟩ := h2.to
  exact hr _ _ _ _ ⟨G2, d, e, _, a2.sub, a2.isx (r1.mono s2) l1, a2.isx r2 l2, h2, fun r v G3 H3 hk g i => fin r ρ2 v G3 H3 hk (a2.grow g) ((s1.trans s2).trans g.gg) i⟩
theorem de_bin {op : Operator} {f : Op2} {ta tb : TB} (ho : OpD X (binaryOp op) f) (ha : DB X Γ a ta) (hb : DB X Γ b tb) : DE X Γ (.BinOp a op b pos) (dBin f ta tb) :=
  ⟨pe_imp (pe_op ho ha.pe hb.pe) fun σ H Q h => bin_rd (fun _ _ _ _ h => h) h⟩
theorem de_cmp {op : CmpOp} {f : Op2} {ta tb : TB} (ho : OpD X (compareOp op) f) (ha : DB X Γ a ta) (hb : DB X Γ b tb) (hm : behindInMarks op b = false := by first | exact nomark _ | with_unfolding_all rfl) : DE X Γ (.Compare a [op] [b] pos) (dBin f ta tb) :=
  ⟨pe_imp (pe_cmpR ho ha.pe hb.pe hm) fun σ H Q h => bin_rd (fun _ _ _ _ h => h) h⟩
theorem OpD.or {fn : Value → Value → Sem Value} {r : R2} {f : Op2} (h : OpR X fn r) (i : ∀ x y H Q, (∃ G d e k, Same G H ∧ IsX X.K G H x d ∧ IsX X.K G H y e ∧ f d e k ∧ ∀ r v G' H', k r → Grow G H G' H' → Is X.K G' v r → Q v H') → r x y H Q) : OpD X fn f := by
  intro pins s σ H x y v u Q I rx ry q
  exact h pins s σ H x y v u Q I rx ry (i _ _ _ _ q)

/-! ### arithmetic -/
def addD : Op2
  | .int i, .int j, Q => Q (.int (i + j))
  | .str x, .str y, Q => x.length + y.length ≤ 16777216 ∧ Q (.str (x ++ y))
  | .tuple xs, .tuple ys, Q => xs.length + ys.length ≤ 16777216 ∧ Q (.tuple (xs ++ ys))
  | .list xs, .list ys, Q => xs.length + ys.length ≤ 16777216 ∧ Q (.list (xs ++ ys))
  | _, _, _ => False
theorem line_le {n : Nat} (h : n ≤ 16777216) : n ≤ sizeLine := by rw [sizeLine_eq]; exact h
theorem line_lt {n : Nat} (h : n < 16777216) : n < sizeLine := by rw [sizeLine_eq]; exact h
theorem od_add : OpD X (binaryOp .Add) addD := by
  refine OpD.or ((op_add.or (op_add_str.or op_catA)).or op_cat) ?_
  rintro x y H Q ⟨G, d, e, k, s, hx, hy, h, fin⟩
  cases d with
  | int i =>
    cases e with
    | int j => exact .inl (.inl ⟨i, j, hx.int, hy.int, fin _ _ G H h (.refl s) (.int _)⟩)
    | _ => exact (show False from h).elim
  | str i =>
    cases e with
    | str j => exact .inl (.inr (.inl ⟨i, j, hx.str, hy.str, line_le h.1, fin _ _ G H h.2 (.refl s) (.str _)⟩))
    | _ => exact (show False from h).elim
  | tuple xs =>
    cases e with
    | tuple ys =>
      obtain ⟨p, us, rfl, h1, h2⟩ := hx.tup
      obtain ⟨q, ws, rfl, h3, h4⟩ := hy.tup
      have l1 := h2.length
      have l2 := h4.length
      refine .inl (.inr (.inr ⟨p, q, us, ws, rfl, rfl, Same.sqt s h1, Same.sqt s h3, line_le (by rw [l1, l2]; exact h.1), fun e => ?_, fun _ e => ?_, fun _ _ r hr => ?_⟩))
      · subst e
        cases h2
        exact fin _ _ G H h.2 (.refl s) (.tup h3 h4)
      · subst e
        cases h4
        refine fin _ _ G H h.2 (.refl s) ?_
        rw [List.append_nil]
        exact .tup h1 h2
      · have g := Grow.laid (o := .tup (us ++ ws)) s hr
        exact fin _ _ _ _ h.2 g (.tup (.of upd_same) ((h2.mono g.gg).append (h4.mono g.gg)))
    | _ => exact (show False from h).elim
  | list xs =>
    cases e with
    | list ys =>
      obtain ⟨p, us, rfl, h1, h2⟩ := hx.list s
      obtain ⟨q, ws, rfl, h3, h4⟩ := hy.list s
      refine .inr ⟨p, q, us, ws, rfl, rfl, h1, h3, line_le (by rw [h2.length, h4.length]; exact h.1), fun r hr => ?_⟩
      have g := Grow.laid (o := .lst (us ++ ws)) s hr
      exact fin _ _ _ _ h.2 g (.lst upd_same ((h2.mono g.gg).append (h4.mono g.gg)))
    | _ => exact (show False from h).elim
  | _ => exact (show False from h).elim
/-- a new list by + -/
def addL : Op2
  | .list xs, .list ys, Q => xs.length + ys.length ≤ 16777216 ∧ Q (.list (xs ++ ys))
  | _, _, _ => False
def subD : Op2
  | .int i, .int j, Q => Q (.int (i - j))
  | _, _, _ => False
theorem od_sub : OpD X (binaryOp .Sub) subD := by
  refine OpD.or op_sub ?_
  rintro x y H Q ⟨G, d, e, k, s, hx, hy, h, fin⟩
  cases d with
  | int i =>
    cases e with
    | int j => exact ⟨i, j, hx.int, hy.int, fin _ _ G H h (.refl s) (.int _)⟩
    | _ => exact (show False from h).elim
  | _ => exact (show False from h).elim
/-- products of less than a million bits -/
def CM (i j : Int) : Prop := (∃ a b : Nat, i.natAbs < 2 ^ a ∧ j.natAbs < 2 ^ b ∧ a + b ≤ 1000000) ∨ (-(2 ^ 64) < i ∧ i < 2 ^ 64) ∨ (-(2 ^ 64) < j ∧ j < 2 ^ 64)
theorem CM.ok {i j : Int} (h : CM i j) : IntMulOk i j := by
  rcases h with ⟨a, b, ha, hb, hab⟩ | h
  · by_cases h0 : a = 0
    · subst h0
      have : i = 0 := by omega
      subst this
      exact (CMul.ok (.inl ⟨by omega, by omega⟩))
    · by_cases h1 : b = 0
      · subst h1
        have : j = 0 := by omega
        subst this
        exact (CMul.ok (.inr ⟨by omega, by omega⟩))
      · exact (wide_mul ha hb (by omega) (by omega) hab).ok
  · exact CMul.ok h
theorem op_mulC : OpR X (binaryOp .Mult) (rI CM fun i j => .int (i * j)) := opI fun _ _ _ _ _ _ _ hc q => mul_int q hc.ok
def mulD : Op2
  | .int i, .int j, Q => CM i j ∧ Q (.int (i * j))
  | _, _, _ => False
theorem od_mul : OpD X (binaryOp .Mult) mulD := by
  refine OpD.or op_mulC ?_
  rintro x y H Q ⟨G, d, e, k, s, hx, hy, h, fin⟩
  cases d with
  | int i =>
    cases e with
    | int j => exact ⟨i, j, hx.int, hy.int, h.1, fin _ _ G H h.2 (.refl s) (.int _)⟩
    | _ => exact (show False from h).elim
  | _ => exact (show False from h).elim
def CDV (j : Int) : Prop := j ≠ 0 ∧ j.natAbs < 2 ^ 9000
theorem op_fdivC : OpR X (binaryOp .FloorDiv) (rI (fun _ j => CDV j) fun i j => .int (i.fdiv j)) := opI fun i j _ _ _ _ _ hc q =>
  floordiv_int hc.1 q (.inl (PyProof.noPylong_of_log2 (PySem.Flt.log2_lt_of (by decide) hc.2)))
def fdivD : Op2
  | .int i, .int j, Q => CDV j ∧ Q (.int (i.fdiv j))
  | _, _, _ => False
theorem od_fdiv : OpD X (binaryOp .FloorDiv) fdivD := by
  refine OpD.or op_fdivC ?_
  rintro x y H Q ⟨G, d, e, k, s, hx, hy, h, fin⟩
  cases d with
  | int i =>
    cases e with
    | int j => exact ⟨i, j, hx.int, hy.int, h.1, fin _ _ G H h.2 (.refl s) (.int _)⟩
    | _ => exact (show False from h).elim
  | _ => exact (show False from h).elim
def modD : Op2
  | .int i, .int j, Q => j ≠ 0 ∧ Q (.int (i.fmod j))
  | _, _, _ => False
theorem od_mod : OpD X (binaryOp .Mod) modD := by
  refine OpD.or op_modN ?_
  rintro x y H Q ⟨G, d, e, k, s, hx, hy, h, fin⟩
  cases d with
  | int i =>
    cases e with
    | int j => exact ⟨i, j, hx.int, hy.int, h.1, fin _ _ G H h.2 (.refl s) (.int _)⟩
    | _ => exact (show False from h).elim
  | _ => exact (show False from h).elim
def powD : Op2
  | .int i, .int j, Q => (0 ≤ j ∧ j ≤ 1000000 ∧ i.natAbs < 2 ^ 64) ∧ Q (.int (i ^ j.toNat))
  | _, _, _ => False
theorem od_pow : OpD X (binaryOp .Pow) powD := by
  refine OpD.or op_pow ?_
  rintro x y H Q ⟨G, d, e, k, s, hx, hy, h, fin⟩
  cases d with
  | int i =>
    cases e with
    | int j => exact ⟨i, j, hx.int, hy.int, h.1, fin _ _ G H h.2 (.refl s) (.int _)⟩
    | _ => exact (show False from h).elim
  | _ => exact (show False from h).elim

/-! ### comparisons -/
def cmpI (p : Int → Int → Bool) : Op2
  | .int i, .int j, Q => Q (.bool (p i j))
  | _, _, _ => False
theorem od_cmpI {fn : Value → Value → Sem Value} {p : Int → Int → Bool} (ho : OpR X fn (rI0 fun i j => .bl (p i j))) : OpD X fn (cmpI p) := by
  refine OpD.or ho ?_
  rintro x y H Q ⟨G, d, e, k, s, hx, hy, h, fin⟩
  cases d with
  | int i =>
    cases e with
    | int j => exact ⟨i, j, hx.int, hy.int, fin _ _ G H h (.refl s) (.bl _)⟩
    | _ => exact (show False from h).elim
  | _ => exact (show False from h).elim
theorem od_lt : OpD X (compareOp .Lt) (cmpI fun i j => decide (i < j)) := od_cmpI op_lt
theorem od_le : OpD X (compareOp .LtE) (cmpI fun i j => decide (i ≤ j)) := od_cmpI op_le
theorem od_gt : OpD X (compareOp .Gt) (cmpI fun i j => decide (j < i)) := od_cmpI op_gt
theorem od_ge : OpD X (compareOp .GtE) (cmpI fun i j => decide (j ≤ i)) := od_cmpI op_ge
def eqD : Op2 := fun d e Q => dep 20 d = true ∧ dep 20 e = true ∧ Q (.bool (PyData.eqv d e))
def neD : Op2 := fun d e Q => dep 20 d = true ∧ dep 20 e = true ∧ Q (.bool (!PyData.eqv d e))
theorem od_eq (c : Cok k X Γ) : OpD X (compareOp .Eq) eqD := by
  refine OpD.or (op_eqD (by have := c.hu; omega)) ?_
  rintro x y H Q ⟨G, d, e, k, s, hx, hy, ⟨h1, h2, h⟩, fin⟩
  exact ⟨d, e, (hx.is s).dp (dep_depth _ _ h1).1, (hy.is s).dp (dep_depth _ _ h2).1, shaped_of h1 (by decide), shaped_of h2 (by decide), fin _ _ G H h (.refl s) (.bl _)⟩
theorem od_ne (c : Cok k X Γ) : OpD X (compareOp .NotEq) neD := by
  refine OpD.or (op_neD (by have := c.hu; omega)) ?_
  rintro x y H Q ⟨G, d, e, k, s, hx, hy, ⟨h1, h2, h⟩, fin⟩
  exact ⟨d, e, (hx.is s).dp (dep_depth _ _ h1).1, (hy.is s).dp (dep_depth _ _ h2).1, shaped_of h1 (by decide), shaped_of h2 (by decide), fin _ _ G H h (.refl s) (.bl _)⟩
def isNone : D → Bool
  | .none => true
  | _ => false
theorem IsX.isNone {K : PySem.W.Frag} {G H : Hp} {v : V} {d : D} (h : IsX K G H v d) : decide (v = .non) = Dn.isNone d := by
  rcases h with h | ⟨a, rfl, h⟩
  · cases h <;> rfl
  · rcases h with ⟨xs, es, rfl, h2, h3⟩ | ⟨_, _, _, rfl, _⟩ | ⟨_, _, _, rfl, _⟩ <;> rfl
/-- is: None on the right, or two truth values -/
def isD : Op2
  | d, .none, Q => Q (.bool (isNone d))
  | .bool i, .bool j, Q => Q (.bool (decide (i = j)))
  | _, _, _ => False
def isnD : Op2
  | d, .none, Q => Q (.bool (!isNone d))
  | .bool i, .bool j, Q => Q (.bool (!decide (i = j)))
  | _, _, _ => False
theorem od_is : OpD X (compareOp .Is) isD := by
  refine OpD.or (op_isN.or op_isBl) ?_
  rintro x y H Q ⟨G, d, e, k, s, hx, hy, h, fin⟩
  cases e with
  | none =>
    refine .inl ⟨hy.non, ?_⟩
    rw [hx.isNone]
    have h' : k (.bool (isNone d)) := by cases d <;> exact h
    exact fin _ _ G H h' (.refl s) (.bl _)
  | bool j =>
    cases d with
    | bool i => exact .inr ⟨i, j, hx.bl, hy.bl, fin _ _ G H h (.refl s) (.bl _)⟩
    | _ => exact (show False from h).elim
  | _ => cases d <;> exact (show False from h).elim
theorem od_isn : OpD X (compareOp .IsNot) isnD := by
  refine OpD.or (op_notN.or op_notBl) ?_
  rintro x y H Q ⟨G, d, e, k, s, hx, hy, h, fin⟩
  cases e with
  | none =>
    refine .inl ⟨hy.non, ?_⟩
    rw [hx.isNone]
    have h' : k (.bool (!isNone d)) := by cases d <;> exact h
    exact fin _ _ G H h' (.refl s) (.bl _)
  | bool j =>
    cases d with
    | bool i => exact .inr ⟨i, j, hx.bl, hy.bl, fin _ _ G H h (.refl s) (.bl _)⟩
    | _ => exact (show False from h).elim
  | _ => cases d <;> exact (show False from h).elim
end
end Dn
/-! Dn: tests, displays, subscripts, built-in calls. -/
namespace Dn
open PySem PySem.Spec PyProof.Rows L2

/-- one way or the other -/
def brn (b : Bool) (p q : Prop) : Prop := match b with
  | true => p
  | false => q
theorem brn.of {b : Bool} {p q : Prop} (h1 : b = true → p) (h2 : b = false → q) : brn b p q := by
  cases b with
  | true => exact h1 rfl
  | false => exact h2 rfl
theorem brn.tt {b : Bool} {p q : Prop} (h : b = true) (h1 : p) : brn b p q := by subst h; exact h1
theorem brn.ff {b : Bool} {p q : Prop} (h : b = false) (h1 : q) : brn b p q := by subst h; exact h1
def truD (d : D) (k : Bool → Prop) : Prop := match d with
  | .none => k false
  | .bool b => k b
  | .int i => k (i != 0)
  | .str x => x.length ≤ 16777216 ∧ k ((x.length : Int) != 0)
  | .list xs => k (!xs.isEmpty)
  | .tuple xs => k (!xs.isEmpty)
  | .dict _ => False
def asB (d : D) (k : Bool → Prop) : Prop := match d with
  | .bool b => k b
  | _ => False
def asI (d : D) (k : Int → Prop) : Prop := match d with
  | .int b => k b
  | _ => False
def optD {α : Type} (o : Option α) (k : α → Prop) : Prop := match o with
  | some d => k d
  | none => False
theorem optD.to {α : Type} {o : Option α} {k : α → Prop} (h : optD o k) : ∃ d, o = some d ∧ k d := by
  unfold optD at h
  split at h
  · exact ⟨_, rfl, h⟩
  · exact h.elim
theorem optD.of {α : Type} {o : Option α} {d : α} {k : α → Prop} (e : o = some d) (h : k d) : optD o k := by
  rw [e]; exact h
theorem asB.to {d : D} {k : Bool → Prop} (h : asB d k) : ∃ b, d = .bool b ∧ k b := by
  unfold asB at h
  split at h
  · exact ⟨_, rfl, h⟩
  · exact h.elim
theorem asI.to {d : D} {k : Int → Prop} (h : asI d k) : ∃ b, d = .int b ∧ k b := by
  unfold asI at h
  split at h
  · exact ⟨_, rfl, h⟩
  · exact h.elim
theorem isEmpty_eq {α β : Type} {xs : List α} {ys : List β} (h : xs.length = ys.length) : xs.isEmpty = ys.isEmpty := by
  cases xs <;> cases ys <;> simp_all
section
variable {X : Cx} {Γ : Gm} {k : Nat} {a b e : Expr} {es rest : List Expr} {pos : Pos}
/-! ### tests -/
def tTru (ta : TB) : TT' := fun ρ Q => ta ρ fun x ρ1 => withD ρ1 x fun d => truD d fun b => Q b ρ1
theorem dt_tru {ta : TB} (ha : DB X Γ a ta) (he : ∀ whole, isTrue a X.env whole = (do let v ← whole; standAt a.pos; holding [v] (truthy v)) := by intro _; rfl) : DT X Γ a (tTru ta) := by
  refine ⟨pt_imp (pt_truth ha.pe he) ?_⟩
  rintro σ H Q ⟨ρ, G, k, at_, h, fin⟩
  refine ⟨ρ, G, _, at_, h, fun x ρ1 v G1 H1 h1 a1 s1 r1 => ?_⟩
  obtain ⟨d, l, h1⟩ := h1.to
  have hx := a1.isx r1 l
  cases d with
  | none => exact ⟨false, by rw [hx.non]; rfl, fin _ _ _ _ h1 a1 s1⟩
  | bool c => exact ⟨c, by rw [hx.bl]; rfl, fin _ _ _ _ h1 a1 s1⟩
  | int i => exact ⟨_, by rw [hx.int]; rfl, fin _ _ _ _ h1 a1 s1⟩
  | str y => exact ⟨_, by rw [hx.str]; exact ⟨line_le h1.1, rfl⟩, fin _ _ _ _ h1.2 a1 s1⟩
  | list ds =>
    obtain ⟨p, xs, rfl, h2, h3⟩ := hx.list a1.sub
    exact ⟨_, .inl ⟨xs, .of h2, rfl⟩, by rw [isEmpty_eq h3.length]; exact fin _ _ _ _ h1 a1 s1⟩
  | tuple ds =>
    obtain ⟨p, xs, rfl, h2, h3⟩ := hx.tup
    exact ⟨_, .inr (.inl ⟨xs, Same.sqt a1.sub h2, rfl⟩), by rw [isEmpty_eq h3.length]; exact fin _ _ _ _ h1 a1 s1⟩
  | dict _ => exact (show False from h1).elim
def tCmpD (f : Op2) (ta tb : TB) : TT' := fun ρ Q => dBin f ta tb ρ fun d ρ' => asB d fun b => Q b ρ'
theorem dt_cmp {op : CmpOp} {f : Op2} {ta tb : TB} (ho : OpD X (compareOp op) f) (ha : DB X Γ a ta) (hb : DB X Γ b tb) (hm : behindInMarks op b = false := by first | exact nomark _ | with_unfolding_all rfl) : DT X Γ (.Compare a [op] [b] pos) (tCmpD f ta tb) := by
  refine ⟨pt_imp (pt_cmpR ho ha.pe hb.pe hm) ?_⟩
  rintro σ H Q ⟨ρ, G, k, at_, h, fin⟩
  refine bin_rd (fun _ _ _ _ h => h) ⟨ρ, G, _, at_, h, fun d ρ' v G' H' hk a' s' r => ?_⟩
  obtain ⟨c, rfl, hk⟩ := hk.to
  cases r
  exact ⟨c, rfl, fin _ _ _ _ hk a' s'⟩
/-- a test whose value is told by an expression of a truth value -/
def tOfE (t : TD) : TT' := fun ρ Q => t ρ fun d ρ' => asB d fun b => Q b ρ'
structure DW (X : Cx) (Γ : Gm) (e : Expr) (t : TT') : Prop where
  pw : PW X e (rdT X.K Γ t)
theorem pw_imp {X : Cx} {e : Expr} {t t' : TT} (h : PW X e t) (i : ∀ σ H Q, t' σ H Q → t σ H Q) : PW X e t' := ⟨fun wh pins s σ H Q I q => h.run wh pins s σ H Q I (i σ H Q q)⟩
def tAndD (t u : TT') : TT' := fun ρ Q => t ρ fun b ρ1 => brn b (u ρ1 Q) (Q false ρ1)
def tOrD (t u : TT') : TT' := fun ρ Q => t ρ fun b ρ1 => brn b (Q true ρ1) (u ρ1 Q)
def tNotD (t : TT') : TT' := fun ρ Q => t ρ fun b ρ1 => Q (!b) ρ1
theorem dw_and1 {t : TT'} (h : DT X Γ a t) : DW X Γ (.BoolOp .And [a] pos) t := ⟨pw_and1 h.pt⟩
theorem dw_or1 {t : TT'} (h : DT X Γ a t) : DW X Γ (.BoolOp .Or [a] pos) t := ⟨pw_or1 h.pt⟩
theorem dw_and {t u : TT'} (h : DT X Γ a t) (h2 : DW X Γ (.BoolOp .And (b :: rest) pos) u) : DW X Γ (.BoolOp .And (a :: b :: rest) pos) (tAndD t u) := by
  refine ⟨pw_imp (pw_and h.pt h2.pw) ?_⟩
  rintro σ H Q ⟨ρ, G, k, at_, h, fin⟩
  refine ⟨ρ, G, _, at_, h, fun c ρ1 G1 H1 h1 a1 s1 => ?_⟩
  cases c with
  | true =>
    show rdT _ _ _ _ _ _
    exact ⟨ρ1, G1, _, a1, h1, fun c ρ' G' H' hk a' s' => fin c ρ' G' H' hk a' (s1.trans s')⟩
  | false =>
    show Q false H1
    exact fin _ _ _ _ h1 a1 s1
theorem dw_or {t u : TT'} (h : DT X Γ a t) (h2 : DW X Γ (.BoolOp .Or (b :: rest) pos) u) : DW X Γ (.BoolOp .Or (a :: b :: rest) pos) (tOrD t u) := by
  refine ⟨pw_imp (pw_or h.pt h2.pw) ?_⟩
  rintro σ H Q ⟨ρ, G, k, at_, h, fin⟩
  refine ⟨ρ, G, _, at_, h, fun c ρ1 G1 H1 h1 a1 s1 => ?_⟩
  cases c with
  | true =>
    show Q true H1
    exact fin _ _ _ _ h1 a1 s1
  | false =>
    show rdT _ _ _ _ _ _
    exact ⟨ρ1, G1, _, a1, h1, fun c ρ' G' H' hk a' s' => fin c ρ' G' H' hk a' (s1.trans s')⟩
theorem DW.t {t : TT'} (h : DW X Γ e t) : DT X Γ e t := ⟨h.pw.pt⟩
theorem dt_not {t : TT'} (h : DT X Γ a t) : DT X Γ (.UnaryOp .Not a pos) (tNotD t) := by
  refine ⟨pt_imp (pt_not h.pt) ?_⟩
  rintro σ H Q ⟨ρ, G, k, at_, h, fin⟩
  exact ⟨ρ, G, _, at_, h, fun c ρ1 G1 H1 h1 a1 s1 => fin _ _ _ _ h1 a1 s1⟩
/-! ### truth values as values -/
def dAnd (t u : TD) : TD := fun ρ Q => t ρ fun d ρ1 => asB d fun b => brn b (u ρ1 Q) (Q (.bool false) ρ1)
def dOr (t u : TD) : TD := fun ρ Q => t ρ fun d ρ1 => asB d fun b => brn b (Q (.bool true) ρ1) (u ρ1 Q)
theorem de_one {op} {t : TD} (h : DE X Γ a t) : DE X Γ (.BoolOp op [a] pos) t := ⟨pe_one h.pe⟩
theorem de_and {t u : TD} (h : DE X Γ a t) (h2 : DE X Γ (.BoolOp .And (b :: rest) pos) u) : DE X Γ (.BoolOp .And (a :: b :: rest) pos) (dAnd t u) := by
  refine ⟨pe_imp (pe_and h.pe h2.pe) ?_⟩
  rintro σ H Q ⟨ρ, G, k, at_, h, fin⟩
  refine ⟨ρ, G, _, at_, h, fun d ρ1 v G1 H1 h1 a1 s1 r1 => ?_⟩
  obtain ⟨c, rfl, h1⟩ := h1.to
  cases r1
  refine ⟨c, rfl, ?_⟩
  cases c with
  | true =>
    show rdE _ _ _ _ _ _
    exact ⟨ρ1, G1, _, a1, h1, fun c ρ' v G' H' hk a' s' r => fin c ρ' v G' H' hk a' (s1.trans s') r⟩
  | false =>
    show Q (.bl false) H1
    exact fin _ _ _ _ _ h1 a1 s1 (.bl _)
theorem de_or {t u : TD} (h : DE X Γ a t) (h2 : DE X Γ (.BoolOp .Or (b :: rest) pos) u) : DE X Γ (.BoolOp .Or (a :: b :: rest) pos) (dOr t u) := by
  refine ⟨pe_imp (pe_or h.pe h2.pe) ?_⟩
  rintro σ H Q ⟨ρ, G, k, at_, h, fin⟩
  refine ⟨ρ, G, _, at_, h, fun d ρ1 v G1 H1 h1 a1 s1 r1 => ?_⟩
  obtain ⟨c, rfl, h1⟩ := h1.to
  cases r1
  refine ⟨c, rfl, ?_⟩
  cases c with
  | true =>
    show Q (.bl true) H1
    exact fin _ _ _ _ _ h1 a1 s1 (.bl _)
  | false =>
    show rdE _ _ _ _ _ _
    exact ⟨ρ1, G1, _, a1, h1, fun c ρ' v G' H' hk a' s' r => fin c ρ' v G' H' hk a' (s1.trans s') r⟩
def dNot (t : TD) : TD := fun ρ Q => t ρ fun d ρ1 => asB d fun b => Q (.bool (!b)) ρ1
theorem de_not {t : TD} (h : DE X Γ a t) : DE X Γ (.UnaryOp .Not a pos) (dNot t) := by
  refine ⟨pe_imp (pe_not h.pe) ?_⟩
  rintro σ H Q ⟨ρ, G, k, at_, h, fin⟩
  refine ⟨ρ, G, _, at_, h, fun d ρ1 v G1 H1 h1 a1 s1 r1 => ?_⟩
  obtain ⟨c, rfl, h1⟩ := h1.to
  cases r1
  exact ⟨c, rfl, fin _ _ _ _ _ h1 a1 s1 (.bl _)⟩
def dIf (t : TT') (ta tb : TD) : TD := fun ρ Q => t ρ fun b ρ1 => brn b (ta ρ1 Q) (tb ρ1 Q)
theorem de_if {c : Expr} {t : TT'} {ta tb : TD} (hc : DT X Γ c t) (ha : DE X Γ a ta) (hb : DE X Γ b tb) : DE X Γ (.IfExp c a b pos) (dIf t ta tb) := by
  refine ⟨pe_imp (pe_ifExp hc.pt ha.pe hb.pe) ?_⟩
  rintro σ H Q ⟨ρ, G, k, at_, h, fin⟩
  refine ⟨ρ, G, _, at_, h, fun c ρ1 G1 H1 h1 a1 s1 => ?_⟩
  cases c with
  | true =>
    show rdE _ _ _ _ _ _
    exact ⟨ρ1, G1, _, a1, h1, fun c ρ' v G' H' hk a' s' r => fin c ρ' v G' H' hk a' (s1.trans s') r⟩
  | false =>
    show rdE _ _ _ _ _ _
    exact ⟨ρ1, G1, _, a1, h1, fun c ρ' v G' H' hk a' s' r => fin c ρ' v G' H' hk a' (s1.trans s') r⟩
/-- two comparisons in a row: a op1 b op2 c -/
def dChain (f g : Op2) (ta tb tc : TB) : TD := fun ρ Q => ta ρ fun x ρ1 => tb ρ1 fun y ρ2 => withD ρ2 x fun d => withD ρ2 y fun e => f d e fun r => asB r fun b =>
  brn b (tc ρ2 fun z ρ3 => withD ρ3 y fun e' => withD ρ3 z fun w => g e' w fun r => Q r ρ3) (Q (.bool false) ρ2)
theorem chain_rd {f g : Op2} {ta tb tc : TB} {op op' : CmpOp} {σ : L2.St} {H : Hp} {Q : VK}
    (h : rdE X.K Γ (dChain f g ta tb tc) σ H Q) : tChain (fun x y H Q => ∃ G d e k, Same G H ∧ IsX X.K G H x d ∧ IsX X.K G H y e ∧ f d e k ∧ ∀ r v G' H', k r → Grow G H G' H' → Is X.K G' v r → Q v H') (fun x y H Q => ∃ G d e k, Same G H ∧ IsX X.K G H x d ∧ IsX X.K G H y e ∧ g d e k ∧ ∀ r v G' H', k r → Grow G H G' H' → Is X.K G' v r → Q v H') (rdB X.K Γ ta) (rdB X.K Γ tb) (rdB X.K Γ tc) σ H Q := by
  obtain ⟨ρ, G, k, at_, h, fin⟩ := h
  refine ⟨ρ, G, _, at_, h, fun x ρ1 v1 G1 H1 h1 a1 s1 r1 => ⟨ρ1, G1, _, a1, h1, fun y ρ2 v2 G2 H2 h2 a2 s2 r2 => ?_⟩⟩
  obtain ⟨d, l1, h2⟩ := h2.to
  obtain ⟨e, l2, h2⟩ := h2.to
  refine ⟨G2, d, e, _, a2.sub, a2.isx (r1.mono s2) l1, a2.isx r2 l2, h2, fun r v G3 H3 hk g' i => ?_⟩
  obtain ⟨c, rfl, hk⟩ := hk.to
  cases i
  have a3 := a2.grow g'
  refine ⟨c, rfl, ?_⟩
  cases c with
  | true =>
    show rdB _ _ _ _ _ _
    refine ⟨ρ2, G3, _, a3, hk, fun z ρ3 v4 G4 H4 h4 a4 s4 r4 => ?_⟩
    obtain ⟨e', l5, h4⟩ := h4.to
    obtain ⟨w, l6, h4⟩ := h4.to
    exact ⟨G4, e', w, _, a4.sub, a4.isx ((r2.mono g'.gg).mono s4) l5, a4.isx r4 l6, h4, fun r v G5 H5 hk g5 i5 => fin r ρ3 v G5 H5 hk (a4.grow g5) (((s1.trans s2).trans g'.gg).trans (s4.trans g5.gg)) i5⟩
  | false =>
    show Q (.bl false) H3
    exact fin _ _ _ _ _ hk a3 ((s1.trans s2).trans g'.gg) (.bl _)
theorem de_chain {op op' : CmpOp} {c : Expr} {f g : Op2} {ta tb tc : TB} (ho : OpD X (compareOp op) f) (ho' : OpD X (compareOp op') g) (ha : DB X Γ a ta) (hb : DB X Γ b tb) (hc : DB X Γ c tc)
    (hm : lastMarks [op, op'] [b, c] = false := by with_unfolding_all rfl) : DE X Γ (.Compare a [op, op'] [b, c] pos) (dChain f g ta tb tc) :=
  ⟨pe_imp (pe_chain ho ho' ha.pe hb.pe hc.pe hm) fun σ H Q h => chain_rd (op := op) (op' := op') h⟩
theorem dt_chain {op op' : CmpOp} {c : Expr} {f g : Op2} {ta tb tc : TB} (ho : OpD X (compareOp op) f) (ho' : OpD X (compareOp op') g) (ha : DB X Γ a ta) (hb : DB X Γ b tb) (hc : DB X Γ c tc)
    (hm : lastMarks [op, op'] [b, c] = false := by with_unfolding_all rfl) : DT X Γ (.Compare a [op, op'] [b, c] pos) (tOfE (dChain f g ta tb tc)) := by
  refine ⟨pt_imp (pt_chain ho ho' ha.pe hb.pe hc.pe hm) ?_⟩
  rintro σ H Q ⟨ρ, G, k, at_, h, fin⟩
  refine chain_rd (op := op) (op' := op') ⟨ρ, G, _, at_, h, fun d ρ' v G' H' hk a' s' r => ?_⟩
  obtain ⟨c, rfl, hk⟩ := hk.to
  cases r
  exact ⟨c, rfl, fin _ _ _ _ hk a' s'⟩

/-! ### one operand -/
def dNeg (ta : TB) : TD := fun ρ Q => ta ρ fun x ρ1 => withD ρ1 x fun d => asI d fun i => Q (.int (-i)) ρ1
theorem de_neg {ta : TB} (ha : DB X Γ a ta) : DE X Γ (.UnaryOp .USub a pos) (dNeg ta) := by
  refine ⟨pe_imp (pe_un un_neg ha.pe) ?_⟩
  rintro σ H Q ⟨ρ, G, k, at_, h, fin⟩
  refine ⟨ρ, G, _, at_, h, fun x ρ1 v G1 H1 h1 a1 s1 r1 => ?_⟩
  obtain ⟨d, l, h1⟩ := h1.to
  obtain ⟨i, rfl, h1⟩ := h1.to
  exact ⟨i, (a1.isx r1 l).int, fin _ _ _ _ _ h1 a1 s1 (.int _)⟩

/-! ### argument lists, displays -/
def dNil : TDs := fun ρ Q => Q [] ρ
def dCons (t : TD) (u : TDs) : TDs := fun ρ Q => t ρ fun d ρ1 => u ρ1 fun ds ρ2 => Q (d :: ds) ρ2
def rdAn (K : PySem.W.Frag) (Γ : Gm) (n : Nat) (t : TDs) : TA := fun σ H Q => ∃ ρ G k, At K Γ ρ σ G H ∧ t ρ k ∧ ∀ ds ρ' vs G' H', k ds ρ' → ds.length = n → At K Γ ρ' σ G' H' → Same G G' → IsAll K G' vs ds → Q vs H'
structure DL (X : Cx) (Γ : Gm) (es : List Expr) (t : TDs) : Prop where
  pa : PA X es (rdAn X.K Γ es.length t)
theorem da_nil : DL X Γ [] dNil := by
  refine ⟨pa_imp pa_nil ?_⟩
  rintro σ H Q ⟨ρ, G, k, at_, h, fin⟩
  exact fin [] ρ [] G H h rfl at_ (Same.refl _) .nil
theorem da_cons {t : TD} {u : TDs} (h : DE X Γ e t) (hr : DL X Γ es u) (hs : starEach (e :: es) X.env = (false, eval e X.env) :: starEach es X.env := by rfl) : DL X Γ (e :: es) (dCons t u) := by
  refine ⟨pa_imp (pa_cons h.pe hr.pa hs) ?_⟩
  rintro σ H Q ⟨ρ, G, k, at_, h, fin⟩
  exact ⟨ρ, G, _, at_, h, fun d ρ1 v G1 H1 h1 a1 s1 r1 => ⟨ρ1, G1, _, a1, h1, fun ds ρ2 vs G2 H2 h2 hl a2 s2 r2 => fin (d :: ds) ρ2 (v :: vs) G2 H2 h2 (by rw [List.length_cons, List.length_cons, hl]) a2 (s1.trans s2) (.cons (r1.mono s2) r2)⟩⟩
/-- a new thing, at a place that nobody knew -/
theorem At.fresh {K : PySem.W.Frag} {ρ : Ro} {σ : L2.St} {G H : Hp} {p : Addr} {o : HO} (a : At K Γ ρ σ G H) (hp : H p = none) : At K Γ ρ σ G (upd H p o) ∧ G p = none ∧ Γ.H0 p = none ∧ ∀ (j : Nat) dj, ρ[j]? = some (.own dj) → σ[j]? ≠ some (some (.ref p)) := by
  have ex : Same H (upd H p o) := fun b u q => by rw [upd_ne (ne_of_none q hp)]; exact q
  refine ⟨⟨a.len, fun j s u e1 e2 => ?_, a.sep, a.sub.trans ex, a.old, a.kept.trans ex, a.inh, a.bas⟩, a.sub.free hp, a.kept.free hp, fun j dj e1 e2 => ?_⟩
  · have q := a.sl j s u e1 e2
    cases s with
    | non => exact True.intro
    | val d' => exact q
    | seq ds => exact q
    | own d' =>
      obtain ⟨p', e, q1, q2, q3⟩ := q
      obtain ⟨w, hw⟩ := q3.some
      exact ⟨p', e, q1, q2, q3.mono (Same.refl _) (by rw [upd_ne (ne_of_none hw hp)])⟩
  · obtain ⟨p', e, _, _, q3⟩ := a.own e1
    rw [e2] at e
    cases e
    obtain ⟨w, hw⟩ := q3.some
    rw [hp] at hw
    cases hw
def dTup (t : TDs) : TD := fun ρ Q => t ρ fun ds ρ1 => Q (.tuple ds) ρ1
def dLst (t : TDs) : TD := fun ρ Q => t ρ fun ds ρ1 => Q (.list ds) ρ1
theorem de_tup {x1} {t : TDs} (h : DL X Γ es t) (hl : es.length ≤ 1000 := by decide) : DE X Γ (.Tuple es x1 pos) (dTup t) := by
  refine ⟨pe_imp (pe_tup h.pa) ?_⟩
  rintro σ H Q ⟨ρ, G, k, at_, h, fin⟩
  refine ⟨ρ, G, _, at_, h, fun ds ρ1 vs G1 H1 h1 hn a1 s1 r1 => ⟨line_le (by rw [r1.length]; omega), fun p hp => ?_⟩⟩
  have g := Grow.laid (o := .tup vs) a1.sub hp
  exact fin _ _ _ _ _ h1 (a1.grow g) (s1.trans g.gg) (.tup (.of upd_same) (r1.mono g.gg))
theorem df_lst {t : TDs} (h : DL X Γ es t) (hl : es.length ≤ 1000 := by decide) : DF X Γ (.List es pos) (dLst t) := by
  refine ⟨pe_imp (pe_lst h.pa) ?_⟩
  rintro σ H Q ⟨ρ, G, k, at_, h, fin⟩
  refine ⟨ρ, G, _, at_, h, fun ds ρ1 vs G1 H1 h1 hn a1 s1 r1 => ⟨line_le (by rw [r1.length]; omega), fun p hp => ?_⟩⟩
  obtain ⟨a2, g0, h0, hno⟩ := a1.fresh (o := .lst vs) hp
  exact fin _ _ p _ _ h1 a2 s1 g0 h0 (.inl ⟨vs, ds, rfl, upd_same, r1⟩) hno

/-! ### subscripts -/
def ixD : Op2
  | .list xs, .int i, Q => optD (atI xs i) Q
  | .tuple xs, .int i, Q => optD (atI xs i) Q
  | .str z, .int i, Q => z.length ≤ 16777216 ∧ optD (atI z.cps.toList i) fun c => Q (.str ⟨#[c]⟩)
  | _, _, _ => False
theorem IsAll.atI {K : PySem.W.Frag} {H : Hp} {vs : List V} {ds : List D} {i : Int} {d : D} (h : IsAll K H vs ds) (e : L2.atI ds i = some d) : ∃ v, L2.atI vs i = some v ∧ Is K H v d := by
  unfold L2.atI at e ⊢
  rw [← h.length] at e
  cases q : ixN vs.length i with
  | none => rw [q] at e; cases e
  | some j =>
    rw [q] at e
    exact h.get' e
theorem de_ix {ta tb : TB} (ha : DB X Γ a ta) (hb : DB X Γ b tb) (hs : PlainIx b := by intro _ _; rfl) : DE X Γ (.Subscript a b pos) (dBin ixD ta tb) := by
  refine ⟨pe_imp (pe_ix ix_seq ha.pe hb.pe hs) fun σ H Q h => bin_rd ?_ h⟩
  rintro x y H Q ⟨G, d, e, k, s, hx, hy, h, fin⟩
  cases d with
  | list ds =>
    cases e with
    | int i =>
      obtain ⟨r, h1, h2⟩ := optD.to h
      obtain ⟨p, xs, rfl, h3, h4⟩ := hx.list s
      obtain ⟨v, h5, h6⟩ := h4.atI h1
      exact .inl ⟨p, xs, i, v, rfl, hy.int, .of h3, h5, fin _ _ G H h2 (.refl s) h6⟩
    | _ => exact (show False from h).elim
  | tuple ds =>
    cases e with
    | int i =>
      obtain ⟨r, h1, h2⟩ := optD.to h
      obtain ⟨p, xs, rfl, h3, h4⟩ := hx.tup
      obtain ⟨v, h5, h6⟩ := h4.atI h1
      exact .inr (.inl ⟨p, xs, i, v, rfl, hy.int, Same.sqt s h3, h5, fin _ _ G H h2 (.refl s) h6⟩)
    | _ => exact (show False from h).elim
  | str z =>
    cases e with
    | int i =>
      obtain ⟨r, h1, h2⟩ := optD.to h.2
      exact .inr (.inr ⟨z, i, r, hx.str, hy.int, line_le h.1, h1, fin _ _ G H h2 (.refl s) (.str _)⟩)
    | _ => exact (show False from h).elim
  | _ => exact (show False from h).elim
abbrev TP' := Ro → (Option Int → Ro → Prop) → Prop
def rdP (K : PySem.W.Frag) (Γ : Gm) (t : TP') : L2.TO := fun σ H Q => ∃ ρ G k, At K Γ ρ σ G H ∧ t ρ k ∧ ∀ o ρ' G' H', k o ρ' → At K Γ ρ' σ G' H' → Same G G' → Q o H'
structure DP (X : Cx) (Γ : Gm) (e : Option Expr) (t : TP') : Prop where
  po : PO X e (rdP X.K Γ t)
theorem po_imp {X : Cx} {e : Option Expr} {t t' : L2.TO} (h : PO X e t) (i : ∀ σ H Q, t' σ H Q → t σ H Q) : PO X e t' := ⟨fun pins s σ H Q I q => h.run pins s σ H Q I (i σ H Q q)⟩
def pNone : TP' := fun ρ Q => Q none ρ
def pSome (t : TB) : TP' := fun ρ Q => t ρ fun x ρ1 => withD ρ1 x fun d => asI d fun i => Q (some i) ρ1
theorem dp_none : DP X Γ none pNone := by
  refine ⟨po_imp po_none ?_⟩
  rintro σ H Q ⟨ρ, G, k, at_, h, fin⟩
  exact fin _ _ _ _ h at_ (Same.refl _)
theorem dp_some {t : TB} (h : DB X Γ e t) : DP X Γ (some e) (pSome t) := by
  refine ⟨po_imp (po_some h.pe) ?_⟩
  rintro σ H Q ⟨ρ, G, k, at_, h, fin⟩
  refine ⟨ρ, G, _, at_, h, fun x ρ1 v G1 H1 h1 a1 s1 r1 => ?_⟩
  obtain ⟨d, l, h1⟩ := h1.to
  obtain ⟨i, rfl, h1⟩ := h1.to
  exact ⟨i, (a1.isx r1 l).int, fin _ _ _ _ h1 a1 s1⟩
def cutD {α : Type} (xs : List α) (lo hi : Option Int) : List α := (xs.drop (HT.sIx xs.length 0 lo)).take (HT.sIx xs.length xs.length hi - HT.sIx xs.length 0 lo)
theorem cutD_V (xs : List V) (lo hi : Option Int) : cutD xs lo hi = cutV xs lo hi := rfl
theorem IsAll.cut {K : PySem.W.Frag} {H : Hp} {vs : List V} {ds : List D} (h : IsAll K H vs ds) (lo hi : Option Int) : IsAll K H (cutV vs lo hi) (cutD ds lo hi) := by
  unfold cutV cutD
  rw [h.length]
  exact (h.drop _).take _
def slD (d : D) (lo hi : Option Int) (Q : D → Prop) : Prop := match d with
  | .list xs => Q (.list (cutD xs lo hi))
  | .tuple xs => Q (.tuple (cutD xs lo hi))
  | .str z => z.length ≤ 16777216 ∧ Q (.str (cutS z lo hi))
  | _ => False
def dSl (te : TB) (tl th : TP') : TD := fun ρ Q => te ρ fun x ρ1 => tl ρ1 fun lo ρ2 => th ρ2 fun hi ρ3 => withD ρ3 x fun d => slD d lo hi fun r => Q r ρ3
theorem cut_all {xs : List D} {lo hi : Option Int} (h : HT.sIx xs.length 0 lo = 0 ∧ HT.sIx xs.length xs.length hi = xs.length) : cutD xs lo hi = xs := by
  unfold cutD
  rw [h.1, h.2]
  simp
theorem de_slice {lo hi : Option Expr} {p2 : Pos} {te : TB} {tl th : TP'} (he : DB X Γ e te) (hl : DP X Γ lo tl) (hu : DP X Γ hi th) : DE X Γ (.Subscript e (.Slice lo hi none p2) pos) (dSl te tl th) := by
  refine ⟨pe_imp (pe_slice (sl_list.or (sl_tupA.or sl_str)) he.pe hl.po hu.po) ?_⟩
  rintro σ H Q ⟨ρ, G, k, at_, h, fin⟩
  refine ⟨ρ, G, _, at_, h, fun x ρ1 v G1 H1 h1 a1 s1 r1 => ⟨ρ1, G1, _, a1, h1, fun o ρ2 G2 H2 h2 a2 s2 => ⟨ρ2, G2, _, a2, h2, fun o' ρ3 G3 H3 h3 a3 s3 => ?_⟩⟩⟩
  obtain ⟨d, l, h3⟩ := h3.to
  have hx := a3.isx ((r1.mono s2).mono s3) l
  have ss := (s1.trans s2).trans s3
  cases d with
  | list ds =>
    obtain ⟨p, xs, rfl, h4, h5⟩ := hx.list a3.sub
    refine .inl ⟨p, xs, rfl, .of h4, fun q hq => ?_⟩
    have g := Grow.laid (o := .lst (cutV xs o o')) a3.sub hq
    exact fin _ _ _ _ _ h3 (a3.grow g) (ss.trans g.gg) (.lst upd_same ((h5.cut o o').mono g.gg))
  | tuple ds =>
    obtain ⟨p, xs, rfl, h4, h5⟩ := hx.tup
    refine .inr (.inl ⟨p, xs, rfl, Same.sqt a3.sub h4, fun hw => ?_, fun _ q hq => ?_⟩)
    · refine fin _ _ _ _ _ h3 a3 ss ?_
      rw [cut_all (by rw [← h5.length]; exact hw)]
      exact .tup h4 h5
    · have g := Grow.laid (o := .tup (cutV xs o o')) a3.sub hq
      exact fin _ _ _ _ _ h3 (a3.grow g) (ss.trans g.gg) (.tup (.of upd_same) ((h5.cut o o').mono g.gg))
  | str z => exact .inr (.inr ⟨z, hx.str, line_le h3.1, fin _ _ _ _ _ h3.2 a3 ss (.str _)⟩)
  | _ => exact (show False from h3).elim
end
end Dn
/-! Dn: statements, loops, comprehensions. -/
namespace Dn
open PySem PySem.Spec PyProof.Rows L2

structure DEnds where
  nx : Ro → Prop
  rt : D → Ro → Prop
  bk : Ro → Prop := fun _ => False
  ct : Ro → Prop := fun _ => False
abbrev TDS := DEnds → Ro → Prop
structure EOk (K : PySem.W.Frag) (Γ : Gm) (G : Hp) (R : DEnds) (E : Ends) : Prop where
  nx : ∀ ρ σ G' H, At K Γ ρ σ G' H → Same G G' → R.nx ρ → E.nx σ H
  rt : ∀ d v ρ σ G' H, At K Γ ρ σ G' H → Same G G' → Is K G' v d → R.rt d ρ → E.rt v H
  bk : ∀ ρ σ G' H, At K Γ ρ σ G' H → Same G G' → R.bk ρ → E.bk σ H
  ct : ∀ ρ σ G' H, At K Γ ρ σ G' H → Same G G' → R.ct ρ → E.ct σ H
theorem EOk.mono {K : PySem.W.Frag} {Γ : Gm} {G G1 : Hp} {R : DEnds} {E : Ends} (e : EOk K Γ G R E) (s : Same G G1) : EOk K Γ G1 R E :=
  ⟨fun ρ σ G' H a t => e.nx ρ σ G' H a (s.trans t), fun d v ρ σ G' H a t => e.rt d v ρ σ G' H a (s.trans t), fun ρ σ G' H a t => e.bk ρ σ G' H a (s.trans t), fun ρ σ G' H a t => e.ct ρ σ G' H a (s.trans t)⟩
def rdS (K : PySem.W.Frag) (Γ : Gm) (t : TDS) : TS := fun E σ H => ∃ ρ G R, At K Γ ρ σ G H ∧ EOk K Γ G R E ∧ t R ρ
structure DS (X : Cx) (Γ : Gm) (st : Stmt) (t : TDS) : Prop where
  ps : PS X st (rdS X.K Γ t)
structure DSs (X : Cx) (Γ : Gm) (st : List Stmt) (t : TDS) : Prop where
  ps : PSs X st (rdS X.K Γ t)
theorem ps_imp {X : Cx} {e : Stmt} {t t' : TS} (h : PS X e t) (i : ∀ D σ H, t' D σ H → t D σ H) : PS X e t' := ⟨fun pins s σ H D I q => h.run pins s σ H D I (i D σ H q)⟩
theorem pss_imp {X : Cx} {e : List Stmt} {t t' : TS} (h : PSs X e t) (i : ∀ D σ H, t' D σ H → t D σ H) : PSs X e t' := ⟨fun pins s σ H D I q => h.run pins s σ H D I (i D σ H q)⟩
theorem pg_imp {X : Cx} {e : Expr} {t t' : TG} (h : PG X e t) (i : ∀ v σ H Q, t' v σ H Q → t v σ H Q) : PG X e t' := ⟨fun pins s σ H v u Q I r q => h.run pins s σ H v u Q I r (i v σ H Q q)⟩

section
variable {X : Cx} {Γ : Gm} {k : Nat} {a b e : Expr} {es : List Expr} {st : Stmt} {rest body orelse : List Stmt} {pos : Pos} {t u : TDS}
def sSeq (t u : TDS) : TDS := fun R ρ => t { R with nx := u R } ρ
def sNext : TDS := fun R ρ => R.nx ρ
theorem dss_nil : DSs X Γ [] sNext := ⟨pss_imp pss_nil fun E σ H ⟨ρ, G, R, at_, ok, h⟩ => ok.nx _ _ _ _ at_ (Same.refl _) h⟩
theorem dss_one (h : DS X Γ st t) : DSs X Γ [st] t := ⟨pss_one h.ps⟩
theorem dss_cons (h : DS X Γ st t) (h2 : DSs X Γ rest u) : DSs X Γ (st :: rest) (sSeq t u) := by
  refine ⟨pss_imp (pss_cons h.ps h2.ps) ?_⟩
  rintro E σ H ⟨ρ, G, R, at_, ok, h⟩
  exact ⟨ρ, G, { R with nx := u R }, at_, ⟨fun ρ' σ' G' H' a' s' hu => ⟨ρ', G', R, a', ok.mono s', hu⟩, ok.rt, ok.bk, ok.ct⟩, h⟩
def sBrk : TDS := fun R ρ => R.bk ρ
def sCnt : TDS := fun R ρ => R.ct ρ
theorem ds_pass : DS X Γ (.Pass pos) sNext := ⟨ps_imp ps_pass fun E σ H ⟨ρ, G, R, at_, ok, h⟩ => ok.nx _ _ _ _ at_ (Same.refl _) h⟩
theorem ds_break : DS X Γ (.Break pos) sBrk := ⟨ps_imp ps_break fun E σ H ⟨ρ, G, R, at_, ok, h⟩ => ok.bk _ _ _ _ at_ (Same.refl _) h⟩
theorem ds_continue : DS X Γ (.Continue pos) sCnt := ⟨ps_imp ps_continue fun E σ H ⟨ρ, G, R, at_, ok, h⟩ => ok.ct _ _ _ _ at_ (Same.refl _) h⟩
theorem ds_doc {x j pos'} : DS X Γ (.Expr (.Constant (.str x) j pos) pos') sNext := ⟨ps_imp ps_doc fun E σ H ⟨ρ, G, R, at_, ok, h⟩ => ok.nx _ _ _ _ at_ (Same.refl _) h⟩
def sRet (t : TD) : TDS := fun R ρ => t ρ R.rt
theorem ds_ret {t : TD} (h : DE X Γ e t) : DS X Γ (.Return (some e) pos) (sRet t) := by
  refine ⟨ps_imp (ps_ret h.pe) ?_⟩
  rintro E σ H ⟨ρ, G, R, at_, ok, h⟩
  exact ⟨ρ, G, _, at_, h, fun d ρ' v G' H' hk a' s' r => ok.rt _ _ _ _ _ _ a' s' r hk⟩
def sRetN : TDS := fun R ρ => R.rt .none ρ
theorem ds_retN : DS X Γ (.Return none pos) sRetN := ⟨ps_imp ps_retN fun E σ H ⟨ρ, G, R, at_, ok, h⟩ => ok.rt _ _ _ _ _ _ at_ (Same.refl _) .non h⟩
def sDrop (t : TD) : TDS := fun R ρ => t ρ fun _ ρ' => R.nx ρ'
theorem ds_expr {t : TD} (h : DE X Γ e t) (hs : swapsWith e none pos.line X.env = pure false := by rfl) : DS X Γ (.Expr e pos) (sDrop t) := by
  refine ⟨ps_imp (ps_expr h.pe hs) ?_⟩
  rintro E σ H ⟨ρ, G, R, at_, ok, h⟩
  exact ⟨ρ, G, _, at_, h, fun d ρ' v G' H' hk a' s' r => ok.nx _ _ _ _ a' s' hk⟩
def sIf (c : TT') (t u : TDS) : TDS := fun R ρ => c ρ fun b ρ1 => brn b (t R ρ1) (u R ρ1)
/-- the two ways meet again where N holds -/
def sIfJ (c : TT') (t u : TDS) : TDS := fun R ρ => c ρ fun b ρ1 => ∃ N : Ro → Prop, (b = true → t { R with nx := N } ρ1) ∧ (b = false → u { R with nx := N } ρ1) ∧ ∀ ρ', N ρ' → R.nx ρ'
theorem ds_if {c : Expr} {tc : TT'} (hc : DT X Γ c tc) (ha : DSs X Γ body t) (hb : DSs X Γ orelse u) : DS X Γ (.If c body orelse pos) (sIf tc t u) := by
  refine ⟨ps_imp (ps_if hc.pt ha.ps hb.ps) ?_⟩
  rintro E σ H ⟨ρ, G, R, at_, ok, h⟩
  refine ⟨ρ, G, _, at_, h, fun b ρ1 G1 H1 h1 a1 s1 => ?_⟩
  cases b with
  | true => exact ⟨ρ1, G1, R, a1, ok.mono s1, h1⟩
  | false => exact ⟨ρ1, G1, R, a1, ok.mono s1, h1⟩
theorem ds_ifJ {c : Expr} {tc : TT'} (hc : DT X Γ c tc) (ha : DSs X Γ body t) (hb : DSs X Γ orelse u) : DS X Γ (.If c body orelse pos) (sIfJ tc t u) := by
  refine ⟨ps_imp (ps_if hc.pt ha.ps hb.ps) ?_⟩
  rintro E σ H ⟨ρ, G, R, at_, ok, h⟩
  refine ⟨ρ, G, _, at_, h, fun b ρ1 G1 H1 ⟨N, h1, h2, h3⟩ a1 s1 => ?_⟩
  have ok' : EOk X.K Γ G1 { R with nx := N } E := ⟨fun ρ' σ' G' H' a' s' q => ok.nx _ _ _ _ a' (s1.trans s') (h3 _ q), fun d v ρ' σ' G' H' a' s' => ok.rt d v ρ' σ' G' H' a' (s1.trans s'), fun ρ' σ' G' H' a' s' => ok.bk ρ' σ' G' H' a' (s1.trans s'), fun ρ' σ' G' H' a' s' => ok.ct ρ' σ' G' H' a' (s1.trans s')⟩
  cases b with
  | true => exact ⟨ρ1, G1, _, a1, ok', h1 rfl⟩
  | false => exact ⟨ρ1, G1, _, a1, ok', h2 rfl⟩
/-- name = e -/
def sSet (t : TD) (i : Nat) : TDS := fun R ρ => t ρ fun d ρ' => R.nx (ρ'.set i (.val d))
theorem ds_set {i : Nat} {x : Str} {t : TD} {pos' : Pos} (c : Cok k X Γ) (hi : X.N[i]? = some x) (hx : Loc X.env.scope x) (h : DE X Γ e t) (hI : Γ.I.contains i = false := by rfl) (hs : swapsWith e (some (.Name x pos')) pos.line X.env = pure false := by rfl) (hf : X.fn x = true ∨ X.env.scope.names.lookup x = some .local := by first | exact .inl rfl | exact .inr rfl | assumption) :
    DS X Γ (.Assign [.Name x pos'] e pos) (sSet t i) := by
  refine ⟨ps_imp (ps_set (i := i) c.nd hi hx h.pe hs hf) ?_⟩
  rintro E σ H ⟨ρ, G, R, at_, ok, h⟩
  exact ⟨ρ, G, _, at_, h, fun d ρ' v G' H' hk a' s' r => ok.nx _ _ _ _ (a'.set hI r) s' hk⟩
/-- name = a new list of its own -/
def sSetF (t : TD) (i : Nat) : TDS := fun R ρ => t ρ fun d ρ' => R.nx (ρ'.set i (.own d))
theorem ds_setF {i : Nat} {x : Str} {t : TD} {pos' : Pos} (c : Cok k X Γ) (hi : X.N[i]? = some x) (hx : Loc X.env.scope x) (h : DF X Γ e t) (hI : Γ.I.contains i = false := by rfl) (hs : swapsWith e (some (.Name x pos')) pos.line X.env = pure false := by rfl) (hf : X.fn x = true ∨ X.env.scope.names.lookup x = some .local := by first | exact .inl rfl | exact .inr rfl | assumption) :
    DS X Γ (.Assign [.Name x pos'] e pos) (sSetF t i) := by
  refine ⟨ps_imp (ps_set (i := i) c.nd hi hx h.pe hs hf) ?_⟩
  rintro E σ H ⟨ρ, G, R, at_, ok, h⟩
  exact ⟨ρ, G, _, at_, h, fun d ρ' p G' H' hk a' s' g0 h0 own hno => ok.nx _ _ _ _ (a'.setOwn hI g0 h0 own hno) s' hk⟩
/-! ### targets -/
abbrev TDG := D → Ro → (Ro → Prop) → Prop
def rdG (K : PySem.W.Frag) (Γ : Gm) (js : List Nat) (g : TDG) : TG := fun v σ H Q => ∃ ρ G d k, At K Γ ρ σ G H ∧ Is K G v d ∧ g d ρ k ∧ ∀ ρ' σ', k ρ' → At K Γ ρ' σ' G H → σ'.length = σ.length → (∀ i, i ∉ js → σ'[i]? = σ[i]?) → Q σ' H
structure DG (X : Cx) (Γ : Gm) (tg : Expr) (js : List Nat) (g : TDG) : Prop where
  pg : PG X tg (rdG X.K Γ js g)
def gNm (i : Nat) : TDG := fun d ρ Q => Q (ρ.set i (.val d))
theorem dg_name {i : Nat} {x : Str} (c : Cok k X Γ) (hi : X.N[i]? = some x) (hx : Loc X.env.scope x) (hI : Γ.I.contains i = false := by rfl) (hf : X.fn x = true ∨ X.env.scope.names.lookup x = some .local := by first | exact .inl rfl | exact .inr rfl | assumption) : DG X Γ (.Name x pos) [i] (gNm i) := by
  refine ⟨pg_imp (pg_name (i := i) c.nd hi hx hf) ?_⟩
  rintro v σ H Q ⟨ρ, G, d, k, at_, r, h, fin⟩
  exact fin _ _ h (at_.set hI r) (List.length_set ..) fun j hj => List.getElem?_set_ne (fun z => hj (by rw [z]; exact List.mem_cons_self))
abbrev TDGs := List D → Ro → (Ro → Prop) → Prop
def rdGs (K : PySem.W.Frag) (Γ : Gm) (js : List Nat) (g : TDGs) : TGs := fun vs σ H Q => ∃ ρ G ds k, At K Γ ρ σ G H ∧ IsAll K G vs ds ∧ g ds ρ k ∧ ∀ ρ' σ', k ρ' → At K Γ ρ' σ' G H → σ'.length = σ.length → (∀ i, i ∉ js → σ'[i]? = σ[i]?) → Q σ' H
structure DGs (X : Cx) (Γ : Gm) (ts : List Expr) (js : List Nat) (g : TDGs) : Prop where
  pg : PGs X ts (rdGs X.K Γ js g)
theorem pgs_imp {X : Cx} {e : List Expr} {t t' : TGs} (h : PGs X e t) (i : ∀ v σ H Q, t' v σ H Q → t v σ H Q) : PGs X e t' := ⟨fun pins s σ H v u Q I r q => h.run pins s σ H v u Q I r (i v σ H Q q)⟩
def gsNil : TDGs := fun ds ρ Q => ds = [] ∧ Q ρ
def gsCons (g : TDG) (gs : TDGs) : TDGs := fun ds ρ Q => match ds with
  | [] => False
  | d :: r => g d ρ fun ρ' => gs r ρ' Q
theorem dgs_nil : DGs X Γ [] [] gsNil := by
  refine ⟨pgs_imp pgs_nil ?_⟩
  rintro vs σ H Q ⟨ρ, G, ds, k, at_, r, ⟨rfl, h⟩, fin⟩
  cases r
  exact ⟨rfl, fin _ _ h at_ rfl fun _ _ => rfl⟩
theorem dgs_cons {js1 js2 : List Nat} {g : TDG} {gs : TDGs} (h1 : DG X Γ e js1 g) (h2 : DGs X Γ es js2 gs)
    (hs : (assignEach (e :: es) X.env).map (·.2) = assign e X.env :: (assignEach es X.env).map (·.2) := by rfl) : DGs X Γ (e :: es) (js1 ++ js2) (gsCons g gs) := by
  refine ⟨pgs_imp (pgs_cons h1.pg h2.pg hs) ?_⟩
  rintro vs σ H Q ⟨ρ, G, ds, k, at_, r, h, fin⟩
  cases r with
  | nil => exact h.elim
  | cons r1 r2 => exact ⟨_, _, rfl, ρ, G, _, _, at_, r1, h, fun ρ' σ' hk a' l1 f1 => ⟨ρ', G, _, _, a', r2, hk, fun ρ'' σ'' hk2 a'' l2 f2 => fin _ _ hk2 a'' (l2.trans l1) fun i hi => by
      rw [List.mem_append, not_or] at hi
      exact (f2 i hi.2).trans (f1 i hi.1)⟩⟩
def gTp (n : Nat) (gs : TDGs) : TDG := fun d ρ Q => match d with
  | .tuple ds => ds.length = n ∧ gs ds ρ Q
  | _ => False
theorem dg_tup {kk : Nat} {js : List Nat} {gs : TDGs} {n : Nat} (c : Cok k X Γ) (h : DGs X Γ es js gs) (hn : (assignEach es X.env).length = n := by rfl) (hst : (assignEach es X.env).findIdx? (·.1) = none := by rfl) : DG X Γ (.Tuple es kk pos) js (gTp n gs) := by
  refine ⟨pg_imp (pg_tup c.calm h.pg hn hst) ?_⟩
  rintro v σ H Q ⟨ρ, G, d, k, at_, r, h, fin⟩
  cases d with
  | tuple ds =>
    cases r with
    | tup h1 h2 => exact ⟨_, _, rfl, Same.sqt at_.sub h1, by rw [h2.length]; exact h.1, ρ, G, ds, k, at_, h2, h.2, fin⟩
  | _ => exact (show False from h).elim
def sAsg (t : TD) (g : TDG) : TDS := fun R ρ => t ρ fun d ρ' => g d ρ' R.nx
theorem ds_asg {tg : Expr} {t : TD} {js : List Nat} {g : TDG} (he : DE X Γ e t) (hg : DG X Γ tg js g) (hs : swapsWithSole [tg] e pos.line X.env = pure false := by rfl) (hw : swappedStores [tg] e X.env = pure none := by rfl)
    (h1 : (assignEach [tg] X.env).map (·.2) = [assign tg X.env] := by rfl) : DS X Γ (.Assign [tg] e pos) (sAsg t g) := by
  refine ⟨ps_imp (ps_asg he.pe hg.pg hs hw h1) ?_⟩
  rintro E σ H ⟨ρ, G, R, at_, ok, h⟩
  exact ⟨ρ, G, _, at_, h, fun d ρ' v G' H' hk a' s' r => ⟨ρ', G', d, _, a', r, hk, fun ρ'' σ'' hk2 a'' _ _ => ok.nx _ _ _ _ a'' s' hk2⟩⟩
/-- a, b = x, y -/
def sPar (i j : Nat) (t : TDs) : TDS := fun R ρ => t ρ fun ds ρ' => match ds with
  | [d, e] => R.nx ((ρ'.set i (.val d)).set j (.val e))
  | _ => False
theorem ds_par {i j : Nat} {x y : Str} {t : TDs} {px py pt : Pos} {kt k2 pt2} (c : Cok k X Γ) (hi : X.N[i]? = some x) (hj : X.N[j]? = some y) (hij : i ≠ j)
    (hx : X.env.scope.names.lookup x = some .local) (hy : X.env.scope.names.lookup y = some .local) (ha : DL X Γ [a, b] t) (hI : Γ.I.contains i = false := by rfl) (hJ : Γ.I.contains j = false := by rfl)
    (hw : swappedStores [.Tuple [.Name x px, .Name y py] kt pt] (.Tuple [a, b] k2 pt2) X.env = pure (some [x, y]) := by rfl)
    (hs : swapsWithSole [.Tuple [.Name x px, .Name y py] kt pt] (.Tuple [a, b] k2 pt2) pos.line X.env = pure false := by rfl) :
    DS X Γ (.Assign [.Tuple [.Name x px, .Name y py] kt pt] (.Tuple [a, b] k2 pt2) pos) (sPar i j t) := by
  refine ⟨ps_imp (ps_par c.calm c.nd hi hj hij hx hy ha.pa hw hs) ?_⟩
  rintro E σ H ⟨ρ, G, R, at_, ok, h⟩
  refine ⟨ρ, G, _, at_, h, fun ds ρ' vs G' H' hk hl a' s' r => ?_⟩
  cases r with
  | nil => exact hk.elim
  | cons r1 r =>
    cases r with
    | nil => exact hk.elim
    | cons r2 r =>
      cases r with
      | nil => exact ⟨_, _, rfl, ok.nx _ _ _ _ ((a'.set hI r1).set hJ r2) s' hk⟩
      | cons r3 r => exact hk.elim
/-- a, b, c = x, y, z -/
def sPar3 (i j l : Nat) (t : TDs) : TDS := fun R ρ => t ρ fun ds ρ' => match ds with
  | [d, e, f] => R.nx (((ρ'.set i (.val d)).set j (.val e)).set l (.val f))
  | _ => False
theorem ds_par3 {i j l : Nat} {x y z : Str} {c' : Expr} {t : TDs} {px py pz pt : Pos} {kt k2 pt2} (c : Cok k X Γ) (hi : X.N[i]? = some x) (hj : X.N[j]? = some y) (hl : X.N[l]? = some z) (hij : i ≠ j) (hil : i ≠ l) (hjl : j ≠ l)
    (hx : X.env.scope.names.lookup x = some .local) (hy : X.env.scope.names.lookup y = some .local) (hz : X.env.scope.names.lookup z = some .local) (ha : DL X Γ [a, b, c'] t) (hI : Γ.I.contains i = false := by rfl) (hJ : Γ.I.contains j = false := by rfl) (hL : Γ.I.contains l = false := by rfl)
    (hw : swappedStores [.Tuple [.Name x px, .Name y py, .Name z pz] kt pt] (.Tuple [a, b, c'] k2 pt2) X.env = pure (some [x, y, z]) := by rfl)
    (hs : swapsWithSole [.Tuple [.Name x px, .Name y py, .Name z pz] kt pt] (.Tuple [a, b, c'] k2 pt2) pos.line X.env = pure false := by rfl) :
    DS X Γ (.Assign [.Tuple [.Name x px, .Name y py, .Name z pz] kt pt] (.Tuple [a, b, c'] k2 pt2) pos) (sPar3 i j l t) := by
  refine ⟨ps_imp (ps_par3 c.calm c.nd hi hj hl hij hil hjl hx hy hz ha.pa hw hs) ?_⟩
  rintro E σ H ⟨ρ, G, R, at_, ok, h⟩
  refine ⟨ρ, G, _, at_, h, fun ds ρ' vs G' H' hk hl a' s' r => ?_⟩
  cases r with
  | nil => exact hk.elim
  | cons r1 r =>
    cases r with
    | nil => exact hk.elim
    | cons r2 r =>
      cases r with
      | nil => exact hk.elim
      | cons r3 r =>
        cases r with
        | nil => exact ⟨_, _, _, rfl, ok.nx _ _ _ _ (((a'.set hI r1).set hJ r2).set hL r3) s' hk⟩
        | cons r4 r => exact hk.elim
/-- name op= e -/
def sAug (i : Nat) (f : Op2) (t : TB) : TDS := fun R ρ => match ρ[i]? with
  | some (.val d) => t ρ fun x ρ' => withD ρ' x fun e => f d e fun r => R.nx (ρ'.set i (.val r))
  | _ => False
theorem ds_aug {i : Nat} {x : Str} {op : Operator} {f : Op2} {t : TB} {pos' : Pos} (c : Cok k X Γ) (hi : X.N[i]? = some x) (hx : Loc X.env.scope x) (ho : OpD X (inplaceOp op) f) (h : DB X Γ e t) (hI : Γ.I.contains i = false := by rfl) (hf : X.fn x = true ∨ X.env.scope.names.lookup x = some .local := by first | exact .inl rfl | exact .inr rfl | assumption) :
    DS X Γ (.AugAssign (.Name x pos') op e pos) (sAug i f t) := by
  refine ⟨ps_imp (ps_aug (i := i) c.nd hi hx h.pe (fun pins s σ H x y v u Q I r1 r2 q => ho pins s σ H x y v u Q I r1 r2 q) hf) ?_⟩
  rintro E σ H ⟨ρ, G, R, at_, ok, h⟩
  unfold sAug at h
  split at h
  · rename_i d q
    obtain ⟨v, e1, e2⟩ := at_.val q
    refine ⟨v, e1, ρ, G, _, at_, h, fun y ρ1 w G1 H1 h1 a1 s1 r1 => ?_⟩
    obtain ⟨e, l, h1⟩ := h1.to
    exact ⟨G1, d, e, _, a1.sub, .inl (e2.mono s1), a1.isx r1 l, h1, fun r z G2 H2 hk g i => ok.nx _ _ _ _ ((a1.grow g).set hI i) (s1.trans g.gg) hk⟩
  · exact h.elim
def iaddD : Op2
  | .int i, .int j, Q => Q (.int (i + j))
  | .str x, .str y, Q => x.length + y.length ≤ 16777216 ∧ Q (.str (x ++ y))
  | _, _, _ => False
theorem od_iadd : OpD X (inplaceOp .Add) iaddD := by
  refine OpD.or (iop_add.or iop_add_str) ?_
  rintro x y H Q ⟨G, d, e, k, s, hx, hy, h, fin⟩
  cases d with
  | int i =>
    cases e with
    | int j => exact .inl ⟨i, j, hx.int, hy.int, fin _ _ G H h (.refl s) (.int _)⟩
    | _ => exact (show False from h).elim
  | str i =>
    cases e with
    | str j => exact .inr ⟨i, j, hx.str, hy.str, line_le h.1, fin _ _ G H h.2 (.refl s) (.str _)⟩
    | _ => exact (show False from h).elim
  | _ => exact (show False from h).elim
theorem od_isub : OpD X (inplaceOp .Sub) subD := by
  refine OpD.or iop_sub ?_
  rintro x y H Q ⟨G, d, e, k, s, hx, hy, h, fin⟩
  cases d with
  | int i =>
    cases e with
    | int j => exact ⟨i, j, hx.int, hy.int, fin _ _ G H h (.refl s) (.int _)⟩
    | _ => exact (show False from h).elim
  | _ => exact (show False from h).elim
theorem iop_mulC : OpR X (inplaceOp .Mult) (rI CM fun i j => .int (i * j)) := opI fun _ _ _ _ _ _ _ hc q => imul_int q hc.ok
theorem od_imul : OpD X (inplaceOp .Mult) mulD := by
  refine OpD.or iop_mulC ?_
  rintro x y H Q ⟨G, d, e, k, s, hx, hy, h, fin⟩
  cases d with
  | int i =>
    cases e with
    | int j => exact ⟨i, j, hx.int, hy.int, h.1, fin _ _ G H h.2 (.refl s) (.int _)⟩
    | _ => exact (show False from h).elim
  | _ => exact (show False from h).elim
theorem iop_fdivC : OpR X (inplaceOp .FloorDiv) (rI (fun _ j => CDV j) fun i j => .int (i.fdiv j)) := opI fun i j _ _ _ _ _ hc q =>
  ifloordiv_int hc.1 q (.inl (PyProof.noPylong_of_log2 (PySem.Flt.log2_lt_of (by decide) hc.2)))
theorem od_ifdiv : OpD X (inplaceOp .FloorDiv) fdivD := by
  refine OpD.or iop_fdivC ?_
  rintro x y H Q ⟨G, d, e, k, s, hx, hy, h, fin⟩
  cases d with
  | int i =>
    cases e with
    | int j => exact ⟨i, j, hx.int, hy.int, h.1, fin _ _ G H h.2 (.refl s) (.int _)⟩
    | _ => exact (show False from h).elim
  | _ => exact (show False from h).elim

/-! ### while -/
def sWhile (c : TT') (t : TDS) : TDS := fun R ρ => ∃ W : Nat → Ro → Prop, (∃ m, W m ρ) ∧ ∀ m ρ, W m ρ → c ρ fun b ρ1 =>
  brn b (t { R with nx := fun ρ' => ∃ m', m' < m ∧ W m' ρ', ct := fun ρ' => ∃ m', m' < m ∧ W m' ρ', bk := R.nx } ρ1) (R.nx ρ1)
theorem ds_while {c' : Expr} {tc : TT'} (c : Cok k X Γ) (hc : DT X Γ c' tc) (hb : DSs X Γ body t) : DS X Γ (.While c' body [] pos) (sWhile tc t) := by
  refine ⟨ps_imp (ps_while c.po hc.pt hb.ps) ?_⟩
  rintro E σ H ⟨ρ, G, R, at_, ok, W, ⟨m, w⟩, turn⟩
  refine ⟨fun m σ' H' => ∃ ρ' G', At X.K Γ ρ' σ' G' H' ∧ Same G G' ∧ W m ρ', ⟨m, ρ, G, at_, Same.refl _, w⟩, ?_⟩
  rintro m σ' H' ⟨ρ', G', a', s', w'⟩
  refine ⟨ρ', G', _, a', turn m ρ' w', fun b ρ1 G1 H1 h1 a1 s1 => ?_⟩
  have s01 := s'.trans s1
  cases b with
  | true =>
    refine iteT ⟨fun σ2 H2 => ∃ m', m' < m ∧ ∃ ρ' G', At X.K Γ ρ' σ2 G' H2 ∧ Same G G' ∧ W m' ρ', fun σ2 H2 q => q, ρ1, G1, { R with nx := fun ρ' => ∃ m', m' < m ∧ W m' ρ', ct := fun ρ' => ∃ m', m' < m ∧ W m' ρ', bk := R.nx }, a1, ⟨fun ρ2 σ2 G2 H2 a2 s2 ⟨m', hm, w2⟩ => ⟨m', hm, ρ2, G2, a2, s01.trans s2, w2⟩,
      fun d v ρ2 σ2 G2 H2 a2 s2 => ok.rt d v ρ2 σ2 G2 H2 a2 (s01.trans s2), fun ρ2 σ2 G2 H2 a2 s2 => ok.nx ρ2 σ2 G2 H2 a2 (s01.trans s2), fun ρ2 σ2 G2 H2 a2 s2 ⟨m', hm, w2⟩ => ⟨m', hm, ρ2, G2, a2, s01.trans s2, w2⟩⟩, h1⟩
  | false =>
    exact iteF (ok.nx _ _ _ _ a1 s01 h1)

/-! ### what a loop walks -/
structure JOk (K : PySem.W.Frag) (J : It) (ds : List D) (G1 : Hp) : Prop where
  go : ∀ i H G, Same G1 G → Same G H → i < ds.length → J.go i H
  stop : ∀ H G, Same G1 G → Same G H → J.stop ds.length H
  yld : ∀ i H G x H', Same G1 G → Same G H → i < ds.length → J.yld i H x H' → ∃ d G', ds[i]? = some d ∧ Grow G H G' H' ∧ Is K G' x d
theorem JOk.walk {K : PySem.W.Frag} {J : It} {ds : List D} {G1 : Hp} {Gd : Hp → Prop} {Y : Nat → Hp → V → Hp → Prop} (w : L2.Walk J ds.length Gd Y) (hG : ∀ H, Same G1 H → Gd H)
    (hy : ∀ i H G x H', Same G1 G → Same G H → i < ds.length → Y i H x H' → ∃ d G', ds[i]? = some d ∧ Grow G H G' H' ∧ Is K G' x d) : JOk K J ds G1 :=
  ⟨fun i H G s1 s2 hi => w.goes i H hi (hG H (s1.trans s2)), fun H G s1 s2 => w.stops H (hG H (s1.trans s2)), fun i H G x H' s1 s2 hi y => hy i H G x H' s1 s2 hi (w.yields i H x H' hi (hG H (s1.trans s2)) y)⟩
theorem JOk.mono {K : PySem.W.Frag} {J : It} {ds : List D} {G1 G2 : Hp} (h : JOk K J ds G1) (s : Same G1 G2) : JOk K J ds G2 :=
  ⟨fun i H G s1 s2 => h.go i H G (s.trans s1) s2, fun H G s1 s2 => h.stop H G (s.trans s1) s2, fun i H G x H' s1 s2 => h.yld i H G x H' (s.trans s1) s2⟩
abbrev TI' := Ro → (List D → Ro → Prop) → Prop
def rdI (K : PySem.W.Frag) (Γ : Gm) (t : TI') : TI := fun σ H R => ∃ ρ G k, At K Γ ρ σ G H ∧ t ρ k ∧ ∀ ds ρ' J G' H', k ds ρ' → At K Γ ρ' σ G' H' → Same G G' → JOk K J ds G' → R J H'
structure DI (X : Cx) (Γ : Gm) (tg iter : Expr) (t : TI') : Prop where
  pi : PI X tg iter (rdI X.K Γ t)
theorem pi_imp {X : Cx} {tg iter : Expr} {t t' : TI} (h : PI X tg iter t) (i : ∀ σ H R, t' σ H R → t σ H R) : PI X tg iter t' := ⟨fun pins s σ H R I q => h.run pins s σ H R I (i σ H R q)⟩
/-- a list, a tuple, a text: whichever it is -/
theorem pi_seq {tg l : Expr} {tl : TE} (hl : PE X l tl) : PI X tg l (fun σ H R => tl σ H fun x H1 =>
    (∃ a xs, x = .ref a ∧ SqL X.K H1 a xs ∧ R (Itl X.K a) H1) ∨ (∃ a xs, x = .ref a ∧ SqT X.K H1 a xs ∧ R (Itt X.K a) H1) ∨ ∃ z, x = .str z ∧ R (Its z) H1) := by
  refine ⟨fun pins s σ H R I h => ?_⟩
  refine thn (hl.run pins s σ H _ I h) fun v s1 ⟨x, H1, I1, r1, q1⟩ => ?_
  have pl : ∀ {w : TI}, PI (X := X) tg l w → True := fun _ => trivial
  rcases q1 with ⟨a, xs, e, hq, q⟩ | ⟨a, xs, e, hq, q⟩ | ⟨z, e, q⟩
  · subst e
    cases r1
    obtain ⟨its, rv, p, hz⟩ := I1.list hq
    refine wpAny_pyIter_list p.isList ?_
    refine ⟨s1.heap.objs.size, [s1.heap.objs.size], _, _, H1, rfl, I1.kept (t' := s1.toks) fun b o e => Heap.get?_push_of_some _ e, turn_list a _, ⟨_, Heap.get?_push_size _ rfl, rfl, rfl⟩, fun b hb => ?_, q⟩
    have e : b = s1.heap.objs.size := by simpa using hb
    subst e
    exact I1.fpOk (Nat.le_refl _) (I1.hok.fresh (Nat.le_refl _))
  · subst e
    cases r1
    obtain ⟨its, rv, p, hz⟩ := I1.tuple hq
    refine wpAny_pyIter_tuple (show s1.heap.IsTuple a its.toArray from p) ?_
    refine ⟨s1.heap.objs.size, [s1.heap.objs.size], _, _, H1, rfl, I1.kept (t' := s1.toks) fun b o e => Heap.get?_push_of_some _ e, turn_tuple a _, ⟨_, Heap.get?_push_size _ rfl, rfl, rfl⟩, fun b hb => ?_, q⟩
    have e : b = s1.heap.objs.size := by simpa using hb
    subst e
    exact I1.fpOk (Nat.le_refl _) (I1.hok.fresh (Nat.le_refl _))
  · subst e
    obtain ⟨t, rfl⟩ := r1
    cases ha : z.cps.all (· < 128)
    · exact wpAny_pyIter_wide ha (pi_one (tk := s1.toks) I1 _ (turn_str _ z t "str_iterator" (.inr rfl)) ⟨_, Heap.get?_push_size _ rfl, rfl, rfl⟩ q)
    · exact wpAny_pyIter_ascii ha (pi_one (tk := s1.toks) I1 _ (turn_str _ z t "str_ascii_iterator" (.inl rfl)) ⟨_, Heap.get?_push_size _ rfl, rfl, rfl⟩ q)
/-- the signs of a text -/
def signs (z : Str) : List D := z.cps.toList.map fun c => .str ⟨#[c]⟩
def seqD (d : D) (k : List D → Prop) : Prop := match d with
  | .list xs => k xs
  | .tuple xs => k xs
  | .str z => k (signs z)
  | _ => False
def iSeq (t : TD) : TI' := fun ρ Q => t ρ fun d ρ1 => seqD d fun ds => Q ds ρ1
theorem jok_list {K : PySem.W.Frag} {a : Addr} {xs : List V} {ds : List D} {G1 : Hp} (h : SqL K G1 a xs) (r : IsAll K G1 xs ds) : JOk K (Itl K a) ds G1 := by
  have w : L2.Walk (Itl K a) xs.length (fun H => SqL K H a xs) (YAt xs) := walk_list
  rw [r.length] at w
  refine JOk.walk w (fun H s => s.seq h) fun i H G x H' s1 s2 hi ⟨e, y⟩ => ?_
  subst e
  obtain ⟨d, h1, h2⟩ := r.get y
  exact ⟨d, G, h1, .refl s2, h2.mono s1⟩
theorem jok_tup {K : PySem.W.Frag} {a : Addr} {xs : List V} {ds : List D} {G1 : Hp} (h : SqT K G1 a xs) (r : IsAll K G1 xs ds) : JOk K (Itt K a) ds G1 := by
  have w : L2.Walk (Itt K a) xs.length (fun H => SqT K H a xs) (YAt xs) := walk_tup
  rw [r.length] at w
  refine JOk.walk w (fun H s => Same.sqt s h) fun i H G x H' s1 s2 hi ⟨e, y⟩ => ?_
  subst e
  obtain ⟨d, h1, h2⟩ := r.get y
  exact ⟨d, G, h1, .refl s2, h2.mono s1⟩
theorem jok_str {K : PySem.W.Frag} {z : Str} {G1 : Hp} : JOk K (Its z) (signs z) G1 := by
  have w : L2.Walk (Its z) z.cps.size (fun _ => True) (fun i H v H' => H' = H ∧ ∃ c, z.cps[i]? = some c ∧ v = .str ⟨#[c]⟩) := walk_str
  have e : z.cps.size = (signs z).length := by unfold signs; simp
  rw [e] at w
  refine JOk.walk w (fun _ _ => trivial) fun i H G x H' s1 s2 hi ⟨e, c, y, ev⟩ => ?_
  subst e ev
  exact ⟨.str ⟨#[c]⟩, G, by unfold signs; simp [y], .refl s2, .str _⟩
theorem di_seq {tg : Expr} {t : TD} (h : DE X Γ e t) : DI X Γ tg e (iSeq t) := by
  refine ⟨pi_imp (pi_seq h.pe) ?_⟩
  rintro σ H R ⟨ρ, G, k, at_, h, fin⟩
  refine ⟨ρ, G, _, at_, h, fun d ρ1 v G1 H1 h1 a1 s1 r1 => ?_⟩
  cases d with
  | list ds =>
    cases r1 with
    | lst h2 h3 => exact .inl ⟨_, _, rfl, .of (a1.sub _ _ h2), fin ds _ _ _ _ h1 a1 s1 (jok_list (.of h2) h3)⟩
  | tuple ds =>
    cases r1 with
    | tup h2 h3 => exact .inr (.inl ⟨_, _, rfl, Same.sqt a1.sub h2, fin ds _ _ _ _ h1 a1 s1 (jok_tup h2 h3)⟩)
  | str z =>
    cases r1 with
    | str _ => exact .inr (.inr ⟨z, rfl, fin _ _ _ _ _ h1 a1 s1 jok_str⟩)
  | _ => exact (show False from h1).elim
/-- lo, lo + c, .. -/
def rangeD (lo c : Int) (n : Nat) : List D := (List.range n).map fun (i : Nat) => PyData.int (lo + (i : Int) * c)
theorem jok_range {K : PySem.W.Frag} {lo : Int} {n : Nat} {G1 : Hp} : JOk K (Itr lo n) (rangeD lo 1 n) G1 := by
  have w : L2.Walk (Itr lo n) n (fun _ => True) (YFn fun i => .int (lo + i)) := walk_range
  have e : n = (rangeD lo 1 n).length := by unfold rangeD; simp
  rw [e] at w
  rw [← e] at w
  refine ⟨fun i H G s1 s2 hi => w.goes i H (by rw [e]; exact hi) trivial, fun H G s1 s2 => by rw [← e]; exact w.stops H trivial, fun i H G x H' s1 s2 hi y => ?_⟩
  have hi' : i < n := by rw [e]; exact hi
  obtain ⟨e1, e2⟩ := w.yields i H x H' hi' trivial y
  subst e1 e2
  exact ⟨.int (lo + i), G, by unfold rangeD; simp [hi'], .refl s2, .int _⟩
theorem jok_rangeC {K : PySem.W.Frag} {lo c : Int} {n : Nat} {G1 : Hp} : JOk K (Itc lo c n) (rangeD lo c n) G1 := by
  have w : L2.Walk (Itc lo c n) n (fun _ => True) (YFn fun i => .int (lo + (i : Nat) * c)) := walk_rangeC
  have e : n = (rangeD lo c n).length := by unfold rangeD; simp
  refine ⟨fun i H G s1 s2 hi => w.goes i H (by rw [e]; exact hi) trivial, fun H G s1 s2 => by rw [← e]; exact w.stops H trivial, fun i H G x H' s1 s2 hi y => ?_⟩
  have hi' : i < n := by rw [e]; exact hi
  obtain ⟨e1, e2⟩ := w.yields i H x H' hi' trivial y
  subst e1 e2
  exact ⟨.int (lo + i * c), G, by unfold rangeD; simp [hi'], .refl s2, .int _⟩
/-- arguments, borrowed -/
abbrev TBs := Ro → (List B → Ro → Prop) → Prop
inductive IsBs (K : PySem.W.Frag) (σ : L2.St) (G : Hp) : List V → List B → Prop
  | nil : IsBs K σ G [] []
  | cons {v : V} {vs : List V} {b : B} {bs : List B} : IsB K σ G v b → IsBs K σ G vs bs → IsBs K σ G (v :: vs) (b :: bs)
def rdBs (K : PySem.W.Frag) (Γ : Gm) (n : Nat) (t : TBs) : TA := fun σ H Q => ∃ ρ G k, At K Γ ρ σ G H ∧ t ρ k ∧ ∀ bs ρ' vs G' H', k bs ρ' → bs.length = n → At K Γ ρ' σ G' H' → Same G G' → IsBs K σ G' vs bs → Q vs H'
structure DBs (X : Cx) (Γ : Gm) (es : List Expr) (t : TBs) : Prop where
  pa : PA X es (rdBs X.K Γ es.length t)
def bNil : TBs := fun ρ Q => Q [] ρ
def bCons (t : TB) (u : TBs) : TBs := fun ρ Q => t ρ fun d ρ1 => u ρ1 fun ds ρ2 => Q (d :: ds) ρ2
theorem dbs_nil : DBs X Γ [] bNil := by
  refine ⟨pa_imp pa_nil ?_⟩
  rintro σ H Q ⟨ρ, G, k, at_, h, fin⟩
  exact fin [] ρ [] G H h rfl at_ (Same.refl _) .nil
theorem dbs_cons {t : TB} {u : TBs} (h : DB X Γ e t) (hr : DBs X Γ es u) (hs : starEach (e :: es) X.env = (false, eval e X.env) :: starEach es X.env := by rfl) : DBs X Γ (e :: es) (bCons t u) := by
  refine ⟨pa_imp (pa_cons h.pe hr.pa hs) ?_⟩
  rintro σ H Q ⟨ρ, G, k, at_, h, fin⟩
  exact ⟨ρ, G, _, at_, h, fun d ρ1 v G1 H1 h1 a1 s1 r1 => ⟨ρ1, G1, _, a1, h1, fun ds ρ2 vs G2 H2 h2 hl a2 s2 r2 => fin (d :: ds) ρ2 (v :: vs) G2 H2 h2 (by rw [List.length_cons, List.length_cons, hl]) a2 (s1.trans s2) (.cons (r1.mono s2) r2)⟩⟩
/-- what a call of values tells of data: FD -/
abbrev OpN := List D → (D → Prop) → Prop
def lookAll (ρ : Ro) : List B → Option (List D)
  | [] => some []
  | b :: bs => match look ρ b, lookAll ρ bs with
    | some d, some ds => some (d :: ds)
    | _, _ => none
inductive IsXs (K : PySem.W.Frag) (G H : Hp) : List V → List D → Prop
  | nil : IsXs K G H [] []
  | cons {v : V} {vs : List V} {d : D} {ds : List D} : IsX K G H v d → IsXs K G H vs ds → IsXs K G H (v :: vs) (d :: ds)
theorem At.isxs {K : PySem.W.Frag} {ρ : Ro} {σ : L2.St} {G H : Hp} (a : At K Γ ρ σ G H) : ∀ {vs : List V} {bs : List B} {ds : List D}, IsBs K σ G vs bs → lookAll ρ bs = some ds → IsXs K G H vs ds
  | _, _, _, .nil, e => by cases e; exact .nil
  | _, _, ds, .cons (b := b) (bs := bs) h t, e => by
    have e' : (match look ρ b, lookAll ρ bs with | some d, some ds => some (d :: ds) | _, _ => none) = some ds := e
    cases h1 : look ρ b with
    | none => rw [h1] at e'; cases e'
    | some d =>
      cases h2 : lookAll ρ bs with
      | none => rw [h1, h2] at e'; cases e'
      | some ds' =>
        rw [h1, h2] at e'
        cases e'
        exact .cons (a.isx h h1) (At.isxs a t h2)
def CallD (X : Cx) (f : Value) (g : OpN) : Prop :=
  CallR X f fun vs H Q => ∃ G ds k, Same G H ∧ IsXs X.K G H vs ds ∧ g ds k ∧ ∀ r v G' H', k r → Grow G H G' H' → Is X.K G' v r → Q v H'
theorem CallD.of {f : Value} {g : OpN} {r : List V → Hp → VK → Prop} (h : CallR X f r) (i : ∀ vs H Q, (∃ G ds k, Same G H ∧ IsXs X.K G H vs ds ∧ g ds k ∧ ∀ r v G' H', k r → Grow G H G' H' → Is X.K G' v r → Q v H') → r vs H Q) : CallD X f g := by
  intro pins s σ H xs us Q I r q
  exact h pins s σ H xs us Q I r (i _ _ _ q)
def dCB (g : OpN) (ta : TBs) : TD := fun ρ Q => ta ρ fun bs ρ1 => optD (lookAll ρ1 bs) fun ds => g ds fun r => Q r ρ1
theorem cb_rd {g : OpN} {ta : TBs} {K : PySem.W.Frag} {n : Nat} {σ : L2.St} {H : Hp} {Q : VK} (h : rdE K Γ (dCB g ta) σ H Q) : tCB (fun vs H Q => ∃ G ds k, Same G H ∧ IsXs K G H vs ds ∧ g ds k ∧ ∀ r v G' H', k r → Grow G H G' H' → Is K G' v r → Q v H') (rdBs K Γ n ta) σ H Q := by
  obtain ⟨ρ, G, k, at_, h, fin⟩ := h
  refine ⟨ρ, G, _, at_, h, fun bs ρ1 vs G1 H1 h1 _ a1 s1 r1 => ?_⟩
  obtain ⟨ds, l, h1⟩ := h1.to
  exact ⟨G1, ds, _, a1.sub, a1.isxs r1 l, h1, fun r v G2 H2 hk g i => fin r ρ1 v G2 H2 hk (a1.grow g) (s1.trans g.gg) i⟩
theorem de_callB {x : Str} {id : String} {g : OpN} {ta : TBs} {p : Pos} (hc : CallD X (.builtin id) g) (hm : X.mg x = none) (hv : bootBuiltins x = some (.builtin id)) (ha : DBs X Γ (e :: es) ta) (hg : Gl X x := by rfl) (hn : x ≠ "__name__" := by decide) (hdb : (x == ("__debug__" : Str)) = false := by decide)
    (he : starEach (e :: es) X.env = (false, eval e X.env) :: starEach es X.env := by rfl) (hpl : (backTo pos (starEach es X.env)).any (·.1) = false := by rfl) : DE X Γ (.Call (.Name x p) (e :: es) [] pos) (dCB g ta) :=
  ⟨pe_imp (pe_callB hc hg hm hv ha.pa hn hdb he hpl) fun σ H Q h => cb_rd h⟩
theorem de_callT {x : Str} {id : String} {g : OpN} {ta : TBs} {p : Pos} (hc : CallD X (.type id) g) (hm : X.mg x = none) (hv : bootBuiltins x = some (.type id)) (ha : DBs X Γ (e :: es) ta) (hg : Gl X x := by rfl) (hn : x ≠ "__name__" := by decide) (hdb : (x == ("__debug__" : Str)) = false := by decide)
    (he : starEach (e :: es) X.env = (false, eval e X.env) :: starEach es X.env := by rfl) (hpl : (backTo pos (starEach es X.env)).any (·.1) = false := by rfl) : DE X Γ (.Call (.Name x p) (e :: es) [] pos) (dCB g ta) :=
  ⟨pe_imp (pe_callTy hc hg hm hv ha.pa hn hdb he hpl) fun σ H Q h => cb_rd h⟩
end
end Dn
/-! Dn: for, ranges, comprehensions, mutation, calls of defs, defs. -/
namespace Dn
open PySem PySem.Spec PyProof.Rows L2
section
variable {X : Cx} {Γ : Gm} {k : Nat} {a b e : Expr} {es : List Expr} {st : Stmt} {rest body orelse : List Stmt} {pos : Pos} {t u : TDS}
/-! ### for -/
/-- I: what holds with these still to come -/
def sFor (ti : TI') (g : TDG) (tb : TDS) : TDS := fun R ρ => ti ρ fun ds ρ1 => ∃ I : List D → Ro → Prop, I ds ρ1 ∧
  (∀ x r ρ, I (x :: r) ρ → g x ρ fun ρ2 => tb { R with nx := I r, ct := I r, bk := R.nx } ρ2) ∧ ∀ ρ, I [] ρ → R.nx ρ
theorem ds_for {tg iter : Expr} {ti : TI'} {js : List Nat} {g : TDG} (c : Cok k X Γ) (hi : DI X Γ tg iter ti) (hg : DG X Γ tg js g) (hb : DSs X Γ body t)
    (hs : ∀ x, foldedSetIterable iter X.env x = pure x := by intro _; rfl) : DS X Γ (.For tg iter body [] pos) (sFor ti g t) := by
  refine ⟨ps_imp (ps_for c.po c.calm hi.pi hg.pg hb.ps hs) ?_⟩
  rintro E σ H ⟨ρ, G, R, at_, ok, h⟩
  refine ⟨ρ, G, _, at_, h, fun ds ρ1 J G1 H1 ⟨I, h1, h2, h3⟩ a1 s1 j => ?_⟩
  refine ⟨fun i m σ' H' => m = ds.length - i ∧ i ≤ ds.length ∧ ∃ ρ' G', At X.K Γ ρ' σ' G' H' ∧ Same G1 G' ∧ I (ds.drop i) ρ', ⟨ds.length, by simp, Nat.zero_le _, ρ1, G1, a1, Same.refl _, h1⟩, ?_⟩
  rintro i m σ' H' ⟨rfl, hi, ρ', G', a', s', hI⟩
  by_cases hlt : i < ds.length
  · refine .inr ⟨j.go i H' G' s' a'.sub hlt, fun σ2 H2 => ∃ ρ' G', At X.K Γ ρ' σ2 G' H2 ∧ Same G1 G' ∧ I (ds.drop (i + 1)) ρ', fun σ2 H2 ⟨ρ2, G2, a2, s2, i2⟩ => ⟨ds.length - (i + 1), by omega, rfl, hlt, ρ2, G2, a2, s2, i2⟩, fun x H2 y => ?_⟩
    obtain ⟨d, G2, hd, g2, r2⟩ := j.yld i H' G' x H2 s' a'.sub hlt y
    have e : ds.drop i = d :: ds.drop (i + 1) := by
      rw [List.drop_eq_getElem_cons hlt]
      rw [List.getElem?_eq_getElem hlt] at hd
      rw [Option.some.inj hd]
    rw [e] at hI
    have a2 := a'.grow g2
    have s2 := s'.trans g2.gg
    refine ⟨ρ', G2, d, _, a2, r2, h2 d _ ρ' hI, fun ρ3 σ3 h3' a3 _ _ => ⟨ρ3, G2, { R with nx := I (ds.drop (i + 1)), ct := I (ds.drop (i + 1)), bk := R.nx }, a3, ⟨fun ρ4 σ4 G4 H4 a4 s4 i4 => ⟨ρ4, G4, a4, s2.trans s4, i4⟩,
      fun d v ρ4 σ4 G4 H4 a4 s4 => ok.rt d v ρ4 σ4 G4 H4 a4 (s1.trans (s2.trans s4)), fun ρ4 σ4 G4 H4 a4 s4 => ok.nx ρ4 σ4 G4 H4 a4 (s1.trans (s2.trans s4)), fun ρ4 σ4 G4 H4 a4 s4 i4 => ⟨ρ4, G4, a4, s2.trans s4, i4⟩⟩, h3'⟩⟩
  · have e : i = ds.length := by omega
    subst e
    rw [List.drop_length] at hI
    exact .inl ⟨j.stop H' G' s' a'.sub, ok.nx _ _ _ _ a' (s1.trans s') (h3 _ hI)⟩
/-- the turns one by one -/
def forD (g : TDG) (tb : TDS) (R : DEnds) : List D → Ro → Prop
  | [], ρ => R.nx ρ
  | x :: r, ρ => g x ρ fun ρ2 => tb { R with nx := forD g tb R r, ct := forD g tb R r, bk := R.nx } ρ2
theorem sFor.of {g : TDG} {tb : TDS} {R : DEnds} {ds : List D} {ρ : Ro} (h : forD g tb R ds ρ) : ∃ I : List D → Ro → Prop, I ds ρ ∧
  (∀ x r ρ, I (x :: r) ρ → g x ρ fun ρ2 => tb { R with nx := I r, ct := I r, bk := R.nx } ρ2) ∧ ∀ ρ, I [] ρ → R.nx ρ :=
  ⟨forD g tb R, h, fun _ _ _ q => q, fun _ q => q⟩
/-! ### ranges -/
def iRg1 (ta : TBs) : TI' := fun ρ Q => ta ρ fun bs ρ1 => optD (lookAll ρ1 bs) fun ds => match ds with
  | [.int n] => (-(2 ^ 62) ≤ n ∧ n < 2 ^ 62) ∧ Q (rangeD 0 1 n.toNat) ρ1
  | _ => False
def iRg2 (ta : TBs) : TI' := fun ρ Q => ta ρ fun bs ρ1 => optD (lookAll ρ1 bs) fun ds => match ds with
  | [.int m, .int n] => (-(2 ^ 62) ≤ m ∧ m < 2 ^ 62 ∧ -(2 ^ 62) ≤ n ∧ n < 2 ^ 62) ∧ Q (rangeD m 1 (n - m).toNat) ρ1
  | _ => False
def iRg3 (ta : TBs) : TI' := fun ρ Q => ta ρ fun bs ρ1 => optD (lookAll ρ1 bs) fun ds => match ds with
  | [.int i, .int j, .int c] => ∃ n, RgC i j c n ∧ Q (rangeD i c n) ρ1
  | _ => False
theorem isxs_int1 {K : PySem.W.Frag} {G H : Hp} {vs : List V} {n : Int} (h : IsXs K G H vs [.int n]) : vs = [.int n] := by
  cases h with
  | cons h1 h2 => cases h2; rw [h1.int]
theorem isxs_int2 {K : PySem.W.Frag} {G H : Hp} {vs : List V} {n m : Int} (h : IsXs K G H vs [.int n, .int m]) : vs = [.int n, .int m] := by
  cases h with
  | cons h1 h2 => rw [h1.int, isxs_int1 h2]
theorem isxs_int3 {K : PySem.W.Frag} {G H : Hp} {vs : List V} {n m c : Int} (h : IsXs K G H vs [.int n, .int m, .int c]) : vs = [.int n, .int m, .int c] := by
  cases h with
  | cons h1 h2 => rw [h1.int, isxs_int2 h2]
theorem di_range1 {tg : Expr} {ta : TBs} {p : Pos} (hm : X.mg "range" = none) (ha : DBs X Γ [a] ta) (hg : Gl X "range" := by rfl) (hs : starEach [a] X.env = [(false, eval a X.env)] := by rfl) : DI X Γ tg (.Call (.Name "range" p) [a] [] pos) (iRg1 ta) := by
  refine ⟨pi_imp (pi_range1 hg hm ha.pa hs) ?_⟩
  rintro σ H R ⟨ρ, G, k, at_, h, fin⟩
  refine ⟨ρ, G, _, at_, h, fun bs ρ1 vs G1 H1 h1 _ a1 s1 r1 => ?_⟩
  obtain ⟨ds, l, h1⟩ := h1.to
  split at h1
  · rename_i n
    exact ⟨n, isxs_int1 (a1.isxs r1 l), h1.1.1, h1.1.2, fin _ _ _ _ _ h1.2 a1 s1 jok_range⟩
  · exact h1.elim
theorem di_range2 {tg : Expr} {ta : TBs} {p : Pos} (hm : X.mg "range" = none) (ha : DBs X Γ [a, b] ta) (hg : Gl X "range" := by rfl) (hs : starEach [a, b] X.env = [(false, eval a X.env), (false, eval b X.env)] := by rfl) (hs2 : starEach [b] X.env = [(false, eval b X.env)] := by rfl) : DI X Γ tg (.Call (.Name "range" p) [a, b] [] pos) (iRg2 ta) := by
  refine ⟨pi_imp (pi_range2 hg hm ha.pa hs hs2) ?_⟩
  rintro σ H R ⟨ρ, G, k, at_, h, fin⟩
  refine ⟨ρ, G, _, at_, h, fun bs ρ1 vs G1 H1 h1 _ a1 s1 r1 => ?_⟩
  obtain ⟨ds, l, h1⟩ := h1.to
  split at h1
  · rename_i m n
    exact ⟨m, n, isxs_int2 (a1.isxs r1 l), h1.1, fin _ _ _ _ _ h1.2 a1 s1 jok_range⟩
  · exact h1.elim
theorem di_range3 {tg c' : Expr} {ta : TBs} {p : Pos} (hm : X.mg "range" = none) (ha : DBs X Γ [a, b, c'] ta) (hg : Gl X "range" := by rfl) (hs : starEach [a, b, c'] X.env = (false, eval a X.env) :: starEach [b, c'] X.env := by rfl) (hpl : (backTo pos (starEach [b, c'] X.env)).any (·.1) = false := by rfl) : DI X Γ tg (.Call (.Name "range" p) [a, b, c'] [] pos) (iRg3 ta) := by
  refine ⟨pi_imp (pi_range3 hg hm ha.pa hs hpl) ?_⟩
  rintro σ H R ⟨ρ, G, k, at_, h, fin⟩
  refine ⟨ρ, G, _, at_, h, fun bs ρ1 vs G1 H1 h1 _ a1 s1 r1 => ?_⟩
  obtain ⟨ds, l, h1⟩ := h1.to
  split at h1
  · rename_i i j c
    obtain ⟨n, hc, h1⟩ := h1
    exact ⟨i, j, c, n, isxs_int3 (a1.isxs r1 l), hc, fin _ _ _ _ _ h1 a1 s1 jok_rangeC⟩
  · exact h1.elim

/-! ### comprehensions -/
def wipeR (ρ : Ro) : List Nat → Ro
  | [] => ρ
  | v :: vs => (wipeR ρ vs).set v .non
theorem wipeR_length (ρ : Ro) : ∀ vs : List Nat, (wipeR ρ vs).length = ρ.length
  | [] => rfl
  | v :: vs => by unfold wipeR; rw [List.length_set, wipeR_length ρ vs]
theorem wipeR_in {ρ : Ro} {i : Nat} {s : Sl} : ∀ {vs : List Nat}, (wipeR ρ vs)[i]? = some s → i ∈ vs → s = .non
  | [], _, h => by cases h
  | v :: vs, h, hi => by
    unfold wipeR at h
    by_cases hv : v = i
    · subst hv
      have l := (List.getElem?_eq_some_iff.mp h).1
      rw [List.length_set] at l
      rw [List.getElem?_set_self l] at h
      exact (Option.some.inj h).symm
    · rw [List.getElem?_set_ne hv] at h
      exact wipeR_in h ((List.mem_cons.mp hi).resolve_left fun z => hv z.symm)
theorem wipeR_out {ρ : Ro} {i : Nat} : ∀ {vs : List Nat}, i ∉ vs → (wipeR ρ vs)[i]? = ρ[i]?
  | [], _ => rfl
  | v :: vs, h => by
    rw [List.mem_cons, not_or] at h
    unfold wipeR
    rw [List.getElem?_set_ne (fun z => h.1 z.symm), wipeR_out h.2]
theorem wipe_out' {σ : L2.St} {i : Nat} : ∀ {vs : List Nat}, i ∉ vs → (wipe σ vs)[i]? = σ[i]?
  | [], _ => rfl
  | v :: vs, h => by
    rw [List.mem_cons, not_or] at h
    unfold wipe
    rw [List.getElem?_set_ne (fun z => h.1 z.symm), wipe_out' h.2]
theorem wipe_ext {σ σ' : L2.St} : ∀ {vs : List Nat}, σ'.length = σ.length → (∀ i, i ∉ vs → σ'[i]? = σ[i]?) → wipe σ' vs = wipe σ vs := by
  intro vs hl h
  apply List.ext_getElem?
  intro i
  by_cases hi : i ∈ vs
  · have f : ∀ (τ : L2.St) (us : List Nat), i ∈ us → (wipe τ us)[i]? = if i < τ.length then some none else none := by
      intro τ us
      induction us with
      | nil => intro z; cases z
      | cons v us ih =>
        intro z
        unfold wipe
        by_cases hv : v = i
        · subst hv
          by_cases hl : v < τ.length
          · rw [List.getElem?_set_self (by rw [wipe_length]; exact hl), if_pos hl]
          · rw [List.getElem?_eq_none (by rw [List.length_set, wipe_length]; omega), if_neg hl]
        · rw [List.getElem?_set_ne hv]
          exact ih ((List.mem_cons.mp z).resolve_left fun z => hv z.symm)
    rw [f _ _ hi, f _ _ hi, hl]
  · rw [wipe_out' hi, wipe_out' hi, h i hi]
/-- slots of some names forgotten, in the frame (τ told by σ but for these) -/
theorem At.wipe {K : PySem.W.Frag} {ρ : Ro} {σ τ : L2.St} {G H : Hp} {vs : List Nat} (a : At K Γ ρ σ G H) (hI : ∀ i ∈ Γ.I, i ∉ vs) (hl : τ.length = σ.length) (h : ∀ i, i ∉ vs → τ[i]? = σ[i]?) : At K Γ (wipeR ρ vs) τ G H where
  len := by rw [wipeR_length, hl, a.len]
  sl := fun i s o e1 e2 => by
    by_cases hi : i ∈ vs
    · rw [wipeR_in e1 hi]; exact True.intro
    · rw [wipeR_out hi] at e1
      rw [h i hi] at e2
      exact a.sl i s o e1 e2
  sep := fun i j di dj p e1 e2 e3 e4 => by
    have hi : i ∉ vs := fun z => by cases wipeR_in e1 z
    have hj : j ∉ vs := fun z => by cases wipeR_in e2 z
    rw [wipeR_out hi] at e1
    rw [wipeR_out hj] at e2
    rw [h i hi] at e3
    rw [h j hj] at e4
    exact a.sep i j di dj p e1 e2 e3 e4
  sub := a.sub
  old := a.old
  kept := a.kept
  inh := fun i hi => by rw [h i (hI i hi)]; exact a.inh i hi
  bas := a.bas
/-- the activation seen from a block within: what the block may lean on is G0, H0 -/
abbrev Gm.inn (Γ : Gm) (G0 H0 : Hp) : Gm := { Γ with G0 := G0, H0 := H0, W := fun _ _ => False }
theorem Cok.inn (c : Cok k X Γ) {s : Shared} {H : Hp} {scope : Scope} {cenv : Env} {fp : List Addr} {G0 H0 : Hp} (gh : Same G0 H0) : Cok k (X.blk s H scope cenv fp) (Γ.inn G0 H0) :=
  ⟨c.calm, c.nd, c.room, gh, PassesOwn.never, c.bl, fun σ pins H s e s' I q => by
    obtain ⟨_, _, _, cls, d, _, _, _, _, _, _, _, z⟩ := q
    obtain ⟨_, _, _, _, _, z⟩ := z
    exact z.elim⟩
/-- a list at p is laid aside, kept as it is -/
theorem At.aside {K : PySem.W.Frag} {ρ : Ro} {σ : L2.St} {G H : Hp} {p : Addr} {o : HO} (a : At K Γ ρ σ G H) (hp : H p = some o) (g0 : G p = none) (gg : Γ.G0 p = none) (hno : ∀ (j : Nat) dj, ρ[j]? = some (.own dj) → σ[j]? ≠ some (some (.ref p))) :
    At K (Γ.inn Γ.G0 (upd Γ.H0 p o)) ρ σ G H where
  len := a.len
  sl := fun i s u e1 e2 => by
    have q := a.sl i s u e1 e2
    cases s with
    | non => exact True.intro
    | val d => exact q
    | seq ds => exact q
    | own d =>
      obtain ⟨p', e, q1, q2, q3⟩ := q
      have ne : p' ≠ p := fun z => by
        subst z
        subst e
        exact hno i d e1 e2
      exact ⟨p', e, q1, by show upd Γ.H0 p o p' = none; rw [upd_ne ne]; exact q2, q3⟩
  sep := a.sep
  sub := a.sub
  old := fun b hb => by
    by_cases e : b = p
    · subst e; rw [g0]; exact gg.symm
    · exact a.old b (by have hb : upd Γ.H0 p o b ≠ none := hb; rw [upd_ne e] at hb; exact hb)
  kept := fun b u q => by
    have q : upd Γ.H0 p o b = some u := q
    by_cases e : b = p
    · subst e; rw [upd_same] at q; rw [hp]; exact q
    · rw [upd_ne e] at q; exact a.kept b u q
  inh := a.inh
  bas := a.bas
theorem At.back {K : PySem.W.Frag} {ρ : Ro} {σ : L2.St} {G H : Hp} {p : Addr} {o : HO} (a : At K (Γ.inn Γ.G0 (upd Γ.H0 p o)) ρ σ G H) (h0 : Γ.H0 p = none) (gg : Γ.G0 p = none) : At K Γ ρ σ G H ∧ H p = some o ∧ G p = none ∧ ∀ (j : Nat) dj, ρ[j]? = some (.own dj) → σ[j]? ≠ some (some (.ref p)) := by
  refine ⟨⟨a.len, fun i s u e1 e2 => ?_, a.sep, a.sub, fun b hb => ?_, fun b u q => ?_, a.inh, a.bas⟩, a.kept p o upd_same, ?_, fun j dj e1 e2 => ?_⟩
  · have q := a.sl i s u e1 e2
    cases s with
    | non => exact True.intro
    | val d => exact q
    | seq ds => exact q
    | own d =>
      obtain ⟨p', e, q1, q2, q3⟩ := q
      have ne : p' ≠ p := fun z => by
        subst z
        have q2 : upd Γ.H0 p' o p' = none := q2
        rw [upd_same] at q2
        cases q2
      exact ⟨p', e, q1, by have q2 : upd Γ.H0 p o p' = none := q2; rw [upd_ne ne] at q2; exact q2, q3⟩
  · have ne : b ≠ p := fun z => by subst z; exact hb h0
    exact a.old b (by show upd Γ.H0 p o b ≠ none; rw [upd_ne ne]; exact hb)
  · have ne : b ≠ p := fun z => by subst z; rw [h0] at q; cases q
    exact a.kept b u (by show upd Γ.H0 p o b = some u; rw [upd_ne ne]; exact q)
  · rw [a.old p (by show upd Γ.H0 p o p ≠ none; rw [upd_same]; exact fun z => nomatch z)]
    exact gg
  · obtain ⟨p', e, q1, q2, _⟩ := a.own e1
    rw [e2] at e
    cases e
    have q2 : upd Γ.H0 p o p = none := q2
    rw [upd_same] at q2
    cases q2
/-- a thing at p, that no slot holds, is changed -/
theorem At.poke {K : PySem.W.Frag} {ρ : Ro} {σ : L2.St} {G H : Hp} {p : Addr} {o : HO} (a : At K Γ ρ σ G H) (g0 : G p = none) (h0 : Γ.H0 p = none) (hno : ∀ (j : Nat) dj, ρ[j]? = some (.own dj) → σ[j]? ≠ some (some (.ref p))) : At K Γ ρ σ G (upd H p o) where
  len := a.len
  sl := fun i s u e1 e2 => by
    have q := a.sl i s u e1 e2
    cases s with
    | non => exact True.intro
    | val d => exact q
    | seq ds => exact q
    | own d =>
      obtain ⟨p', e, q1, q2, q3⟩ := q
      have ne : p' ≠ p := fun z => by
        subst z
        subst e
        exact hno i d e1 e2
      exact ⟨p', e, q1, q2, q3.mono (Same.refl _) (upd_ne ne)⟩
  sep := a.sep
  sub := fun b u q => by rw [upd_ne (ne_of_none q g0)]; exact a.sub b u q
  old := a.old
  kept := fun b u q => by rw [upd_ne (ne_of_none q h0)]; exact a.kept b u q
  inh := a.inh
  bas := a.bas
structure DTs (X : Cx) (Γ : Gm) (ifs : List Expr) (t : TT') : Prop where
  pt : PTs X ifs (rdT X.K Γ t)
theorem pts_imp {X : Cx} {e : List Expr} {t t' : TT} (h : PTs X e t) (i : ∀ σ H Q, t' σ H Q → t σ H Q) : PTs X e t' := ⟨fun pins s σ H Q I q => h.run pins s σ H Q I (i σ H Q q)⟩
def tYesD : TT' := fun ρ Q => Q true ρ
theorem dts_nil : DTs X Γ [] tYesD := ⟨pts_imp pts_nil fun σ H Q ⟨ρ, G, k, at_, h, fin⟩ => fin _ _ _ _ h at_ (Same.refl _)⟩
theorem dts_one {c : Expr} {t : TT'} (h : DT X Γ c t) : DTs X Γ [c] t := ⟨pts_one h.pt⟩
/-- [e for tg in ..]: I, by what is still to come and what is made -/
def dLc (ti : TI') (g : Hp → Hp → TDG) (tt : Hp → Hp → TT') (te : Hp → Hp → TD) (vs : List Nat) : TD := fun ρ Q => ti ρ fun ds ρ1 => ∃ I : List D → List D → Ro → Prop, I ds [] (wipeR ρ1 vs) ∧
  (∀ x r acc ρ, I (x :: r) acc ρ → ∀ G0 H0, g G0 H0 x ρ fun ρ2 => tt G0 H0 ρ2 fun b ρ3 => brn b (te G0 H0 ρ3 fun y ρ4 => acc.length < 16777216 ∧ I r (acc ++ [y]) (wipeR ρ4 vs)) (I r acc (wipeR ρ3 vs))) ∧
  ∀ acc ρ, I [] acc ρ → Q (.list acc) ρ
theorem wipeR_wipeR {ρ : Ro} {vs : List Nat} : wipeR (wipeR ρ vs) vs = wipeR ρ vs := by
  apply List.ext_getElem?
  intro i
  by_cases hi : i ∈ vs
  · have l : (wipeR (wipeR ρ vs) vs).length = (wipeR ρ vs).length := wipeR_length _ _
    cases h : (wipeR (wipeR ρ vs) vs)[i]? with
    | none => rw [List.getElem?_eq_none_iff] at h; rw [List.getElem?_eq_none (by omega)]
    | some s =>
      rw [wipeR_in h hi]
      have l2 := (List.getElem?_eq_some_iff.mp h).1
      cases h2 : (wipeR ρ vs)[i]? with
      | none => rw [List.getElem?_eq_none_iff] at h2; omega
      | some s2 => rw [wipeR_in h2 hi]
  · rw [wipeR_out hi]
theorem lc_rd {ti : TI'} {g : Hp → Hp → TDG} {tt : Hp → Hp → TT'} {te : Hp → Hp → TD} {vs js : List Nat} {K : PySem.W.Frag} (hI : ∀ i ∈ Γ.I, i ∉ vs) (hj : ∀ i ∈ js, i ∈ vs) (g00 : Same Γ.G0 Γ.H0)
    {wg : TG} {wt : TT} {we : TE} (hg : ∀ G0 H0, Same G0 H0 → ∀ v σ H Q, rdG K (Γ.inn G0 H0) js (g G0 H0) v σ H Q → wg v σ H Q) (ht : ∀ G0 H0, Same G0 H0 → ∀ σ H Q, rdT K (Γ.inn G0 H0) (tt G0 H0) σ H Q → wt σ H Q) (he : ∀ G0 H0, Same G0 H0 → ∀ σ H Q, rdE K (Γ.inn G0 H0) (te G0 H0) σ H Q → we σ H Q)
    {σ : L2.St} {H : Hp} {Q : VK} (h : rdF K Γ (dLc ti g tt te vs) σ H Q) : tLc (rdI K Γ ti) wg wt we vs σ H Q := by
  obtain ⟨ρ, G, k, at_, h, fin⟩ := h
  refine ⟨ρ, G, _, at_, h, fun ds ρ1 J G1 H1 ⟨I, h1, h2, h3⟩ a1 s1 j => fun p hp => ?_⟩
  have h0 : Γ.H0 p = none := a1.kept.free hp
  have g0 : Γ.G0 p = none := g00.free h0
  have aw := a1.wipe (τ := σ) (vs := vs) hI rfl fun _ _ => rfl
  obtain ⟨a2, q1, q2, q3⟩ := aw.fresh (o := .lst []) hp
  have sg : ∀ o, Same Γ.G0 (upd Γ.H0 p o) := fun o b u q => by rw [upd_ne (ne_of_none q g0)]; exact g00 b u q
  refine ⟨fun i m H' => m = ds.length - i ∧ i ≤ ds.length ∧ ∃ ρ' G' acc xs, At K Γ ρ' σ G' H' ∧ wipeR ρ' vs = ρ' ∧ Same G1 G' ∧ H' p = some (.lst xs) ∧ G' p = none ∧ IsAll K G' xs acc ∧ (∀ (j : Nat) dj, ρ'[j]? = some (.own dj) → σ[j]? ≠ some (some (.ref p))) ∧ I (ds.drop i) acc ρ',
    ⟨ds.length, by simp, Nat.zero_le _, _, G1, [], [], a2, wipeR_wipeR, Same.refl _, upd_same, q1, .nil, q3, h1⟩, ?_⟩
  rintro i m H' ⟨rfl, hi, ρ', G', acc, xs, a', hw, s', hp', gp', ra, hno, hI'⟩
  by_cases hlt : i < ds.length
  · refine .inr ⟨j.go i H' G' s' a'.sub hlt, fun H2 => ∃ ρ' G' acc xs, At K Γ ρ' σ G' H2 ∧ wipeR ρ' vs = ρ' ∧ Same G1 G' ∧ H2 p = some (.lst xs) ∧ G' p = none ∧ IsAll K G' xs acc ∧ (∀ (j : Nat) dj, ρ'[j]? = some (.own dj) → σ[j]? ≠ some (some (.ref p))) ∧ I (ds.drop (i + 1)) acc ρ',
      fun H2 ⟨ρ2, G2, acc2, xs2, r⟩ => ⟨ds.length - (i + 1), by omega, rfl, hlt, ρ2, G2, acc2, xs2, r⟩, fun x H2 y => ?_⟩
    obtain ⟨d, G2, hd, g2, r2⟩ := j.yld i H' G' x H2 s' a'.sub hlt y
    have e : ds.drop i = d :: ds.drop (i + 1) := by
      rw [List.drop_eq_getElem_cons hlt]
      rw [List.getElem?_eq_getElem hlt] at hd
      rw [Option.some.inj hd]
    rw [e] at hI'
    have a3 := a'.grow g2
    have s3 := s'.trans g2.gg
    have hp3 : H2 p = some (.lst xs) := g2.hh p _ hp'
    have gp3 : G2 p = none := by rw [g2.new p (some_ne hp')]; exact gp'
    have ra3 := ra.mono g2.gg
    -- inside: the new list laid aside
    have a4 := a3.aside hp3 gp3 g0 hno
    have a5 := a4.wipe (τ := wipe σ vs) (vs := vs) hI (wipe_length _ _) fun i hi => wipe_out' hi
    rw [hw] at a5
    refine hg Γ.G0 (upd Γ.H0 p (.lst xs)) (sg _) x (wipe σ vs) H2 _ ⟨ρ', G2, d, _, a5, r2, h2 d _ acc ρ' hI' _ _, fun ρ6 σ6 h6 a6 l6 f6 => ?_⟩
    have l6' : σ6.length = σ.length := l6.trans (wipe_length _ _)
    have f6' : ∀ i, i ∉ vs → σ6[i]? = σ[i]? := fun i hi => (f6 i fun z => hi (hj i z)).trans (wipe_out' hi)
    -- behind the turn
    have after : ∀ {ρ8 : Ro} {G8 H8 : Hp} {xs' : List V} {acc' : List D}, At K (Γ.inn Γ.G0 (upd Γ.H0 p (.lst xs))) ρ8 σ6 G8 H8 → Same G2 G8 → IsAll K G8 xs' acc' → I (ds.drop (i + 1)) acc' (wipeR ρ8 vs) →
        ∃ ρ' G' acc xs, At K Γ ρ' σ G' (upd H8 p (.lst xs')) ∧ wipeR ρ' vs = ρ' ∧ Same G1 G' ∧ (upd H8 p (.lst xs')) p = some (.lst xs) ∧ G' p = none ∧ IsAll K G' xs acc ∧ (∀ (j : Nat) dj, ρ'[j]? = some (.own dj) → σ[j]? ≠ some (some (.ref p))) ∧ I (ds.drop (i + 1)) acc ρ' := by
      intro ρ8 G8 H8 xs' acc' a8 s8 r8 i8
      obtain ⟨b8, e8, g8, n8⟩ := a8.back h0 g0
      have c8 := b8.wipe (τ := σ) (vs := vs) hI l6'.symm fun i hi => (f6' i hi).symm
      have n8' : ∀ (j : Nat) dj, (wipeR ρ8 vs)[j]? = some (.own dj) → σ[j]? ≠ some (some (.ref p)) := fun j dj z => by
        have hj : j ∉ vs := fun w => by cases wipeR_in z w
        rw [wipeR_out hj] at z
        rw [← f6' j hj]
        exact n8 j dj z
      exact ⟨_, G8, acc', xs', c8.poke g8 h0 n8', wipeR_wipeR, s3.trans s8, upd_same, g8, r8, n8', i8⟩
    refine ⟨wipe_ext l6' f6', ht Γ.G0 (upd Γ.H0 p (.lst xs)) (sg _) σ6 H2 _ ⟨ρ6, G2, _, a6, h6, fun b ρ7 G7 H7 hb1 a7 s7 => ?_⟩⟩
    cases b with
    | true =>
      refine iteT (he Γ.G0 (upd Γ.H0 p (.lst xs)) (sg _) σ6 H7 _ ⟨ρ7, G7, _, a7, hb1, fun y ρ8 yv G8 H8 ⟨hl, hI8⟩ a8 s8 r8 => ?_⟩)
      obtain ⟨_, e8, _, _⟩ := a8.back h0 g0
      exact ⟨xs, e8, line_lt (by rw [ra3.length]; exact hl), after a8 (s7.trans s8) ((ra3.mono (s7.trans s8)).append (.cons r8 .nil)) hI8⟩
    | false =>
      have q := after a7 s7 (ra3.mono s7) hb1
      obtain ⟨_, e7, _, _⟩ := a7.back h0 g0
      have eu : upd H7 p (.lst xs) = H7 := by
        funext b
        by_cases hb : b = p
        · subst hb; rw [upd_same, e7]
        · rw [upd_ne hb]
      rw [eu] at q
      exact iteF q
  · have e : i = ds.length := by omega
    subst e
    rw [List.drop_length] at hI'
    exact .inl ⟨j.stop H' G' s' a'.sub, fin _ _ _ _ _ (h3 _ _ hI') a' (s1.trans s') gp' h0 (.inl ⟨xs, acc, rfl, hp', ra⟩) hno⟩
end
end Dn
/-! Dn: comprehensions as terms, mutation, calls of defs, defs. -/
namespace Dn
open PySem PySem.Spec PyProof.Rows L2
section
variable {X : Cx} {Γ : Gm} {k : Nat} {a b e : Expr} {es : List Expr} {st : Stmt} {rest body orelse : List Stmt} {pos : Pos} {t u : TDS}
theorem pg_ex {ι : Type} {p : ι → Prop} {tg : Expr} {t : ι → TG} (h : ∀ i, p i → PG X tg (t i)) : PG X tg (fun v σ H Q => ∃ i, p i ∧ t i v σ H Q) := ⟨fun pins s σ H v u Q I r ⟨i, hp, q⟩ => (h i hp).run pins s σ H v u Q I r q⟩
theorem pts_ex {ι : Type} {p : ι → Prop} {es : List Expr} {t : ι → TT} (h : ∀ i, p i → PTs X es (t i)) : PTs X es (fun σ H Q => ∃ i, p i ∧ t i σ H Q) := ⟨fun pins s σ H Q I ⟨i, hp, q⟩ => (h i hp).run pins s σ H Q I q⟩
theorem pe_ex {ι : Type} {p : ι → Prop} {e : Expr} {t : ι → TE} (h : ∀ i, p i → PE X e (t i)) : PE X e (fun σ H Q => ∃ i, p i ∧ t i σ H Q) := ⟨fun pins s σ H Q I ⟨i, hp, q⟩ => (h i hp).run pins s σ H Q I q⟩
/-- the turns' contexts -/
abbrev InBlk (X : Cx) (Γ : Gm) (k : Nat) (scope : Scope) (P : Cx → Gm → Hp → Hp → Prop) : Prop := ∀ (G0 H0 : Hp) (s : Shared) (H : Hp) (C : Addr) (cl : List (Str × Addr)) (fp : List Addr), Cok k (X.blk s H scope (compEnvC scope cl C X.env) fp) (Γ.inn G0 H0) → P (X.blk s H scope (compEnvC scope cl C X.env) fp) (Γ.inn G0 H0) G0 H0
theorem df_lc {elt tg iter : Expr} {ifs : List Expr} {scope : Scope} {own : List (Str × Nat)} {ti : TI'} {js : List Nat} {g : Hp → Hp → TDG} {tt : Hp → Hp → TT'} {te : Hp → Hp → TD} (c : Cok k X Γ) (hi : DI X Γ tg iter ti) (ok : blkC X.N X.env.scope scope own = true)
    (hg : InBlk X Γ k scope fun X Γ G0 H0 => DG X Γ tg js (g G0 H0)) (ht : InBlk X Γ k scope fun X Γ G0 H0 => DTs X Γ ifs (tt G0 H0)) (he : InBlk X Γ k scope fun X Γ G0 H0 => DE X Γ elt (te G0 H0))
    (hI : ∀ i ∈ Γ.I, i ∉ own.map (·.2) := by first | exact fun i hi => absurd hi List.not_mem_nil | exact fun i hi => by cases List.mem_singleton.mp hi; decide) (hj : ∀ i ∈ js, i ∈ own.map (·.2) := by decide) (hs : ∀ x, foldedSetIterable iter X.env x = pure x := by intro _; rfl) :
    DF X Γ (.ListComp elt [⟨tg, iter, ifs, 0⟩] scope pos) (dLc ti g tt te (own.map (·.2))) := by
  refine ⟨pe_imp (pe_lc c.calm c.nd hi.pi (blkOk_by ok) (fun s H C cl fp => pg_ex (ι := Hp × Hp) (p := fun i => Same i.1 i.2) (t := fun i => rdG X.K (Γ.inn i.1 i.2) js (g i.1 i.2)) fun i hp => (hg i.1 i.2 s H C cl fp (c.inn hp)).pg) (fun s H C cl fp => pts_ex (ι := Hp × Hp) (p := fun i => Same i.1 i.2) (t := fun i => rdT X.K (Γ.inn i.1 i.2) (tt i.1 i.2)) fun i hp => (ht i.1 i.2 s H C cl fp (c.inn hp)).pt)
    (fun s H C cl fp => pe_ex (ι := Hp × Hp) (p := fun i => Same i.1 i.2) (t := fun i => rdE X.K (Γ.inn i.1 i.2) (te i.1 i.2)) fun i hp => (he i.1 i.2 s H C cl fp (c.inn hp)).pe) hs) fun σ H Q h => ?_⟩
  exact lc_rd hI hj c.gh (fun G0 H0 hp v σ H Q q => ⟨(G0, H0), hp, q⟩) (fun G0 H0 hp σ H Q q => ⟨(G0, H0), hp, q⟩) (fun G0 H0 hp σ H Q q => ⟨(G0, H0), hp, q⟩) h
/-- name = [.. for ..], on one line, the name a local -/
theorem ds_setLcF {i : Nat} {y : Str} {py spos : Pos} {elt tg iter : Expr} {ifs : List Expr} {scope : Scope} {own : List (Str × Nat)} {ti : TI'} {js : List Nat} {g : Hp → Hp → TDG} {tt : Hp → Hp → TT'} {te : Hp → Hp → TD} (c : Cok k X Γ) (hy : X.N[i]? = some y) (hyl : X.env.scope.names.lookup y = some .local)
    (hsw : swapsWith (.ListComp elt [⟨tg, iter, ifs, 0⟩] scope pos) (some (.Name y py)) spos.line X.env = pure true) (hi : DI X Γ tg iter ti) (ok : blkC X.N X.env.scope scope own = true)
    (hg : InBlk X Γ k scope fun X Γ G0 H0 => DG X Γ tg js (g G0 H0)) (ht : InBlk X Γ k scope fun X Γ G0 H0 => DTs X Γ ifs (tt G0 H0)) (he : InBlk X Γ k scope fun X Γ G0 H0 => DE X Γ elt (te G0 H0))
    (hI : ∀ i ∈ Γ.I, i ∉ own.map (·.2) := by first | exact fun i hi => absurd hi List.not_mem_nil | exact fun i hi => by cases List.mem_singleton.mp hi; decide) (hj : ∀ i ∈ js, i ∈ own.map (·.2) := by decide) (hIi : Γ.I.contains i = false := by rfl) (hs : ∀ x, foldedSetIterable iter X.env x = pure x := by intro _; rfl) :
    DS X Γ (.Assign [.Name y py] (.ListComp elt [⟨tg, iter, ifs, 0⟩] scope pos) spos) (sSetF (dLc ti g tt te (own.map (·.2))) i) := by
  refine ⟨ps_imp (ps_setLc c.calm c.nd hy hyl hsw hi.pi (blkOk_by ok) (fun s H C cl fp => pg_ex (ι := Hp × Hp) (p := fun i => Same i.1 i.2) (t := fun i => rdG X.K (Γ.inn i.1 i.2) js (g i.1 i.2)) fun i hp => (hg i.1 i.2 s H C cl fp (c.inn hp)).pg) (fun s H C cl fp => pts_ex (ι := Hp × Hp) (p := fun i => Same i.1 i.2) (t := fun i => rdT X.K (Γ.inn i.1 i.2) (tt i.1 i.2)) fun i hp => (ht i.1 i.2 s H C cl fp (c.inn hp)).pt)
    (fun s H C cl fp => pe_ex (ι := Hp × Hp) (p := fun i => Same i.1 i.2) (t := fun i => rdE X.K (Γ.inn i.1 i.2) (te i.1 i.2)) fun i hp => (he i.1 i.2 s H C cl fp (c.inn hp)).pe) hs) ?_⟩
  rintro E σ H ⟨ρ, G, R, at_, ok, h⟩
  refine lc_rd (K := X.K) (Γ := Γ) hI hj c.gh (fun G0 H0 hp v σ H Q q => ⟨(G0, H0), hp, q⟩) (fun G0 H0 hp σ H Q q => ⟨(G0, H0), hp, q⟩) (fun G0 H0 hp σ H Q q => ⟨(G0, H0), hp, q⟩) ⟨ρ, G, _, at_, h, fun d ρ' p G' H' hk a' s' g0 h0 own hno => ?_⟩
  exact ok.nx _ _ _ _ (a'.setOwn hIi g0 h0 own hno) s' hk
theorem ds_setLc {i : Nat} {y : Str} {py spos : Pos} {elt tg iter : Expr} {ifs : List Expr} {scope : Scope} {own : List (Str × Nat)} {ti : TI'} {js : List Nat} {g : Hp → Hp → TDG} {tt : Hp → Hp → TT'} {te : Hp → Hp → TD} (c : Cok k X Γ) (hy : X.N[i]? = some y) (hyl : X.env.scope.names.lookup y = some .local)
    (hsw : swapsWith (.ListComp elt [⟨tg, iter, ifs, 0⟩] scope pos) (some (.Name y py)) spos.line X.env = pure true) (hi : DI X Γ tg iter ti) (ok : blkC X.N X.env.scope scope own = true)
    (hg : InBlk X Γ k scope fun X Γ G0 H0 => DG X Γ tg js (g G0 H0)) (ht : InBlk X Γ k scope fun X Γ G0 H0 => DTs X Γ ifs (tt G0 H0)) (he : InBlk X Γ k scope fun X Γ G0 H0 => DE X Γ elt (te G0 H0))
    (hI : ∀ i ∈ Γ.I, i ∉ own.map (·.2) := by first | exact fun i hi => absurd hi List.not_mem_nil | exact fun i hi => by cases List.mem_singleton.mp hi; decide) (hj : ∀ i ∈ js, i ∈ own.map (·.2) := by decide) (hIi : Γ.I.contains i = false := by rfl) (hs : ∀ x, foldedSetIterable iter X.env x = pure x := by intro _; rfl) :
    DS X Γ (.Assign [.Name y py] (.ListComp elt [⟨tg, iter, ifs, 0⟩] scope pos) spos) (sSet (dLc ti g tt te (own.map (·.2))) i) := by
  refine ⟨ps_imp (ps_setLc c.calm c.nd hy hyl hsw hi.pi (blkOk_by ok) (fun s H C cl fp => pg_ex (ι := Hp × Hp) (p := fun i => Same i.1 i.2) (t := fun i => rdG X.K (Γ.inn i.1 i.2) js (g i.1 i.2)) fun i hp => (hg i.1 i.2 s H C cl fp (c.inn hp)).pg) (fun s H C cl fp => pts_ex (ι := Hp × Hp) (p := fun i => Same i.1 i.2) (t := fun i => rdT X.K (Γ.inn i.1 i.2) (tt i.1 i.2)) fun i hp => (ht i.1 i.2 s H C cl fp (c.inn hp)).pt)
    (fun s H C cl fp => pe_ex (ι := Hp × Hp) (p := fun i => Same i.1 i.2) (t := fun i => rdE X.K (Γ.inn i.1 i.2) (te i.1 i.2)) fun i hp => (he i.1 i.2 s H C cl fp (c.inn hp)).pe) hs) ?_⟩
  rintro E σ H ⟨ρ, G, R, at_, ok, h⟩
  refine lc_rd (K := X.K) (Γ := Γ) hI hj c.gh (fun G0 H0 hp v σ H Q q => ⟨(G0, H0), hp, q⟩) (fun G0 H0 hp σ H Q q => ⟨(G0, H0), hp, q⟩) (fun G0 H0 hp σ H Q q => ⟨(G0, H0), hp, q⟩) ⟨ρ, G, _, at_, h, fun d ρ' p G' H' hk a' s' g0 h0 own hno => ?_⟩
  obtain ⟨G2, a2, s2, r2⟩ := a'.give g0 h0 own hno
  exact ok.nx _ _ _ _ (a2.set hIi r2) (s'.trans s2) hk
/-! ### things of one's own, changed -/
def ownL (ρ : Ro) (i : Nat) (k : List D → Prop) : Prop := match ρ[i]? with
  | some (.own (.list xs)) => k xs
  | _ => False
theorem ownL.to {ρ : Ro} {i : Nat} {k : List D → Prop} (h : ownL ρ i k) : ∃ xs, ρ[i]? = some (.own (.list xs)) ∧ k xs := by
  unfold ownL at h
  split at h
  · exact ⟨_, by assumption, h⟩
  · exact h.elim
theorem At.ownLst {K : PySem.W.Frag} {ρ : Ro} {σ : L2.St} {G H : Hp} {i : Nat} {ds : List D} (a : At K Γ ρ σ G H) (h : ρ[i]? = some (.own (.list ds))) : ∃ p xs, σ[i]? = some (some (.ref p)) ∧ H p = some (.lst xs) ∧ IsAll K G xs ds := by
  obtain ⟨p, e, _, _, q⟩ := a.own h
  rcases q with ⟨xs, es, h1, h2, h3⟩ | ⟨_, _, _, h1, _⟩ | ⟨_, _, _, h1, _⟩
  · cases h1
    exact ⟨p, xs, e, h2, h3⟩
  · cases h1
  · cases h1
/-- name[j] = e, a list -/
def sPut (t : TD) (i : Nat) (tj : TB) : TDS := fun R ρ => t ρ fun d ρ1 => ownL ρ1 i fun _ => tj ρ1 fun x ρ2 => withD ρ2 x fun z => asI z fun j => ownL ρ2 i fun xs => optD (ixN xs.length j) fun m => R.nx (ρ2.set i (.own (.list (xs.set m d))))
theorem ds_put {i : Nat} {x : Str} {j : Expr} {p1 p2 : Pos} {t : TD} {tj : TB} (he : DE X Γ e t) (hj : DB X Γ j tj) (hN : X.N[i]? = some x := by rfl) (hv : Vis X.env.scope x := by first | exact Or.inl rfl | exact Or.inr (Or.inl rfl) | exact Or.inr (Or.inr rfl)) (hd : (x == ("__debug__" : Str)) = false := by decide)
    (hcd : (x == ("__classdict__" : Str)) = false := by decide)
    (ha : ∀ v, assign (.Subscript (.Name x p1) j p2) X.env v = (do
      let ov ← holding [v] (eval (.Name x p1) X.env)
      let iv ← holding [v, ov] (eval j X.env)
      standAt p2
      holding [v, ov, iv] (setItem ov iv v)
      release [v, ov, iv] []) := by intro _; rfl)
    (hs : swapsWithSole [.Subscript (.Name x p1) j p2] e pos.line X.env = pure false := by rfl) (hw : swappedStores [.Subscript (.Name x p1) j p2] e X.env = pure none := by rfl)
    (h1 : (assignEach [.Subscript (.Name x p1) j p2] X.env).map (·.2) = [assign (.Subscript (.Name x p1) j p2) X.env] := by rfl) : DS X Γ (.Assign [.Subscript (.Name x p1) j p2] e pos) (sPut t i tj) := by
  refine ⟨ps_imp (ps_asg he.pe (pg_sub (pe_var (i := i) hN hv hd hcd) hj.pe set_list ha) hs hw h1) ?_⟩
  rintro E σ H ⟨ρ, G, R, at_, ok, h⟩
  refine ⟨ρ, G, _, at_, h, fun d ρ1 v G1 H1 h1 a1 s1 r1 => ?_⟩
  obtain ⟨ys, e0, h1⟩ := h1.to
  obtain ⟨p, xs0, hp, _, _⟩ := a1.ownLst e0
  refine ⟨_, hp, ρ1, G1, _, a1, h1, fun y ρ2 w G2 H2 h2 a2 s2 r2 => ?_⟩
  obtain ⟨z, l, h2⟩ := withD.to h2
  obtain ⟨jj, ez, h2⟩ := asI.to h2
  subst ez
  obtain ⟨ds, e3, h2⟩ := ownL.to h2
  obtain ⟨m, e4, h2⟩ := optD.to h2
  obtain ⟨p', xs, hp', hx, rx⟩ := a2.ownLst e3
  rw [hp] at hp'
  cases hp'
  refine ⟨p, xs, jj, m, rfl, (a2.isx r2 l).int, hx, by rw [rx.length]; exact e4, ?_⟩
  exact ok.nx _ _ _ _ (a2.write e3 hp (.inl ⟨_, _, rfl, upd_same, rx.set (r1.mono s2) m⟩)) (s1.trans s2) h2
/-- name.append(e) -/
def sApp (i : Nat) (t : TD) : TDS := fun R ρ => ownL ρ i fun _ => t ρ fun d ρ1 => ownL ρ1 i fun xs => xs.length < 16777216 ∧ R.nx (ρ1.set i (.own (.list (xs ++ [d]))))
theorem ds_app {i : Nat} {x : Str} {p1 apos cpos : Pos} {t : TD} (he : DE X Γ e t) (hN : X.N[i]? = some x := by rfl) (hv : Vis X.env.scope x := by first | exact Or.inl rfl | exact Or.inr (Or.inl rfl) | exact Or.inr (Or.inr rfl)) (hd : (x == ("__debug__" : Str)) = false := by decide)
    (hcd : (x == ("__classdict__" : Str)) = false := by decide)
    (hbase : attributeBase (.Name x p1) "append" X.env (eval (.Name x p1) X.env) = eval (.Name x p1) X.env := by rfl)
    (hfew : ((backTo cpos (starEach [e] X.env)).all (fun x => !x.1) && (backToKw cpos (keywordEach [] X.env)).all (fun x => x.1.isSome)
      && decide ([e].length + ([] : List Keyword).length + (if ([] : List Keyword).isEmpty then 0 else 1) < 30)) = true := by rfl)
    (hline : (apos.endLine == cpos.line) = true := by rfl) (hs : starEach [e] X.env = (false, eval e X.env) :: starEach [] X.env := by rfl) (hplain : (backTo cpos (starEach [] X.env)).any (·.1) = false := by rfl)
    (hsw : swapsWith (.Call (.Attribute (.Name x p1) "append" apos) [e] [] cpos) none pos.line X.env = pure false := by rfl) :
    DS X Γ (.Expr (.Call (.Attribute (.Name x p1) "append" apos) [e] [] cpos) pos) (sApp i t) := by
  have hm : MtR X "list.append" rAppend := fun pins s σ H x xs v us Q I r rs h => mt_append pins s σ H x xs v us Q I r rs h
  refine ⟨ps_imp (ps_expr (pe_bm PySem.F.plainAttrs_list PySem.F.slot_list_append PySem.F.type_list_append hm (pe_var (i := i) hN hv hd hcd) (pa_cons he.pe pa_nil hs) hbase hfew hline hs hplain) hsw) ?_⟩
  rintro E σ H ⟨ρ, G, R, at_, ok, h⟩
  obtain ⟨ys, e0, h⟩ := h.to
  obtain ⟨p, xs0, hp, hx0, _⟩ := at_.ownLst e0
  refine ⟨_, hp, .inl ⟨rfl, _, SqL.of hx0⟩, ρ, G, _, at_, h, fun d ρ1 v G1 H1 h1 a1 s1 r1 => ?_⟩
  obtain ⟨ds, e1, h1⟩ := h1.to
  obtain ⟨p', xs, hp', hx, rx⟩ := a1.ownLst e1
  rw [hp] at hp'
  cases hp'
  refine ⟨p, xs, v, rfl, rfl, hx, line_lt (by rw [rx.length]; exact h1.1), ?_⟩
  exact ok.nx _ _ _ _ (a1.write e1 hp (.inl ⟨_, _, rfl, upd_same, rx.append (.cons r1 .nil)⟩)) s1 h1.2
end
end Dn
/-! Dn: calls of defs, exceptions, defs. -/
namespace Dn
open PySem PySem.Spec PyProof.Rows L2
abbrev DC := List D → (D → Prop) → (Exn → Prop) → Prop
abbrev DCM := D → List D → (D → D → Prop) → Prop
def spOf (K : PySem.W.Frag) (c : DC) : Sp := fun vs H Q E => ∃ G ds kq ke, Same G H ∧ IsAll K G vs ds ∧ c ds kq ke ∧ (∀ d v G' H', kq d → Grow G H G' H' → Is K G' v d → Q v H') ∧
  ∀ ex cls dd G' H', ke ex → Grow G H G' H' → XIs K G' H' cls dd ex → E cls dd H'
/-- what stood grows, the thing at a is changed -/
structure GrowX (a : Addr) (G H G' H' : Hp) : Prop where
  gg : Same G G'
  hh : ∀ b o, b ≠ a → H b = some o → H' b = some o
  gh : Same G' H'
  new : ∀ b, H b ≠ none → G' b = G b
def spOfM (K : PySem.W.Frag) (c : DCM) : Sp := fun vs H Q E => ∃ G d ds a vs' kq, vs = .ref a :: vs' ∧ Same G H ∧ G a = none ∧ Own K G H a d ∧ IsAll K G vs' ds ∧ c d ds kq ∧
  ∀ r d' v G' H', kq r d' → GrowX a G H G' H' → Own K G' H' a d' → Is K G' v r → Q v H'
structure Pf (P : Program) (w : World) (K : PySem.W.Frag) (mg : Str → Option Value) (base : Heap) (k : Nat) (x : Str) (n : Nat) (c : DC) : Prop where
  ex : ∃ f fd ps, ps.length = n ∧ FnOk P w K mg base (L2.CX P w) k f fd ps (spOf K c) ∧ mg x = some (.ref f) ∧ PySem.W.keepIn K (.ref f) = true ∧ Binds K fd ps []
structure PfM (P : Program) (w : World) (K : PySem.W.Frag) (mg : Str → Option Value) (base : Heap) (k : Nat) (x : Str) (n : Nat) (c : DCM) : Prop where
  ex : ∃ f fd ps, ps.length = n ∧ FnOk P w K mg base (L2.CX P w) k f fd ps (spOfM K c) ∧ mg x = some (.ref f) ∧ PySem.W.keepIn K (.ref f) = true ∧ Binds K fd ps []
section
variable {X : Cx} {Γ : Gm} {k j n : Nat} {a b e : Expr} {es : List Expr} {st : Stmt} {rest body orelse : List Stmt} {pos : Pos} {t u : TDS}
def dCall (c : DC) (W : Exn → Ro → Prop) (ta : TDs) : TD := fun ρ Q => ta ρ fun ds ρ1 => c ds (fun d => Q d ρ1) fun ex => W ex ρ1
theorem de_call {x : Str} {c' : DC} {ta : TDs} {p : Pos} (f : Pf X.prog X.w X.K X.mg X.base j x n c') (c : Cok k X Γ) (ha : DL X Γ (e :: es) ta) (hj : j ≤ k := by decide) (hg : Gl X x := by rfl) (hdb : (x == ("__debug__" : Str)) = false := by decide)
    (he : starEach (e :: es) X.env = (false, eval e X.env) :: starEach es X.env := by rfl) (hpl : (backTo pos (starEach es X.env)).any (·.1) = false := by rfl) : DE X Γ (.Call (.Name x p) (e :: es) [] pos) (dCall c' Γ.W ta) := by
  obtain ⟨f, fd, ps, _, F, hm, hk, hb⟩ := f.ex
  refine ⟨pe_imp (pe_callS F (c.room.mono hj) hg hm hk hb c.pa ha.pa hdb he hpl) ?_⟩
  rintro σ H Q ⟨ρ, G, k, at_, h, fin⟩
  exact ⟨ρ, G, _, at_, h, fun ds ρ1 vs G1 H1 h1 _ a1 s1 r1 => ⟨G1, ds, _, _, a1.sub, r1, h1, fun d v G' H' hk g i => fin d ρ1 v G' H' hk (a1.grow g) (s1.trans g.gg) i,
    fun ex cls dd G' H' hk g xi => ⟨ρ1, G', ex, a1.grow g, xi, hk⟩⟩⟩
theorem At.growX {K : PySem.W.Frag} {ρ : Ro} {σ : L2.St} {G H G' H' : Hp} {i : Nat} {d d' : D} {p : Addr} (a : At K Γ ρ σ G H) (h : ρ[i]? = some (.own d)) (hp : σ[i]? = some (some (.ref p))) (g : GrowX p G H G' H') (r : Own K G' H' p d') : At K Γ (ρ.set i (.own d')) σ G' H' := by
  obtain ⟨p', hp', h1, h2, h3⟩ := a.own h
  rw [hp] at hp'
  cases hp'
  obtain ⟨o0, ho0⟩ := h3.some
  have hl := (List.getElem?_eq_some_iff.mp h).1
  refine ⟨by rw [List.length_set]; exact a.len, fun j s u e1 e2 => ?_, fun j k dj dk q e1 e2 e3 e4 => ?_, g.gh, fun b hb => ?_, fun b u q => ?_, a.inh, a.bas.trans g.gg⟩
  · by_cases hj : i = j
    · subst hj
      rw [List.getElem?_set_self hl] at e1
      cases e1
      rw [hp] at e2
      cases e2
      exact ⟨_, rfl, by rw [g.new p (some_ne ho0)]; exact h1, h2, r⟩
    · rw [List.getElem?_set_ne hj] at e1
      have q := a.sl j s u e1 e2
      cases s with
      | non => exact True.intro
      | val d' => obtain ⟨v, e, q⟩ := q; exact ⟨v, e, q.mono g.gg⟩
      | seq ds => obtain ⟨p', xs, e, q1, q2⟩ := q; exact ⟨p', xs, e, g.gg.seq q1, q2.mono g.gg⟩
      | own d' =>
        obtain ⟨p', e, q1, q2, q3⟩ := q
        have ne : p' ≠ p := fun z => by
          subst z
          subst e
          exact hj (a.sep i j _ _ _ h e1 hp e2)
        obtain ⟨w, hw⟩ := q3.some
        exact ⟨p', e, by rw [g.new p' (some_ne hw)]; exact q1, q2, q3.mono g.gg (by rw [hw, g.hh p' w ne hw])⟩
  · have f : ∀ (k : Nat) dk, (ρ.set i (.own d'))[k]? = some (.own dk) → ∃ d2, ρ[k]? = some (.own d2) := fun k dk e => by
      by_cases hk : i = k
      · subst hk
        exact ⟨_, h⟩
      · rw [List.getElem?_set_ne hk] at e
        exact ⟨_, e⟩
    obtain ⟨d2, f1⟩ := f j dj e1
    obtain ⟨d3, f2⟩ := f k dk e2
    exact a.sep j k d2 d3 q f1 f2 e3 e4
  · obtain ⟨o, e⟩ := Option.ne_none_iff_exists'.mp hb
    rw [g.new b (some_ne (a.kept b o e)), a.old b hb]
  · have ne : b ≠ p := fun z => by subst z; rw [h2] at q; cases q
    exact g.hh b u ne (a.kept b u q)
def ownD (ρ : Ro) (i : Nat) (k : D → Prop) : Prop := match ρ[i]? with
  | some (.own d) => k d
  | _ => False
theorem ownD.to {ρ : Ro} {i : Nat} {k : D → Prop} (h : ownD ρ i k) : ∃ d, ρ[i]? = some (.own d) ∧ k d := by
  unfold ownD at h
  split at h
  · exact ⟨_, by assumption, h⟩
  · exact h.elim
def dCallM (c : DCM) (i : Nat) (ta : TDs) : TD := fun ρ Q => ownD ρ i fun _ => ta ρ fun ds ρ1 => ownD ρ1 i fun d => c d ds fun r d' => Q r (ρ1.set i (.own d'))
/-- f(name, ..), what stands under the name is changed by f -/
theorem de_callM {x y : Str} {i : Nat} {c' : DCM} {ta : TDs} {p py : Pos} (f : PfM X.prog X.w X.K X.mg X.base j x n c') (c : Cok k X Γ) (ha : DL X Γ es ta) (hj : j ≤ k := by decide) (hN : X.N[i]? = some y := by rfl) (hv : Vis X.env.scope y := by first | exact Or.inl rfl | exact Or.inr (Or.inl rfl) | exact Or.inr (Or.inr rfl))
    (hd : (y == ("__debug__" : Str)) = false := by decide) (hcd : (y == ("__classdict__" : Str)) = false := by decide) (hg : Gl X x := by rfl) (hdb : (x == ("__debug__" : Str)) = false := by decide)
    (he : starEach (.Name y py :: es) X.env = (false, eval (.Name y py) X.env) :: starEach es X.env := by rfl) (hpl : (backTo pos (starEach es X.env)).any (·.1) = false := by rfl) : DE X Γ (.Call (.Name x p) (.Name y py :: es) [] pos) (dCallM c' i ta) := by
  obtain ⟨f, fd, ps, _, F, hm, hk, hb⟩ := f.ex
  refine ⟨pe_imp (pe_callS F (c.room.mono hj) hg hm hk hb c.pa (pa_cons (pe_var (i := i) hN hv hd hcd) ha.pa he) hdb he hpl) ?_⟩
  rintro σ H Q ⟨ρ, G, k, at_, h, fin⟩
  obtain ⟨d0, e0, h⟩ := h.to
  obtain ⟨q, hq, _⟩ := at_.own e0
  refine ⟨_, hq, ρ, G, _, at_, h, fun ds ρ1 vs G1 H1 h1 _ a1 s1 r1 => ?_⟩
  obtain ⟨d, e1, h1⟩ := h1.to
  obtain ⟨q', hq', g1, _, ow⟩ := a1.own e1
  rw [hq] at hq'
  cases hq'
  exact ⟨G1, d, ds, q, vs, _, rfl, a1.sub, g1, ow, r1, h1, fun r d' v G' H' hk g ow' i => fin r _ v G' H' hk (a1.growX e1 hq g ow') (s1.trans g.gg) i⟩

/-! ### exceptions -/
/-- an own class over ValueError, without __init__ -/
structure ExcF (K : PySem.W.Frag) (mg : Str → Option Value) (x : Str) (C : Addr) : Prop where
  g : mg x = some (.ref C)
  xc : PySem.W.excIn K C [.type "ValueError", .type "Exception", .type "BaseException", .type "object"] "ValueError.__new__" = true
  k : PySem.W.keepIn K (.ref C) = true
  sb : PySem.W.subIn K (.ref C) (.type "BaseException") = some true
  ty : PySem.W.typeIn K (.ref C) = some (.type "type")
  xm : PySem.W.exmOne K (.ref C) (.ref C) = some true
theorem pmk_own0 {x : Str} {C : Addr} {p pos : Pos} (f : ExcF X.K X.mg x C) (hg : Gl X x) (hdb : (x == ("__debug__" : Str)) = false := by decide) : PMk X (.Call (.Name x p) [] [] pos) (fun _ H Q => Q (.ref C) none H) := by
  intro pins s σ H Q I h
  refine wpAny_Call_Name_kw (ld_glob I hg f.g ?_ hdb)
  refine PySem.W.callWith_K0 I.kIn f.k ?_
  show wpAny _ _ (call (.ref C) []) _ _ _
  obtain ⟨bm, N, nm, qn, bs, hdct, sn, sub, ab, col, dd, k0, k1, k2, k3, k5, mN, hC, hN, hni, T⟩ := exc_obj I.kIn f.xc
  refine wpAny_call_exc_subT PySem.F.excBase_ValueError T hC hN hni (fun h' e hm => ?_) (by show 0 ≤ sizeLine; exact Nat.zero_le _)
  exact mk_of I hm (raises_own f.sb f.ty) h (I.hok.gone hm.new)
def sRaise (C : Addr) (W : Exn → Ro → Prop) : TDS := fun _ ρ => W (.plain C) ρ
theorem ds_raise {x : Str} {C : Addr} {p p2 : Pos} (f : ExcF X.K X.mg x C) (c : Cok k X Γ) (tk : Takes X (liftW X.K Γ)) (hg : Gl X x := by rfl) (hdb : (x == ("__debug__" : Str)) = false := by decide) : DS X Γ (.Raise (some (.Call (.Name x p) [] [] p2)) none pos) (sRaise C Γ.W) := by
  refine ⟨ps_imp (ps_raise c.calm tk (pmk_own0 f hg hdb)) ?_⟩
  rintro E σ H ⟨ρ, G, R, at_, ok, h⟩
  exact ⟨ρ, G, .plain C, at_, ⟨rfl, rfl⟩, h⟩
theorem ds_dead : DS X Γ st fun _ _ => False := ⟨ps_imp ps_never fun E σ H ⟨ρ, G, R, at_, ok, h⟩ => h⟩
def Exn.cls : Exn → Value
  | .plain C => .ref C
  | .low C _ _ => .ref C
abbrev Gm.wi (Γ : Gm) (B : Hp) (W : Exn → Ro → Prop) : Gm := { Γ with B := B, W := W }
theorem pss_ex {ι : Type} {p : ι → Prop} {st : List Stmt} {t : ι → TS} (h : ∀ i, p i → PSs X st (t i)) : PSs X st (fun D σ H => ∃ i, p i ∧ t i D σ H) := ⟨fun pins s σ H D I ⟨i, hp, q⟩ => (h i hp).run pins s σ H D I q⟩
theorem At.wi {K : PySem.W.Frag} {ρ : Ro} {σ : L2.St} {G H : Hp} (a : At K Γ ρ σ G H) {W : Exn → Ro → Prop} : At K (Γ.wi G W) ρ σ G H := ⟨a.len, a.sl, a.sep, a.sub, a.old, a.kept, a.inh, Same.refl _⟩
theorem At.uw {K : PySem.W.Frag} {ρ : Ro} {σ : L2.St} {G H B : Hp} {W : Exn → Ro → Prop} (a : At K (Γ.wi B W) ρ σ G H) (h : Same Γ.B B) : At K Γ ρ σ G H := ⟨a.len, a.sl, a.sep, a.sub, a.old, a.kept, a.inh, h.trans a.bas⟩
/-- try: body, except x: suite -/
def sTry (K : PySem.W.Frag) (C : Value) (W : Exn → Ro → Prop) (T : Hp → (Exn → Ro → Prop) → TDS) (Ts : TDS) : TDS := fun R ρ => ∀ B, T B (fun ex ρ' => ∃ b, PySem.W.exmOne K ex.cls C = some b ∧ (b = true → Ts R ρ') ∧ (b = false → W ex ρ')) R ρ
theorem XIs.cls {K : PySem.W.Frag} {G H : Hp} {cls : Value} {d : Option Addr} {ex : Exn} (h : XIs K G H cls d ex) : cls = ex.cls := by
  cases ex with
  | plain C => exact h.1
  | low C f x => exact h.1
theorem ds_try {x : Str} {C : Value} {body suite : List Stmt} {b₀ : Stmt} {np pos' : Pos} {T : Hp → (Exn → Ro → Prop) → TDS} {Ts : TDS} (c : Cok k X Γ) (tk : Takes X (liftW X.K Γ)) (hc : Names X x C) (hs : X.stack = X.env :: X.outer) (hf : X.env.frame = some X.env.locals)
    (hb : ∀ (B : Hp) (W : Exn → Ro → Prop) (pn : List (Addr × Obj)) (xe : Value → Shared → Prop), Cok k (X.tr pn xe) (Γ.wi B W) → Takes (X.tr pn xe) (liftW X.K (Γ.wi B W)) → DSs (X.tr pn xe) (Γ.wi B W) body (T B W))
    (hsu : ∀ (a : Addr) (pn : List (Addr × Obj)), DSs (X.suite a pn) Γ (b₀ :: suite) Ts) :
    DS X Γ (.Try body [.ExceptHandler (some (.Name x np)) none (b₀ :: suite) pos'] [] [] pos) (sTry X.K C Γ.W T Ts) := by
  refine ⟨ps_imp (ps_try_only hs hf hc tk (tb := fun W E σ H => ∃ i : Hp × (Exn → Ro → Prop), (∀ cls d σ H, liftW X.K (Γ.wi i.1 i.2) cls d σ H → W cls d σ H) ∧ rdS X.K (Γ.wi i.1 i.2) (T i.1 i.2) E σ H) (ts := fun _ _ _ => rdS X.K Γ Ts)
    (fun W pn xe tk' po' => pss_ex fun i hW => ?_) (fun a oe cls d pn _ _ => (hsu a ((a, oe) :: pn)).ps)) ?_⟩
  · have tk2 : Takes (X.tr pn xe) (liftW X.K (Γ.wi i.1 i.2)) := tk'.imp hW
    exact (hb i.1 i.2 pn xe ⟨c.calm, c.nd, c.room, c.gh, po', c.bl, fun σ => passAt tk2 σ⟩ tk2).ps
  · rintro E σ H ⟨ρ, G, R, at_, ok, h⟩
    refine ⟨(G, fun ex ρ' => ∃ b, PySem.W.exmOne X.K ex.cls C = some b ∧ (b = true → Ts R ρ') ∧ (b = false → Γ.W ex ρ')), ?_, ρ, G, R, at_.wi, ?_, h G⟩
    · rintro cls d σ' H' ⟨ρ', G', ex, a', xi, b, h1, h2, h3⟩
      have a2 := a'.uw at_.bas
      rw [xi.cls]
      exact ⟨b, h1, fun hb a _ => ⟨ρ', G', R, a2, ok.mono a'.bas, h2 hb⟩, fun hb => ⟨ρ', G', ex, a2, xi.cls ▸ xi, h3 hb⟩⟩
    · exact ⟨fun ρ' σ' G' H' a' s' q => ok.nx _ _ _ _ (a'.uw at_.bas) s' q, fun d v ρ' σ' G' H' a' s' r q => ok.rt _ _ _ _ _ _ (a'.uw at_.bas) s' r q, fun ρ' σ' G' H' a' s' q => ok.bk _ _ _ _ (a'.uw at_.bas) s' q, fun ρ' σ' G' H' a' s' q => ok.ct _ _ _ _ (a'.uw at_.bas) s' q⟩
end

/-! ### defs -/
section
variable {P : Program} {w : World} {K : PySem.W.Frag} {mg : Str → Option Value} {base : Heap}
def startR (n : Nat) (ds : List D) : Ro := ds.map .val ++ List.replicate (n - ds.length) .non
theorem at_start {N : List Str} {vs : List V} {ds : List D} {G H : Hp} {W : Exn → Ro → Prop} (s : Same G H) (r : IsAll K G vs ds) : At K ⟨G, G, H, [], fun _ => 0, W⟩ (startR N.length ds) (L2.start N vs) G H where
  len := by
    unfold startR L2.start
    rw [List.length_append, List.length_append, List.length_map, List.length_map, List.length_replicate, List.length_replicate, r.length]
  sl := fun i sl o e1 e2 => by
    have hl := r.length
    unfold startR at e1
    unfold L2.start at e2
    by_cases hi : i < ds.length
    · rw [List.getElem?_append_left (by simpa using hi), List.getElem?_map] at e1
      rw [List.getElem?_append_left (by rw [List.length_map, hl]; exact hi), List.getElem?_map] at e2
      cases h1 : vs[i]? with
      | none => rw [List.getElem?_eq_none_iff] at h1; omega
      | some v =>
        obtain ⟨d, h2, h3⟩ := r.get h1
        rw [h2] at e1
        rw [h1] at e2
        cases e1; cases e2
        exact ⟨v, rfl, h3⟩
    · rw [List.getElem?_append_right (by simpa using hi), List.getElem?_replicate] at e1
      split at e1
      · cases e1; exact True.intro
      · cases e1
  sep := fun i j di dj p e1 _ _ _ => by
    unfold startR at e1
    by_cases hi : i < ds.length
    · rw [List.getElem?_append_left (by simpa using hi), List.getElem?_map] at e1
      cases h : ds[i]? with
      | none => rw [h] at e1; cases e1
      | some d => rw [h] at e1; cases e1
    · rw [List.getElem?_append_right (by simpa using hi), List.getElem?_replicate] at e1
      split at e1 <;> cases e1
  sub := s
  old := fun _ _ => rfl
  kept := Same.refl _
  inh := fun i hi => nomatch hi
  bas := Same.refl _
theorem At.toGrow {Γ : Gm} {ρ : Ro} {σ : L2.St} {G H G' H' : Hp} (a : At K Γ ρ σ G' H') (h0 : Γ.H0 = H) (g0 : Γ.G0 = G) (s : Same G G') : Grow G H G' H' :=
  ⟨s, h0 ▸ a.kept, a.sub, fun b hb => by rw [← g0]; exact a.old b (by rw [h0]; exact hb)⟩
abbrev cxD (P : Program) (w : World) (K : PySem.W.Frag) (mg : Str → Option Value) (base : Heap) (N : List Str) (qual : Str) (st : Stmt) (f : Addr) (cdv : Value) (A : Around) (outer : List Env) (s : Shared) (H : Hp) (E : XK) : Cx := cxOf (L2.CX P w) P w K mg base N qual (defScope st) f cdv A outer s H E
/-- a def of data -/
theorem pf_of {x qual : Str} {st : Stmt} {f : Addr} {fd : FuncData} {N ps : List Str} {k n : Nat} {c : DC} (F : Fun K x qual st f fd) (S : FnScope N ps (defScope st)) (hn : ps.length = n) (hm : mg x = some (.ref f)) (hb : Binds K fd ps [])
    (bl : ∀ x : Str, bnames.contains x = true → mg x = none) (len : ∀ ds kq ke, c ds kq ke → ds.length = n)
    (body : ∀ (cdv : Value) (A : Around) (outer : List Env) (s : Shared) (H G : Hp) (E : XK) (ds : List D) (kq : D → Prop) (ke : Exn → Prop), c ds kq ke → Cok k (cxD P w K mg base N qual st f cdv A outer s H E) ⟨G, G, H, [], fun _ => 0, fun ex _ => ke ex⟩ →
      Takes (cxD P w K mg base N qual st f cdv A outer s H E) (liftW K ⟨G, G, H, [], fun _ => 0, fun ex _ => ke ex⟩) →
      ∃ T, DSs (cxD P w K mg base N qual st f cdv A outer s H E) ⟨G, G, H, [], fun _ => 0, fun ex _ => ke ex⟩ (defBody st) T ∧ T { nx := fun _ => kq .none, rt := fun d _ => kq d } (startR N.length ds)) : Pf P w K mg base (k + 1) x n c := by
  refine ⟨f, fd, ps, hn, F.okX S (fun vs H Q E ⟨G, ds, kq, ke, _, r, hc, _⟩ => by rw [r.length, len _ _ _ hc, hn]) (fun cdv A outer s H vs Q E hr hsp => ?_), hm, F.kp, hb⟩
  obtain ⟨G, ds, kq, ke, sGH, r, hc, hq, he⟩ := hsp
  have tk : Takes (cxD P w K mg base N qual st f cdv A outer s H E) (liftW K ⟨G, G, H, [], fun _ => 0, fun ex _ => ke ex⟩) := by
    refine (takes_of (E := E) rfl rfl rfl rfl).imp ?_
    rintro cls d σ' H' ⟨ρ', G', ex, a', xi, hw⟩
    exact he ex cls d G' H' hw (a'.toGrow rfl rfl a'.bas) xi
  obtain ⟨T, h1, h2⟩ := body cdv A outer s H G E ds kq ke hc ⟨rfl, S.nd, hr, sGH, PassesOwn.leaving, bl, fun σ => passAt tk σ⟩ tk
  refine ⟨_, h1.ps, startR N.length ds, G, _, at_start sGH r, ⟨?_, ?_, ?_, ?_⟩, h2⟩
  · intro ρ' σ' G' H' a' s' q
    exact hq .none .non G' H' q (a'.toGrow rfl rfl s') .non
  · intro d v ρ' σ' G' H' a' s' i q
    exact hq d v G' H' q (a'.toGrow rfl rfl s') i
  · intro ρ' σ' G' H' a' s' q
    exact q.elim
  · intro ρ' σ' G' H' a' s' q
    exact q.elim
def hide (H : Hp) (a : Addr) : Hp := fun b => if b = a then none else H b
theorem hide_same {H : Hp} {a : Addr} : hide H a a = none := if_pos rfl
theorem hide_ne {H : Hp} {a b : Addr} (h : b ≠ a) : hide H a b = H b := if_neg h
theorem at_startM {N : List Str} {vs : List V} {ds : List D} {d : D} {a : Addr} {G H : Hp} (s : Same G H) (g : G a = none) (o : Own K G H a d) (r : IsAll K G vs ds) : At K ⟨G, G, hide H a, [0], fun _ => a, fun _ _ => False⟩ (.own d :: startR (N.length - 1) ds) (L2.start N (.ref a :: vs)) G H where
  len := by
    unfold startR L2.start
    rw [List.length_append, List.length_map, List.length_replicate, List.length_cons, List.length_cons, List.length_append, List.length_map, List.length_replicate, r.length]
    omega
  sl := fun i sl u e1 e2 => by
    have hl := r.length
    unfold startR at e1
    unfold L2.start at e2
    cases i with
    | zero =>
      rw [List.getElem?_cons_zero] at e1
      rw [List.map_cons, List.cons_append, List.getElem?_cons_zero] at e2
      cases e1; cases e2
      exact ⟨a, rfl, g, hide_same, o⟩
    | succ i =>
      rw [List.getElem?_cons_succ] at e1
      rw [List.map_cons, List.cons_append, List.getElem?_cons_succ] at e2
      by_cases hi : i < ds.length
      · rw [List.getElem?_append_left (by simpa using hi), List.getElem?_map] at e1
        rw [List.getElem?_append_left (by rw [List.length_map, hl]; exact hi), List.getElem?_map] at e2
        cases h1 : vs[i]? with
        | none => rw [List.getElem?_eq_none_iff] at h1; omega
        | some v =>
          obtain ⟨d, h2, h3⟩ := r.get h1
          rw [h2] at e1
          rw [h1] at e2
          cases e1; cases e2
          exact ⟨v, rfl, h3⟩
      · rw [List.getElem?_append_right (by simpa using hi), List.getElem?_replicate] at e1
        split at e1
        · cases e1; exact True.intro
        · cases e1
  sep := fun i j di dj p e1 e2 _ _ => by
    have f : ∀ (i : Nat) dd, (Sl.own d :: startR (N.length - 1) ds)[i]? = some (.own dd) → i = 0 := fun i dd e => by
      cases i with
      | zero => rfl
      | succ i =>
        rw [List.getElem?_cons_succ] at e
        unfold startR at e
        by_cases hi : i < ds.length
        · rw [List.getElem?_append_left (by simpa using hi), List.getElem?_map] at e
          cases h : ds[i]? with
          | none => rw [h] at e; cases e
          | some d => rw [h] at e; cases e
        · rw [List.getElem?_append_right (by simpa using hi), List.getElem?_replicate] at e
          split at e <;> cases e
    rw [f i di e1, f j dj e2]
  sub := s
  old := fun _ _ => rfl
  kept := fun b u q => by
    have q : hide H a b = some u := q
    by_cases e : b = a
    · subst e; rw [hide_same] at q; cases q
    · rw [hide_ne e] at q; exact q
  inh := fun i hi => by
    have e : i = 0 := by simpa using hi
    subst e
    unfold L2.start
    rfl
  bas := Same.refl _
/-- a def whose first argument is its caller's own thing, which it changes -/
theorem pf_ofM {x qual : Str} {st : Stmt} {f : Addr} {fd : FuncData} {N ps : List Str} {k n : Nat} {c : DCM} (F : Fun K x qual st f fd) (S : FnScope N ps (defScope st)) (hn : ps.length = n + 1) (hm : mg x = some (.ref f)) (hb : Binds K fd ps [])
    (bl : ∀ x : Str, bnames.contains x = true → mg x = none) (len : ∀ d ds kq, c d ds kq → ds.length = n)
    (body : ∀ (cdv : Value) (A : Around) (outer : List Env) (s : Shared) (H G : Hp) (a : Addr) (E : XK) (d : D) (ds : List D) (kq : D → D → Prop), c d ds kq → Cok k (cxD P w K mg base N qual st f cdv A outer s H E) ⟨G, G, hide H a, [0], fun _ => a, fun _ _ => False⟩ →
      Takes (cxD P w K mg base N qual st f cdv A outer s H E) (liftW K ⟨G, G, hide H a, [0], fun _ => a, fun _ _ => False⟩) →
      ∃ T, DSs (cxD P w K mg base N qual st f cdv A outer s H E) ⟨G, G, hide H a, [0], fun _ => a, fun _ _ => False⟩ (defBody st) T ∧ T { nx := fun ρ => ownD ρ 0 fun d' => kq .none d', rt := fun r ρ => ownD ρ 0 fun d' => kq r d' } (.own d :: startR (N.length - 1) ds)) : PfM P w K mg base (k + 1) x (n + 1) c := by
  refine ⟨f, fd, ps, hn, F.okX S (fun vs H Q E ⟨G, d, ds, a, vs', kq, e, _, _, _, r, hc, _⟩ => by rw [e, List.length_cons, r.length, len _ _ _ hc, hn]) (fun cdv A outer s H vs Q E hr hsp => ?_), hm, F.kp, hb⟩
  obtain ⟨G, d, ds, a, vs', kq, rfl, sGH, ga, ow, r, hc, hq⟩ := hsp
  have tk : Takes (cxD P w K mg base N qual st f cdv A outer s H E) (liftW K ⟨G, G, hide H a, [0], fun _ => a, fun _ _ => False⟩) := by
    refine (takes_of (E := E) rfl rfl rfl rfl).imp ?_
    rintro cls d σ' H' ⟨ρ', G', ex, a', xi, hw⟩
    exact hw.elim
  have gh : Same G (hide H a) := fun b u q => by rw [hide_ne (ne_of_none q ga)]; exact sGH b u q
  obtain ⟨T, h1, h2⟩ := body cdv A outer s H G a E d ds kq hc ⟨rfl, S.nd, hr, gh, PassesOwn.leaving, bl, fun σ => passAt tk σ⟩ tk
  have fin : ∀ {v : V} {dr : D} {ρ' : Ro} {σ' : L2.St} {G' H' : Hp}, At K ⟨G, G, hide H a, [0], fun _ => a, fun _ _ => False⟩ ρ' σ' G' H' → Same G G' → Is K G' v dr → ownD ρ' 0 (fun d' => kq dr d') → Q v H' := by
    intro v dr ρ' σ' G' H' a' s' i q
    obtain ⟨d', e, q⟩ := q.to
    obtain ⟨p, e1, g1, _, ow'⟩ := a'.own e
    have e2 := a'.inh 0 (by simp)
    rw [e1] at e2
    cases e2
    refine hq dr d' v G' H' q ⟨s', fun b o hb e => a'.kept b o (by show hide H a b = some o; rw [hide_ne hb]; exact e), a'.sub, fun b hb => ?_⟩ ow' i
    by_cases eb : b = a
    · subst eb; rw [g1, ga]
    · exact a'.old b (by show hide H a b ≠ none; rw [hide_ne eb]; exact hb)
  refine ⟨_, h1.ps, _, G, _, at_startM sGH ga ow r, ⟨?_, ?_, ?_, ?_⟩, h2⟩
  · intro ρ' σ' G' H' a' s' q
    exact fin a' s' .non q
  · intro d v ρ' σ' G' H' a' s' i q
    exact fin a' s' i q
  · intro ρ' σ' G' H' a' s' q
    exact q.elim
  · intro ρ' σ' G' H' a' s' q
    exact q.elim
end
end Dn
/-! Dn: built-in calls. -/
namespace Dn
open PySem PySem.Spec PyProof.Rows L2

/-! ### list(reversed(a list)), at the machine -/
section
variable {prog : Program} {w : World} {A : Around} {E : Value → Shared → Prop} {s : Shared}
theorem ext_rev {R : Result → Shared → Prop} {it l S : Addr} {items : Array Value} {c₀ : Nat} (hh : A.in1.handled = none) (hit : s.heap.IsRevIter it l ((items.size : Int) - 1)) (hl : s.heap.IsList l items) (hne : l ≠ it) (hSi : S ≠ it) (hSl : S ≠ l) (hn : items.size ≤ sizeLine)
    (hS : s.heap.get? S = some { cls := .type "list", data := .seq #[] c₀ })
    (hR : ∀ h' tk acc' c', (∀ b o, b ≠ it → b ≠ S → s.heap.get? b = some o → h'.get? b = some o) → h'.get? S = some { cls := .type "list", dict := none, data := .seq acc' c', slots := #[] } → ItemsOf (fun i v => items[items.size - 1 - i]? = some v) acc' items.size → R (.ok (.ret .none)) { s with heap := h', toks := tk }) :
    wpAny (model prog w) A.in1 (Builtin.List.listExtendWith (.ref S) (.ref it) .none)
      (fun fin s' => match fin with | .done f => R (.ok f) s' | .again c' => c'.quiet = true ∧ codeAny (model prog w) A c' R s') (fun e s' => R (.error e) s') s := by
  have W := (Walks.listRev (prog := prog) (w := w) (A := A.in1) hh it l hne items).toS
  have hSf : S ∉ [it, l] := by simp only [List.mem_cons, List.not_mem_nil, or_false, not_or]; exact ⟨hSi, hSl⟩
  have hT : s.TypeIs (.ref it) "list_reverseiterator" := hit.typeIs
  have same0 : Builtin.List.listSameRef (.ref S) (.ref it) = false := by simp [Builtin.List.listSameRef, hSi]
  unfold Builtin.List.listExtendWith
  refine wpAny_bind (wpAny_typeOf hT ?_)
  rw [if_neg (by rw [same0]; decide)]
  refine wpAny_bind (wpAny_pyIter_revIter hit ?_)
  refine wpAny_bind (wpAny_holding ?_)
  unfold Builtin.List.listLengthHint
  refine wpAny_bind (wpAny_specialOf hT RT.nolen_lri ?_)
  show wpAny _ _ (specialOf (Value.ref it) (Str.ofString "__length_hint__") >>= _) _ _ _
  refine wpAny_bind (wpAny_specialOf hT RT.hint_lri ?_)
  generalize hid : ("list_reverseiterator.__length_hint__" : String) = id0
  wp_delta
  rw [show splitId id0 = some ("list_reverseiterator", "__length_hint__") from by subst hid; decide +kernel]
  subst hid
  refine wpAny_bind (wpAny_isInstance (b := true) hT (by rw [isSubtype_type]; kernel_rfl) ?_)
  refine wpAny_pure ?_
  rw [if_neg (by decide)]
  refine wpAny_pure ⟨plainId_quiet F.plain_extend_loop _, codeAny_extend_loopS W hn _ hSf _ items.size 0 _ _ _ rfl (Nat.zero_le _) ⟨Nat.zero_le _, by rw [Int.natCast_zero, Int.sub_zero]; exact hit, hl⟩ hS (ItemsOf.nil _) fun s' acc' c' hm hS' hacc => ?_⟩
  rw [Moved.eq_with hm]
  refine hR s'.heap s'.toks acc' c' (fun b o hb hb2 e => hm.heap b o (fun z => ?_) e) hS' hacc
  rcases List.mem_cons.mp z with z | z
  · exact hb2 z
  · exact hb (List.mem_singleton.mp z)
theorem list_of_rev {it l : Addr} {items : Array Value} {Q : Value → Shared → Prop} (hh : A.handled = none) (hit : s.heap.IsRevIter it l ((items.size : Int) - 1)) (hl : s.heap.IsList l items) (hne : l ≠ it) (hn : items.size ≤ sizeLine)
    (hQ : ∀ (h' : Heap) (tk : Nat) (acc : Array Value) (c' : Nat), (∀ b o, b ≠ it → s.heap.get? b = some o → h'.get? b = some o) → h'.get? s.heap.objs.size = some { cls := .type "list", dict := none, data := .seq acc c', slots := #[] } → ItemsOf (fun i v => items[items.size - 1 - i]? = some v) acc items.size →
      Q (.ref s.heap.objs.size) { s with heap := h', toks := tk }) :
    wpAny (model prog w) A (call (.type "list") [.ref it]) Q E s := by
  obtain ⟨oi, hoi, _⟩ := id hit
  obtain ⟨ol, hol, _⟩ := id hl
  refine callType_codes (Q₁ := fun obj s₁ => obj = .ref s.heap.objs.size ∧ s₁ = { s with heap := s.heap.push { cls := .type "list", data := .seq #[] } }) F.called_list (F.typeCall_list_1 _) F.entry_list_init
    (code_list_new _ ⟨rfl, rfl⟩) fun obj s₁ h₁ => ?_
  obtain ⟨rfl, rfl⟩ := h₁
  have hS : (s.heap.push { cls := .type "list", data := .seq #[] }).get? s.heap.objs.size = some { cls := .type "list", data := .seq #[] } := Heap.get?_push_size _ rfl
  refine ⟨⟨_, hS, rfl⟩, F.args_list_init_2 _ _, ?_⟩
  show wpAny _ _ (do let old ← Builtin.List.listItems (.ref s.heap.objs.size); Builtin.List.listUpdate (.ref s.heap.objs.size) (fun _ => #[]); letGo old.toList.reverse; Builtin.List.listExtendWith (.ref s.heap.objs.size) (.ref it) .none) _ _ _
  refine wpAny_bind ?_
  unfold Builtin.List.listItems
  refine wpAny_bind (wpAny_seqItems hS rfl (wpAny_pure ?_))
  show wpAny _ _ (updateSeq s.heap.objs.size (fun _ => #[]) >>= fun _ => letGo (#[] : Array Value).toList.reverse >>= fun _ => Builtin.List.listExtendWith (.ref s.heap.objs.size) (.ref it) .none) _ _ _
  refine wpAny_bind (wpAny_updateSeq hS rfl ?_)
  refine wpAny_bind (wpAny_letGo ?_)
  have nei : it ≠ s.heap.objs.size := Nat.ne_of_lt (Heap.lt_size hoi)
  have nel : l ≠ s.heap.objs.size := Nat.ne_of_lt (Heap.lt_size hol)
  have keep : ∀ b o, b ≠ s.heap.objs.size → s.heap.get? b = some o → ((s.heap.push { cls := .type "list", data := .seq #[] }).update s.heap.objs.size (Obj.mapSeq (fun _ => (#[] : Array Value)))).get? b = some o :=
    fun b o hb e => (Heap.get?_update_other _ _ (Ne.symm hb)).trans (Heap.get?_push_of_some _ e)
  refine ext_rev (s := { s with heap := _ }) (A := A.in1) hh (hit.at fun o e => keep _ o nei e) ?_ hne (Ne.symm nei) (Ne.symm nel) hn (Heap.get?_update_self (Obj.mapSeq (fun _ => (#[] : Array Value))) hS rfl) fun h' tk acc' c' hk hS' hacc => ?_
  · obtain ⟨o, e, r⟩ := id hl
    exact ⟨o, keep _ o nel e, r⟩
  · exact ⟨rfl, hQ h' tk acc' c' (fun b o hb e => hk b o hb (Nat.ne_of_lt (Heap.lt_size e)) (keep b o (Nat.ne_of_lt (Heap.lt_size e)) e)) hS' hacc⟩
end

section
variable {X : Cx} {Γ : Gm} {k j n : Nat} {a b e : Expr} {es : List Expr} {st : Stmt} {rest body orelse : List Stmt} {pos : Pos} {t u : TDS}
theorem nb (c : Cok k X Γ) {x : Str} (h : bnames.contains x = true := by decide +kernel) : X.mg x = none := c.bl x h
/-! ### len, abs, int, bool -/
def lenD : OpN
  | [.str x], Q => x.length ≤ 16777216 ∧ Q (.int x.length)
  | [.list xs], Q => Q (.int xs.length)
  | [.tuple xs], Q => Q (.int xs.length)
  | _, _ => False
theorem isxs_1 {K : PySem.W.Frag} {G H : Hp} {vs : List V} {d : D} (h : IsXs K G H vs [d]) : ∃ v, vs = [v] ∧ IsX K G H v d := by
  cases h with
  | cons h1 h2 => cases h2; exact ⟨_, rfl, h1⟩
theorem isxs_2 {K : PySem.W.Frag} {G H : Hp} {vs : List V} {d e : D} (h : IsXs K G H vs [d, e]) : ∃ v u, vs = [v, u] ∧ IsX K G H v d ∧ IsX K G H u e := by
  cases h with
  | cons h1 h2 =>
    obtain ⟨u, rfl, h3⟩ := isxs_1 h2
    exact ⟨_, _, rfl, h1, h3⟩
theorem cd_len : CallD X (.builtin "len") lenD := by
  refine CallD.of call_len ?_
  rintro vs H Q ⟨G, ds, k, s, hx, h, fin⟩
  unfold lenD at h
  split at h
  · rename_i x
    obtain ⟨v, rfl, hv⟩ := isxs_1 hx
    exact ⟨v, x.length, rfl, by rw [hv.str]; exact ⟨line_le h.1, rfl⟩, fin _ _ G H h.2 (.refl s) (.int _)⟩
  · rename_i xs
    obtain ⟨v, rfl, hv⟩ := isxs_1 hx
    obtain ⟨p, us, rfl, h1, h2⟩ := hv.list s
    exact ⟨_, xs.length, rfl, .inl ⟨us, .of h1, h2.length.symm⟩, fin _ _ G H h (.refl s) (.int _)⟩
  · rename_i xs
    obtain ⟨v, rfl, hv⟩ := isxs_1 hx
    obtain ⟨p, us, rfl, h1, h2⟩ := hv.tup
    exact ⟨_, xs.length, rfl, .inr ⟨us, Same.sqt s h1, h2.length.symm⟩, fin _ _ G H h (.refl s) (.int _)⟩
  · exact h.elim
def absD : OpN
  | [.int i], Q => Q (.int (if i < 0 then -i else i))
  | _, _ => False
theorem cd_abs : CallD X (.builtin "abs") absD := by
  refine CallD.of call_abs ?_
  rintro vs H Q ⟨G, ds, k, s, hx, h, fin⟩
  unfold absD at h
  split at h
  · rename_i i
    obtain ⟨v, rfl, hv⟩ := isxs_1 hx
    rw [hv.int]
    exact ⟨i, rfl, fin _ _ G H h (.refl s) (.int _)⟩
  · exact h.elim
def intD : OpN
  | [.int i], Q => Q (.int i)
  | [.bool b], Q => Q (.int (if b then 1 else 0))
  | [.str x], Q => x.length ≤ 640 ∧ optD (PySem.intText? x) fun n => Q (.int n)
  | _, _ => False
theorem cd_int : CallD X (.type "int") intD := by
  refine CallD.of (call_int1.or call_int_str) ?_
  rintro vs H Q ⟨G, ds, k, s, hx, h, fin⟩
  unfold intD at h
  split at h
  · rename_i i
    obtain ⟨v, rfl, hv⟩ := isxs_1 hx
    rw [hv.int]
    exact .inl (.inl ⟨i, rfl, fin _ _ G H h (.refl s) (.int _)⟩)
  · rename_i i
    obtain ⟨v, rfl, hv⟩ := isxs_1 hx
    rw [hv.bl]
    exact .inl (.inr ⟨i, rfl, fin _ _ G H h (.refl s) (.int _)⟩)
  · rename_i x
    obtain ⟨v, rfl, hv⟩ := isxs_1 hx
    rw [hv.str]
    obtain ⟨n, h1, h2⟩ := optD.to h.2
    exact .inr ⟨x, n, rfl, h1, h.1, fin _ _ G H h2 (.refl s) (.int _)⟩
  · exact h.elim
/-! ### isinstance -/
inductive TyN where
  | int | bool | str | tuple | list | dict
def TyN.name : TyN → String
  | .int => "int"
  | .bool => "bool"
  | .str => "str"
  | .tuple => "tuple"
  | .list => "list"
  | .dict => "dict"
def isT : TyN → D → Bool
  | .int, .int _ => true
  | .int, .bool _ => true
  | .bool, .bool _ => true
  | .str, .str _ => true
  | .tuple, .tuple _ => true
  | .list, .list _ => true
  | .dict, .dict _ => true
  | _, _ => false
def tyT : D → String
  | .none => "NoneType"
  | .bool _ => "bool"
  | .int _ => "int"
  | .str _ => "str"
  | .list _ => "list"
  | .tuple _ => "tuple"
  | .dict _ => "dict"
theorem isT_kit (T : TyN) (d : D) : kitB (tyT d) T.name = some (isT T d) := by
  cases T <;> cases d <;> simp only [tyT, TyN.name, isT] <;> decide +kernel
theorem IsX.tyx {K : PySem.W.Frag} {G H : Hp} {v : V} {d : D} (s : Same G H) (h : IsX K G H v d) : TyX K H v (.type (tyT d)) := by
  have dk : ∀ {p : Addr} {kvs : List (Key × V)}, Rd H p (.dK kvs) → TyX K H (.ref p) (.type "dict") := fun r => by
    rcases r with r | ⟨o, r⟩
    · exact .base (.dK r)
    · exact .fDict r
  rcases h with h | ⟨p, rfl, h⟩
  · cases h with
    | non => exact .base .non
    | bl b => exact .base (.bl b)
    | int i => exact .base (.int i)
    | str i => exact .base (.str i)
    | lst h _ => exact .base (.lst (s _ _ h))
    | tup h _ =>
      rcases Same.sqt s h with (h | ⟨o, h⟩) | ⟨o, its, n, h, hc, _⟩
      · exact .base (.tup h)
      · exact .fTuple h
      · exact .kTuple h hc
    | dk h _ _ => exact dk (Same.rd s h)
    | dt h _ _ => exact .base (.dT (s _ _ h))
  · rcases h with ⟨xs, es, rfl, h2, h3⟩ | ⟨_, _, _, rfl, _, h, _⟩ | ⟨_, _, _, rfl, _, h, _⟩
    · exact .base (.lst h2)
    · exact .base (.dK h)
    · exact .base (.dT h)
def dIsi (T : TyN) (ta : TB) : TD := fun ρ Q => ta ρ fun x ρ1 => withD ρ1 x fun d => Q (.bool (isT T d)) ρ1
theorem de_isi {T : TyN} {ta : TB} {p p2 : Pos} {nm : Str} (c : Cok k X Γ) (ha : DB X Γ a ta) (hn : bootBuiltins nm = some (.type T.name)) (hgT : Gl X nm := by rfl) (hb : bnames.contains nm = true := by decide +kernel) (hnn : nm ≠ "__name__" := by decide) (hdT : (nm == ("__debug__" : Str)) = false := by decide)
    (hg : Gl X "isinstance" := by rfl) (he : starEach [a, .Name nm p2] X.env = (false, eval a X.env) :: starEach [.Name nm p2] X.env := by rfl) (he2 : starEach [.Name nm p2] X.env = (false, eval (.Name nm p2) X.env) :: starEach [] X.env := by rfl)
    (hpl : (backTo pos (starEach [.Name nm p2] X.env)).any (·.1) = false := by rfl) : DE X Γ (.Call (.Name "isinstance" p) [a, .Name nm p2] [] pos) (dIsi T ta) := by
  refine ⟨pe_imp (pe_callB call_isi hg (nb c) boot_isinstance (pa_cons ha.pe (pa_cons (pe_bltn (v := .ty T.name) hgT (nb c hb) hn rfl hnn hdT) pa_nil he2) he) (by decide) (by decide) he hpl) ?_⟩
  rintro σ H Q ⟨ρ, G, k, at_, h, fin⟩
  refine ⟨ρ, G, _, at_, h, fun x ρ1 v G1 H1 h1 a1 s1 r1 => ?_⟩
  obtain ⟨d, l, h1⟩ := withD.to h1
  have hx := a1.isx r1 l
  exact ⟨v, .ty T.name, _, _, isT T d, rfl, .ty _, hx.tyx a1.sub, kit_ty (isT_kit T d), fin _ _ _ _ _ h1 a1 s1 (.bl _)⟩
/-! ### list, tuple -/
def seqL (d : D) (k : List D → Prop) : Prop := match d with
  | .list xs => k xs
  | .tuple xs => k xs
  | _ => False
def dList (ta : TB) : TD := fun ρ Q => ta ρ fun x ρ1 => withD ρ1 x fun d => seqL d fun xs => Q (.list xs) ρ1
theorem df_list {ta : TB} {p : Pos} (c : Cok k X Γ) (ha : DB X Γ a ta) (hg : Gl X "list" := by rfl) (he : starEach [a] X.env = (false, eval a X.env) :: starEach [] X.env := by rfl) (hpl : (backTo pos (starEach [] X.env)).any (·.1) = false := by rfl) : DF X Γ (.Call (.Name "list" p) [a] [] pos) (dList ta) := by
  refine ⟨pe_imp (pe_callTy call_list_of hg (nb c) boot_list (pa_cons ha.pe pa_nil he) (by decide) (by decide) he hpl) ?_⟩
  rintro σ H Q ⟨ρ, G, k, at_, h, fin⟩
  refine ⟨ρ, G, _, at_, h, fun x ρ1 v G1 H1 h1 a1 s1 r1 => ?_⟩
  obtain ⟨d, l, h1⟩ := withD.to h1
  have hx := a1.isx r1 l
  have go : ∀ {xs : List V} {ds : List D}, IsAll X.K G1 xs ds → k (.list ds) ρ1 → ∀ q, H1 q = none → Q (.ref q) (upd H1 q (.lst xs)) := by
    intro xs ds r hk q hq
    obtain ⟨a2, g0, h0, hno⟩ := a1.fresh (o := .lst xs) hq
    exact fin _ _ q _ _ hk a2 s1 g0 h0 (.inl ⟨xs, ds, rfl, upd_same, r⟩) hno
  cases d with
  | list ds =>
    obtain ⟨p, xs, rfl, h2, h3⟩ := hx.list a1.sub
    exact ⟨p, xs, rfl, .inl (.of h2), go h3 h1⟩
  | tuple ds =>
    obtain ⟨p, xs, rfl, h2, h3⟩ := hx.tup
    exact ⟨p, xs, rfl, .inr (Same.sqt a1.sub h2), go h3 h1⟩
  | _ => exact (show False from h1).elim
/-- list(script): a list that is only read -/
def dListS (i : Nat) : TD := fun ρ Q => match ρ[i]? with
  | some (.seq ds) => Q (.list ds) ρ
  | _ => False
theorem df_listS {i : Nat} {x : Str} {p p1 : Pos} (c : Cok k X Γ) (hN : X.N[i]? = some x := by rfl) (hv : Vis X.env.scope x := by first | exact Or.inl rfl | exact Or.inr (Or.inl rfl) | exact Or.inr (Or.inr rfl)) (hd : (x == ("__debug__" : Str)) = false := by decide)
    (hcd : (x == ("__classdict__" : Str)) = false := by decide) (hg : Gl X "list" := by rfl) (he : starEach [.Name x p1] X.env = (false, eval (.Name x p1) X.env) :: starEach [] X.env := by rfl) (hpl : (backTo pos (starEach [] X.env)).any (·.1) = false := by rfl) : DF X Γ (.Call (.Name "list" p) [.Name x p1] [] pos) (dListS i) := by
  refine ⟨pe_imp (pe_callTy call_list_of hg (nb c) boot_list (pa_cons (pe_var (i := i) hN hv hd hcd) pa_nil he) (by decide) (by decide) he hpl) ?_⟩
  rintro σ H Q ⟨ρ, G, k, at_, h, fin⟩
  unfold dListS at h
  split at h
  · rename_i ds q
    obtain ⟨o, e⟩ := at_.lt q
    obtain ⟨p, xs, e1, e2, e3⟩ := at_.sl i _ o q e
    refine ⟨_, by rw [e, e1], p, xs, rfl, .inl (at_.sub.seq e2), fun q hq => ?_⟩
    obtain ⟨a2, g0, h0, hno⟩ := at_.fresh (o := .lst xs) hq
    exact fin _ _ q _ _ h a2 (Same.refl _) g0 h0 (.inl ⟨xs, ds, rfl, upd_same, e3⟩) hno
  · exact h.elim
def tupD : OpN
  | [.list xs], Q => Q (.tuple xs)
  | [.tuple xs], Q => Q (.tuple xs)
  | _, _ => False
theorem cd_tuple : CallD X (.type "tuple") tupD := by
  refine CallD.of call_tuple_of ?_
  rintro vs H Q ⟨G, ds, k, s, hx, h, fin⟩
  unfold tupD at h
  split at h
  · rename_i xs
    obtain ⟨v, rfl, hv⟩ := isxs_1 hx
    obtain ⟨p, us, rfl, h1, h2⟩ := hv.list s
    refine ⟨p, us, rfl, .inl ⟨.of h1, fun q hq => ?_⟩⟩
    have g := Grow.laid (o := .tup us) s hq
    exact fin _ _ _ _ h g (.tup (.of upd_same) (h2.mono g.gg))
  · rename_i xs
    obtain ⟨v, rfl, hv⟩ := isxs_1 hx
    obtain ⟨p, us, rfl, h1, h2⟩ := hv.tup
    exact ⟨p, us, rfl, .inr ⟨Same.sqt s h1, fin _ _ G H h (.refl s) (.tup h1 h2)⟩⟩
  · exact h.elim
/-- list(reversed(a list)) -/
def dListR (ta : TB) : TD := fun ρ Q => ta ρ fun x ρ1 => withD ρ1 x fun d => match d with
  | .list xs => Q (.list xs.reverse) ρ1
  | _ => False
theorem df_listR {ta : TB} {p p2 pos2 : Pos} (c : Cok k X Γ) (ha : DB X Γ a ta) (hg : Gl X "list" := by rfl) (hg2 : Gl X "reversed" := by rfl) (hs : starEach [a] X.env = (false, eval a X.env) :: starEach [] X.env := by rfl)
    (hs2 : starEach [.Call (.Name "reversed" p2) [a] [] pos2] X.env = (false, eval (.Call (.Name "reversed" p2) [a] [] pos2) X.env) :: starEach [] X.env := by rfl) : DF X Γ (.Call (.Name "list" p) [.Call (.Name "reversed" p2) [a] [] pos2] [] pos) (dListR ta) := by
  refine ⟨⟨fun pins s σ H Q I h => ?_⟩⟩
  obtain ⟨ρ, G, k, at_, h, fin⟩ := h
  refine Call_ (ld_blt I hg (nb c) boot_list (PyProof.Rows.callWith_type1 (args_cons (Call_ (ld_blt I hg2 (nb c) PyProof.Rows.boot_reversed (PyProof.Rows.callWith_type1 (args_cons (thn (ha.pe.run pins s σ H (fun v H1 => ∃ ρ1 G1 ds, At X.K Γ ρ1 σ G1 H1 ∧ Same G G1 ∧ IsX X.K G1 H1 v (.list ds) ∧ k (.list ds.reverse) ρ1) I ⟨ρ, G, _, at_, h, fun x ρ1 v G1 H1 h1 a1 s1 r1 => ?_⟩)
    fun u s1 ⟨v, H1, I1, r1, q1⟩ => args_nil ?_) hs) hs rfl))) hs2) hs2 rfl))
  · obtain ⟨d, l, h1⟩ := withD.to h1
    cases d with
    | list ds => exact ⟨ρ1, G1, ds, a1, s1, a1.isx r1 l, h1⟩
    | _ => exact (show False from h1).elim
  · obtain ⟨ρ1, G1, ds, a1, s1', hx, hk⟩ := q1
    obtain ⟨p, xs, rfl, hp, rx⟩ := hx.list a1.sub
    obtain rfl : u = Value.ref p := r1
    obtain ⟨its, rv, p', hz⟩ := I1.list (SqL.of hp)
    refine call_reversed_list p'.isList (args_nil ?_)
    have hl := p'.isList
    obtain ⟨ol, hol, _⟩ := id hl
    have I2 : Inv X pins σ H1 { s1 with heap := s1.heap.push (revObj p ((its.toArray.size : Int) - 1)) } := I1.kept (t' := s1.toks) fun b o e => Heap.get?_push_of_some _ e
    obtain ⟨f0, f1, f2, f3, f4, f5⟩ := I1.fpOk (H' := H1) (b := s1.heap.objs.size) (Nat.le_refl _) (I1.hok.fresh (Nat.le_refl _))
    have hn : its.toArray.size ≤ sizeLine := by rw [List.size_toArray, ← rv.length]; exact hz
    refine list_of_rev (s := { s1 with heap := s1.heap.push (revObj p ((its.toArray.size : Int) - 1)) }) (I1.ok.hd c.calm) ⟨_, Heap.get?_push_size _ rfl, rfl, rfl⟩ (hl.push _) (Nat.ne_of_lt (Heap.lt_size hol)) hn fun h' tk acc c' hkp hnew hi => ?_
    have hq : H1 (s1.heap.push (revObj p ((its.toArray.size : Int) - 1))).objs.size = none := I2.hok.fresh (Nat.le_refl _)
    obtain ⟨a2, g0, h0, hno⟩ := a1.fresh (o := .lst xs.reverse) hq
    have lz : xs.reverse.length ≤ sizeLine := by rw [List.length_reverse]; exact hz
    have I3 := I2.turnedNew (t' := tk) (h' := h') (ch := [s1.heap.objs.size]) (T := (s1.heap.push (revObj p ((its.toArray.size : Int) - 1))).objs.size) (ob := .lst xs.reverse) (fun b o hb e => hkp b o (fun z => hb (by rw [z]; exact List.mem_cons_self)) e)
      (fun b hb => by
        have e : b = s1.heap.objs.size := by simpa using hb
        subst e
        exact I1.fpOk (Nat.le_refl _) (I1.hok.fresh (Nat.le_refl _))) (Nat.le_refl _) ⟨lz, acc.toList, c', RT.vals_rev rv hi, by rw [Array.toArray_toList]; exact hnew⟩
    exact ⟨.ref (s1.heap.push (revObj p ((its.toArray.size : Int) - 1))).objs.size, _, I3, rfl, fin _ _ _ _ _ hk a2 s1' g0 h0 (.inl ⟨xs.reverse, ds.reverse, rfl, upd_same, rx.reverse⟩) hno⟩

/-! ### any, all, sum, in -/
def boolsOf : List D → Option (List Bool)
  | [] => some []
  | .bool b :: r => (boolsOf r).map (b :: ·)
  | _ :: _ => none
theorem boolsOf_eq : ∀ {ds : List D} {bs : List Bool}, boolsOf ds = some bs → ds = bs.map PyData.bool
  | [], bs, h => by cases h; rfl
  | d :: r, bs, h => by
    cases d with
    | bool b =>
      have h : (boolsOf r).map (b :: ·) = some bs := h
      cases e : boolsOf r with
      | none => rw [e] at h; cases h
      | some cs =>
        rw [e] at h
        cases h
        rw [boolsOf_eq e]; rfl
    | _ => cases h
theorem boolsOf_map {α : Type} (p : α → Bool) : ∀ xs : List α, boolsOf (xs.map fun x => PyData.bool (p x)) = some (xs.map p)
  | [] => rfl
  | x :: xs => by
    show (boolsOf (xs.map fun x => PyData.bool (p x))).map (p x :: ·) = _
    rw [boolsOf_map p xs]; rfl
def anyD : OpN
  | [.list xs], Q => optD (boolsOf xs) fun bs => Q (.bool (bs.any id))
  | _, _ => False
def allD : OpN
  | [.list xs], Q => optD (boolsOf xs) fun bs => Q (.bool (bs.all id))
  | _, _ => False
theorem cd_any (c : Cok k X Γ) : CallD X (.builtin "any") anyD := by
  refine CallD.of (cr_any c.calm) ?_
  rintro vs H Q ⟨G, ds, k, s, hx, h, fin⟩
  unfold anyD at h
  split at h
  · rename_i xs
    obtain ⟨bs, e, h⟩ := optD.to h
    obtain ⟨v, rfl, hv⟩ := isxs_1 hx
    obtain ⟨p, us, rfl, h1, h2⟩ := hv.list s
    rw [boolsOf_eq e] at h2
    rw [IsAll.bls h2] at h1
    exact ⟨p, bs, rfl, .of h1, fin _ _ G H h (.refl s) (.bl _)⟩
  · exact h.elim
theorem cd_all (c : Cok k X Γ) : CallD X (.builtin "all") allD := by
  refine CallD.of (cr_all c.calm) ?_
  rintro vs H Q ⟨G, ds, k, s, hx, h, fin⟩
  unfold allD at h
  split at h
  · rename_i xs
    obtain ⟨bs, e, h⟩ := optD.to h
    obtain ⟨v, rfl, hv⟩ := isxs_1 hx
    obtain ⟨p, us, rfl, h1, h2⟩ := hv.list s
    rw [boolsOf_eq e] at h2
    rw [IsAll.bls h2] at h1
    exact ⟨p, bs, rfl, .of h1, fin _ _ G H h (.refl s) (.bl _)⟩
  · exact h.elim
/-- x in a list, a tuple of data; in a text -/
def inD : Op2
  | d, .list xs, Q => dep 20 d = true ∧ xs.all (dep 19) = true ∧ Q (.bool (xs.any fun z => PyData.eqv z d))
  | d, .tuple xs, Q => dep 20 d = true ∧ xs.all (dep 19) = true ∧ Q (.bool (xs.any fun z => PyData.eqv z d))
  | .str x, .str y, Q => Q (.bool (!(Builtin.Str.occurrences y x 0 y.length 1).isEmpty))
  | _, _, _ => False
def ninD : Op2
  | d, .list xs, Q => dep 20 d = true ∧ xs.all (dep 19) = true ∧ Q (.bool (!xs.any fun z => PyData.eqv z d))
  | d, .tuple xs, Q => dep 20 d = true ∧ xs.all (dep 19) = true ∧ Q (.bool (!xs.any fun z => PyData.eqv z d))
  | .str x, .str y, Q => Q (.bool (!(!(Builtin.Str.occurrences y x 0 y.length 1).isEmpty)))
  | _, _, _ => False
def rInT (K : PySem.W.Frag) : R2 := fun x y H Q => ∃ d ds, Dp K H x d ∧ Dp K H y (.tuple ds) ∧ SeqAt.shaped d = true ∧ SeqAt.shaped (.tuple ds) = true ∧ Q (.bl (ds.any fun z => PyData.eqv z d)) H
def rNotInT (K : PySem.W.Frag) : R2 := fun x y H Q => ∃ d ds, Dp K H x d ∧ Dp K H y (.tuple ds) ∧ SeqAt.shaped d = true ∧ SeqAt.shaped (.tuple ds) = true ∧ Q (.bl (!ds.any fun z => PyData.eqv z d)) H
theorem op_inT (hu : X.A.units + 65 < cLine) : OpR X (compareOp .In) (rInT X.K) := by
  intro pins s σ H x y v u Q I rx ry h
  obtain ⟨d, ds, hd, he, sd, se, q⟩ := h
  obtain ⟨as, r1⟩ := Dp.reads I d x v hd rx
  obtain ⟨bs, r2⟩ := Dp.reads I (.tuple ds) y u he ry
  exact SeqAt.in_tuple_reads r2 r1 (SeqAt.canLay_of_shaped se) (SeqAt.canLay_of_shaped sd) (room_in_shaped sd hu) ⟨.bl _, H, I, rfl, q⟩
theorem op_notInT (hu : X.A.units + 65 < cLine) : OpR X (compareOp .NotIn) (rNotInT X.K) := by
  intro pins s σ H x y v u Q I rx ry h
  obtain ⟨d, ds, hd, he, sd, se, q⟩ := h
  obtain ⟨as, r1⟩ := Dp.reads I d x v hd rx
  obtain ⟨bs, r2⟩ := Dp.reads I (.tuple ds) y u he ry
  exact SeqAt.notIn_tuple_reads r2 r1 (SeqAt.canLay_of_shaped se) (SeqAt.canLay_of_shaped sd) (room_in_shaped sd hu) ⟨.bl _, H, I, rfl, q⟩
theorem od_in (c : Cok k X Γ) : OpD X (compareOp .In) inD := by
  refine OpD.or ((op_inD c.hu).or ((op_inT c.hu).or op_in_str)) ?_
  rintro x y H Q ⟨G, d, e, k, s, hx, hy, h, fin⟩
  unfold inD at h
  split at h
  · have h2 : dep 20 (.list _) = true := h.2.1
    exact .inl ⟨_, _, (hx.is s).dp (dep_depth _ _ h.1).1, (hy.is s).dp (dep_depth _ _ h2).1, shaped_of h.1 (by decide), shaped_of h2 (by decide), fin _ _ G H h.2.2 (.refl s) (.bl _)⟩
  · have h2 : dep 20 (.tuple _) = true := h.2.1
    exact .inr (.inl ⟨_, _, (hx.is s).dp (dep_depth _ _ h.1).1, (hy.is s).dp (dep_depth _ _ h2).1, shaped_of h.1 (by decide), shaped_of h2 (by decide), fin _ _ G H h.2.2 (.refl s) (.bl _)⟩)
  · exact .inr (.inr ⟨_, _, hx.str, hy.str, fin _ _ G H h (.refl s) (.bl _)⟩)
  · exact h.elim
theorem od_notin (c : Cok k X Γ) : OpD X (compareOp .NotIn) ninD := by
  refine OpD.or ((op_notInD c.hu).or ((op_notInT c.hu).or op_notin_str)) ?_
  rintro x y H Q ⟨G, d, e, k, s, hx, hy, h, fin⟩
  unfold ninD at h
  split at h
  · have h2 : dep 20 (.list _) = true := h.2.1
    exact .inl ⟨_, _, (hx.is s).dp (dep_depth _ _ h.1).1, (hy.is s).dp (dep_depth _ _ h2).1, shaped_of h.1 (by decide), shaped_of h2 (by decide), fin _ _ G H h.2.2 (.refl s) (.bl _)⟩
  · have h2 : dep 20 (.tuple _) = true := h.2.1
    exact .inr (.inl ⟨_, _, (hx.is s).dp (dep_depth _ _ h.1).1, (hy.is s).dp (dep_depth _ _ h2).1, shaped_of h.1 (by decide), shaped_of h2 (by decide), fin _ _ G H h.2.2 (.refl s) (.bl _)⟩)
  · exact .inr (.inr ⟨_, _, hx.str, hy.str, fin _ _ G H h (.refl s) (.bl _)⟩)
  · exact h.elim
/-! ### new lists by + and * -/
theorem df_bin {op : Operator} {r : R2} {f : Op2} {ta tb : TB} (ho : OpR X (binaryOp op) r) (ha : DB X Γ a ta) (hb : DB X Γ b tb)
    (i : ∀ x y H Q, (∃ G d e k, Same G H ∧ IsX X.K G H x d ∧ IsX X.K G H y e ∧ f d e k ∧ ∀ ds xs, k (.list ds) → IsAll X.K G xs ds → ∀ p, H p = none → Q (.ref p) (upd H p (.lst xs))) → r x y H Q) : DF X Γ (.BinOp a op b pos) (dBin f ta tb) := by
  refine ⟨pe_imp (pe_op ho ha.pe hb.pe) ?_⟩
  rintro σ H Q ⟨ρ, G, k, at_, h, fin⟩
  refine ⟨ρ, G, _, at_, h, fun x ρ1 v1 G1 H1 h1 a1 s1 r1 => ⟨ρ1, G1, _, a1, h1, fun y ρ2 v2 G2 H2 h2 a2 s2 r2 => ?_⟩⟩
  obtain ⟨d, l1, h2⟩ := withD.to h2
  obtain ⟨e, l2, h2⟩ := withD.to h2
  refine i _ _ _ _ ⟨G2, d, e, _, a2.sub, a2.isx (r1.mono s2) l1, a2.isx r2 l2, h2, fun ds xs hk r p hp => ?_⟩
  obtain ⟨a3, g0, h0, hno⟩ := a2.fresh (o := .lst xs) hp
  exact fin _ _ p _ _ hk a3 (s1.trans s2) g0 h0 (.inl ⟨xs, ds, rfl, upd_same, r⟩) hno
theorem df_cat {ta tb : TB} (ha : DB X Γ a ta) (hb : DB X Γ b tb) : DF X Γ (.BinOp a .Add b pos) (dBin addL ta tb) := by
  refine df_bin op_cat ha hb ?_
  rintro x y H Q ⟨G, d, e, k, s, hx, hy, h, fin⟩
  cases d with
  | list xs =>
    cases e with
    | list ys =>
      obtain ⟨p, us, rfl, h1, h2⟩ := hx.list s
      obtain ⟨q, ws, rfl, h3, h4⟩ := hy.list s
      exact ⟨p, q, us, ws, rfl, rfl, h1, h3, line_le (by rw [h2.length, h4.length]; exact h.1), fun p hp => fin _ _ h.2 (h2.append h4) p hp⟩
    | _ => exact (show False from h).elim
  | _ => exact (show False from h).elim
def repL : Op2
  | .list xs, .int n, Q => (-(2 ^ 63) ≤ n ∧ n < 2 ^ 63 ∧ xs.length * n.toNat ≤ 16777216) ∧ Q (.list (List.replicate n.toNat xs).flatten)
  | _, _, _ => False
theorem IsAll.rep {K : PySem.W.Frag} {G : Hp} {xs : List V} {ds : List D} (h : IsAll K G xs ds) : ∀ n : Nat, IsAll K G (List.replicate n xs).flatten (List.replicate n ds).flatten
  | 0 => .nil
  | n + 1 => by
    rw [List.replicate_succ, List.replicate_succ, List.flatten_cons, List.flatten_cons]
    exact h.append (IsAll.rep h n)
theorem df_rep {ta tb : TB} (ha : DB X Γ a ta) (hb : DB X Γ b tb) : DF X Γ (.BinOp a .Mult b pos) (dBin repL ta tb) := by
  refine df_bin op_rep ha hb ?_
  rintro x y H Q ⟨G, d, e, k, s, hx, hy, h, fin⟩
  cases d with
  | list xs =>
    cases e with
    | int n =>
      obtain ⟨p, us, rfl, h1, h2⟩ := hx.list s
      exact ⟨p, n, us, rfl, hy.int, h1, h.1.1, h.1.2.1, line_le (by rw [h2.length]; exact h.1.2.2), fun p hp => fin _ _ h.2 (h2.rep _) p hp⟩
    | _ => exact (show False from h).elim
  | _ => exact (show False from h).elim
end
theorem cdv_lt {j : Int} {a : Nat} (h : j ≠ 0) (hj : j.natAbs < 2 ^ a) (ha : a ≤ 9000 := by decide) : CDV j := ⟨h, Nat.lt_of_lt_of_le hj (Nat.pow_le_pow_right (by decide) ha)⟩
theorem cm_lt {i j : Int} {a b : Nat} (h : i.natAbs < 2 ^ a) (hj : j.natAbs < 2 ^ b) (hab : a + b ≤ 1000000 := by decide) : CM i j := .inl ⟨_, _, h, hj, hab⟩
theorem cm_r {i j : Int} (h : -(2 ^ 64) < j ∧ j < 2 ^ 64 := by decide) : CM i j := .inr (.inr h)
theorem cm_l {i j : Int} (h : -(2 ^ 64) < i ∧ i < 2 ^ 64 := by decide) : CM i j := .inr (.inl h)
theorem cut_from {α : Type} (xs : List α) (i : Nat) : cutD xs (some (i : Int)) none = xs.drop i := by
  unfold cutD
  rw [HT.sIx_nat, HT.sIx_none]
  apply List.ext_getElem?
  intro j
  rw [List.getElem?_take, List.getElem?_drop, List.getElem?_drop]
  split
  · rw [Nat.min_def]; split
    · rfl
    · rw [List.getElem?_eq_none (by omega), List.getElem?_eq_none (by omega)]
  · rw [List.getElem?_eq_none (by omega)]
theorem cut_to {α : Type} (xs : List α) (i : Nat) : cutD xs none (some (i : Int)) = xs.take i := by
  unfold cutD
  rw [HT.sIx_nat, HT.sIx_none, List.drop_zero, Nat.sub_zero]
  apply List.ext_getElem?
  intro j
  rw [List.getElem?_take, List.getElem?_take]
  split <;> split
  · rfl
  · omega
  · rw [List.getElem?_eq_none (by omega)]
  · rfl
theorem cut_mid {α : Type} (xs : List α) (i k : Nat) : cutD xs (some (i : Int)) (some (k : Int)) = (xs.take k).drop i := by
  unfold cutD
  rw [HT.sIx_nat, HT.sIx_nat]
  apply List.ext_getElem?
  intro j
  rw [List.getElem?_take, List.getElem?_drop, List.getElem?_drop, List.getElem?_take]
  split <;> split
  · rw [show min i xs.length + j = i + j by omega]
  · rw [List.getElem?_eq_none (by omega)]
  · rw [List.getElem?_eq_none (by omega)]
  · rfl
theorem cut_tail {α : Type} (x : α) (xs : List α) : cutD (x :: xs) (some 1) none = xs := cut_from (x :: xs) 1
theorem at_nat {α : Type} (xs : List α) (i : Nat) : L2.atI xs (i : Int) = xs[i]? := by
  unfold L2.atI ixN
  rw [if_pos (by omega)]
  by_cases h : (i : Int) < xs.length
  · rw [if_pos h]; rfl
  · rw [if_neg h, List.getElem?_eq_none (by omega)]; rfl
theorem at_neg {α : Type} (xs : List α) (i : Nat) (h : i < xs.length) : L2.atI xs (-((i + 1 : Nat) : Int)) = xs[xs.length - (i + 1)]? := by
  unfold L2.atI ixN
  rw [if_neg (by omega), if_pos (by omega)]
  show xs[((-((i + 1 : Nat) : Int)) + (xs.length : Int)).toNat]? = _
  rw [show ((-((i + 1 : Nat) : Int)) + (xs.length : Int)).toNat = xs.length - (i + 1) by omega]
theorem at_0 {α : Type} (x : α) (xs : List α) : L2.atI (x :: xs) 0 = some x := at_nat (x :: xs) 0
theorem at_1 {α : Type} (x y : α) (xs : List α) : L2.atI (x :: y :: xs) 1 = some y := at_nat (x :: y :: xs) 1
end Dn
/-! Dn: the law itself, and what the end asks. -/
namespace Dn
open PySem PySem.Spec PyProof.Rows L2
section
variable {P : Program} {w : World} {K : PySem.W.Frag} {mg : Str → Option Value} {base : Heap}
def spLawD (K : PySem.W.Frag) : Sp := fun vs H Q _ => ∃ (a : Addr) (ns : List Int), vs = [.ref a] ∧ SqL K H a (ns.map V.int) ∧ ns.length ≤ 63 ∧ ∀ H', Q (.bl true) H'
abbrev cxL (P : Program) (w : World) (K : PySem.W.Frag) (mg : Str → Option Value) (base : Heap) (N : List Str) (qual : Str) (st : Stmt) (f : Addr) (cdv : Value) (A : Around) (outer : List Env) (s : Shared) (H : Hp) (E : XK) : Cx := (cxOf CX0 P w K mg base N qual (defScope st) f cdv A outer s H E).nox
def lawR (n : Nat) (ns : List Int) : Ro := .seq (ns.map .int) :: List.replicate (n - 1) .non
theorem at_law {N : List Str} {ns : List Int} {a : Addr} {H : Hp} (h : SqL K H a (ns.map V.int)) : At K ⟨H, H, H, [], fun _ => 0, fun _ _ => False⟩ (lawR N.length ns) (L2.start N [.ref a]) H H where
  len := by
    unfold lawR L2.start
    rw [List.length_append, List.length_map, List.length_replicate, List.length_cons, List.length_cons, List.length_replicate]
    simp; omega
  sl := fun i sl o e1 e2 => by
    unfold lawR at e1
    unfold L2.start at e2
    cases i with
    | zero =>
      rw [List.getElem?_cons_zero] at e1
      rw [List.map_cons, List.cons_append, List.getElem?_cons_zero] at e2
      cases e1; cases e2
      exact ⟨a, _, rfl, h, IsAll.of_ints ns⟩
    | succ i =>
      rw [List.getElem?_cons_succ, List.getElem?_replicate] at e1
      split at e1
      · cases e1; exact True.intro
      · cases e1
  sep := fun i j di dj p e1 _ _ _ => by
    unfold lawR at e1
    cases i with
    | zero => cases e1
    | succ i =>
      rw [List.getElem?_cons_succ, List.getElem?_replicate] at e1
      split at e1 <;> cases e1
  sub := Same.refl _
  old := fun _ _ => rfl
  kept := Same.refl _
  inh := fun i hi => nomatch hi
  bas := Same.refl _
theorem law_ok {x qual : Str} {st : Stmt} {f : Addr} {fd : FuncData} {N : List Str} {k : Nat} (F : Fun K x qual st f fd) (S : FnScope N ["script"] (defScope st)) (bl : ∀ x : Str, bnames.contains x = true → mg x = none)
    (body : ∀ (cdv : Value) (A : Around) (outer : List Env) (s : Shared) (H : Hp) (E : XK) (ns : List Int), ns.length ≤ 63 → Cok k (cxL P w K mg base N qual st f cdv A outer s H E) ⟨H, H, H, [], fun _ => 0, fun _ _ => False⟩ →
      Takes (cxL P w K mg base N qual st f cdv A outer s H E) (liftW K ⟨H, H, H, [], fun _ => 0, fun _ _ => False⟩) →
      ∃ T, DSs (cxL P w K mg base N qual st f cdv A outer s H E) ⟨H, H, H, [], fun _ => 0, fun _ _ => False⟩ (defBody st) T ∧ T { nx := fun _ => False, rt := fun d _ => d = .bool true } (lawR N.length ns)) : FnOk P w K mg base CX0 (k + 1) f fd ["script"] (spLawD K) := by
  refine F.ok S (fun vs H Q E ⟨a, ns, e, _⟩ => by rw [e]; rfl) (fun cdv A outer s H vs Q E hr hsp => ?_)
  obtain ⟨a, ns, rfl, hS, hl, hq⟩ := hsp
  have tk : Takes (cxL P w K mg base N qual st f cdv A outer s H E) (liftW K ⟨H, H, H, [], fun _ => 0, fun _ _ => False⟩) := by
    refine takes0.imp ?_
    rintro cls d σ' H' ⟨ρ', G', ex, a', xi, hw⟩
    exact hw
  obtain ⟨T, h1, h2⟩ := body cdv A outer s H E ns hl ⟨rfl, S.nd, hr, Same.refl _, PassesOwn.never, bl, fun σ => passAt tk σ⟩ tk
  refine ⟨_, h1.ps, _, H, _, at_law hS, ⟨?_, ?_, ?_, ?_⟩, h2⟩
  · intro ρ' σ' G' H' a' s' q
    exact q.elim
  · intro d v ρ' σ' G' H' a' s' i q
    cases q
    cases i
    exact hq _
  · intro ρ' σ' G' H' a' s' q
    exact q.elim
  · intro ρ' σ' G' H' a' s' q
    exact q.elim
end
/-- does «except C» take one of the class at S? -/
theorem exm_by {K : PySem.W.Frag} {S C : Addr} {b : Bool} (h1 : PySem.W.subIn K (.ref C) (.type "BaseException") = some true) (h2 : PySem.W.isClsIn K C = true) (h3 : PySem.W.typeIn K (.ref C) = some (.type "type")) (h4 : PySem.W.subIn K (.ref S) (.ref C) = some b) :
    PySem.W.exmOne K (.ref S) (.ref C) = some b := by
  unfold PySem.W.exmOne PySem.W.kitCls
  have h2' : (PySem.W.clsIn K C).isSome = true := h2
  simp [h1, h2', h3, h4]
/-- a place to rest: N holds behind the statement -/
def sCut (t : TDS) : TDS := fun R ρ => ∃ N : Ro → Prop, t { R with nx := N } ρ ∧ ∀ ρ', N ρ' → R.nx ρ'
theorem ds_cut {X : Cx} {Γ : Gm} {st : Stmt} {t : TDS} (h : DS X Γ st t) : DS X Γ st (sCut t) := by
  refine ⟨ps_imp h.ps ?_⟩
  rintro E σ H ⟨ρ, G, R, at_, ok, N, h1, h2⟩
  exact ⟨ρ, G, { R with nx := N }, at_, ⟨fun ρ' σ' G' H' a' s' q => ok.nx _ _ _ _ a' s' (h2 _ q), ok.rt, ok.bk, ok.ct⟩, h1⟩
theorem walkD {l : PySem.W.OpenLaw} {q : Program} {loose : List Str} {XP : (Str → Option Value) → Heap → Prop} {YP : World → Heap → Prop} {d : DefRec} {K : Params → PySem.W.Frag} {k : Nat} (hk : Room k callerA) (hn : l.most = some 63) (hdf : d.params.defaults = [])
    (hY : ∀ (w : World) (h : Heap), YP w h → (K w.params).In h)
    (F : ∀ (w : World) (mg : Str → Option Value) (fa : Addr) (h : Heap), (K w.params).In h → h.Ns mainGlobals mg → mg d.name = some (.ref fa) →
      ∃ fd : FuncData, (∀ (s : Shared) (u : Value), BindsTo s fd ⟨[u], []⟩ [("script", u)]) ∧ ∀ base : Heap, (K w.params).In base → base.Ns mainGlobals mg → FnOk l.prog w (K w.params) mg base CX0 k fa fd ["script"] (spLawD (K w.params))) :
    PySem.W.WalkO q loose XP YP l.row.toRowW d [] (fun f vs => PySem.call f vs) :=
  L2.walk_of (n := 63) (k := k) (x := "script") (CX := fun _ => CX0) (sp := fun w => spLawD (K w.params)) hn (by decide) hdf hk hY F (fun _ _ a ns hl _ hS => ⟨a, ns, rfl, hS, hl, fun _ => rfl⟩) fun _ _ _ _ _ z => z
theorem names_free {mg : Str → Option Value} (h : ∀ x ∈ bnames, mg x = none) : ∀ x : Str, bnames.contains x = true → mg x = none := fun x hx => h x (List.contains_iff_mem.mp hx)
end Dn
/-! Dn: enumerate of tuples and texts, zip, extend, slices backwards. -/
namespace Dn
open PySem PySem.Spec PyProof.Rows L2
/-! ### enumerate -/
def EnT (K : PySem.W.Frag) (a : Addr) : It where
  go i H := ∃ (xs : List V) (x : V), SqT K H a xs ∧ xs[i]? = some x
  yld i H v H' := ∃ T x, v = .ref T ∧ H T = none ∧ H' = upd H T (.tup [.int (i : Nat), x]) ∧ ∀ xs, SqT K H a xs → xs[i]? = some x
  stop i H := ∃ xs : List V, SqT K H a xs ∧ xs.length = i
def EnS (z : Str) : It where
  go i _ := i < z.cps.size
  yld i H v H' := ∃ T c, v = .ref T ∧ H T = none ∧ H' = upd H T (.tup [.int (i : Nat), .str ⟨#[c]⟩]) ∧ z.cps[i]? = some c
  stop i _ := z.cps.size = i
section
variable {P : Program} {w : World} {K : PySem.W.Frag}
/-- one turn of an enumerate, the source told by what it draws -/
theorem en_item {X : Cx} {pins : List (Addr × Obj)} {σ : L2.St} {H : Hp} {s : Shared} {E : Value → Shared → Prop} {elts : List Expr} {kk : Nat} {tpos : Pos} {e it : Addr} {i n : Nat} {fp : List Addr} {Pr : Nat → Value → Prop} {St : Nat → Heap → Prop} {old : Value} {Y : V → Prop}
    (I : Inv X pins σ H s) (D : Draws X.prog X.w X.A.in1 it fp n Pr St) (he : IsEnum s.heap e it ((i : Nat) : Int) old) (st : St i s.heap) (hi : i < n) (hne : e ≠ it) (hef : e ∉ fp) (hf : ∀ b ∈ [e, it], FpOk X pins H b)
    (hY : ∀ u, Pr i u → ∃ x, RelV x u ∧ Y x) (hit : it < s.heap.objs.size) :
    wpAny (model X.prog X.w) X.A (pyNext (.ref e)) (fun r s1 => ∃ u, r = some u ∧ wpAny (model X.prog X.w) X.A (letOwnedTupleGo (.Tuple elts kk tpos) (.ref e) u) (fun _ s2 => ∃ v H', Inv X pins σ H' s2 ∧ RelV v u ∧
      (∃ T x, v = .ref T ∧ H T = none ∧ H' = upd H T (.tup [.int (i : Nat), x]) ∧ Y x) ∧ ((∃ old, IsEnum s2.heap e it ((i + 1 : Nat) : Int) old) ∧ St (i + 1) s2.heap) ∧ ∀ b ∈ [e, it], H' b = none) E s1) E s := by
  have le : e < s.heap.objs.size := Heap.lt_size he
  refine wpAny_pyNext_enum_itemD D he st hi hne hef fun u h1 tk hp ho st' hT hz hk => ?_
  obtain ⟨x, ru, hy⟩ := hY u hp
  refine ⟨_, rfl, wpAny_letOwnedTupleGo_enum (s := { s with heap := h1, toks := tk + 1 }) ho fun h2 he' sb => ?_⟩
  have gT : h2.get? s.heap.objs.size = some { cls := .type "tuple", data := .seq #[.int i tk, u] } := (sb.2 _ (Nat.ne_of_gt le)).trans hT
  have ok : ObjOk X.prog X.w (upd H s.heap.objs.size (.tup [.int (i : Nat), x])) h2 s.heap.objs.size (.tup [.int (i : Nat), x]) :=
    ⟨by show 2 ≤ sizeLine; decide, [.int i tk, u], .cons ⟨_, rfl⟩ (.cons ru .nil), ⟨_, gT, rfl, _, rfl⟩⟩
  have I1 : Inv X pins σ (upd H s.heap.objs.size (.tup [.int (i : Nat), x])) { s with heap := h2, toks := tk + 1 } :=
    L2.Inv.turnedNew I (ch := [e, it]) (fun b ob hb q => (sb.2 b (fun z => hb (by simp [z]))).trans (hk b ob (fun z => hb (by simp [z])) (fun z => hb (by simp [z])) q)) hf (Nat.le_refl _) ok
  refine ⟨.ref s.heap.objs.size, _, I1, rfl, ⟨_, x, rfl, I.hok.fresh (Nat.le_refl _), rfl, hy⟩, ⟨⟨u, ?_⟩, D.frame _ _ _ st' fun b hb o q => (sb.2 b (fun z => hef (z ▸ hb))).trans q⟩, fun b hb => ?_⟩
  · rw [show ((i + 1 : Nat) : Int) = (i : Int) + 1 by omega]; exact he'
  · have hb' : b < s.heap.objs.size := by
      rcases List.mem_cons.mp hb with z | z
      · rw [z]; exact le
      · rw [List.mem_singleton.mp z]; exact hit
    rw [upd_ne (Nat.ne_of_lt hb')]
    exact (hf b hb).1
theorem turn_enT {elts : List Expr} {kk : Nat} {tpos : Pos} (a e it : Addr) :
    Turn P w K (.Tuple elts kk tpos) (EnT K a) [e, it] e (fun i h => (∃ old, IsEnum h e it ((i : Nat) : Int) old) ∧ h.IsTupleIter it a i ∧ e ≠ it) where
  mem := List.mem_cons_self ..
  obj := fun i h ⟨⟨old, he⟩, ⟨o, ho, hc, hd⟩, _⟩ b hb => by
    rcases List.mem_cons.mp hb with z | z
    · rw [z]; exact ⟨_, he, fun v q => nomatch q⟩
    · rw [List.mem_singleton.mp z]; exact ⟨o, ho, fun v q => by rw [hd] at q; cases q⟩
  keep := fun i h h' ⟨⟨old, he⟩, hi, hne⟩ k => ⟨⟨old, k e (List.mem_cons_self ..) _ he⟩, hi.at fun o q => k it (by simp) o q, hne⟩
  item := by
    rintro X rfl rfl rfl hc i pins s σ H E I hf ⟨⟨old, he⟩, hit, hne⟩ ⟨xs, x, hq, hx⟩
    obtain ⟨its, rv, p, hz⟩ := I.tuple hq
    have p' : s.heap.IsTuple a its.toArray := p
    have hil : it < s.heap.objs.size := by obtain ⟨_, q, _⟩ := hit; exact Heap.lt_size q
    have hea : e ≠ a := fun z => by
      subst z
      obtain ⟨o, ho, hcl, _⟩ := p
      rw [he] at ho
      cases ho
      exact absurd (show Value.type "enumerate" = Value.type "tuple" from hcl) (by decide)
    have hia : a ≠ it := fun z => by
      subst z
      obtain ⟨o, ho, hcl, _⟩ := p
      obtain ⟨o2, ho2, hc2, _⟩ := hit
      rw [ho2] at ho
      cases ho
      rw [hc2] at hcl
      exact absurd hcl (by decide)
    have hlt : i < its.toArray.size := by
      have := (List.getElem?_eq_some_iff.mp hx).1
      have := rv.length
      simp; omega
    refine wpAny_mono (en_item (elts := elts) (kk := kk) (tpos := tpos) (St := fun i h => h.IsTupleIter it a i ∧ h.IsTuple a its.toArray) (Y := fun y => ∀ ys, SqT X.K H a ys → ys[i]? = some y) I (Draws.tuple (A := X.A.in1) (show X.A.in1.handled = none from I.ok.hd hc) it a hia its.toArray) he ⟨hit, p'⟩ hlt hne (by simp [hne, hea]) hf (fun u hu => ?_) hil) ?_ fun _ _ z => z
    · obtain ⟨u2, h1, h2⟩ := rv.get hx
      have h3 : its[i]? = some u := by simpa using hu
      rw [h1] at h3
      cases h3
      exact ⟨x, h2, fun ys h => by rw [I.tuple_inj h hq]; exact hx⟩
    · rintro r s1 ⟨u, e1, h1⟩
      refine ⟨u, e1, wpAny_mono h1 ?_ fun _ _ z => z⟩
      rintro _ s2 ⟨v, H', I2, r2, y, ⟨h3, h4⟩, h5⟩
      exact ⟨v, H', I2, r2, y, ⟨h3, h4.1, hne⟩, h5⟩
  done := by
    rintro X rfl rfl rfl hc i pins s σ H E I hf ⟨⟨old, he⟩, hit, hne⟩ ⟨xs, hq, hx⟩
    obtain ⟨its, rv, p, hz⟩ := I.tuple hq
    have p' : s.heap.IsTuple a its.toArray := p
    obtain ⟨f0, f1, f2, f3, f4, f5⟩ := hf it (by simp)
    have hia : a ≠ it := fun z => by
      subst z
      obtain ⟨o, ho, hcl, _⟩ := p
      obtain ⟨o2, ho2, hc2, _⟩ := hit
      rw [ho2] at ho
      cases ho
      rw [hc2] at hcl
      exact absurd hcl (by decide)
    have hl := rv.length
    have D := Draws.tuple (prog := X.prog) (w := X.w) (A := X.A.in1) (show X.A.in1.handled = none from I.ok.hd hc) it a hia its.toArray
    have hn : i = its.toArray.size := by simp; omega
    subst hn
    exact wpAny_pyNext_enum_endD D he ⟨hit, p'⟩ fun h' eb => ⟨rfl, L2.Inv.turned I (t' := s.toks) (fun b o hb q => eb b o hb q) f0 f1 f3 f4 f5⟩
  self := fun A i s Q E ⟨⟨_, he⟩, _⟩ h => wpAny_pyIter_enum he h
theorem turn_enS {elts : List Expr} {kk : Nat} {tpos : Pos} (z : Str) (t : Tok) (e it : Addr) :
    Turn P w K (.Tuple elts kk tpos) (EnS z) [e, it] e (fun i h => (∃ old, IsEnum h e it ((i : Nat) : Int) old) ∧ h.IsStrIter it (strIterType z) z t i ∧ e ≠ it) where
  mem := List.mem_cons_self ..
  obj := fun i h ⟨⟨old, he⟩, ⟨o, ho, hc, hd⟩, _⟩ b hb => by
    rcases List.mem_cons.mp hb with q | q
    · rw [q]; exact ⟨_, he, fun v q => nomatch q⟩
    · rw [List.mem_singleton.mp q]; exact ⟨o, ho, fun v q => by rw [hd] at q; cases q⟩
  keep := fun i h h' ⟨⟨old, he⟩, ⟨o, ho, hi⟩, hne⟩ k => ⟨⟨old, k e (List.mem_cons_self ..) _ he⟩, ⟨o, k it (by simp) o ho, hi⟩, hne⟩
  item := by
    rintro X rfl rfl rfl hc i pins s σ H E I hf ⟨⟨old, he⟩, hit, hne⟩ hx
    have hil : it < s.heap.objs.size := by obtain ⟨_, q, _⟩ := hit; exact Heap.lt_size q
    have D := Draws.text (prog := X.prog) (w := X.w) (A := X.A.in1) (show X.A.in1.handled = none from I.ok.hd hc) it z t
    refine wpAny_mono (en_item (elts := elts) (kk := kk) (tpos := tpos) (Y := fun y => ∃ c, z.cps[i]? = some c ∧ y = .str ⟨#[c]⟩) I D he hit hx hne (by simp [hne]) hf (fun u hu => ?_) hil) ?_ fun _ _ z => z
    · obtain ⟨c, t', h1, h2⟩ := hu
      exact ⟨.str ⟨#[c]⟩, ⟨t', h2⟩, c, h1, rfl⟩
    · rintro r s1 ⟨u, e1, h1⟩
      refine ⟨u, e1, wpAny_mono h1 ?_ fun _ _ z => z⟩
      rintro _ s2 ⟨v, H', I2, r2, ⟨T, y, y1, y2, y3, c, y4, rfl⟩, ⟨h3, h4⟩, h5⟩
      exact ⟨v, H', I2, r2, ⟨T, c, y1, y2, y3, y4⟩, ⟨h3, h4, hne⟩, h5⟩
  done := by
    rintro X rfl rfl rfl hc i pins s σ H E I hf ⟨⟨old, he⟩, hit, hne⟩ hx
    obtain ⟨f0, f1, f2, f3, f4, f5⟩ := hf it (by simp)
    have D := Draws.text (prog := X.prog) (w := X.w) (A := X.A.in1) (show X.A.in1.handled = none from I.ok.hd hc) it z t
    have hx : z.cps.size = i := hx
    subst hx
    exact wpAny_pyNext_enum_endD D he hit fun h' eb => ⟨rfl, L2.Inv.turned I (t' := s.toks) (fun b o hb q => eb b o hb q) f0 f1 f3 f4 f5⟩
  self := fun A i s Q E ⟨⟨_, he⟩, _⟩ h => wpAny_pyIter_enum he h
end
section
variable {X : Cx} {Γ : Gm} {k : Nat} {a b e : Expr} {es : List Expr} {st : Stmt} {rest body orelse : List Stmt} {pos : Pos} {t u : TDS}
theorem meets_en1 {v : Value} {o : Obj} {H : Heap → Prop} (B : Begins v o H) :
    Meets (Builtin.«enumerate.__new__» ⟨[.type "enumerate", v], []⟩) (fun _ R s => H s.heap ∧
      R (.ok (.ret (.ref (s.heap.push o).objs.size))) { s with heap := (s.heap.push o).push { cls := .type "enumerate", data := .fields #[.none, .bool false, .ref s.heap.objs.size, rawInt 0, .none, .none] } }) :=
  .of_wp fun prog w A R s h => by
    obtain ⟨hp, g, d, tk, os⟩ := s; obtain ⟨h1, h⟩ := h
    have hsub := sub_enumerate
    have q1 : ∀ {A' : Around} {E : Value → Shared → Prop} {Q : Value → Shared → Prop}, Q (.ref hp.objs.size) ⟨hp.push o, g, d, tk, os⟩ → wpAny (model prog w) A' (pyIter v) Q E ⟨hp, g, d, tk, os⟩ := fun q => B.iter prog w _ _ ⟨hp, g, d, tk, os⟩ _ h1 q
    wp_walk using q1
    refine wpAny_stack_any fun st => wpAny_pure ?_
    split
    · rename_i c _ _ _ _ _
      cases (c == Value.type "enumerate")
      all_goals (wp_walk using q1; exact ⟨_, rfl, h⟩)
    · wp_walk using q1
      exact ⟨_, rfl, h⟩
theorem en_begins {prog : Program} {w : World} {A : Around} {E : Value → Shared → Prop} {s : Shared} {v : Value} {o : Obj} {H : Heap → Prop} {Q : Value → Shared → Prop} (B : Begins v o H) (h1 : H s.heap)
    (h : ∀ h', IsEnum h' (s.heap.objs.size + 1) s.heap.objs.size 0 .none → h'.get? s.heap.objs.size = some o → (∀ b o, s.heap.get? b = some o → h'.get? b = some o) → Q (.ref (s.heap.objs.size + 1)) { s with heap := h' }) :
    wpAny (model prog w) A (call (.type "enumerate") [v]) Q E s := by
  refine callType_new F.called_enumerate (by decide) (F.typeCall_enumerate_1 _) (F.newCall_enumerate_1 _) (fun obj => F.args_object_init_2 obj _) F.entry_enumerate_new (meets_en1 B) ⟨h1, ?_⟩
  have hz : (s.heap.push o).objs.size = s.heap.objs.size + 1 := Heap.size_push ..
  show _ ∧ _
  rw [hz]
  have he : IsEnum ((s.heap.push o).push { cls := .type "enumerate", data := .fields #[.none, .bool false, .ref s.heap.objs.size, rawInt 0, .none, .none] }) (s.heap.objs.size + 1) s.heap.objs.size 0 .none := by
    have := Heap.get?_push_size (s.heap.push o) (o := { cls := .type "enumerate", data := .fields #[.none, .bool false, .ref s.heap.objs.size, rawInt 0, .none, .none] }) rfl
    rw [hz] at this
    exact this
  exact ⟨⟨_, he, rfl⟩, h _ he (Heap.get?_push_of_some _ (Heap.get?_push_size _ B.free)) fun b o x => Heap.get?_push_of_some _ (Heap.get?_push_of_some _ x)⟩
def kEn (K : PySem.W.Frag) (R : It → Hp → Prop) (vs : List V) (H : Hp) : Prop := match vs with
  | [x] => (∃ a xs, x = .ref a ∧ SqL K H a xs ∧ R (Ite K a) H) ∨ (∃ a xs, x = .ref a ∧ SqT K H a xs ∧ R (EnT K a) H) ∨ ∃ z, x = .str z ∧ R (EnS z) H
  | _ => False
theorem pi_en {elts : List Expr} {kk : Nat} {tpos p : Pos} {te : TE} (hg : Gl X "enumerate") (hm : X.mg "enumerate" = none) (he : PE X e te) (hs : starEach [e] X.env = [(false, eval e X.env)] := by rfl) :
    PI X (.Tuple elts kk tpos) (.Call (.Name "enumerate" p) [e] [] pos) (fun σ H R => te σ H fun x H1 => kEn X.K R [x] H1) := by
  refine ⟨fun pins s σ H R I h => ?_⟩
  refine Call_ (ld_blt I hg hm boot_enumerate (PyProof.Rows.callWith_type1 (thn ((pa_cons he pa_nil hs).run pos pins s σ H (kEn X.K R) I h) fun us s1 ⟨vs, H1, I1, r1, q1⟩ => ?_) hs rfl))
  cases r1 with
  | nil => exact q1.elim
  | cons r rr =>
    cases rr with
    | cons _ _ => exact q1.elim
    | nil =>
      have fo : ∀ b ∈ [s1.heap.objs.size + 1, s1.heap.objs.size], FpOk X pins H1 b := fun b hb => by
        have hle : s1.heap.objs.size ≤ b := by
          rcases List.mem_cons.mp hb with z | z
          · rw [z]; exact Nat.le_add_right _ _
          · rw [List.mem_singleton.mp z]; exact Nat.le_refl _
        exact I1.fpOk hle (I1.hok.fresh hle)
      rcases q1 with ⟨a, xs, rfl, hq, q⟩ | ⟨a, xs, rfl, hq, q⟩ | ⟨z, rfl, q⟩
      · cases r
        obtain ⟨its, rv, p', hz⟩ := I1.list hq
        refine call_enumerate_list p'.isList fun h' he' hit hsz hk => wpAny_pyIter_enum he' ?_
        exact ⟨s1.heap.objs.size + 1, [s1.heap.objs.size + 1, s1.heap.objs.size], _, _, H1, rfl, I1.kept (t' := s1.toks) hk, turn_enum a (s1.heap.objs.size + 1) s1.heap.objs.size, ⟨⟨.none, he'⟩, hit, Nat.succ_ne_self _⟩, fo, q⟩
      · cases r
        obtain ⟨its, rv, p', hz⟩ := I1.tuple hq
        refine en_begins (begins_tuple a its.toArray) p' fun h' he' hit hk => wpAny_pyIter_enum he' ?_
        exact ⟨s1.heap.objs.size + 1, [s1.heap.objs.size + 1, s1.heap.objs.size], _, _, H1, rfl, I1.kept (t' := s1.toks) hk, turn_enT a (s1.heap.objs.size + 1) s1.heap.objs.size, ⟨⟨.none, he'⟩, ⟨_, hit, rfl, rfl⟩, Nat.succ_ne_self _⟩, fo, q⟩
      · obtain ⟨t, rfl⟩ := r
        refine en_begins (begins_text z t) trivial fun h' he' hit hk => wpAny_pyIter_enum he' ?_
        exact ⟨s1.heap.objs.size + 1, [s1.heap.objs.size + 1, s1.heap.objs.size], _, _, H1, rfl, I1.kept (t' := s1.toks) hk, turn_enS z t (s1.heap.objs.size + 1) s1.heap.objs.size, ⟨⟨.none, he'⟩, ⟨_, hit, rfl, rfl⟩, Nat.succ_ne_self _⟩, fo, q⟩
/-- what enumerate tells -/
def enumFrom (n : Nat) : List D → List D
  | [] => []
  | d :: ds => .tuple [.int n, d] :: enumFrom (n + 1) ds
theorem enumFrom_len : ∀ (n : Nat) (ds : List D), (enumFrom n ds).length = ds.length
  | _, [] => rfl
  | n, d :: ds => congrArg Nat.succ (enumFrom_len (n + 1) ds)
theorem enumFrom_get : ∀ (n : Nat) (ds : List D) (i : Nat) (d : D), ds[i]? = some d → (enumFrom n ds)[i]? = some (.tuple [.int ((n + i : Nat) : Int), d])
  | _, [], i, d, h => by cases i <;> cases h
  | n, x :: ds, 0, d, h => by cases h; rfl
  | n, x :: ds, i + 1, d, h => by
    have q := enumFrom_get (n + 1) ds i d h
    rw [show n + (i + 1) = n + 1 + i by omega]
    exact q
theorem jok_en {K : PySem.W.Frag} {J : It} {ds : List D} {G1 : Hp} (hgo : ∀ i H, Same G1 H → i < ds.length → J.go i H) (hst : ∀ H, Same G1 H → J.stop ds.length H)
    (hy : ∀ i H v H', Same G1 H → J.yld i H v H' → ∃ T x, v = .ref T ∧ H T = none ∧ H' = upd H T (.tup [.int (i : Nat), x]) ∧ ∃ d, ds[i]? = some d ∧ Is K G1 x d) : JOk K J (enumFrom 0 ds) G1 := by
  have l := enumFrom_len 0 ds
  refine ⟨fun i H G s1 s2 hi => hgo i H (s1.trans s2) (by rw [← l]; exact hi), fun H G s1 s2 => by rw [l]; exact hst H (s1.trans s2), fun i H G v H' s1 s2 hi y => ?_⟩
  obtain ⟨T, x, rfl, hT, rfl, d, h1, h2⟩ := hy i H v H' (s1.trans s2) y
  have q := enumFrom_get 0 ds i d h1
  rw [Nat.zero_add] at q
  refine ⟨_, upd G T (.tup [.int (i : Nat), x]), q, Grow.laid s2 hT, ?_⟩
  have sg : Same G (upd G T (.tup [.int (i : Nat), x])) := fun b u e => by rw [upd_ne (ne_of_none e (s2.free hT))]; exact e
  exact .tup (.inl (.inl upd_same)) (.cons (.int _) (.cons ((h2.mono s1).mono sg) .nil))
def iEn (t : TD) : TI' := fun ρ Q => t ρ fun d ρ1 => seqD d fun ds => Q (enumFrom 0 ds) ρ1
theorem di_en {elts : List Expr} {kk : Nat} {tpos p : Pos} {t : TD} (c : Cok k X Γ) (h : DE X Γ e t) (hg : Gl X "enumerate" := by rfl) (hs : starEach [e] X.env = [(false, eval e X.env)] := by rfl) :
    DI X Γ (.Tuple elts kk tpos) (.Call (.Name "enumerate" p) [e] [] pos) (iEn t) := by
  refine ⟨pi_imp (pi_en hg (c.bl _ rfl) h.pe hs) ?_⟩
  rintro σ H R ⟨ρ, G, k, at_, h, fin⟩
  refine ⟨ρ, G, _, at_, h, fun d ρ1 v G1 H1 h1 a1 s1 r1 => ?_⟩
  cases d with
  | list ds =>
    cases r1 with
    | lst h2 h3 =>
      refine .inl ⟨_, _, rfl, .of (a1.sub _ _ h2), fin _ _ _ _ _ h1 a1 s1 (jok_en (fun i H s hi => ?_) (fun H s => ?_) fun i H v H' s y => ?_)⟩
      · rw [← h3.length] at hi
        exact ⟨_, _, s.seq (.of h2), List.getElem?_eq_getElem hi⟩
      · exact ⟨_, s.seq (.of h2), Nat.le_of_eq h3.length⟩
      · obtain ⟨T, x, e1, e2, e3, e4⟩ := y
        obtain ⟨d, h4, h5⟩ := h3.get (e4 _ (s.seq (.of h2)))
        exact ⟨T, x, e1, e2, e3, d, h4, h5⟩
  | tuple ds =>
    cases r1 with
    | tup h2 h3 =>
      refine .inr (.inl ⟨_, _, rfl, Same.sqt a1.sub h2, fin _ _ _ _ _ h1 a1 s1 (jok_en (fun i H s hi => ?_) (fun H s => ?_) fun i H v H' s y => ?_)⟩)
      · rw [← h3.length] at hi
        exact ⟨_, _, Same.sqt s h2, List.getElem?_eq_getElem hi⟩
      · exact ⟨_, Same.sqt s h2, h3.length⟩
      · obtain ⟨T, x, e1, e2, e3, e4⟩ := y
        obtain ⟨d, h4, h5⟩ := h3.get (e4 _ (Same.sqt s h2))
        exact ⟨T, x, e1, e2, e3, d, h4, h5⟩
  | str z =>
    cases r1 with
    | str _ =>
      have l : (signs z).length = z.cps.size := by unfold signs; simp
      refine .inr (.inr ⟨z, rfl, fin _ _ _ _ _ h1 a1 s1 (jok_en (fun i H s hi => ?_) (fun H s => ?_) fun i H v H' s y => ?_)⟩)
      · rw [l] at hi; exact hi
      · exact l.symm
      · obtain ⟨T, c, e1, e2, e3, e4⟩ := y
        exact ⟨T, _, e1, e2, e3, .str ⟨#[c]⟩, by unfold signs; simp [e4], .str _⟩
  | _ => exact (show False from h1).elim
end
end Dn
/-! Dn: tuple * int, order of tuples, slices backwards, extend, zip. -/
namespace Dn
open PySem PySem.Spec PyProof.Rows L2
theorem tm_same (l : Addr) (items : Array Value) (n : Nat) (dd : Option Addr) (sl : Array (Option Value)) (x : Int) (u : Tok) (c0 : (decide (x < -(2 ^ 63)) || decide (x ≥ 2 ^ 63)) = false) (c1 : (items.isEmpty || x == 1) = true) :
    Meets (Builtin.«tuple.__mul__» ⟨[.ref l, .int x u], []⟩) (fun _ R s => s.heap.get? l = some { cls := .type "tuple", dict := dd, data := .seq items n, slots := sl } ∧ R (.ok (.ret (Value.ref l))) s) :=
  .of_wp fun prog w A R s h => by
    obtain ⟨hp, g, d, tk, os⟩ := s
    obtain ⟨hl, h⟩ := h
    have f1 := AutoSeq1.idx_int
    wp_walk using wpAny_loadPart' hl
    refine wpAny_ite_false (decide_eq_false (by rw [c0]; exact Bool.false_ne_true)) ?_
    wp_walk using wpAny_loadPart' hl
    exact ⟨_, rfl, h⟩
theorem tm_none (l : Addr) (items : Array Value) (n : Nat) (dd : Option Addr) (sl : Array (Option Value)) (x : Int) (u : Tok) (c0 : (decide (x < -(2 ^ 63)) || decide (x ≥ 2 ^ 63)) = false) (c1 : (items.isEmpty || x == 1) = false) (c2 : (decide (x ≤ 0) || items.isEmpty) = true) :
    Meets (Builtin.«tuple.__mul__» ⟨[.ref l, .int x u], []⟩) (fun _ R s => s.heap.get? l = some { cls := .type "tuple", dict := dd, data := .seq items n, slots := sl } ∧
      R (.ok (.ret (Value.ref s.heap.objs.size))) { s with heap := s.heap.push { cls := Value.type "tuple", data := Data.seq #[] }, toks := s.toks }) :=
  .of_wp fun prog w A R s h => by
    obtain ⟨hp, g, d, tk, os⟩ := s
    obtain ⟨hl, h⟩ := h
    have f1 := AutoSeq1.idx_int
    wp_walk using wpAny_loadPart' hl
    refine wpAny_ite_false (decide_eq_false (by rw [c0]; exact Bool.false_ne_true)) ?_
    wp_walk using wpAny_loadPart' hl
    exact ⟨_, rfl, h⟩
section
variable {X : Cx}
/-- t * k: k = 1 (or an empty t) gives t itself -/
def rRepB (K : PySem.W.Frag) : R2 := fun x y H Q => ∃ l k xs, x = .ref l ∧ y = .int k ∧ SqT K H l xs ∧ -(2 ^ 62) ≤ k ∧ k ≤ 1000 ∧ xs.length ≤ 1000 ∧
  (xs = [] ∨ k = 1 → Q (.ref l) H) ∧ (xs ≠ [] → k ≠ 1 → ∀ p, H p = none → Q (.ref p) (upd H p (.tup (List.replicate k.toNat xs).flatten)))
theorem op_repB : OpR X (binaryOp .Mult) (rRepB X.K) := by
  intro pins s σ H x y v u Q I rx ry h
  obtain ⟨l, k, xs, rfl, rfl, hT, h1, h2, hz, q1, q2⟩ := h
  by_cases hk : xs ≠ [] ∧ 2 ≤ k
  · exact op_repT pins s σ H _ _ v u Q I rx ry ⟨l, k, xs, rfl, rfl, hT, hk.1, hk.2, h2, hz, q2 hk.1 (by omega)⟩
  cases rx
  obtain ⟨t, rfl⟩ := ry
  obtain ⟨its, r, ⟨⟨cls, dd, data, sl⟩, ho, hc, n, hd⟩, hs⟩ := I.tuple hT
  simp only at hc hd
  subst hc hd
  have c0 : (decide (k < -(2 ^ 63)) || decide (k ≥ 2 ^ 63)) = false := by rw [decide_eq_false (by omega), decide_eq_false (by omega)]; rfl
  have he : its.toArray.isEmpty = xs.isEmpty := by cases r <;> rfl
  by_cases hs1 : xs = [] ∨ k = 1
  · have c1 : (its.toArray.isEmpty || k == 1) = true := by
      rw [he]
      rcases hs1 with z | z
      · rw [z]; rfl
      · rw [z]; simp
    refine wpAny_binaryOp_repeat_ref (T := "tuple") (U := "int") (by decide) ⟨_, ho, rfl⟩ (fun s' => typeIs_int s' k t) noFill_tuple_mul F.fills_int_mul F.slot_int_rmul repeat_tuple F.slot_int_index.lookup
      (call_meets F.slot_int_rmul (typeIs_int s k t) F.entry_int_rmul (F.args_int_rmul_2 _ _) (int_rmul_tuple k t l its.toArray n dd sl)
        ⟨ho, rfl, ⟨_, ho, rfl⟩, call_meets F.slot_tuple_mul ⟨_, ho, rfl⟩ F.entry_tuple_mul (F.args_tuple_mul_2 _ _) (tm_same l its.toArray n dd sl k t c0 c1) ⟨ho, ?_⟩⟩)
    exact ⟨.ref l, H, I, rfl, q1 hs1⟩
  · have hne : xs ≠ [] := fun z => hs1 (.inl z)
    have hk1 : k ≠ 1 := fun z => hs1 (.inr z)
    have hk0 : k ≤ 0 := by
      by_cases h2 : 2 ≤ k
      · exact absurd ⟨hne, h2⟩ hk
      · omega
    have hie : its.toArray.isEmpty = false := by
      rw [he]
      cases xs with
      | nil => exact absurd rfl hne
      | cons _ _ => rfl
    have c1 : (its.toArray.isEmpty || k == 1) = false := by rw [hie, Bool.false_or]; exact beq_eq_false_iff_ne.mpr hk1
    have c2 : (decide (k ≤ 0) || its.toArray.isEmpty) = true := by rw [decide_eq_true hk0]; rfl
    refine wpAny_binaryOp_repeat_ref (T := "tuple") (U := "int") (by decide) ⟨_, ho, rfl⟩ (fun s' => typeIs_int s' k t) noFill_tuple_mul F.fills_int_mul F.slot_int_rmul repeat_tuple F.slot_int_index.lookup
      (call_meets F.slot_int_rmul (typeIs_int s k t) F.entry_int_rmul (F.args_int_rmul_2 _ _) (int_rmul_tuple k t l its.toArray n dd sl)
        ⟨ho, rfl, ⟨_, ho, rfl⟩, call_meets F.slot_tuple_mul ⟨_, ho, rfl⟩ F.entry_tuple_mul (F.args_tuple_mul_2 _ _) (tm_none l its.toArray n dd sl k t c0 c1 c2) ⟨ho, ?_⟩⟩)
    have q := q2 hne hk1
    rw [show k.toNat = 0 by omega] at q
    exact ⟨.ref s.heap.objs.size, _, I.laid (t' := s.toks) (o := .tup []) (fun b ob q => Heap.get?_push_of_some _ q) (Nat.le_refl _) ⟨Nat.zero_le _, [], .nil, IsTup.new _ _⟩, rfl, q _ (I.hok.fresh (Nat.le_refl _))⟩
end
section
variable {X : Cx} {Γ : Gm} {k j n : Nat} {a b e : Expr} {es : List Expr} {st : Stmt} {rest body orelse : List Stmt} {pos : Pos} {t u : TDS}
theorem OpR.or' {fn : Value → Value → Sem Value} {r r' : R2} (h : OpR X fn r) (h' : OpR X fn r') : OpR X fn (fun x y H Q => r x y H Q ∨ r' x y H Q) := by
  intro pins s σ H x y v u Q I rx ry q
  rcases q with q | q
  · exact h pins s σ H x y v u Q I rx ry q
  · exact h' pins s σ H x y v u Q I rx ry q
theorem rep_one {α : Type} (xs : List α) : (List.replicate 1 xs).flatten = xs := by simp
theorem rep_nil {α : Type} (n : Nat) : (List.replicate n ([] : List α)).flatten = [] := by simp
/-- int * int, list * int, tuple * int -/
def mulA : Op2
  | .int i, .int j, Q => CM i j ∧ Q (.int (i * j))
  | .list xs, .int n, Q => (-(2 ^ 63) ≤ n ∧ n < 2 ^ 63 ∧ xs.length * n.toNat ≤ 16777216) ∧ Q (.list (List.replicate n.toNat xs).flatten)
  | .tuple xs, .int n, Q => (-(2 ^ 62) ≤ n ∧ n ≤ 1000 ∧ xs.length ≤ 1000) ∧ Q (.tuple (List.replicate n.toNat xs).flatten)
  | _, _, _ => False
theorem od_mulA : OpD X (binaryOp .Mult) mulA := by
  refine OpD.or (OpR.or' op_mulC (OpR.or' op_rep op_repB)) ?_
  rintro x y H Q ⟨G, d, e, k, s, hx, hy, h, fin⟩
  cases d with
  | int i =>
    cases e with
    | int j => exact .inl ⟨i, j, hx.int, hy.int, h.1, fin _ _ G H h.2 (.refl s) (.int _)⟩
    | _ => exact (show False from h).elim
  | list xs =>
    cases e with
    | int n =>
      obtain ⟨p, us, rfl, h1, h2⟩ := hx.list s
      refine .inr (.inl ⟨p, n, us, rfl, hy.int, h1, h.1.1, h.1.2.1, line_le (by rw [h2.length]; exact h.1.2.2), fun r hr => ?_⟩)
      have g := Grow.laid (o := .lst (List.replicate n.toNat us).flatten) s hr
      exact fin _ _ _ _ h.2 g (.lst upd_same ((h2.mono g.gg).rep _))
    | _ => exact (show False from h).elim
  | tuple xs =>
    cases e with
    | int n =>
      obtain ⟨p, us, rfl, h1, h2⟩ := hx.tup
      have hl := h2.length
      refine .inr (.inr ⟨p, n, us, rfl, hy.int, Same.sqt s h1, h.1.1, h.1.2.1, by rw [hl]; exact h.1.2.2, fun z => ?_, fun _ _ r hr => ?_⟩)
      · have e : (List.replicate n.toNat xs).flatten = xs := by
          rcases z with z | z
          · subst z
            have : xs = [] := List.eq_nil_of_length_eq_zero (by rw [← hl]; rfl)
            subst this
            exact rep_nil _
          · subst z
            exact rep_one xs
        exact fin _ _ G H (e ▸ h.2) (.refl s) (.tup h1 h2)
      · have g := Grow.laid (o := .tup (List.replicate n.toNat us).flatten) s hr
        exact fin _ _ _ _ h.2 g (.tup (.inl (.inl upd_same)) ((h2.mono g.gg).rep _))
    | _ => exact (show False from h).elim
  | _ => exact (show False from h).elim
def intsOf : List D → Option (List Int)
  | [] => some []
  | .int i :: r => (intsOf r).map (i :: ·)
  | _ :: _ => none
theorem intsOf_eq : ∀ {ds : List D} {ns : List Int}, intsOf ds = some ns → ds = ns.map PyData.int
  | [], _, h => by cases h; rfl
  | d :: r, _, h => by
    cases d with
    | int i =>
      have h : (intsOf r).map (i :: ·) = some _ := h
      cases e : intsOf r with
      | none => rw [e] at h; cases h
      | some cs =>
        rw [e] at h
        cases h
        rw [intsOf_eq e]; rfl
    | _ => cases h
theorem intsOf_map : ∀ ns : List Int, intsOf (ns.map PyData.int) = some ns
  | [] => rfl
  | n :: ns => by
    show (intsOf (ns.map PyData.int)).map (n :: ·) = _
    rw [intsOf_map ns]; rfl
/-- order: of ints, of texts, of tuples of ints -/
def ltA : Op2
  | .int i, .int j, Q => Q (.bool (decide (i < j)))
  | .str x, .str y, Q => Q (.bool (decide (x.cps.toList < y.cps.toList)))
  | .tuple xs, .tuple ys, Q => optD (intsOf xs) fun ns => optD (intsOf ys) fun ms => Q (.bool (HT.lexLt ns ms))
  | _, _, _ => False
theorem od_ltA (c : Cok k X Γ) : OpD X (compareOp .Lt) ltA := by
  refine OpD.or (OpR.or' op_lt (OpR.or' op_lt_str (op_ltT (by have := c.hu; omega)))) ?_
  rintro x y H Q ⟨G, d, e, k, s, hx, hy, h, fin⟩
  cases d with
  | int i =>
    cases e with
    | int j => exact .inl ⟨i, j, hx.int, hy.int, fin _ _ G H h (.refl s) (.bl _)⟩
    | _ => exact (show False from h).elim
  | str i =>
    cases e with
    | str j => exact .inr (.inl ⟨i, j, hx.str, hy.str, fin _ _ G H h (.refl s) (.bl _)⟩)
    | _ => exact (show False from h).elim
  | tuple xs =>
    cases e with
    | tuple ys =>
      have h : optD (intsOf xs) _ := h
      obtain ⟨ns, e1, h⟩ := optD.to h
      obtain ⟨ms, e2, h⟩ := optD.to h
      obtain ⟨p, us, rfl, h1, h2⟩ := hx.tup
      obtain ⟨q, ws, rfl, h3, h4⟩ := hy.tup
      rw [intsOf_eq e1] at h2
      rw [intsOf_eq e2] at h4
      rw [h2.ints] at h1
      rw [h4.ints] at h3
      exact .inr (.inr ⟨p, q, ns, ms, rfl, rfl, Same.sqt s h1, Same.sqt s h3, fin _ _ G H h (.refl s) (.bl _)⟩)
    | _ => exact (show False from h).elim
  | _ => exact (show False from h).elim
/-- name.extend(e), e a list -/
def sExt (i : Nat) (t : TD) : TDS := fun R ρ => ownL ρ i fun _ => t ρ fun d ρ1 => ownL ρ1 i fun xs => match d with
  | .list ys => xs.length + ys.length ≤ 16777216 ∧ R.nx (ρ1.set i (.own (.list (xs ++ ys))))
  | _ => False
theorem ds_ext {i : Nat} {x : Str} {p1 apos cpos : Pos} {t : TD} (he : DE X Γ e t) (hN : X.N[i]? = some x := by rfl) (hv : Vis X.env.scope x := by first | exact Or.inl rfl | exact Or.inr (Or.inl rfl) | exact Or.inr (Or.inr rfl)) (hd : (x == ("__debug__" : Str)) = false := by decide)
    (hcd : (x == ("__classdict__" : Str)) = false := by decide)
    (hbase : attributeBase (.Name x p1) "extend" X.env (eval (.Name x p1) X.env) = eval (.Name x p1) X.env := by rfl)
    (hfew : ((backTo cpos (starEach [e] X.env)).all (fun x => !x.1) && (backToKw cpos (keywordEach [] X.env)).all (fun x => x.1.isSome)
      && decide ([e].length + ([] : List Keyword).length + (if ([] : List Keyword).isEmpty then 0 else 1) < 30)) = true := by rfl)
    (hline : (apos.endLine == cpos.line) = true := by rfl) (hs : starEach [e] X.env = (false, eval e X.env) :: starEach [] X.env := by rfl) (hplain : (backTo cpos (starEach [] X.env)).any (·.1) = false := by rfl)
    (hsw : swapsWith (.Call (.Attribute (.Name x p1) "extend" apos) [e] [] cpos) none pos.line X.env = pure false := by rfl) :
    DS X Γ (.Expr (.Call (.Attribute (.Name x p1) "extend" apos) [e] [] cpos) pos) (sExt i t) := by
  refine ⟨ps_imp (ps_expr (pe_bm PySem.F.plainAttrs_list PySem.F.slot_list_extend PySem.F.type_list_extend mt_extend (pe_var (i := i) hN hv hd hcd) (pa_cons he.pe pa_nil hs) hbase hfew hline hs hplain) hsw) ?_⟩
  rintro E σ H ⟨ρ, G, R, at_, ok, h⟩
  obtain ⟨ys, e0, h⟩ := h.to
  obtain ⟨p, xs0, hp, hx0, _⟩ := at_.ownLst e0
  refine ⟨_, hp, .inl ⟨rfl, _, SqL.of hx0⟩, ρ, G, _, at_, h, fun d ρ1 v G1 H1 h1 a1 s1 r1 => ?_⟩
  obtain ⟨ds, e1, h1⟩ := h1.to
  obtain ⟨p', xs, hp', hx, rx⟩ := a1.ownLst e1
  rw [hp] at hp'
  cases hp'
  cases d with
  | list zs =>
    cases r1 with
    | lst h2 h3 =>
      refine ⟨p, _, xs, _, rfl, rfl, hx, a1.sub _ _ h2, line_le (by rw [rx.length, h3.length]; exact h1.1), ?_⟩
      exact ok.nx _ _ _ _ (a1.write e1 hp (.inl ⟨_, _, rfl, upd_same, rx.append h3⟩)) s1 h1.2
  | _ => exact h1.elim
end
end Dn
/-! Dn: xs[::-1], zip, two names at once, ranges as values. -/
namespace Dn
open PySem PySem.Spec PyProof.Rows L2
section
variable {prog : Program} {w : World} {A : Around} {E : Value → Shared → Prop} {s : Shared}
theorem adj_rev (n : Nat) : Builtin.Slice.sliceAdjust none none (-1) (n : Int) = ((n : Int) - 1, -1) := by
  unfold Builtin.Slice.sliceAdjust
  rfl
theorem places_rev (n : Nat) : Builtin.Slice.slicePlaces ((n : Int) - 1) (-1) (-1) = n := by
  unfold Builtin.Slice.slicePlaces
  have h1 : ¬ ((-1 : Int) > 0) := by omega
  simp only [h1, if_false, show (- -1 : Int) = 1 from rfl, Int.ediv_one]
  split <;> omega
theorem applied_rev {sl : Addr} {vs : Value} {n : Nat} {Q : Int × Int × Nat → Shared → Prop} (hs : s.heap.IsSliceOf sl .none .none vs) (ps : IsPart vs (some (-1))) (h : Q ((n : Int) - 1, -1, n) s) :
    wpAny (model prog w) A (Builtin.Slice.sliceApplied (.ref sl) (pure (n : Int))) Q E s := by
  obtain ⟨os, hos, hcs, hds⟩ := id hs
  unfold Builtin.Slice.sliceApplied Builtin.Slice.sliceFields
  refine wpAny_bind (wpAny_bind (wpAny_field hos hds (x := .none) rfl (wpAny_bind (wpAny_field hos hds (x := .none) rfl (wpAny_bind (wpAny_field hos hds (x := vs) rfl (wpAny_pure ?_)))))))
  refine wpAny_bind (HT.slicePart_ ps ?_)
  show wpAny _ _ (if ((-1 : Int) == 0) = true then _ else _) _ _ s
  rw [if_neg (by decide)]
  refine wpAny_bind (HT.slicePart_ .none (wpAny_bind (HT.slicePart_ .none (wpAny_bind (wpAny_pure ?_)))))
  show wpAny _ _ (match Builtin.Slice.sliceAdjust none none (-1) (n : Int) with | (lo, hi) => pure (lo, (-1 : Int), Builtin.Slice.slicePlaces lo hi (-1))) _ _ s
  rw [adj_rev n]
  show wpAny _ _ (pure ((n : Int) - 1, (-1 : Int), Builtin.Slice.slicePlaces ((n : Int) - 1) (-1) (-1))) _ _ s
  rw [places_rev]
  exact wpAny_pure h
theorem pick_rev (xs : Array Value) : ((List.range xs.size).filterMap fun (m : Nat) => xs[((xs.size : Int) - 1 + (m : Int) * (-1)).toNat]?).toArray = xs.toList.reverse.toArray := by
  have e : ∀ n, (List.range n).filterMap (fun (m : Nat) => xs[((n : Int) - 1 + (m : Int) * (-1)).toNat]?) = ((List.range n).map fun k => n - 1 - k).filterMap (xs[·]?) := fun n => by
    rw [List.filterMap_map]
    congr 1
    funext m
    have : ((n : Int) - 1 + (m : Int) * (-1)).toNat = n - 1 - m := by omega
    rw [this]
    rfl
  rw [e, PySem.W.krv_range, List.filterMap_reverse, PySem.W.krv_all]
theorem item_tuple_rev {t sl : Addr} {items : Array Value} {vs : Value} {Q : Value → Shared → Prop} (ht : IsTup s.heap t items) (hs : s.heap.IsSliceOf sl .none .none vs) (ps : IsPart vs (some (-1)))
    (h : Q (.ref s.heap.objs.size) { s with heap := s.heap.push { cls := .type "tuple", data := .seq items.toList.reverse.toArray } }) (hsz : items.size ≤ sizeLine) : wpAny (model prog w) A (getItem (.ref t) (.ref sl)) Q E s := by
  have hok : sizeOk (.seq items.toList.reverse.toArray) := by
    show items.toList.reverse.toArray.size ≤ sizeLine
    rw [List.size_toArray, List.length_reverse, Array.length_toList]
    exact hsz
  obtain ⟨os, hos, hcs, hds⟩ := id hs
  have hTs : s.TypeIs (.ref sl) "slice" := ⟨os, hos, hcs⟩
  unfold getItem
  try with_reducible refine wpAny_holding ?_
  first | refine wpAny_bind (wpAny_pure ?_) | skip
  refine wpAny_bind (wpAny_sequenceKey ht.typeIs (by decide) ?_)
  refine wpAny_bind (wpAny_callSpecial?_slot (name := Str.ofString "__getitem__") ht.typeIs PyProof.Rows.slot_tuple_getitem (wpAny_call_entry PyProof.Rows.slot_tuple_getitem ht.typeIs PyProof.Rows.entry_tuple_getitem ?_ (PyProof.Rows.args_tuple_getitem _ _)))
  show wpAny _ _ (Builtin.Tuple.tupleItemsOf (.ref t) >>= _) _ _ s
  refine wpAny_bind (PyProof.Rows.tupleItemsOf_ ht (wpAny_bind (wpAny_typeOf hTs ?_)))
  rw [if_pos (by decide)]
  refine wpAny_bind (applied_rev hs ps ?_)
  have hno : ¬ (((items.size : Int) - 1 == 0 && (-1 : Int) == 1 && items.size == items.size) = true) := by simp
  show wpAny _ _ (if ((items.size : Int) - 1 == 0 && (-1 : Int) == 1 && items.size == items.size) = true then _ else _) _ _ s
  rw [if_neg hno, pick_rev]
  first
    | exact wpAny_bind (m := Builtin.Tuple.tupleExact _) (wpAny_newObj_type (wpAny_pure ⟨_, rfl, wpAny_pure h⟩) hok)
    | exact wpAny_bind (m := Builtin.Tuple.tupleExact _) (wpAny_newObj_type (wpAny_bind (wpAny_pure (wpAny_pure ⟨_, rfl, wpAny_pure h⟩))) hok)
    | exact wpAny_bind (wpAny_bind (m := Builtin.Tuple.tupleExact _) (wpAny_newObj_type (wpAny_pure (wpAny_pure ⟨_, rfl, wpAny_pure h⟩)) hok))
    | exact wpAny_bind (wpAny_bind (m := Builtin.Tuple.tupleExact _) (wpAny_newObj_type (wpAny_pure ⟨_, rfl, wpAny_pure h⟩) hok))
end
section
variable {X : Cx} {Γ : Gm} {k j n : Nat} {a b e : Expr} {es : List Expr} {st : Stmt} {rest body orelse : List Stmt} {pos : Pos} {t u : TDS}
def tRevT (K : PySem.W.Frag) (te : TE) : TE := fun σ H Q => te σ H fun x H1 => ∃ a xs, x = .ref a ∧ ((SqL K H1 a xs ∧ ∀ p, H1 p = none → Q (.ref p) (upd H1 p (.lst xs.reverse))) ∨ (SqT K H1 a xs ∧ ∀ p, H1 p = none → Q (.ref p) (upd H1 p (.tup xs.reverse))))
theorem pe_rev {te : TE} {kk : Nat} {p1 p2 p3 : Pos} (he : PE X e te) : PE X (.Subscript e (.Slice none none (some (.UnaryOp .USub (.Constant (.int 1) kk p1) p2)) p3) pos) (tRevT X.K te) := by
  refine ⟨fun pins s σ H Q I h => ?_⟩
  refine Subscript_ (thn (he.run pins s σ H _ I h) fun v s1 ⟨x, H1, I1, r1, q1⟩ => ?_)
  obtain ⟨a, xs, rfl, q⟩ := q1
  cases r1
  have hst : PO X (some (.UnaryOp .USub (.Constant (.int 1) kk p1) p2)) (tPart (tUn (rU fun i => .int (-i)) (tC (.int 1)))) := po_some (pe_un un_neg pe_int)
  refine wpAny_Slice ?_
  rw [evalPart_none]
  refine wpAny_pure (wpAny_pure ?_)
  refine thn (hst.run pins s1 σ H1 (fun o H4 => o = some (-1) ∧ H4 = H1) I1 ⟨1, rfl, -1, rfl, rfl, rfl⟩) fun vs s4 ⟨o, H4, I4, ps, eo, e4⟩ => ?_
  subst eo e4
  have I5 : Inv X pins σ H4 { s4 with heap := s4.heap.push { cls := .type "slice", data := .fields #[.none, .none, vs] } } := I4.kept (t' := s4.toks) fun b ob q => Heap.get?_push_of_some _ q
  show wpAny (model X.prog X.w) X.A (subscriptTail e (.Slice none none (some (.UnaryOp .USub (.Constant (.int 1) kk p1) p2)) p3) (.ref a) (.ref s4.heap.objs.size)) (EP X pins σ Q) X.xe { s4 with heap := s4.heap.push { cls := .type "slice", data := .fields #[.none, .none, vs] } }
  rcases q with ⟨hx, q⟩ | ⟨hx, q⟩
  · obtain ⟨its, r, ht, hz⟩ := I5.list hx
    have hlen := r.length
    refine tail_any (ops := [.ref a, .ref s4.heap.objs.size]) ht.isList.typeIs (PySem.slot_list_getitem.lookup) ?_ (by with_unfolding_all rfl)
    refine wpAny_getItem_list_slice ht.isList (Heap.IsSliceOf.new _ .none .none vs) .none .none ps (by decide) ?_ (by rw [List.size_toArray]; omega)
    rw [PySem.W.krv_pick]
    exact ⟨.ref _, _, I5.laid (t' := s4.toks) (o := .lst xs.reverse) (fun b ob q => Heap.get?_push_of_some _ q) (Nat.le_refl _) ⟨by rw [List.length_reverse]; exact hz, _, 0, r.reverse, Heap.get?_push_size _ rfl⟩, rfl, q _ (I5.hok.fresh (Nat.le_refl _))⟩
  · obtain ⟨its, r, ht, hz⟩ := I5.tuple hx
    have hlen := r.length
    refine tail_any (ops := [.ref a, .ref s4.heap.objs.size]) ht.typeIs (PyProof.Rows.slot_tuple_getitem.lookup) ?_ (by with_unfolding_all rfl)
    refine item_tuple_rev ht (Heap.IsSliceOf.new _ .none .none vs) ps ?_ (by rw [List.size_toArray]; omega)
    exact ⟨.ref _, _, I5.laid (t' := s4.toks) (o := .tup xs.reverse) (fun b ob q => Heap.get?_push_of_some _ q) (Nat.le_refl _) ⟨by rw [List.length_reverse]; exact hz, _, r.reverse, IsTup.new _ _⟩, rfl, q _ (I5.hok.fresh (Nat.le_refl _))⟩
def revD (d : D) (k : D → Prop) : Prop := match d with
  | .list xs => k (.list xs.reverse)
  | .tuple xs => k (.tuple xs.reverse)
  | _ => False
def dRev (ta : TB) : TD := fun ρ Q => ta ρ fun x ρ1 => withD ρ1 x fun d => revD d fun r => Q r ρ1
theorem de_rev {ta : TB} {kk : Nat} {p1 p2 p3 : Pos} (ha : DB X Γ a ta) : DE X Γ (.Subscript a (.Slice none none (some (.UnaryOp .USub (.Constant (.int 1) kk p1) p2)) p3) pos) (dRev ta) := by
  refine ⟨pe_imp (pe_rev ha.pe) ?_⟩
  rintro σ H Q ⟨ρ, G, k, at_, h, fin⟩
  refine ⟨ρ, G, _, at_, h, fun x ρ1 v G1 H1 h1 a1 s1 r1 => ?_⟩
  obtain ⟨d, l, h1⟩ := h1.to
  have r2 := a1.isx r1 l
  cases d with
  | list ds =>
    obtain ⟨p, us, rfl, h2, h3⟩ := r2.list a1.sub
    refine ⟨p, us, rfl, .inl ⟨.of h2, fun q hq => ?_⟩⟩
    have g := Grow.laid (o := .lst us.reverse) a1.sub hq
    exact fin _ _ _ _ _ h1 (a1.grow g) (s1.trans g.gg) (.lst upd_same (h3.mono g.gg).reverse)
  | tuple ds =>
    obtain ⟨p, us, rfl, h2, h3⟩ := r2.tup
    refine ⟨p, us, rfl, .inr ⟨Same.sqt a1.sub h2, fun q hq => ?_⟩⟩
    have g := Grow.laid (o := .tup us.reverse) a1.sub hq
    exact fin _ _ _ _ _ h1 (a1.grow g) (s1.trans g.gg) (.tup (.inl (.inl upd_same)) (h3.mono g.gg).reverse)
  | _ => exact (show False from h1).elim
/-- zip of two lists, two tuples -/
def zipL (xs ys : List D) : List D := (xs.zip ys).map fun p => .tuple [p.1, p.2]
def zipD (d e : D) (k : List D → Prop) : Prop := match d, e with
  | .list xs, .list ys => k (zipL xs ys)
  | .tuple xs, .tuple ys => k (zipL xs ys)
  | _, _ => False
def iZp (ta tb : TD) : TI' := fun ρ Q => ta ρ fun d ρ1 => tb ρ1 fun e ρ2 => zipD d e fun ds => Q ds ρ2
theorem zipL_get {xs ys : List D} {i : Nat} {x y : D} (h1 : xs[i]? = some x) (h2 : ys[i]? = some y) : (zipL xs ys)[i]? = some (.tuple [x, y]) := by
  unfold zipL
  rw [List.getElem?_map, (List.getElem?_zip_eq_some (z := (x, y))).mpr ⟨h1, h2⟩]; rfl
theorem zipL_len (xs ys : List D) : (zipL xs ys).length = min xs.length ys.length := by unfold zipL; rw [List.length_map, List.length_zip]
theorem jok_zip {K : PySem.W.Frag} {J : It} {xs ys : List D} {us ws : List V} {G1 : Hp} (rx : IsAll K G1 us xs) (ry : IsAll K G1 ws ys) (hgo : ∀ i H u w, Same G1 H → us[i]? = some u → ws[i]? = some w → J.go i H) (hst : ∀ i H, Same G1 H → us.length ≤ i ∨ ws.length ≤ i → J.stop i H)
    (hy : ∀ i H v H', Same G1 H → J.yld i H v H' → ∃ T u w, v = .ref T ∧ H T = none ∧ H' = upd H T (.tup [u, w]) ∧ us[i]? = some u ∧ ws[i]? = some w) : JOk K J (zipL xs ys) G1 := by
  have l := zipL_len xs ys
  have l1 := rx.length
  have l2 := ry.length
  refine ⟨fun i H G s1 s2 hi => ?_, fun H G s1 s2 => ?_, fun i H G v H' s1 s2 hi y => ?_⟩
  · exact hgo i H _ _ (s1.trans s2) (List.getElem?_eq_getElem (by omega)) (List.getElem?_eq_getElem (by omega))
  · exact hst _ H (s1.trans s2) (by omega)
  · obtain ⟨T, u, w, rfl, hT, rfl, h1, h2⟩ := hy i H v H' (s1.trans s2) y
    obtain ⟨d, h3, h4⟩ := rx.get h1
    obtain ⟨e, h5, h6⟩ := ry.get h2
    refine ⟨_, upd G T (.tup [u, w]), zipL_get h3 h5, Grow.laid s2 hT, ?_⟩
    have sg : Same G (upd G T (.tup [u, w])) := fun b o e => by rw [upd_ne (ne_of_none e (s2.free hT))]; exact e
    exact .tup (.inl (.inl upd_same)) (.cons ((h4.mono s1).mono sg) (.cons ((h6.mono s1).mono sg) .nil))
theorem di_zip {elts : List Expr} {kk : Nat} {tpos p : Pos} {ta tb : TD} (c : Cok k X Γ) (ha : DE X Γ a ta) (hb : DE X Γ b tb) (hg : Gl X "zip" := by rfl) (hs : starEach [a, b] X.env = (false, eval a X.env) :: starEach [b] X.env := by rfl)
    (hs2 : starEach [b] X.env = (false, eval b X.env) :: starEach [] X.env := by rfl) (hpl : (backTo pos (starEach [b] X.env)).any (·.1) = false := by rfl) : DI X Γ (.Tuple elts kk tpos) (.Call (.Name "zip" p) [a, b] [] pos) (iZp ta tb) := by
  refine ⟨pi_imp (RZ.pi_zipA hg (c.bl _ rfl) (pa_cons ha.pe (pa_cons hb.pe pa_nil hs2) hs) hs hpl) ?_⟩
  rintro σ H R ⟨ρ, G, k, at_, h, fin⟩
  refine ⟨ρ, G, _, at_, h, fun d ρ1 v G1 H1 h1 a1 s1 r1 => ⟨ρ1, G1, _, a1, h1, fun e ρ2 v2 G2 H2 h2 a2 s2 r2 => ?_⟩⟩
  have r1 := r1.mono s2
  cases d with
  | list xs =>
    cases e with
    | list ys =>
      cases r1 with
      | lst g1 g2 =>
        cases r2 with
        | lst g3 g4 =>
          refine ⟨_, _, _, _, rfl, .inl ⟨.of (a2.sub _ _ g1), .of (a2.sub _ _ g3), fin _ _ _ _ _ h2 a2 (s1.trans s2) (jok_zip g2 g4 (fun i H u w s e1 e2 => ⟨_, _, u, w, s.seq (.of g1), s.seq (.of g3), e1, e2⟩) (fun i H s e => ⟨_, _, s.seq (.of g1), s.seq (.of g3), e⟩) fun i H v H' s ⟨T, u, w, e1, e2, e3, e4, e5⟩ => ?_)⟩⟩
          exact ⟨T, u, w, e1, e2, e3, e4 _ (s.seq (.of g1)), e5 _ (s.seq (.of g3))⟩
    | _ => exact (show False from h2).elim
  | tuple xs =>
    cases e with
    | tuple ys =>
      cases r1 with
      | tup g1 g2 =>
        cases r2 with
        | tup g3 g4 =>
          refine ⟨_, _, _, _, rfl, .inr ⟨Same.sqt a2.sub g1, Same.sqt a2.sub g3, fin _ _ _ _ _ h2 a2 (s1.trans s2) (jok_zip g2 g4 (fun i H u w s e1 e2 => ⟨_, _, u, w, Same.sqt s g1, Same.sqt s g3, e1, e2⟩) (fun i H s e => ⟨_, _, Same.sqt s g1, Same.sqt s g3, e⟩) fun i H v H' s ⟨T, u, w, e1, e2, e3, e4, e5⟩ => ?_)⟩⟩
          exact ⟨T, u, w, e1, e2, e3, e4 _ (Same.sqt s g1), e5 _ (Same.sqt s g3)⟩
    | _ => exact (show False from h2).elim
  | _ => exact (show False from h2).elim
end
end Dn
/-! Dn: two names at once, one of them a new list; a = b = e; ranges as values; comprehensions of two clauses. -/
namespace Dn
open PySem PySem.Spec PyProof.Rows L2
section
variable {X : Cx} {Γ : Gm} {k j n : Nat} {a b e : Expr} {es : List Expr} {st : Stmt} {rest body orelse : List Stmt} {pos : Pos} {t u : TDS}
/-- a constant -/
structure DK (X : Cx) (e : Expr) (d : D) (v : V) : Prop where
  pe : PE X e (tC v)
  is : ∀ (K : PySem.W.Frag) (H : Hp), Is K H v d
theorem dk_int {i : Int} {kk : Nat} {p : Pos} : DK X (.Constant (.int i) kk p) (.int i) (.int i) := ⟨pe_int, fun _ _ => .int i⟩
theorem dk_non {kk : Nat} {p : Pos} : DK X (.Constant .none kk p) .none .non := ⟨pe_non, fun _ _ => .non⟩
theorem dk_str {z : Str} {kk : Nat} {p : Pos} : DK X (.Constant (.str z) kk p) (.str z) (.str z) := ⟨pe_str, fun _ _ => .str _⟩
theorem dk_bl {z : Bool} {kk : Nat} {p : Pos} : DK X (.Constant (.bool z) kk p) (.bool z) (.bl z) := ⟨pe_bl, fun _ _ => .bl _⟩
/-- a, b = a new list, a constant -/
def sParF (i j : Nat) (t : TD) (c : D) : TDS := fun R ρ => t ρ fun d ρ' => R.nx ((ρ'.set i (.own d)).set j (.val c))
theorem ds_parF {i j : Nat} {x y : Str} {t : TD} {d : D} {v : V} {px py pt : Pos} {kt k2 pt2} (c : Cok k X Γ) (hi : X.N[i]? = some x) (hj : X.N[j]? = some y) (hij : i ≠ j)
    (hx : X.env.scope.names.lookup x = some .local) (hy : X.env.scope.names.lookup y = some .local) (ha : DF X Γ a t) (hb : DK X b d v) (hI : Γ.I.contains i = false := by rfl) (hJ : Γ.I.contains j = false := by rfl)
    (hn : starEach [a, b] X.env = (false, eval a X.env) :: starEach [b] X.env := by rfl) (hn2 : starEach [b] X.env = (false, eval b X.env) :: starEach [] X.env := by rfl)
    (hw : swappedStores [.Tuple [.Name x px, .Name y py] kt pt] (.Tuple [a, b] k2 pt2) X.env = pure (some [x, y]) := by rfl)
    (hs : swapsWithSole [.Tuple [.Name x px, .Name y py] kt pt] (.Tuple [a, b] k2 pt2) pos.line X.env = pure false := by rfl) :
    DS X Γ (.Assign [.Tuple [.Name x px, .Name y py] kt pt] (.Tuple [a, b] k2 pt2) pos) (sParF i j t d) := by
  refine ⟨ps_imp (ps_par c.calm c.nd hi hj hij hx hy (pa_cons ha.pe (pa_cons hb.pe pa_nil hn2) hn) hw hs) ?_⟩
  rintro E σ H ⟨ρ, G, R, at_, ok, h⟩
  refine ⟨ρ, G, _, at_, h, fun d' ρ' p G' H' hk a' s' g0 h0 own hno => ?_⟩
  exact ⟨_, _, rfl, ok.nx _ _ _ _ ((a'.setOwn hI g0 h0 own hno).set hJ (hb.is _ _)) s' hk⟩
/-- a, b = e, a new list -/
def sParE (i j : Nat) (t u : TD) : TDS := fun R ρ => t ρ fun d ρ1 => u ρ1 fun d' ρ2 => R.nx ((ρ2.set i (.val d)).set j (.own d'))
theorem ds_parE {i j : Nat} {x y : Str} {t u : TD} {px py pt : Pos} {kt k2 pt2} (c : Cok k X Γ) (hi : X.N[i]? = some x) (hj : X.N[j]? = some y) (hij : i ≠ j)
    (hx : X.env.scope.names.lookup x = some .local) (hy : X.env.scope.names.lookup y = some .local) (ha : DE X Γ a t) (hb : DF X Γ b u) (hI : Γ.I.contains i = false := by rfl) (hJ : Γ.I.contains j = false := by rfl)
    (hn : starEach [a, b] X.env = (false, eval a X.env) :: starEach [b] X.env := by rfl) (hn2 : starEach [b] X.env = (false, eval b X.env) :: starEach [] X.env := by rfl)
    (hw : swappedStores [.Tuple [.Name x px, .Name y py] kt pt] (.Tuple [a, b] k2 pt2) X.env = pure (some [x, y]) := by rfl)
    (hs : swapsWithSole [.Tuple [.Name x px, .Name y py] kt pt] (.Tuple [a, b] k2 pt2) pos.line X.env = pure false := by rfl) :
    DS X Γ (.Assign [.Tuple [.Name x px, .Name y py] kt pt] (.Tuple [a, b] k2 pt2) pos) (sParE i j t u) := by
  refine ⟨ps_imp (ps_par c.calm c.nd hi hj hij hx hy (pa_cons ha.pe (pa_cons hb.pe pa_nil hn2) hn) hw hs) ?_⟩
  rintro E σ H ⟨ρ, G, R, at_, ok, h⟩
  refine ⟨ρ, G, _, at_, h, fun d1 ρ1 v1 G1 H1 h1 a1 s1 r1 => ⟨ρ1, G1, _, a1, h1, fun d' ρ' p G' H' hk a' s' g0 h0 own hno => ?_⟩⟩
  have a2 := a'.set (i := i) hI (r1.mono s')
  refine ⟨_, _, rfl, ok.nx _ _ _ _ (a2.setOwn hJ g0 h0 own fun j' dj q1 q2 => ?_) (s1.trans s') hk⟩
  by_cases hj' : i = j'
  · subst hj'
    have hl : i < ρ'.length := by
      rcases Nat.lt_or_ge i ρ'.length with z | z
      · exact z
      · rw [List.getElem?_eq_none (by rw [List.length_set]; exact z)] at q1; cases q1
    rw [List.getElem?_set_self hl] at q1
    cases q1
  · rw [List.getElem?_set_ne hj'] at q1 q2
    exact hno j' dj q1 q2
/-- a, b, c = a new list, two constants -/
def sPar3F (i j l : Nat) (t : TD) (c c' : D) : TDS := fun R ρ => t ρ fun d ρ' => R.nx (((ρ'.set i (.own d)).set j (.val c)).set l (.val c'))
theorem ds_par3F {i j l : Nat} {x y z : Str} {c' : Expr} {t : TD} {d d' : D} {v v' : V} {px py pz pt : Pos} {kt k2 pt2} (c : Cok k X Γ) (hi : X.N[i]? = some x) (hj : X.N[j]? = some y) (hl : X.N[l]? = some z) (hij : i ≠ j) (hil : i ≠ l) (hjl : j ≠ l)
    (hx : X.env.scope.names.lookup x = some .local) (hy : X.env.scope.names.lookup y = some .local) (hz : X.env.scope.names.lookup z = some .local) (ha : DF X Γ a t) (hb : DK X b d v) (hc : DK X c' d' v') (hI : Γ.I.contains i = false := by rfl) (hJ : Γ.I.contains j = false := by rfl) (hL : Γ.I.contains l = false := by rfl)
    (hn : starEach [a, b, c'] X.env = (false, eval a X.env) :: starEach [b, c'] X.env := by rfl) (hn2 : starEach [b, c'] X.env = (false, eval b X.env) :: starEach [c'] X.env := by rfl) (hn3 : starEach [c'] X.env = (false, eval c' X.env) :: starEach [] X.env := by rfl)
    (hw : swappedStores [.Tuple [.Name x px, .Name y py, .Name z pz] kt pt] (.Tuple [a, b, c'] k2 pt2) X.env = pure (some [x, y, z]) := by rfl)
    (hs : swapsWithSole [.Tuple [.Name x px, .Name y py, .Name z pz] kt pt] (.Tuple [a, b, c'] k2 pt2) pos.line X.env = pure false := by rfl) :
    DS X Γ (.Assign [.Tuple [.Name x px, .Name y py, .Name z pz] kt pt] (.Tuple [a, b, c'] k2 pt2) pos) (sPar3F i j l t d d') := by
  refine ⟨ps_imp (ps_par3 c.calm c.nd hi hj hl hij hil hjl hx hy hz (pa_cons ha.pe (pa_cons hb.pe (pa_cons hc.pe pa_nil hn3) hn2) hn) hw hs) ?_⟩
  rintro E σ H ⟨ρ, G, R, at_, ok, h⟩
  refine ⟨ρ, G, _, at_, h, fun d1 ρ' p G' H' hk a' s' g0 h0 own hno => ?_⟩
  exact ⟨_, _, _, rfl, ok.nx _ _ _ _ (((a'.setOwn hI g0 h0 own hno).set hJ (hb.is _ _)).set hL (hc.is _ _)) s' hk⟩
/-- a = b = e -/
def sAsg2 (t : TD) (g h : TDG) : TDS := fun R ρ => t ρ fun d ρ' => g d ρ' fun ρ2 => h d ρ2 R.nx
theorem ds_asg2 {t1 t2 : Expr} {t : TD} {js js2 : List Nat} {g h : TDG} (he : DE X Γ e t) (hg : DG X Γ t1 js g) (hh : DG X Γ t2 js2 h) (ha : (assignEach [t1, t2] X.env).map (·.2) = [assign t1 X.env, assign t2 X.env] := by rfl) (hw : swappedStores [t1, t2] e X.env = pure none := by rfl) :
    DS X Γ (.Assign [t1, t2] e pos) (sAsg2 t g h) := by
  refine ⟨ps_imp (ps_asg2 he.pe hg.pg hh.pg ha hw) ?_⟩
  rintro E σ H ⟨ρ, G, R, at_, ok, h⟩
  exact ⟨ρ, G, _, at_, h, fun d ρ' v G' H' hk a' s' r => ⟨ρ', G', d, _, a', r, hk, fun ρ2 σ2 hk2 a2 _ _ => ⟨ρ2, G', d, _, a2, r, hk2, fun ρ3 σ3 hk3 a3 _ _ => ok.nx _ _ _ _ a3 s' hk3⟩⟩⟩
/-! ### ranges as values -/
theorem isall_rg {K : PySem.W.Frag} {H : Hp} (a b : Int) : IsAll K H (rgV a b) (rangeD a 1 (b - a).toNat) := by
  have e : rangeD a 1 (b - a).toNat = (List.map (fun i : Nat => a + (i : Int)) (List.range (b - a).toNat)).map PyData.int := by
    unfold rangeD
    rw [List.map_map]
    apply List.map_congr_left
    intro i _
    show PyData.int (a + (i : Int) * 1) = .int (a + i)
    rw [Int.mul_one]
  have e2 : rgV a b = (List.map (fun i : Nat => a + (i : Int)) (List.range (b - a).toNat)).map V.int := by
    unfold rgV
    rw [List.map_map]; rfl
  rw [e, e2]
  exact IsAll.of_ints _
def dRg1 (mk : List D → D) (ta : TB) : TD := fun ρ Q => ta ρ fun x ρ1 => withD ρ1 x fun d => asI d fun i => (-(2 ^ 62) ≤ i ∧ i ≤ 16777216) ∧ Q (mk (rangeD 0 1 i.toNat)) ρ1
def dRg2 (mk : List D → D) (ta tb : TB) : TD := fun ρ Q => ta ρ fun x ρ1 => tb ρ1 fun y ρ2 => withD ρ2 x fun d => withD ρ2 y fun e => asI d fun i => asI e fun j => RgOk i j ∧ Q (mk (rangeD i 1 (j - i).toNat)) ρ2
theorem rg1_rd {mk : List D → D} {ta : TB} {K : PySem.W.Frag} {σ : L2.St} {H : Hp} {k : D → Ro → Prop} {ρ : Ro} {G : Hp} (at_ : At K Γ ρ σ G H) (h : dRg1 mk ta ρ k) {R : Int → Int → Hp → Prop}
    (hR : ∀ i ρ1 G1 H1, At K Γ ρ1 σ G1 H1 → Same G G1 → RgOk 0 i → k (mk (rangeD 0 1 i.toNat)) ρ1 → R 0 i H1) : tRg1 (rdB K Γ ta) σ H R := by
  refine ⟨ρ, G, _, at_, h, fun x ρ1 v1 G1 H1 h1 a1 s1 r1 => ?_⟩
  obtain ⟨d, l1, h1⟩ := h1.to
  have r2 := a1.isx r1 l1
  obtain ⟨i, rfl, hi, h1⟩ := h1.to
  exact ⟨i, r2.int, hR i ρ1 G1 H1 a1 s1 ⟨by omega, by omega, by omega, by omega, by omega⟩ h1⟩
theorem rg2_rd {mk : List D → D} {ta tb : TB} {K : PySem.W.Frag} {σ : L2.St} {H : Hp} {k : D → Ro → Prop} {ρ : Ro} {G : Hp} (at_ : At K Γ ρ σ G H) (h : dRg2 mk ta tb ρ k) {R : Int → Int → Hp → Prop}
    (hR : ∀ i j ρ1 G1 H1, At K Γ ρ1 σ G1 H1 → Same G G1 → RgOk i j → k (mk (rangeD i 1 (j - i).toNat)) ρ1 → R i j H1) : tRg2 (rdB K Γ ta) (rdB K Γ tb) σ H R := by
  refine ⟨ρ, G, _, at_, h, fun x ρ1 v1 G1 H1 h1 a1 s1 r1 => ⟨ρ1, G1, _, a1, h1, fun y ρ2 v2 G2 H2 h2 a2 s2 r2 => ?_⟩⟩
  obtain ⟨d, l1, h3⟩ := withD.to h2
  obtain ⟨e', l2, h4⟩ := withD.to h3
  have q1 := a2.isx (r1.mono s2) l1
  have q2 := a2.isx r2 l2
  obtain ⟨i, e1, h5⟩ := asI.to h4
  obtain ⟨j, e2, ok, h6⟩ := asI.to h5
  rw [e1] at q1
  rw [e2] at q2
  exact ⟨i, j, q1.int, q2.int, hR i j ρ2 G2 H2 a2 (s1.trans s2) ok h6⟩
theorem df_listRg1 {ta : TB} {p q : Pos} (c : Cok k X Γ) (ha : DB X Γ a ta) (hg : Gl X "list" := by rfl) (hg2 : Gl X "range" := by rfl) (hs : starEach [a] X.env = (false, eval a X.env) :: starEach [] X.env := by rfl) {pos2 : Pos}
    (hs2 : starEach [.Call (.Name "range" q) [a] [] pos2] X.env = (false, eval (.Call (.Name "range" q) [a] [] pos2) X.env) :: starEach [] X.env := by rfl) : DF X Γ (.Call (.Name "list" p) [.Call (.Name "range" q) [a] [] pos2] [] pos) (dRg1 .list ta) := by
  refine ⟨pe_imp (pe_listRg c.calm hg (c.bl _ rfl) (prg_1 hg2 (c.bl _ rfl) ha.pe hs) hs2) ?_⟩
  rintro σ H Q ⟨ρ, G, k, at_, h, fin⟩
  refine rg1_rd at_ h fun i ρ1 G1 H1 a1 s1 ok hk => ⟨ok, fun q hq => ?_⟩
  obtain ⟨a2, g0, h0, hno⟩ := a1.fresh (o := .lst (rgV 0 i)) hq
  exact fin _ _ q _ _ hk a2 s1 g0 h0 (.inl ⟨_, _, rfl, upd_same, by have := isall_rg (K := X.K) (H := G1) 0 i; rw [Int.sub_zero] at this; exact this⟩) hno
theorem df_listRg2 {ta tb : TB} {p q : Pos} (c : Cok k X Γ) (ha : DB X Γ a ta) (hb : DB X Γ b tb) (hg : Gl X "list" := by rfl) (hg2 : Gl X "range" := by rfl) (hs : starEach [a, b] X.env = (false, eval a X.env) :: starEach [b] X.env := by rfl)
    (hsb : starEach [b] X.env = (false, eval b X.env) :: starEach [] X.env := by rfl) {pos2 : Pos} (hp2 : (backTo pos2 (starEach [b] X.env)).any (·.1) = false := by rfl)
    (hs2 : starEach [.Call (.Name "range" q) [a, b] [] pos2] X.env = (false, eval (.Call (.Name "range" q) [a, b] [] pos2) X.env) :: starEach [] X.env := by rfl) : DF X Γ (.Call (.Name "list" p) [.Call (.Name "range" q) [a, b] [] pos2] [] pos) (dRg2 .list ta tb) := by
  refine ⟨pe_imp (pe_listRg c.calm hg (c.bl _ rfl) (prg_2 hg2 (c.bl _ rfl) ha.pe hb.pe hs hsb hp2) hs2) ?_⟩
  rintro σ H Q ⟨ρ, G, k, at_, h, fin⟩
  refine rg2_rd at_ h fun i j ρ1 G1 H1 a1 s1 ok hk => ⟨ok, fun q hq => ?_⟩
  obtain ⟨a2, g0, h0, hno⟩ := a1.fresh (o := .lst (rgV i j)) hq
  exact fin _ _ q _ _ hk a2 s1 g0 h0 (.inl ⟨_, _, rfl, upd_same, isall_rg i j⟩) hno
theorem de_tupRg1 {ta : TB} {p q : Pos} (c : Cok k X Γ) (ha : DB X Γ a ta) (hg : Gl X "tuple" := by rfl) (hg2 : Gl X "range" := by rfl) (hs : starEach [a] X.env = (false, eval a X.env) :: starEach [] X.env := by rfl) {pos2 : Pos}
    (hs2 : starEach [.Call (.Name "range" q) [a] [] pos2] X.env = (false, eval (.Call (.Name "range" q) [a] [] pos2) X.env) :: starEach [] X.env := by rfl) : DE X Γ (.Call (.Name "tuple" p) [.Call (.Name "range" q) [a] [] pos2] [] pos) (dRg1 .tuple ta) := by
  refine ⟨pe_imp (pe_tupRg c.calm hg (c.bl _ rfl) (prg_1 hg2 (c.bl _ rfl) ha.pe hs) hs2) ?_⟩
  rintro σ H Q ⟨ρ, G, k, at_, h, fin⟩
  refine rg1_rd at_ h fun i ρ1 G1 H1 a1 s1 ok hk => ⟨ok, fun q hq => ?_⟩
  have g := Grow.laid (o := .tup (rgV 0 i)) a1.sub hq
  exact fin _ _ _ _ _ hk (a1.grow g) (s1.trans g.gg) (.tup (.inl (.inl upd_same)) (by have := isall_rg (K := X.K) (H := upd G1 q (.tup (rgV 0 i))) 0 i; rw [Int.sub_zero] at this; exact this))
theorem de_tupRg2 {ta tb : TB} {p q : Pos} (c : Cok k X Γ) (ha : DB X Γ a ta) (hb : DB X Γ b tb) (hg : Gl X "tuple" := by rfl) (hg2 : Gl X "range" := by rfl) (hs : starEach [a, b] X.env = (false, eval a X.env) :: starEach [b] X.env := by rfl)
    (hsb : starEach [b] X.env = (false, eval b X.env) :: starEach [] X.env := by rfl) {pos2 : Pos} (hp2 : (backTo pos2 (starEach [b] X.env)).any (·.1) = false := by rfl)
    (hs2 : starEach [.Call (.Name "range" q) [a, b] [] pos2] X.env = (false, eval (.Call (.Name "range" q) [a, b] [] pos2) X.env) :: starEach [] X.env := by rfl) : DE X Γ (.Call (.Name "tuple" p) [.Call (.Name "range" q) [a, b] [] pos2] [] pos) (dRg2 .tuple ta tb) := by
  refine ⟨pe_imp (pe_tupRg c.calm hg (c.bl _ rfl) (prg_2 hg2 (c.bl _ rfl) ha.pe hb.pe hs hsb hp2) hs2) ?_⟩
  rintro σ H Q ⟨ρ, G, k, at_, h, fin⟩
  refine rg2_rd at_ h fun i j ρ1 G1 H1 a1 s1 ok hk => ⟨ok, fun q hq => ?_⟩
  have g := Grow.laid (o := .tup (rgV i j)) a1.sub hq
  exact fin _ _ _ _ _ hk (a1.grow g) (s1.trans g.gg) (.tup (.inl (.inl upd_same)) (isall_rg i j))
end
end Dn
/-! Dn: comprehensions of two clauses. -/
namespace Dn
open PySem PySem.Spec PyProof.Rows L2
section
variable {X : Cx} {Γ : Gm} {k j n : Nat} {a b e : Expr} {es : List Expr} {st : Stmt} {rest body orelse : List Stmt} {pos : Pos} {t u : TDS}
def dLc2 (ti : TI') (g : Hp → Hp → TDG) (tt : Hp → Hp → TT') (ti1 : Hp → Hp → TI') (g1 : Hp → Hp → TDG) (tt1 : Hp → Hp → TT') (te : Hp → Hp → TD) (vs vs1 : List Nat) : TD := fun ρ Q => ti ρ fun ds ρ1 => ∃ I : List D → List D → Ro → Prop, I ds [] (wipeR ρ1 vs) ∧
  (∀ x r acc ρ, I (x :: r) acc ρ → ∀ G0 H0, g G0 H0 x ρ fun ρ2 => tt G0 H0 ρ2 fun b ρ3 => brn b
    (ti1 G0 H0 ρ3 fun es ρ4 => ∃ J : List D → List D → Ro → Prop, J es acc (wipeR ρ4 vs1) ∧
      (∀ y q acc ρ, J (y :: q) acc ρ → ∀ G0 H0, g1 G0 H0 y ρ fun ρ5 => tt1 G0 H0 ρ5 fun b ρ6 => brn b (te G0 H0 ρ6 fun z ρ7 => acc.length < 16777216 ∧ J q (acc ++ [z]) (wipeR ρ7 vs1)) (J q acc (wipeR ρ6 vs1))) ∧
      ∀ acc ρ, J [] acc ρ → I r acc (wipeR ρ vs))
    (I r acc (wipeR ρ3 vs))) ∧
  ∀ acc ρ, I [] acc ρ → Q (.list acc) ρ
theorem lc2_rd {ti : TI'} {g g1 : Hp → Hp → TDG} {tt tt1 : Hp → Hp → TT'} {ti1 : Hp → Hp → TI'} {te : Hp → Hp → TD} {vs js vs1 js1 : List Nat} {K : PySem.W.Frag} (hI : ∀ i ∈ Γ.I, i ∉ vs) (hj : ∀ i ∈ js, i ∈ vs) (hv1 : ∀ i ∈ vs1, i ∈ vs) (hj1 : ∀ i ∈ js1, i ∈ vs1) (g00 : Same Γ.G0 Γ.H0)
    {wg wg1 : TG} {wt wt1 : TT} {we : TE} {wi1 : TI} (hg : ∀ G0 H0, Same G0 H0 → ∀ v σ H Q, rdG K (Γ.inn G0 H0) js (g G0 H0) v σ H Q → wg v σ H Q) (ht : ∀ G0 H0, Same G0 H0 → ∀ σ H Q, rdT K (Γ.inn G0 H0) (tt G0 H0) σ H Q → wt σ H Q)
    (hi1 : ∀ G0 H0, Same G0 H0 → ∀ σ H R, rdI K (Γ.inn G0 H0) (ti1 G0 H0) σ H R → wi1 σ H R)
    (hg1 : ∀ G0 H0, Same G0 H0 → ∀ v σ H Q, rdG K (Γ.inn G0 H0) js1 (g1 G0 H0) v σ H Q → wg1 v σ H Q) (ht1 : ∀ G0 H0, Same G0 H0 → ∀ σ H Q, rdT K (Γ.inn G0 H0) (tt1 G0 H0) σ H Q → wt1 σ H Q)
    (he : ∀ G0 H0, Same G0 H0 → ∀ σ H Q, rdE K (Γ.inn G0 H0) (te G0 H0) σ H Q → we σ H Q)
    {σ : L2.St} {H : Hp} {Q : VK} (h : rdF K Γ (dLc2 ti g tt ti1 g1 tt1 te vs vs1) σ H Q) : tLc2 (rdI K Γ ti) wg wt wi1 wg1 wt1 we vs vs1 σ H Q := by
  obtain ⟨ρ, G, k, at_, h, fin⟩ := h
  refine ⟨ρ, G, _, at_, h, fun ds ρ1 J G1 H1 ⟨I, h1, h2, h3⟩ a1 s1 j => fun p hp => ?_⟩
  have h0 : Γ.H0 p = none := a1.kept.free hp
  have g0 : Γ.G0 p = none := g00.free h0
  have aw := a1.wipe (τ := σ) (vs := vs) hI rfl fun _ _ => rfl
  obtain ⟨a2, q1, q2, q3⟩ := aw.fresh (o := .lst []) hp
  have sg : ∀ o, Same Γ.G0 (upd Γ.H0 p o) := fun o b u q => by rw [upd_ne (ne_of_none q g0)]; exact g00 b u q
  have hI1 : ∀ i ∈ Γ.I, i ∉ vs1 := fun i hi z => hI i hi (hv1 i z)
  refine ⟨fun i m H' => m = ds.length - i ∧ i ≤ ds.length ∧ ∃ ρ' G' acc xs, At K Γ ρ' σ G' H' ∧ wipeR ρ' vs = ρ' ∧ Same G1 G' ∧ H' p = some (.lst xs) ∧ G' p = none ∧ IsAll K G' xs acc ∧ (∀ (j : Nat) dj, ρ'[j]? = some (.own dj) → σ[j]? ≠ some (some (.ref p))) ∧ I (ds.drop i) acc ρ',
    ⟨ds.length, by simp, Nat.zero_le _, _, G1, [], [], a2, wipeR_wipeR, Same.refl _, upd_same, q1, .nil, q3, h1⟩, ?_⟩
  rintro i m H' ⟨rfl, hi, ρ', G', acc, xs, a', hw, s', hp', gp', ra, hno, hI'⟩
  by_cases hlt : i < ds.length
  · refine .inr ⟨j.go i H' G' s' a'.sub hlt, fun H2 => ∃ ρ' G' acc xs, At K Γ ρ' σ G' H2 ∧ wipeR ρ' vs = ρ' ∧ Same G1 G' ∧ H2 p = some (.lst xs) ∧ G' p = none ∧ IsAll K G' xs acc ∧ (∀ (j : Nat) dj, ρ'[j]? = some (.own dj) → σ[j]? ≠ some (some (.ref p))) ∧ I (ds.drop (i + 1)) acc ρ',
      fun H2 ⟨ρ2, G2, acc2, xs2, r⟩ => ⟨ds.length - (i + 1), by omega, rfl, hlt, ρ2, G2, acc2, xs2, r⟩, fun x H2 y => ?_⟩
    obtain ⟨d, G2, hd, g2, r2⟩ := j.yld i H' G' x H2 s' a'.sub hlt y
    have e : ds.drop i = d :: ds.drop (i + 1) := by
      rw [List.drop_eq_getElem_cons hlt]
      rw [List.getElem?_eq_getElem hlt] at hd
      rw [Option.some.inj hd]
    rw [e] at hI'
    have a3 := a'.grow g2
    have s3 := s'.trans g2.gg
    have hp3 : H2 p = some (.lst xs) := g2.hh p _ hp'
    have gp3 : G2 p = none := by rw [g2.new p (some_ne hp')]; exact gp'
    have ra3 := ra.mono g2.gg
    have a4 := a3.aside hp3 gp3 g0 hno
    have a5 := a4.wipe (τ := wipe σ vs) (vs := vs) hI (wipe_length _ _) fun i hi => wipe_out' hi
    rw [hw] at a5
    refine hg Γ.G0 (upd Γ.H0 p (.lst xs)) (sg _) x (wipe σ vs) H2 _ ⟨ρ', G2, d, _, a5, r2, h2 d _ acc ρ' hI' _ _, fun ρ6 σ6 h6 a6 l6 f6 => ?_⟩
    have l6' : σ6.length = σ.length := l6.trans (wipe_length _ _)
    have f6' : ∀ i, i ∉ vs → σ6[i]? = σ[i]? := fun i hi => (f6 i fun z => hi (hj i z)).trans (wipe_out' hi)
    -- behind the outer turn
    have after : ∀ {ρ8 : Ro} {τ : L2.St} {G8 H8 : Hp} {xs' : List V} {acc' : List D}, τ.length = σ.length → (∀ i, i ∉ vs → τ[i]? = σ[i]?) → At K Γ ρ8 τ G8 H8 → H8 p = some (.lst xs') → G8 p = none → (∀ (j : Nat) dj, ρ8[j]? = some (.own dj) → τ[j]? ≠ some (some (.ref p))) →
        Same G2 G8 → IsAll K G8 xs' acc' → I (ds.drop (i + 1)) acc' (wipeR ρ8 vs) →
        ∃ ρ' G' acc xs, At K Γ ρ' σ G' H8 ∧ wipeR ρ' vs = ρ' ∧ Same G1 G' ∧ H8 p = some (.lst xs) ∧ G' p = none ∧ IsAll K G' xs acc ∧ (∀ (j : Nat) dj, ρ'[j]? = some (.own dj) → σ[j]? ≠ some (some (.ref p))) ∧ I (ds.drop (i + 1)) acc ρ' := by
      intro ρ8 τ G8 H8 xs' acc' lt ft b8 e8 g8 n8 s8 r8 i8
      have c8 := b8.wipe (τ := σ) (vs := vs) hI lt.symm fun i hi => (ft i hi).symm
      have n8' : ∀ (j : Nat) dj, (wipeR ρ8 vs)[j]? = some (.own dj) → σ[j]? ≠ some (some (.ref p)) := fun j dj z => by
        have hj : j ∉ vs := fun w => by cases wipeR_in z w
        rw [wipeR_out hj] at z
        rw [← ft j hj]
        exact n8 j dj z
      exact ⟨_, G8, acc', xs', c8, wipeR_wipeR, s3.trans s8, e8, g8, r8, n8', i8⟩
    refine ⟨wipe_ext l6' f6', ht Γ.G0 (upd Γ.H0 p (.lst xs)) (sg _) σ6 H2 _ ⟨ρ6, G2, _, a6, h6, fun b ρ7 G7 H7 hb1 a7 s7 => ?_⟩⟩
    cases b with
    | false =>
      obtain ⟨b7, e7, g7, n7⟩ := a7.back h0 g0
      exact iteF (after l6' f6' b7 e7 g7 n7 s7 (ra3.mono s7) hb1)
    | true =>
      refine iteT (hi1 Γ.G0 (upd Γ.H0 p (.lst xs)) (sg _) σ6 H7 _ ⟨ρ7, G7, _, a7, hb1, fun es ρ8 J1 G8 H8 ⟨Ij, k1, k2, k3⟩ a8 s8 jk => ?_⟩)
      obtain ⟨b8, e8, g8, n8⟩ := a8.back h0 g0
      have aw8 := b8.wipe (τ := σ6) (vs := vs1) hI1 rfl fun _ _ => rfl
      have nw8 : ∀ (j : Nat) dj, (wipeR ρ8 vs1)[j]? = some (.own dj) → σ6[j]? ≠ some (some (.ref p)) := fun j dj z => by
        have hj : j ∉ vs1 := fun w => by cases wipeR_in z w
        rw [wipeR_out hj] at z
        exact n8 j dj z
      refine ⟨fun j m H' => m = es.length - j ∧ j ≤ es.length ∧ ∃ ρ' G' acc xs, At K Γ ρ' σ6 G' H' ∧ wipeR ρ' vs1 = ρ' ∧ Same G8 G' ∧ H' p = some (.lst xs) ∧ G' p = none ∧ IsAll K G' xs acc ∧ (∀ (j : Nat) dj, ρ'[j]? = some (.own dj) → σ6[j]? ≠ some (some (.ref p))) ∧ Ij (es.drop j) acc ρ',
        ⟨es.length, by simp, Nat.zero_le _, _, G8, acc, xs, aw8, wipeR_wipeR, Same.refl _, e8, g8, ra3.mono (s7.trans s8), nw8, k1⟩, ?_⟩
      rintro jj mm H9 ⟨rfl, hjj, ρ9, G9, acc9, xs9, a9, hw9, s9, hp9, gp9, ra9, hno9, hI9⟩
      by_cases hlt9 : jj < es.length
      · refine .inr ⟨jk.go jj H9 G9 s9 a9.sub hlt9, fun H2 => ∃ ρ' G' acc xs, At K Γ ρ' σ6 G' H2 ∧ wipeR ρ' vs1 = ρ' ∧ Same G8 G' ∧ H2 p = some (.lst xs) ∧ G' p = none ∧ IsAll K G' xs acc ∧ (∀ (j : Nat) dj, ρ'[j]? = some (.own dj) → σ6[j]? ≠ some (some (.ref p))) ∧ Ij (es.drop (jj + 1)) acc ρ',
          fun H2 ⟨ρ2, G2, acc2, xs2, r⟩ => ⟨es.length - (jj + 1), by omega, rfl, hlt9, ρ2, G2, acc2, xs2, r⟩, fun x1 HA y1 => ?_⟩
        obtain ⟨d1, GA, hd1, gA, rA⟩ := jk.yld jj H9 G9 x1 HA s9 a9.sub hlt9 y1
        have e1 : es.drop jj = d1 :: es.drop (jj + 1) := by
          rw [List.drop_eq_getElem_cons hlt9]
          rw [List.getElem?_eq_getElem hlt9] at hd1
          rw [Option.some.inj hd1]
        rw [e1] at hI9
        have aA := a9.grow gA
        have sA := s9.trans gA.gg
        have hpA : HA p = some (.lst xs9) := gA.hh p _ hp9
        have gpA : GA p = none := by rw [gA.new p (some_ne hp9)]; exact gp9
        have raA := ra9.mono gA.gg
        have aB := aA.aside hpA gpA g0 hno9
        have aC := aB.wipe (τ := wipe σ6 vs1) (vs := vs1) hI1 (wipe_length _ _) fun i hi => wipe_out' hi
        rw [hw9] at aC
        refine hg1 Γ.G0 (upd Γ.H0 p (.lst xs9)) (sg _) x1 (wipe σ6 vs1) HA _ ⟨ρ9, GA, d1, _, aC, rA, k2 d1 _ acc9 ρ9 hI9 _ _, fun ρB σB hB aD lB fB => ?_⟩
        have lB' : σB.length = σ6.length := lB.trans (wipe_length _ _)
        have fB' : ∀ i, i ∉ vs1 → σB[i]? = σ6[i]? := fun i hi => (fB i fun z => hi (hj1 i z)).trans (wipe_out' hi)
        have afterI : ∀ {ρE : Ro} {GE HE : Hp} {xs' : List V} {acc' : List D}, At K (Γ.inn Γ.G0 (upd Γ.H0 p (.lst xs9))) ρE σB GE HE → Same GA GE → IsAll K GE xs' acc' → Ij (es.drop (jj + 1)) acc' (wipeR ρE vs1) →
            ∃ ρ' G' acc xs, At K Γ ρ' σ6 G' (upd HE p (.lst xs')) ∧ wipeR ρ' vs1 = ρ' ∧ Same G8 G' ∧ (upd HE p (.lst xs')) p = some (.lst xs) ∧ G' p = none ∧ IsAll K G' xs acc ∧ (∀ (j : Nat) dj, ρ'[j]? = some (.own dj) → σ6[j]? ≠ some (some (.ref p))) ∧ Ij (es.drop (jj + 1)) acc ρ' := by
          intro ρE GE HE xs' acc' aE sE rE iE
          obtain ⟨bE, eE, gE, nE⟩ := aE.back h0 g0
          have cE := bE.wipe (τ := σ6) (vs := vs1) hI1 lB'.symm fun i hi => (fB' i hi).symm
          have nE' : ∀ (j : Nat) dj, (wipeR ρE vs1)[j]? = some (.own dj) → σ6[j]? ≠ some (some (.ref p)) := fun j dj z => by
            have hj : j ∉ vs1 := fun w => by cases wipeR_in z w
            rw [wipeR_out hj] at z
            rw [← fB' j hj]
            exact nE j dj z
          exact ⟨_, GE, acc', xs', cE.poke gE h0 nE', wipeR_wipeR, sA.trans sE, upd_same, gE, rE, nE', iE⟩
        refine ⟨wipe_ext lB' fB', ht1 Γ.G0 (upd Γ.H0 p (.lst xs9)) (sg _) σB HA _ ⟨ρB, GA, _, aD, hB, fun b ρF GF HF hbF aF sF => ?_⟩⟩
        cases b with
        | true =>
          refine iteT (he Γ.G0 (upd Γ.H0 p (.lst xs9)) (sg _) σB HF _ ⟨ρF, GF, _, aF, hbF, fun yv ρH yH GH HH ⟨hl, hIH⟩ aH sH rH => ?_⟩)
          obtain ⟨_, eH, _, _⟩ := aH.back h0 g0
          exact ⟨xs9, eH, line_lt (by rw [raA.length]; exact hl), afterI aH (sF.trans sH) ((raA.mono (sF.trans sH)).append (.cons rH .nil)) hIH⟩
        | false =>
          have q := afterI aF sF (raA.mono sF) hbF
          obtain ⟨_, eF, _, _⟩ := aF.back h0 g0
          have eu : upd HF p (.lst xs9) = HF := by
            funext b
            by_cases hb : b = p
            · subst hb; rw [upd_same, eF]
            · rw [upd_ne hb]
          rw [eu] at q
          exact iteF q
      · have ee : jj = es.length := by omega
        subst ee
        rw [List.drop_length] at hI9
        exact .inl ⟨jk.stop H9 G9 s9 a9.sub, after l6' f6' a9 hp9 gp9 hno9 ((s7.trans s8).trans s9) ra9 (k3 _ _ hI9)⟩
  · have e : i = ds.length := by omega
    subst e
    rw [List.drop_length] at hI'
    exact .inl ⟨j.stop H' G' s' a'.sub, fin _ _ _ _ _ (h3 _ _ hI') a' (s1.trans s') gp' h0 (.inl ⟨xs, acc, rfl, hp', ra⟩) hno⟩
theorem pi_ex {ι : Type} {p : ι → Prop} {tg iter : Expr} {t : ι → TI} (h : ∀ i, p i → PI X tg iter (t i)) : PI X tg iter (fun σ H R => ∃ i, p i ∧ t i σ H R) := ⟨fun pins s σ H R I ⟨i, hp, q⟩ => (h i hp).run pins s σ H R I q⟩
theorem df_lc2 {elt tg iter tg1 iter1 : Expr} {ifs ifs1 : List Expr} {scope : Scope} {own : List (Str × Nat)} {vs1 : List Nat} {ti : TI'} {js js1 : List Nat} {g g1 : Hp → Hp → TDG} {tt tt1 : Hp → Hp → TT'} {ti1 : Hp → Hp → TI'} {te : Hp → Hp → TD} (c : Cok k X Γ) (hi : DI X Γ tg iter ti) (ok : blkC X.N X.env.scope scope own = true)
    (hg : InBlk X Γ k scope fun X Γ G0 H0 => DG X Γ tg js (g G0 H0)) (ht : InBlk X Γ k scope fun X Γ G0 H0 => DTs X Γ ifs (tt G0 H0)) (hi1 : InBlk X Γ k scope fun X Γ G0 H0 => DI X Γ tg1 iter1 (ti1 G0 H0)) (hg1 : InBlk X Γ k scope fun X Γ G0 H0 => DG X Γ tg1 js1 (g1 G0 H0)) (ht1 : InBlk X Γ k scope fun X Γ G0 H0 => DTs X Γ ifs1 (tt1 G0 H0))
    (he : InBlk X Γ k scope fun X Γ G0 H0 => DE X Γ elt (te G0 H0))
    (hI : ∀ i ∈ Γ.I, i ∉ own.map (·.2) := by first | exact fun i hi => absurd hi List.not_mem_nil | exact fun i hi => by cases List.mem_singleton.mp hi; decide) (hj : ∀ i ∈ js, i ∈ own.map (·.2) := by decide) (hv1 : ∀ i ∈ vs1, i ∈ own.map (·.2) := by decide) (hj1 : ∀ i ∈ js1, i ∈ vs1 := by decide) (hs : ∀ x, foldedSetIterable iter X.env x = pure x := by intro _; rfl) (hs1 : ∀ env x, foldedSetIterable iter1 env x = pure x := by intro _ _; rfl) :
    DF X Γ (.ListComp elt [⟨tg, iter, ifs, 0⟩, ⟨tg1, iter1, ifs1, 0⟩] scope pos) (dLc2 ti g tt ti1 g1 tt1 te (own.map (·.2)) vs1) := by
  refine ⟨pe_imp (pe_lc2 c.calm c.nd hi.pi (blkOk_by ok) hv1 (fun s H C cl fp => pg_ex (ι := Hp × Hp) (p := fun i => Same i.1 i.2) (t := fun i => rdG X.K (Γ.inn i.1 i.2) js (g i.1 i.2)) fun i hp => (hg i.1 i.2 s H C cl fp (c.inn hp)).pg) (fun s H C cl fp => pts_ex (ι := Hp × Hp) (p := fun i => Same i.1 i.2) (t := fun i => rdT X.K (Γ.inn i.1 i.2) (tt i.1 i.2)) fun i hp => (ht i.1 i.2 s H C cl fp (c.inn hp)).pt)
    (fun s H C cl fp => pi_ex (ι := Hp × Hp) (p := fun i => Same i.1 i.2) (t := fun i => rdI X.K (Γ.inn i.1 i.2) (ti1 i.1 i.2)) fun i hp => (hi1 i.1 i.2 s H C cl fp (c.inn hp)).pi)
    (fun s H C cl fp => pg_ex (ι := Hp × Hp) (p := fun i => Same i.1 i.2) (t := fun i => rdG X.K (Γ.inn i.1 i.2) js1 (g1 i.1 i.2)) fun i hp => (hg1 i.1 i.2 s H C cl fp (c.inn hp)).pg) (fun s H C cl fp => pts_ex (ι := Hp × Hp) (p := fun i => Same i.1 i.2) (t := fun i => rdT X.K (Γ.inn i.1 i.2) (tt1 i.1 i.2)) fun i hp => (ht1 i.1 i.2 s H C cl fp (c.inn hp)).pt)
    (fun s H C cl fp => pe_ex (ι := Hp × Hp) (p := fun i => Same i.1 i.2) (t := fun i => rdE X.K (Γ.inn i.1 i.2) (te i.1 i.2)) fun i hp => (he i.1 i.2 s H C cl fp (c.inn hp)).pe) hs hs1) fun σ H Q h => ?_⟩
  exact lc2_rd hI hj hv1 hj1 c.gh (fun G0 H0 hp v σ H Q q => ⟨(G0, H0), hp, q⟩) (fun G0 H0 hp σ H Q q => ⟨(G0, H0), hp, q⟩) (fun G0 H0 hp σ H R q => ⟨(G0, H0), hp, q⟩) (fun G0 H0 hp v σ H Q q => ⟨(G0, H0), hp, q⟩) (fun G0 H0 hp σ H Q q => ⟨(G0, H0), hp, q⟩) (fun G0 H0 hp σ H Q q => ⟨(G0, H0), hp, q⟩) h
end
end Dn
/-! Dn: comprehensions that change nothing; ranges turn by turn. -/
namespace Dn
open PySem PySem.Spec PyProof.Rows L2
theorem rangeD_zero (lo c : Int) : rangeD lo c 0 = [] := rfl
theorem rangeD_succ (lo c : Int) (n : Nat) : rangeD lo c (n + 1) = .int lo :: rangeD (lo + c) c n := by
  unfold rangeD
  rw [List.range_succ_eq_map, List.map_cons, List.map_map]
  congr 1
  · show PyData.int (lo + ((0 : Nat) : Int) * c) = .int lo
    rw [show ((0 : Nat) : Int) * c = 0 by simp, Int.add_zero]
  · apply List.map_congr_left
    intro i _
    show PyData.int (lo + ((i + 1 : Nat) : Int) * c) = .int (lo + c + (i : Int) * c)
    congr 1
    rw [show ((i + 1 : Nat) : Int) = (i : Int) + 1 by omega, Int.add_mul, Int.one_mul]
    omega
theorem rangeD_len (lo c : Int) (n : Nat) : (rangeD lo c n).length = n := by unfold rangeD; simp
theorem rangeD_map (lo c : Int) (n : Nat) : rangeD lo c n = ((List.range n).map fun (i : Nat) => lo + (i : Int) * c).map PyData.int := by unfold rangeD; rw [List.map_map]; rfl
theorem rangeD_cons {lo c : Int} {n : Nat} {x : D} {r : List D} (h : x :: r = rangeD lo c n) : ∃ m, n = m + 1 ∧ x = .int lo ∧ r = rangeD (lo + c) c m := by
  cases n with
  | zero => cases h
  | succ m => rw [rangeD_succ] at h; cases h; exact ⟨m, rfl, rfl, rfl⟩
theorem rangeD_nil {lo c : Int} {n : Nat} (h : [] = rangeD lo c n) : n = 0 := by
  cases n with
  | zero => rfl
  | succ m => rw [rangeD_succ] at h; cases h
theorem map_cons' {α β : Type} {f : α → β} {x : β} {r : List β} {ps : List α} (h : x :: r = ps.map f) : ∃ p ps', ps = p :: ps' ∧ x = f p ∧ r = ps'.map f := by
  cases ps with
  | nil => cases h
  | cons p ps => cases h; exact ⟨p, ps, rfl, rfl, rfl⟩
theorem map_nil' {α β : Type} {f : α → β} {ps : List α} (h : [] = ps.map f) : ps = [] := by
  cases ps with
  | nil => rfl
  | cons p ps => cases h
/-- a comprehension that tells f of each and leaves all as it is -/
theorem lc_map {g : Hp → Hp → TDG} {te : Hp → Hp → TD} {vs : List Nat} {Q : List D → Ro → Prop} {ρ : Ro} (ρ0 : Ro) (hρ : wipeR ρ vs = ρ0) {α : Type} (xs : List α) (enc : α → D) (f : α → D) {ds : List D} (hds : ds = xs.map enc) (hl : xs.length ≤ 16777216)
    (h : ∀ x ∈ xs, ∀ (G0 H0 : Hp) (k : D → Ro → Prop), (∀ ρ4, wipeR ρ4 vs = ρ0 → k (f x) ρ4) → g G0 H0 (enc x) ρ0 fun ρ2 => te G0 H0 ρ2 k) (hQ : Q (xs.map f) ρ0) :
    ∃ I : List D → List D → Ro → Prop, I ds [] (wipeR ρ vs) ∧
      (∀ x r acc ρ, I (x :: r) acc ρ → ∀ G0 H0, g G0 H0 x ρ fun ρ2 => tYesD ρ2 fun b ρ3 => brn b (te G0 H0 ρ3 fun y ρ4 => acc.length < 16777216 ∧ I r (acc ++ [y]) (wipeR ρ4 vs)) (I r acc (wipeR ρ3 vs))) ∧ ∀ acc ρ, I [] acc ρ → Q acc ρ := by
  refine ⟨fun r acc ρ => ρ = ρ0 ∧ ∃ done rest, xs = done ++ rest ∧ r = rest.map enc ∧ acc = done.map f, ⟨hρ, [], xs, rfl, hds, rfl⟩, ?_, ?_⟩
  · rintro x r acc ρ ⟨rfl, done, rest, e, h1, rfl⟩ G0 H0
    obtain ⟨p, rest, rfl, rfl, rfl⟩ := map_cons' h1
    refine h p (by rw [e]; simp) G0 H0 _ fun ρ4 h4 => ⟨?_, h4, done ++ [p], rest, by rw [e]; simp, rfl, by simp⟩
    rw [e] at hl
    simp at hl ⊢
    omega
  · rintro acc ρ ⟨rfl, done, rest, e, h1, rfl⟩
    cases map_nil' h1
    rw [List.append_nil] at e
    rw [← e]
    exact hQ
/-- the same with a test: f tells none where nothing is taken -/
theorem lc_fm {g : Hp → Hp → TDG} {tt : Hp → Hp → TT'} {te : Hp → Hp → TD} {vs : List Nat} {Q : List D → Ro → Prop} {ρ : Ro} (ρ0 : Ro) (hρ : wipeR ρ vs = ρ0) {α : Type} (xs : List α) (enc : α → D) (f : α → Option D) {ds : List D} (hds : ds = xs.map enc) (hl : xs.length ≤ 16777216)
    (h : ∀ x ∈ xs, ∀ (G0 H0 : Hp) (k : D → Ro → Prop) (k0 : Ro → Prop), (∀ y ρ4, f x = some y → wipeR ρ4 vs = ρ0 → k y ρ4) → (∀ ρ4, f x = none → wipeR ρ4 vs = ρ0 → k0 ρ4) → g G0 H0 (enc x) ρ0 fun ρ2 => tt G0 H0 ρ2 fun b ρ3 => brn b (te G0 H0 ρ3 k) (k0 ρ3))
    (hQ : Q (xs.filterMap f) ρ0) :
    ∃ I : List D → List D → Ro → Prop, I ds [] (wipeR ρ vs) ∧
      (∀ x r acc ρ, I (x :: r) acc ρ → ∀ G0 H0, g G0 H0 x ρ fun ρ2 => tt G0 H0 ρ2 fun b ρ3 => brn b (te G0 H0 ρ3 fun y ρ4 => acc.length < 16777216 ∧ I r (acc ++ [y]) (wipeR ρ4 vs)) (I r acc (wipeR ρ3 vs))) ∧ ∀ acc ρ, I [] acc ρ → Q acc ρ := by
  refine ⟨fun r acc ρ => ρ = ρ0 ∧ ∃ done rest, xs = done ++ rest ∧ r = rest.map enc ∧ acc = done.filterMap f, ⟨hρ, [], xs, rfl, hds, rfl⟩, ?_, ?_⟩
  · rintro x r acc ρ ⟨rfl, done, rest, e, h1, rfl⟩ G0 H0
    obtain ⟨p, rest, rfl, rfl, rfl⟩ := map_cons' h1
    refine h p (by rw [e]; simp) G0 H0 _ _ (fun y ρ4 h3 h4 => ⟨?_, h4, done ++ [p], rest, by rw [e]; simp, rfl, by simp [h3]⟩) fun ρ4 h3 h4 => ⟨h4, done ++ [p], rest, by rw [e]; simp, rfl, by simp [h3]⟩
    have := List.length_filterMap_le f done
    rw [e] at hl
    simp at hl
    omega
  · rintro acc ρ ⟨rfl, done, rest, e, h1, rfl⟩
    cases map_nil' h1
    rw [List.append_nil] at e
    rw [← e]
    exact hQ
/-- two clauses that change nothing -/
theorem lc2_map {g g1 : Hp → Hp → TDG} {ti1 : Hp → Hp → TI'} {te : Hp → Hp → TD} {vs vs1 : List Nat} {Q : List D → Ro → Prop} {ρ : Ro} (ρ0 : Ro) (hρ : wipeR ρ vs = ρ0) {α β : Type} (xs : List α) (enc : α → D) (ys : α → List β) (enc1 : α → β → D) (f : α → β → D) {ds : List D} (hds : ds = xs.map enc)
    (hl : (xs.flatMap ys).length ≤ 16777216) (ρ1 : α → Ro) (hρ1 : ∀ x, wipeR (ρ1 x) vs = ρ0)
    (h : ∀ x ∈ xs, ∀ (G0 H0 : Hp) (k : List D → Ro → Prop), (∀ ρ4, wipeR ρ4 vs1 = ρ1 x → k ((ys x).map (enc1 x)) ρ4) → g G0 H0 (enc x) ρ0 fun ρ2 => ti1 G0 H0 ρ2 k)
    (h1 : ∀ x ∈ xs, ∀ y ∈ ys x, ∀ (G0 H0 : Hp) (k : D → Ro → Prop), (∀ ρ4, wipeR ρ4 vs1 = ρ1 x → k (f x y) ρ4) → g1 G0 H0 (enc1 x y) (ρ1 x) fun ρ2 => te G0 H0 ρ2 k)
    (hQ : Q (xs.flatMap fun x => (ys x).map (f x)) ρ0) :
    ∃ I : List D → List D → Ro → Prop, I ds [] (wipeR ρ vs) ∧
      (∀ x r acc ρ, I (x :: r) acc ρ → ∀ G0 H0, g G0 H0 x ρ fun ρ2 => tYesD ρ2 fun b ρ3 => brn b
        (ti1 G0 H0 ρ3 fun es ρ4 => ∃ J : List D → List D → Ro → Prop, J es acc (wipeR ρ4 vs1) ∧
          (∀ y q acc ρ, J (y :: q) acc ρ → ∀ G0 H0, g1 G0 H0 y ρ fun ρ5 => tYesD ρ5 fun b ρ6 => brn b (te G0 H0 ρ6 fun z ρ7 => acc.length < 16777216 ∧ J q (acc ++ [z]) (wipeR ρ7 vs1)) (J q acc (wipeR ρ6 vs1))) ∧
          ∀ acc ρ, J [] acc ρ → I r acc (wipeR ρ vs))
        (I r acc (wipeR ρ3 vs))) ∧ ∀ acc ρ, I [] acc ρ → Q acc ρ := by
  have len : ∀ zs : List α, (zs.flatMap fun x => (ys x).map (f x)).length = (zs.flatMap ys).length := fun zs => by simp [List.length_flatMap]
  refine ⟨fun r acc ρ => ρ = ρ0 ∧ ∃ done rest, xs = done ++ rest ∧ r = rest.map enc ∧ acc = done.flatMap fun x => (ys x).map (f x), ⟨hρ, [], xs, rfl, hds, rfl⟩, ?_, ?_⟩
  · rintro x r acc ρ ⟨rfl, done, rest, e, h2, rfl⟩ G0 H0
    obtain ⟨p, rest, rfl, rfl, rfl⟩ := map_cons' h2
    have hp : p ∈ xs := by rw [e]; simp
    refine h p hp G0 H0 _ fun ρ4 h4 => ?_
    refine ⟨fun q acc ρ => ρ = ρ1 p ∧ ∃ d2 r2, ys p = d2 ++ r2 ∧ q = r2.map (enc1 p) ∧ acc = (done.flatMap fun x => (ys x).map (f x)) ++ d2.map (f p), ⟨h4, [], ys p, rfl, rfl, by simp⟩, ?_, ?_⟩
    · rintro y q acc ρ ⟨rfl, d2, r2, e2, h5, rfl⟩ G0 H0
      obtain ⟨b, r2, rfl, rfl, rfl⟩ := map_cons' h5
      refine h1 p hp b (by rw [e2]; simp) G0 H0 _ fun ρ5 h6 => ⟨?_, h6, d2 ++ [b], r2, by rw [e2]; simp, rfl, by simp⟩
      rw [e, List.flatMap_append, List.flatMap_cons, e2] at hl
      rw [List.length_append, len]
      simp at hl ⊢
      omega
    · rintro acc ρ ⟨rfl, d2, r2, e2, h5, rfl⟩
      cases map_nil' h5
      rw [List.append_nil] at e2
      exact ⟨hρ1 p, done ++ [p], rest, by rw [e]; simp, rfl, by simp [e2]⟩
  · rintro acc ρ ⟨rfl, done, rest, e, h2, rfl⟩
    cases map_nil' h2
    rw [List.append_nil] at e
    rw [← e]
    exact hQ
end Dn
/-! Dn: max, min, sum, sorted. -/
namespace Dn
open PySem PySem.Spec PyProof.Rows L2
section
variable {X : Cx} {Γ : Gm} {k j n : Nat} {a b e : Expr} {es : List Expr} {st : Stmt} {rest body orelse : List Stmt} {pos : Pos} {t u : TDS}
def maxD : OpN
  | [.int i, .int j], Q => Q (.int (if j > i then j else i))
  | [.list xs], Q => optD (intsOf xs) fun ns => 0 < ns.length ∧ ∀ m, m ∈ ns → (∀ y, y ∈ ns → y ≤ m) → Q (.int m)
  | _, _ => False
def minD : OpN
  | [.int i, .int j], Q => Q (.int (if j < i then j else i))
  | [.list xs], Q => optD (intsOf xs) fun ns => 0 < ns.length ∧ ∀ m, m ∈ ns → (∀ y, y ∈ ns → m ≤ y) → Q (.int m)
  | _, _ => False
def sumD : OpN
  | [.list xs], Q => optD (intsOf xs) fun ns => Q (.int ns.sum)
  | _, _ => False
def sortD : OpN
  | [.list xs], Q => optD (intsOf xs) fun ns => ∀ ns' : List Int, ns'.Perm ns → ns'.Pairwise (· ≤ ·) → Q (.list (ns'.map .int))
  | _, _ => False
theorem isx_ints {K : PySem.W.Frag} {G H : Hp} {v : V} {xs : List D} {ns : List Int} (s : Same G H) (h : IsX K G H v (.list xs)) (e : intsOf xs = some ns) : ∃ p, v = .ref p ∧ H p = some (.lst (ns.map V.int)) := by
  obtain ⟨p, us, rfl, h1, h2⟩ := h.list s
  rw [intsOf_eq e] at h2
  rw [h2.ints] at h1
  exact ⟨p, rfl, h1⟩
theorem cd_max (c : Cok k X Γ) : CallD X (.builtin "max") maxD := by
  refine CallD.of ((call_max2 c.calm).or (cr_max c.calm)) ?_
  rintro vs H Q ⟨G, ds, k, s, hx, h, fin⟩
  unfold maxD at h
  split at h
  · rename_i i j
    obtain ⟨v, u, rfl, h1, h2⟩ := isxs_2 hx
    rw [h1.int, h2.int]
    exact .inl ⟨i, j, rfl, fin _ _ G H h (.refl s) (.int _)⟩
  · rename_i xs
    obtain ⟨v, rfl, hv⟩ := isxs_1 hx
    obtain ⟨ns, e, hn, h⟩ := optD.to h
    obtain ⟨p, rfl, hp⟩ := isx_ints s hv e
    exact .inr ⟨p, ns, rfl, .of hp, hn, fun m m1 m2 => fin _ _ G H (h m m1 m2) (.refl s) (.int _)⟩
  · exact h.elim
theorem cd_min (c : Cok k X Γ) : CallD X (.builtin "min") minD := by
  refine CallD.of ((call_min2 c.calm).or (cr_min c.calm)) ?_
  rintro vs H Q ⟨G, ds, k, s, hx, h, fin⟩
  unfold minD at h
  split at h
  · rename_i i j
    obtain ⟨v, u, rfl, h1, h2⟩ := isxs_2 hx
    rw [h1.int, h2.int]
    exact .inl ⟨i, j, rfl, fin _ _ G H h (.refl s) (.int _)⟩
  · rename_i xs
    obtain ⟨v, rfl, hv⟩ := isxs_1 hx
    obtain ⟨ns, e, hn, h⟩ := optD.to h
    obtain ⟨p, rfl, hp⟩ := isx_ints s hv e
    exact .inr ⟨p, ns, rfl, .of hp, hn, fun m m1 m2 => fin _ _ G H (h m m1 m2) (.refl s) (.int _)⟩
  · exact h.elim
theorem cd_sum (c : Cok k X Γ) : CallD X (.builtin "sum") sumD := by
  refine CallD.of (cr_sum c.calm) ?_
  rintro vs H Q ⟨G, ds, k, s, hx, h, fin⟩
  unfold sumD at h
  split at h
  · rename_i xs
    obtain ⟨v, rfl, hv⟩ := isxs_1 hx
    obtain ⟨ns, e, h⟩ := optD.to h
    obtain ⟨p, rfl, hp⟩ := isx_ints s hv e
    exact ⟨p, ns, rfl, .of hp, fin _ _ G H h (.refl s) (.int _)⟩
  · exact h.elim
theorem cd_sorted (c : Cok k X Γ) : CallD X (.builtin "sorted") sortD := by
  refine CallD.of L2.cr_sortedI ?_
  rintro vs H Q ⟨G, ds, k, s, hx, h, fin⟩
  unfold sortD at h
  split at h
  · rename_i xs
    obtain ⟨v, rfl, hv⟩ := isxs_1 hx
    obtain ⟨ns, e, h⟩ := optD.to h
    obtain ⟨p, rfl, hp⟩ := isx_ints s hv e
    refine ⟨p, ns, rfl, .of hp, fun ns' q h1 h2 hq => ?_⟩
    have g := Grow.laid (o := .lst (ns'.map V.int)) s hq
    exact fin _ _ _ _ (h ns' h1 h2) g (.lst upd_same (IsAll.of_ints ns'))
  · exact h.elim
/-- a, b = a new list, a constant; one of the names is a cell -/
theorem ds_asgF {i j : Nat} {x y : Str} {t : TD} {d : D} {v : V} {px py pt pt2 : Pos} {kt : Nat} {k2 : Nat} (c : Cok k X Γ) (hi : X.N[i]? = some x) (hj : X.N[j]? = some y) (hx : Loc X.env.scope x) (hy : Loc X.env.scope y) (ha : DF X Γ a t) (hb : DK X b d v) (hI : Γ.I.contains i = false := by rfl) (hJ : Γ.I.contains j = false := by rfl)
    (hn : starEach [a, b] X.env = (false, eval a X.env) :: starEach [b] X.env := by rfl) (hn2 : starEach [b] X.env = (false, eval b X.env) :: starEach [] X.env := by rfl)
    (hs : swapsWithSole [.Tuple [.Name x px, .Name y py] kt pt] (.Tuple [a, b] k2 pt2) pos.line X.env = pure false := by rfl) (hw : swappedStores [.Tuple [.Name x px, .Name y py] kt pt] (.Tuple [a, b] k2 pt2) X.env = pure none := by rfl)
    (h1 : (assignEach [.Tuple [.Name x px, .Name y py] kt pt] X.env).map (·.2) = [assign (.Tuple [.Name x px, .Name y py] kt pt) X.env] := by rfl)
    (hc1 : (assignEach [.Name x px, .Name y py] X.env).map (·.2) = assign (.Name x px) X.env :: (assignEach [.Name y py] X.env).map (·.2) := by rfl) (hc2 : (assignEach [.Name y py] X.env).map (·.2) = assign (.Name y py) X.env :: (assignEach [] X.env).map (·.2) := by rfl)
    (hl : (assignEach [.Name x px, .Name y py] X.env).length = 2 := by rfl) (hst : (assignEach [.Name x px, .Name y py] X.env).findIdx? (·.1) = none := by rfl)
    (hf1 : X.fn x = true ∨ X.env.scope.names.lookup x = some .local := by first | exact .inl rfl | exact .inr rfl | assumption) (hf2 : X.fn y = true ∨ X.env.scope.names.lookup y = some .local := by first | exact .inl rfl | exact .inr rfl | assumption) :
    DS X Γ (.Assign [.Tuple [.Name x px, .Name y py] kt pt] (.Tuple [a, b] k2 pt2) pos) (sParF i j t d) := by
  refine ⟨ps_imp (ps_asg (pe_tup (pa_cons ha.pe (pa_cons hb.pe pa_nil hn2) hn)) (pg_tup c.calm (pgs_cons (pg_name (i := i) c.nd hi hx hf1) (pgs_cons (pg_name (i := j) c.nd hj hy hf2) pgs_nil hc2) hc1) hl hst) hs hw h1) ?_⟩
  rintro E σ H ⟨ρ, G, R, at_, ok, h⟩
  refine ⟨ρ, G, _, at_, h, fun d' ρ' p G' H' hk a' s' g0 h0 own hno => ⟨(by show 2 ≤ sizeLine; decide), fun q hq => ?_⟩⟩
  obtain ⟨a2, _, _, _⟩ := a'.fresh (o := .tup [.ref p, v]) hq
  have hpq : p ≠ q := fun z => by
    obtain ⟨w, hw⟩ := own.some
    rw [z, hq] at hw
    cases hw
  have own2 : Own X.K G' (upd H' q (.tup [.ref p, v])) p d' := own.mono (Same.refl _) (upd_ne hpq)
  refine ⟨q, _, rfl, .inl (.inl upd_same), rfl, _, _, rfl, _, _, rfl, rfl, ?_⟩
  exact ok.nx _ _ _ _ ((a2.setOwn hI g0 h0 own2 hno).set hJ (hb.is _ _)) s' hk
end
def idx {α : Type} : Nat → List α → List (Nat × α)
  | _, [] => []
  | n, x :: xs => (n, x) :: idx (n + 1) xs
theorem idx_len {α : Type} : ∀ (n : Nat) (xs : List α), (idx n xs).length = xs.length
  | _, [] => rfl
  | n, x :: xs => congrArg Nat.succ (idx_len (n + 1) xs)
theorem enum_idx {α : Type} (f : α → D) : ∀ (n : Nat) (xs : List α), enumFrom n (xs.map f) = (idx n xs).map fun p => .tuple [.int (p.1 : Nat), f p.2]
  | _, [] => rfl
  | n, x :: xs => congrArg (List.cons _) (enum_idx f (n + 1) xs)
theorem rgc_up {i j c : Int} {n : Nat} (hi : -(2 ^ 40) ≤ i ∧ i < 2 ^ 40) (hj : -(2 ^ 40) ≤ j ∧ j < 2 ^ 40) (hc : 1 ≤ c) (hc2 : c < 2 ^ 29) (hn : (n : Int) = if i < j then (j - i - 1) / c + 1 else 0) : RgC i j c n := by
  have hs : Builtin.Range.rangeSize i j c = n := by
    unfold Builtin.Range.rangeSize
    rw [if_pos (by omega), hn]
  refine ⟨by omega, by omega, ?_, hs⟩
  have h1 : i < j → (j - i - 1) / c ≤ j - i - 1 := fun h => by
    exact Int.ediv_le_self c (by omega)
  have h0 : i < j → 0 ≤ (j - i - 1) / c := fun h => Int.ediv_nonneg (by omega) (by omega)
  have hm : i < j → ((j - i - 1) / c) * c ≤ j - i - 1 := fun h => Int.ediv_mul_le _ (by omega)
  unfold Builtin.Range.small
  rw [hs]
  simp only [Builtin.Range.rangeFitsLong, Bool.and_eq_true, Bool.or_eq_true, decide_eq_true_eq, beq_iff_eq]
  have hb : (n : Int) ≤ 2 ^ 42 := by rw [hn]; split <;> omega
  refine ⟨⟨⟨⟨by omega, by omega⟩, by omega⟩, by omega⟩, .inr ?_⟩
  rw [if_pos (by omega), decide_eq_true (by omega), decide_eq_true (by omega)]
  rfl
end Dn
namespace K19
open PySem PySem.Spec PyProof.Rows L2 Dn
local macro_rules | `(tactic| walk_at "r") => `(tactic| ((conv => whnf); (repeat (refine ⟨rfl, rfl, ?_⟩; (conv => whnf)))))
def topS (i : Nat) : Stmt := PySem.Challenge.pw_linesfitted_k19_sheets_that_are_read_aga.main.body.getD i (.Pass ⟨0, 0, 0, 0⟩)
/-! ### fractions -/
def Bd (n : Nat) (q : Rat) : Prop := q.num.natAbs < 2 ^ n ∧ q.den < 2 ^ n
theorem Bd.mono {m n : Nat} {q : Rat} (h : Bd m q) (hn : m ≤ n) : Bd n q :=
  have e := Nat.pow_le_pow_right (show 0 < 2 by decide) hn
  ⟨Nat.lt_of_lt_of_le h.1 e, Nat.lt_of_lt_of_le h.2 e⟩
theorem bd_divInt {a : Nat} {n d : Int} (h : d ≠ 0) (hn : n.natAbs < 2 ^ a) (hd : d.natAbs < 2 ^ a) : Bd a (Rat.divInt n d) := by
  refine ⟨?_, ?_⟩
  · rw [Rat.num_divInt n d]
    have e : (d.sign * n / (d.gcd n : Int)).natAbs ≤ (d.sign * n).natAbs := by
      rw [Int.natAbs_ediv_of_dvd]
      · exact Nat.div_le_self _ _
      · exact Int.dvd_mul_of_dvd_right (Int.gcd_dvd_right ..)
    have e2 : (d.sign * n).natAbs = n.natAbs := by
      rw [Int.natAbs_mul, Int.natAbs_sign_of_ne_zero h, Nat.one_mul]
    omega
  · rw [Rat.den_divInt, if_neg h]
    exact Nat.lt_of_le_of_lt (Nat.div_le_self _ _) hd
theorem den_ne (x : Rat) : (x.den : Int) ≠ 0 := by have := x.den_nz; omega
theorem add_eq (x y : Rat) : x + y = Rat.divInt (x.num * y.den + y.num * x.den) (x.den * y.den) := by
  rw [← Rat.divInt_add_divInt _ _ (den_ne x) (den_ne y), Rat.num_divInt_den, Rat.num_divInt_den]
theorem sub_eq (x y : Rat) : x - y = Rat.divInt (x.num * y.den - y.num * x.den) (x.den * y.den) := by
  rw [← Rat.divInt_sub_divInt _ _ (den_ne x) (den_ne y), Rat.num_divInt_den, Rat.num_divInt_den]
theorem mul_eq (x y : Rat) : x * y = Rat.divInt (x.num * y.num) (x.den * y.den) := by
  rw [← Rat.divInt_mul_divInt, Rat.num_divInt_den, Rat.num_divInt_den]
theorem div_eq (x y : Rat) : x / y = Rat.divInt (x.num * y.den) (x.den * y.num) := by
  rw [Rat.div_def, Rat.inv_def, ← Rat.divInt_mul_divInt, Rat.num_divInt_den]
theorem pow_mul_lt {a b : Nat} {i j : Nat} (h : i < 2 ^ a) (k : j < 2 ^ b) : i * j < 2 ^ (a + b) := by
  rw [Nat.pow_add]
  exact Nat.mul_lt_mul'' h k
theorem nat_mul_lt {a b : Nat} {i j : Int} (h : i.natAbs < 2 ^ a) (k : j.natAbs < 2 ^ b) : (i * j).natAbs < 2 ^ (a + b) := by
  rw [Int.natAbs_mul]
  exact pow_mul_lt h k
theorem nat_add_lt {a : Nat} {i j : Int} (h : i.natAbs < 2 ^ a) (k : j.natAbs < 2 ^ a) : (i + j).natAbs < 2 ^ (a + 1) := by
  have := Int.natAbs_add_le i j
  rw [Nat.pow_succ]
  omega
theorem nat_sub_lt {a : Nat} {i j : Int} (h : i.natAbs < 2 ^ a) (k : j.natAbs < 2 ^ a) : (i - j).natAbs < 2 ^ (a + 1) := by
  have := Int.natAbs_sub_le i j
  rw [Nat.pow_succ]
  omega
theorem Bd.den {n : Nat} {q : Rat} (h : Bd n q) : (q.den : Int).natAbs < 2 ^ n := by rw [Int.natAbs_natCast]; exact h.2
theorem den_mul_ne (x y : Rat) : (x.den : Int) * y.den ≠ 0 := Int.mul_ne_zero (den_ne x) (den_ne y)
theorem lt_pow_mono {a b : Nat} {i : Nat} (h : i < 2 ^ a) (hab : a ≤ b) : i < 2 ^ b := Nat.lt_of_lt_of_le h (Nat.pow_le_pow_right (by decide) hab)
theorem bd_add {a b : Nat} {x y : Rat} (h : Bd a x) (k : Bd b y) : Bd (a + b + 1) (x + y) := by
  rw [add_eq]
  refine bd_divInt (den_mul_ne x y) (nat_add_lt (nat_mul_lt h.1 k.den) ?_) (lt_pow_mono (nat_mul_lt h.den k.den) (by omega))
  rw [Nat.add_comm a b]
  exact nat_mul_lt k.1 h.den
theorem bd_mul {a b : Nat} {x y : Rat} (h : Bd a x) (k : Bd b y) : Bd (a + b) (x * y) := by
  rw [mul_eq]
  exact bd_divInt (den_mul_ne x y) (nat_mul_lt h.1 k.1) (nat_mul_lt h.den k.den)
theorem bd_neg {a : Nat} {x : Rat} (h : Bd a x) : Bd a (-x) := by
  refine ⟨?_, ?_⟩
  · rw [Rat.neg_num, Int.natAbs_neg]; exact h.1
  · rw [Rat.neg_den]; exact h.2
def encQ (q : Rat) : D := .tuple [.int q.num, .int q.den]
theorem dep_encQ (n : Nat) (q : Rat) : dep (n + 1) (encQ q) = true := by cases n <;> rfl
theorem eqv_encQ (p q : Rat) : PyData.eqv (encQ p) (encQ q) = decide (p = q) := by
  have e : PyData.eqv (encQ p) (encQ q) = ((p.num == q.num) && (((p.den : Int) == (q.den : Int)) && true)) := by simp only [encQ, PyData.eqv, PyData.eqvAll]
  rw [e]
  by_cases h : p = q
  · subst h; simp
  · rw [decide_eq_false h]
    by_cases h1 : p.num = q.num
    · by_cases h2 : p.den = q.den
      · exact absurd (Rat.ext h1 h2) h
      · have : ((p.den : Int) == (q.den : Int)) = false := beq_eq_false_iff_ne.mpr (by omega)
        rw [this, Bool.false_and, Bool.and_false]
    · rw [beq_eq_false_iff_ne.mpr h1, Bool.false_and]
def oI : Option Int → D
  | none => .none
  | some i => .int i
def geO (lo : Option Int) (i : Int) : Bool := match lo with
  | none => true
  | some l => decide (l ≤ i)
def leO (hi : Option Int) (i : Int) : Bool := match hi with
  | none => true
  | some l => decide (i ≤ l)
def isInt (v : D) (lo hi : Option Int) : Bool := match v with
  | .int i => geO lo i && leO hi i
  | _ => false
theorem isInt_int (i : Int) (lo hi : Option Int) : isInt (.int i) lo hi = (geO lo i && leO hi i) := rfl
theorem geO_some (l i : Int) : geO (some l) i = decide (l ≤ i) := rfl
theorem leO_some (l i : Int) : leO (some l) i = decide (i ≤ l) := rfl
theorem geO_none (i : Int) : geO none i = true := rfl
theorem leO_none (i : Int) : leO none i = true := rfl
def c_is_integer : DC := fun ds Q _ => ∃ v lo hi, ds = [v, oI lo, oI hi] ∧ Q (.bool (isInt v lo hi))
theorem len_is_integer : ∀ ds kq ke, c_is_integer ds kq ke → ds.length = 3 := by rintro _ _ _ ⟨v, lo, hi, rfl, _⟩; rfl
def c_common_divisor : DC := fun ds Q _ => ∃ a b : Int, ds = [.int a, .int b] ∧ Q (.int (a.gcd b : Nat))
theorem len_common_divisor : ∀ ds kq ke, c_common_divisor ds kq ke → ds.length = 2 := by rintro _ _ _ ⟨a, b, rfl, _⟩; rfl
def c_fraction (C : Addr) : DC := fun ds Q E => ∃ n d : Int, ds = [.int n, .int d] ∧ n.natAbs < 2 ^ 3000 ∧ d.natAbs < 2 ^ 3000 ∧ (d = 0 → E (.plain C)) ∧ (d ≠ 0 → Q (encQ (Rat.divInt n d)))
theorem len_fraction {C : Addr} : ∀ ds kq ke, c_fraction C ds kq ke → ds.length = 2 := by rintro _ _ _ ⟨a, b, rfl, _⟩; rfl
def c2 (g : Rat → Rat → (D → Prop) → Prop) : DC := fun ds Q _ => ∃ x y, ds = [encQ x, encQ y] ∧ Bd 1000 x ∧ Bd 1000 y ∧ g x y Q
theorem len_c2 {g : Rat → Rat → (D → Prop) → Prop} : ∀ ds kq ke, c2 g ds kq ke → ds.length = 2 := by rintro _ _ _ ⟨x, y, rfl, _⟩; rfl
abbrev c_minus : DC := c2 fun x y Q => Q (encQ (x - y))
abbrev len_minus := @len_c2 fun x y Q => Q (encQ (x - y))
section
variable {P : Program} {w : World} {K : PySem.W.Frag} {mg : Str → Option Value} {base : Heap}
abbrev s_is_integer : Stmt := topS 5
theorem sc_is_integer : FnScope ["value", "low", "high"] ["value", "low", "high"] (defScope s_is_integer) := ⟨rfl, rfl, rfl, by decide +kernel, rfl, by decide +kernel, by decide +kernel⟩
theorem ok_is_integer {f : Addr} {fd : FuncData} (F : Fun K "is_integer" "is_integer" s_is_integer f fd) (hm : mg "is_integer" = some (.ref f)) (hb : Binds K fd ["value", "low", "high"] []) (bl : ∀ x : Str, bnames.contains x = true → mg x = none) : Pf P w K mg base 1 "is_integer" 3 c_is_integer := by
  refine pf_of (k := 0) F sc_is_integer rfl hm hb bl (len_is_integer) fun cdv A outer s H G E ds kq ke hc c tk => ?_
  refine ⟨_, (dss_cons (ds_if (dw_or (dt_not (dt_tru (de_isi (T := .int) c (db_var 0) boot_int).toB)) (dw_or1 (dt_tru (de_isi (T := .bool) c (db_var 0) boot_bool).toB))).t (dss_one (ds_ret de_bl)) dss_nil)
      (dss_one (ds_ret (de_and (de_or (de_cmp od_is (db_var 1) de_non.toB) (de_one (de_cmp od_ge (db_var 0) (db_var 1)))) (de_one (de_or (de_cmp od_is (db_var 2) de_non.toB) (de_one (de_cmp od_le (db_var 0) (db_var 2))))))))), ?_⟩
  obtain ⟨v, lo, hi, rfl, hq⟩ := hc
  cases v with
  | int i =>
    cases lo with
    | none =>
      cases hi with
      | none => walk_at "r"; exact hq
      | some h => walk_at "r"; exact hq
    | some l =>
      cases hi with
      | none =>
        rw [isInt_int, geO_some, leO_none, Bool.and_true] at hq
        walk_at "r"
        refine brn.of (fun h => ?_) fun h => ?_
        · walk_at "r"
          rw [show decide (l ≤ i) = true from h] at hq; exact hq
        · rw [show decide (l ≤ i) = false from h] at hq; exact hq
      | some h' =>
        rw [isInt_int, geO_some, leO_some] at hq
        walk_at "r"
        refine brn.of (fun h => ?_) fun h => ?_
        · walk_at "r"
          rw [show decide (l ≤ i) = true from h, Bool.true_and] at hq; exact hq
        · rw [show decide (l ≤ i) = false from h, Bool.false_and] at hq; exact hq
  | _ => walk_at "r"; exact hq
theorem fmod_lt (x y : Int) (h : y ≠ 0) : (x.fmod y).natAbs < y.natAbs := by
  rw [Int.fmod_eq_emod]
  have h1 := Int.emod_nonneg x h
  have h2 := Int.emod_lt x h
  by_cases hc : 0 ≤ y ∨ y ∣ x
  · rw [if_pos hc]; omega
  · rw [if_neg hc]
    have h3 : ¬ y ∣ x := fun z => hc (Or.inr z)
    have h4 : x % y ≠ 0 := fun z => h3 (Int.dvd_of_emod_eq_zero z)
    omega
theorem fmod_gcd (x y : Int) : y.gcd (x.fmod y) = x.gcd y := by
  rw [Int.fmod_def, Int.gcd_comm x y, Int.sub_eq_add_neg, ← Int.mul_neg]
  exact Int.gcd_add_mul_left_right ..
abbrev s_common_divisor : Stmt := topS 6
theorem sc_common_divisor : FnScope ["one", "two"] ["one", "two"] (defScope s_common_divisor) := ⟨rfl, rfl, rfl, by decide +kernel, rfl, by decide +kernel, by decide +kernel⟩
theorem ok_common_divisor {f : Addr} {fd : FuncData} (F : Fun K "common_divisor" "common_divisor" s_common_divisor f fd) (hm : mg "common_divisor" = some (.ref f)) (hb : Binds K fd ["one", "two"] []) (bl : ∀ x : Str, bnames.contains x = true → mg x = none) : Pf P w K mg base 1 "common_divisor" 2 c_common_divisor := by
  refine pf_of (k := 0) F sc_common_divisor rfl hm hb bl (len_common_divisor) fun cdv A outer s H G E ds kq ke hc c tk => ?_
  refine ⟨_, (dss_cons (ds_while c (dt_tru (db_var 1)) (dss_one (ds_par (i := 0) (j := 1) c rfl rfl (by decide) rfl rfl (da_cons (de_var 1) (da_cons (de_bin od_mod (db_var 0) (db_var 1)) da_nil)))))
      (dss_one (ds_ret (de_callB cd_abs (nb c) boot_abs (dbs_cons (db_var 0) dbs_nil))))), ?_⟩
  obtain ⟨a, b, rfl, hq⟩ := hc
  walk_at "r"
  refine ⟨fun m ρ => ∃ x y : Int, ρ = [.val (.int x), .val (.int y)] ∧ x.gcd y = a.gcd b ∧ m = y.natAbs, ⟨_, a, b, rfl, rfl, rfl⟩, ?_⟩
  rintro m ρ ⟨x, y, rfl, hg, rfl⟩
  walk_at "r"
  refine brn.of (fun h => ?_) fun h => ?_
  · have hy : y ≠ 0 := by simpa using h
    walk_at "r"
    refine ⟨hy, ?_⟩
    walk_at "r"
    exact ⟨(x.fmod y).natAbs, fmod_lt x y hy, y, x.fmod y, rfl, by rw [fmod_gcd]; exact hg, rfl⟩
  · have hy : y = 0 := by simpa using h
    subst hy
    walk_at "r"
    rw [← hg, Int.gcd_zero_right] at hq
    have e : (if x < 0 then -x else x) = (x.natAbs : Int) := by split <;> omega
    exact e ▸ hq
theorem num_frac (n d : Int) (h : d < 0) : (Rat.divInt n d).num = n.fdiv (-(n.gcd d : Nat)) := by
  have h1 : (-(n.gcd d : Nat) : Int) ∣ n := Int.neg_dvd.mpr (Int.gcd_dvd_left ..)
  rw [Rat.num_divInt, Int.fdiv_eq_ediv_of_dvd h1, Int.sign_eq_neg_one_of_neg h, Int.gcd_comm d n, Int.ediv_neg, Int.neg_one_mul, Int.neg_ediv_of_dvd (Int.gcd_dvd_left ..)]
theorem num_frac' (n d : Int) (h : 0 < d) : (Rat.divInt n d).num = n.fdiv (n.gcd d : Nat) := by
  rw [Rat.num_divInt, Int.fdiv_eq_ediv_of_dvd (Int.gcd_dvd_left ..), Int.sign_eq_one_of_pos h, Int.gcd_comm d n, Int.one_mul]
theorem den_frac (n d : Int) (h : d < 0) : ((Rat.divInt n d).den : Int) = d.fdiv (-(n.gcd d : Nat)) := by
  have h1 : (-(n.gcd d : Nat) : Int) ∣ d := Int.neg_dvd.mpr (Int.gcd_dvd_right ..)
  rw [Rat.den_divInt, if_neg (by omega), Int.fdiv_eq_ediv_of_dvd h1, Int.gcd_comm d n, Int.ediv_neg, ← Int.neg_ediv_of_dvd (Int.gcd_dvd_right ..), Int.natCast_ediv]
  rw [show ((d.natAbs : Nat) : Int) = -d by omega]
theorem den_frac' (n d : Int) (h : 0 < d) : ((Rat.divInt n d).den : Int) = d.fdiv (n.gcd d : Nat) := by
  rw [Rat.den_divInt, if_neg (by omega), Int.fdiv_eq_ediv_of_dvd (Int.gcd_dvd_right ..), Int.gcd_comm d n, Int.natCast_ediv]
  rw [show ((d.natAbs : Nat) : Int) = d by omega]
abbrev s_fraction : Stmt := topS 7
theorem sc_fraction : FnScope ["over", "under", "common"] ["over", "under"] (defScope s_fraction) := ⟨rfl, rfl, rfl, by decide +kernel, rfl, by decide +kernel, by decide +kernel⟩
theorem ok_fraction {f : Addr} {fd : FuncData} (F : Fun K "fraction" "fraction" s_fraction f fd) (hm : mg "fraction" = some (.ref f)) (hb : Binds K fd ["over", "under"] []) (bl : ∀ x : Str, bnames.contains x = true → mg x = none) {C_NoSuch : Addr} (x_NoSuch : ExcF K mg "NoSuch" C_NoSuch) (p_common_divisor : Pf P w K mg base 1 "common_divisor" 2 c_common_divisor) : Pf P w K mg base 2 "fraction" 2 (c_fraction C_NoSuch) := by
  refine pf_of (k := 1) F sc_fraction rfl hm hb bl (len_fraction) fun cdv A outer s H G E ds kq ke hc c tk => ?_
  refine ⟨_, (dss_cons (ds_if (dt_cmp (od_eq c) (db_var 1) de_int.toB) (dss_one (ds_raise x_NoSuch c tk)) dss_nil)
      (dss_cons (ds_set (i := 2) c rfl (Or.inl rfl) (de_call p_common_divisor c (da_cons (de_var 0) (da_cons (de_var 1) da_nil))))
      (dss_cons (ds_if (dt_cmp (od_ltA c) (db_var 1) de_int.toB) (dss_one (ds_set (i := 2) c rfl (Or.inl rfl) (de_neg (db_var 2)))) dss_nil)
      (dss_one (ds_ret (de_tup (da_cons (de_bin od_fdiv (db_var 0) (db_var 2)) (da_cons (de_bin od_fdiv (db_var 1) (db_var 2)) da_nil)))))))), ?_⟩
  obtain ⟨n, d, rfl, hn, hd, hz, hq⟩ := hc
  walk_at "r"
  refine brn.of (fun h => ?_) fun h => ?_
  · walk_at "r"
    exact hz (by simpa [PyData.eqv] using h)
  · have h0 : d ≠ 0 := by simpa [PyData.eqv] using h
    have hg : n.gcd d ≠ 0 := fun z => h0 (Int.gcd_eq_zero_iff.mp z).2
    have hgd : n.gcd d < 2 ^ 3000 := Nat.lt_of_le_of_lt (Nat.le_of_dvd (by omega) (Int.gcd_dvd_natAbs_right ..)) hd
    walk_at "r"
    refine ⟨n, d, rfl, ?_⟩
    walk_at "r"
    refine brn.of (fun h => ?_) fun h => ?_
    · walk_at "r"
      refine ⟨cdv_lt (a := 3000) (by omega) (by omega), ?_⟩
      walk_at "r"
      refine ⟨cdv_lt (a := 3000) (by omega) (by omega), ?_⟩
      walk_at "r"
      have h' : d < 0 := by simpa using h
      have q := hq h0
      unfold encQ at q
      rw [num_frac _ _ h', den_frac _ _ h'] at q
      exact q
    · walk_at "r"
      refine ⟨cdv_lt (a := 3000) (by omega) (by omega), ?_⟩
      walk_at "r"
      refine ⟨cdv_lt (a := 3000) (by omega) (by omega), ?_⟩
      walk_at "r"
      have h' : 0 < d := by have : ¬ d < 0 := by simpa using h
                            omega
      have q := hq h0
      unfold encQ at q
      rw [num_frac' _ _ h', den_frac' _ _ h'] at q
      exact q
theorem cm_nd {a b : Nat} {x y : Rat} (h : Bd a x) (k : Bd b y) (hab : a + b ≤ 1000000 := by decide) : CM x.num y.den := cm_lt h.1 k.den hab
theorem cm_dd {a b : Nat} {x y : Rat} (h : Bd a x) (k : Bd b y) (hab : a + b ≤ 1000000 := by decide) : CM x.den y.den := cm_lt h.den k.den hab
abbrev s_minus : Stmt := topS 8
theorem sc_minus : FnScope ["one", "two"] ["one", "two"] (defScope s_minus) := ⟨rfl, rfl, rfl, by decide +kernel, rfl, by decide +kernel, by decide +kernel⟩
theorem ok_minus {f : Addr} {fd : FuncData} (F : Fun K "minus" "minus" s_minus f fd) (hm : mg "minus" = some (.ref f)) (hb : Binds K fd ["one", "two"] []) (bl : ∀ x : Str, bnames.contains x = true → mg x = none) {C_NoSuch : Addr} (p_fraction : Pf P w K mg base 2 "fraction" 2 (c_fraction C_NoSuch)) : Pf P w K mg base 3 "minus" 2 c_minus := by
  refine pf_of (k := 2) F sc_minus rfl hm hb bl (len_minus) fun cdv A outer s H G E ds kq ke hc c tk => ?_
  refine ⟨_, (dss_one (ds_ret (de_call p_fraction c (da_cons (de_bin od_sub (de_bin od_mulA (de_ix (db_var 0) de_int.toB).toB (de_ix (db_var 1) de_int.toB).toB).toB (de_bin od_mulA (de_ix (db_var 1) de_int.toB).toB (de_ix (db_var 0) de_int.toB).toB).toB) (da_cons (de_bin od_mulA (de_ix (db_var 0) de_int.toB).toB (de_ix (db_var 1) de_int.toB).toB) da_nil))))), ?_⟩
  obtain ⟨x, y, rfl, hx, hy, hq⟩ := hc
  walk_at "r"
  refine ⟨cm_nd hx hy, ?_⟩
  walk_at "r"
  refine ⟨cm_nd hy hx, ?_⟩
  walk_at "r"
  refine ⟨cm_dd hx hy, ?_⟩
  walk_at "r"
  refine ⟨_, _, rfl, lt_pow_mono (nat_sub_lt (nat_mul_lt hx.1 hy.den) (nat_mul_lt hy.1 hx.den)) (by decide), lt_pow_mono (nat_mul_lt hx.den hy.den) (by decide), fun z => absurd z (den_mul_ne x y), fun _ => ?_⟩
  rw [sub_eq] at hq
  exact hq
end
end K19
namespace K19
open PySem PySem.Spec PyProof.Rows L2 Dn
local macro_rules | `(tactic| walk_at "r") => `(tactic| ((conv => whnf); (repeat ((first | refine And.intro rfl ?_ | refine And.intro cm_l ?_ | refine And.intro cm_r ?_ | refine And.intro (by decide) ?_ | refine And.intro (cdv_lt (a := 64) (by decide) (by decide)) ?_ | refine And.intro (by omega) ?_); (conv => whnf)))))
def nI (n : Nat) : D := .int (n : Int)
def encN (l : List Nat) : D := .tuple (l.map nI)
def encP (p : Nat × Nat) : D := .tuple [nI p.1, nI p.2]
def encS (l : List (Nat × Nat)) : D := .tuple (l.map encP)
def zz (N p : Nat) : Nat := if p ≤ N then p else 0
def up4 (N : Nat) : Nat := (N + 3) / 4
def raw (s n : Nat) : List (Nat × Nat) := [(4 * s - 2 * n, 2 * n + 1), (2 * n + 2, 4 * s - 2 * n - 1)]
def rawL (s i : Nat) : List (Nat × Nat) := (List.range i).flatMap (raw s)
def bk (N : Nat) : List (Nat × Nat) := (rawL (up4 N) (up4 N)).map fun p => (zz N p.1, zz N p.2)
def c_booklet : DC := fun ds Q _ => ∃ N : Nat, ds = [nI N] ∧ N ≤ 1000 ∧ Q (encS (bk N))
theorem len_booklet : ∀ ds kq ke, c_booklet ds kq ke → ds.length = 1 := by rintro _ _ _ ⟨N, rfl, _⟩; rfl
theorem rawL_succ (s i : Nat) : rawL s (i + 1) = rawL s i ++ raw s i := by unfold rawL; rw [List.range_succ, List.flatMap_append]; simp
theorem rawL_len (s i : Nat) : (rawL s i).length = 2 * i := by
  induction i with
  | zero => rfl
  | succ i ih => rw [rawL_succ, List.length_append, ih]; simp [raw]; omega
theorem zz_le {N n : Nat} (h : n ≤ N) : zz N n = n := if_pos h
theorem zz_gt {N n : Nat} (h : ¬ n ≤ N) : zz N n = 0 := if_neg h
theorem eqvI (i j : Int) : PyData.eqv (.int i) (.int j) = decide (i = j) := by rw [Bool.eq_iff_iff]; simp [PyData.eqv]
theorem enum_cons {α : Type} {f : α → D} {n : Nat} {x : D} {r : List D} {ps : List α} (h : x :: r = enumFrom n (ps.map f)) : ∃ p ps', ps = p :: ps' ∧ x = .tuple [.int n, f p] ∧ r = enumFrom (n + 1) (ps'.map f) := by
  cases ps with
  | nil => cases h
  | cons p ps => cases h; exact ⟨p, ps, rfl, rfl, rfl⟩
theorem enum_nil {α : Type} {f : α → D} {n : Nat} {ps : List α} (h : [] = enumFrom n (ps.map f)) : ps = [] := by
  cases ps with
  | nil => rfl
  | cons p ps => cases h
theorem up_4 (N : Nat) : -(-(N : Int)).fdiv 4 = (up4 N : Nat) := by
  rw [Int.fdiv_eq_ediv_of_nonneg _ (by decide)]
  unfold up4
  omega
section
variable {P : Program} {w : World} {K : PySem.W.Frag} {mg : Str → Option Value} {base : Heap}
abbrev s_booklet : Stmt := topS 10
theorem sc_booklet : FnScope ["pages", "many", "found", "number", "outer", "inner", "side", "page"] ["pages"] (defScope s_booklet) := ⟨rfl, rfl, rfl, by decide +kernel, rfl, by decide +kernel, by decide +kernel⟩
theorem ok_booklet {f : Addr} {fd : FuncData} (F : Fun K "booklet" "booklet" s_booklet f fd) (hm : mg "booklet" = some (.ref f)) (hb : Binds K fd ["pages"] []) (bl : ∀ x : Str, bnames.contains x = true → mg x = none) : Pf P w K mg base 1 "booklet" 1 c_booklet := by
  refine pf_of (k := 0) F sc_booklet rfl hm hb bl (len_booklet) fun cdv A outer s H G E ds kq ke hc c tk => ?_
  refine ⟨_, (dss_cons (ds_set (i := 1) c rfl (Or.inl rfl) (de_bin od_mulA (de_neg (de_bin od_fdiv (de_neg (db_var 0)).toB de_int.toB).toB).toB de_int.toB))
      (dss_cons (ds_setF (i := 2) c rfl (Or.inl rfl) (df_lst da_nil))
      (dss_cons (ds_for c (di_range1 (nb c) (dbs_cons (de_bin od_fdiv (db_var 1) de_int.toB).toB dbs_nil)) (dg_name (i := 3) c rfl (by first | exact Or.inl rfl | exact Or.inr rfl)) (dss_cons (ds_set (i := 4) c rfl (Or.inl rfl) (de_tup (da_cons (de_bin od_sub (db_var 1) (de_bin od_mulA de_int.toB (db_var 3)).toB) (da_cons (de_bin od_add (de_bin od_mulA de_int.toB (db_var 3)).toB de_int.toB) da_nil))))
        (dss_cons (ds_set (i := 5) c rfl (Or.inl rfl) (de_tup (da_cons (de_bin od_add (de_bin od_mulA de_int.toB (db_var 3)).toB de_int.toB) (da_cons (de_bin od_sub (de_bin od_sub (db_var 1) (de_bin od_mulA de_int.toB (db_var 3)).toB).toB de_int.toB) da_nil))))
        (dss_one (ds_ext (i := 2) (df_lst (da_cons (de_var 4) (da_cons (de_var 5) da_nil))).toE)))))
      (dss_one (ds_ret (de_callT cd_tuple (nb c) boot_tuple (dbs_cons (df_lc (own := [("side", 6)]) c (di_seq (de_var 2)) rfl (fun _ _ _ _ _ _ _ c => (dg_name (i := 6) c rfl (by first | exact Or.inl rfl | exact Or.inr rfl))) (fun _ _ _ _ _ _ _ c => dts_nil) (fun _ _ _ _ _ _ _ c => (de_callT cd_tuple (nb c) boot_tuple (dbs_cons (df_lc (own := [("page", 7)]) c (di_seq (de_var 6)) rfl (fun _ _ _ _ _ _ _ c => (dg_name (i := 7) c rfl (by first | exact Or.inl rfl | exact Or.inr rfl))) (fun _ _ _ _ _ _ _ c => dts_nil) (fun _ _ _ _ _ _ _ c => (de_if (dt_cmp od_le (db_var 7) (db_var 0)) (de_var 7) de_int))).toE.toB dbs_nil)))).toE.toB dbs_nil))))))), ?_⟩
  obtain ⟨N, rfl, hN, hq⟩ := hc
  walk_at "r"
  rw [up_4]
  have hs : up4 N ≤ 250 := by unfold up4; omega
  have e4 : (((up4 N : Nat) : Int) * 4).fdiv 4 = (up4 N : Nat) := by rw [Int.fdiv_eq_ediv_of_nonneg _ (by decide)]; omega
  rw [e4]
  generalize hS : up4 N = s at *
  walk_at "r"
  rw [Int.toNat_natCast]
  have hE : (startR 8 [nI N] : Ro) = [.val (nI N), .non, .non, .non, .non, .non, .non, .non] := rfl
  refine ⟨fun r ρ => ∃ (i m : Nat) (a b c : Sl), i + m = s ∧ r = rangeD (i : Int) 1 m ∧ ρ = [.val (nI N), .val (nI (4 * s)), .own (.list ((rawL s i).map encP)), a, b, c, .non, .non], ?_, ?_, ?_⟩
  · exact ⟨0, s, _, _, _, by omega, rfl, by rw [show nI (4 * s) = .int ((s : Int) * 4) by unfold nI; congr 1; omega]; rfl⟩
  · rintro x r ρ ⟨i, m, a, b, c, him, h1, rfl⟩
    obtain ⟨m, rfl, rfl, rfl⟩ := rangeD_cons h1
    walk_at "r"
    refine ⟨by rw [List.length_map, rawL_len]; simp; omega, ?_⟩
    have e : (rawL s i).map encP ++ [.tuple [.int (((4 * s : Nat) : Int) - 2 * (i : Int)), .int (2 * (i : Int) + 1)], .tuple [.int (2 * (i : Int) + 2), .int (((4 * s : Nat) : Int) - 2 * (i : Int) - 1)]] = (rawL s (i + 1)).map encP := by
      rw [rawL_succ, List.map_append]
      congr 1
      show _ = [encP (4 * s - 2 * i, 2 * i + 1), encP (2 * i + 2, 4 * s - 2 * i - 1)]
      unfold encP nI
      rw [show ((4 * s - 2 * i : Nat) : Int) = ((4 * s : Nat) : Int) - 2 * (i : Int) by omega, show ((4 * s - 2 * i - 1 : Nat) : Int) = ((4 * s : Nat) : Int) - 2 * (i : Int) - 1 by omega]
      rfl
    rw [e]
    exact ⟨i + 1, m, _, _, _, by omega, rfl, rfl⟩
  · rintro ρ ⟨i, m, a, b, c, him, h1, rfl⟩
    have h1 := rangeD_nil h1
    have e0 : i = s := by omega
    subst e0
    walk_at "r"
    refine lc_map [.val (nI N), .val (nI (4 * i)), .val (.list ((rawL i i).map encP)), a, b, c, .non, .non] rfl (rawL i i) encP (fun p => encP (zz N p.1, zz N p.2)) rfl (by rw [rawL_len]; omega) ?_ ?_
    · rintro ⟨p, q⟩ hp G0 H0 k hk
      walk_at "r"
      refine lc_map [.val (nI N), .val (nI (4 * i)), .val (.list ((rawL i i).map encP)), a, b, c, .val (encP (p, q)), .non] rfl [p, q] nI (fun n => nI (zz N n)) rfl (by simp) ?_ ?_
      · intro n hn G1 H1 k1 hk1
        walk_at "r"
        refine brn.of (fun h => ?_) fun h => ?_
        · have h : n ≤ N := by simpa using h
          walk_at "r"
          have q := hk1
          rw [zz_le h] at q
          exact q _ rfl
        · have h : ¬ n ≤ N := by simpa using h
          walk_at "r"
          have q := hk1
          rw [zz_gt h] at q
          exact q _ rfl
      · walk_at "r"
        exact hk _ rfl
    · walk_at "r"
      have q := hq
      unfold encS bk at q
      rw [List.map_map, hS] at q
      exact q
end
def sh (first : Nat) (p : Nat × Nat) : Nat × Nat := (if p.1 = 0 then 0 else p.1 + first, if p.2 = 0 then 0 else p.2 + first)
def bks (N S : Nat) : Nat → Nat → List (Nat × Nat)
  | 0, _ => []
  | fuel + 1, first => if first < N then ((bk (min (N - first) (4 * S))).map (sh first)) ++ bks N S fuel (first + min (N - first) (4 * S)) else []
theorem bks_end {N S : Nat} : ∀ {fuel first : Nat}, N ≤ first → bks N S fuel first = []
  | 0, _, _ => rfl
  | fuel + 1, first, h => if_neg (by omega)
theorem bk_len (N : Nat) : (bk N).length = 2 * up4 N := by unfold bk; rw [List.length_map, rawL_len]
def c_booklets : DC := fun ds Q _ => ∃ N S : Nat, ds = [nI N, nI S] ∧ N ≤ 1000 ∧ 1 ≤ S ∧ S ≤ 1000 ∧ Q (encS (bks N S N 0))
theorem len_booklets : ∀ ds kq ke, c_booklets ds kq ke → ds.length = 2 := by rintro _ _ _ ⟨N, S, rfl, _⟩; rfl
section
variable {P : Program} {w : World} {K : PySem.W.Frag} {mg : Str → Option Value} {base : Heap}
abbrev s_booklets : Stmt := topS 11
theorem sc_booklets : FnScope ["pages", "sheets", "found", "first", "part", "side", "page"] ["pages", "sheets"] (defScope s_booklets) := ⟨rfl, rfl, rfl, by decide +kernel, rfl, by decide +kernel, by decide +kernel⟩
theorem ok_booklets {f : Addr} {fd : FuncData} (F : Fun K "booklets" "booklets" s_booklets f fd) (hm : mg "booklets" = some (.ref f)) (hb : Binds K fd ["pages", "sheets"] []) (bl : ∀ x : Str, bnames.contains x = true → mg x = none) (p_booklet : Pf P w K mg base 1 "booklet" 1 c_booklet) : Pf P w K mg base 2 "booklets" 2 c_booklets := by
  refine pf_of (k := 1) F sc_booklets rfl hm hb bl (len_booklets) fun cdv A outer s H G E ds kq ke hc c tk => ?_
  refine ⟨_, (dss_cons (ds_asgF (i := 2) (j := 3) c rfl rfl (Or.inl rfl) (Or.inr rfl) (df_lst da_nil) dk_int)
      (dss_cons (ds_while c (dt_cmp (od_ltA c) (db_var 3) (db_var 0)) (dss_cons (ds_set (i := 4) c rfl (Or.inl rfl) (de_callB (cd_min c) (nb c) boot_min (dbs_cons (de_bin od_sub (db_var 0) (db_var 3)).toB (dbs_cons (de_bin od_mulA de_int.toB (db_var 1)).toB dbs_nil))))
        (dss_cons (ds_for c (di_seq (de_call p_booklet c (da_cons (de_var 4) da_nil))) (dg_name (i := 5) c rfl (by first | exact Or.inl rfl | exact Or.inr rfl)) (dss_one (ds_app (i := 2) (de_callT cd_tuple (nb c) boot_tuple (dbs_cons (df_lc (own := [("page", 6)]) c (di_seq (de_var 5)) rfl (fun _ _ _ _ _ _ _ c => (dg_name (i := 6) c rfl (by first | exact Or.inl rfl | exact Or.inr rfl))) (fun _ _ _ _ _ _ _ c => dts_nil) (fun _ _ _ _ _ _ _ c => (de_if (dt_tru (db_var 6)) (de_bin od_add (db_var 6) (db_var 3)) de_int))).toE.toB dbs_nil)))))
        (dss_one (ds_aug (i := 3) c rfl (Or.inr rfl) od_iadd (db_var 4))))))
      (dss_one (ds_ret (de_callT cd_tuple (nb c) boot_tuple (dbs_cons (db_var 2) dbs_nil)))))), ?_⟩
  obtain ⟨N, S, rfl, hN, hS, hS2, hq⟩ := hc
  walk_at "r"
  refine ⟨fun m ρ => ∃ (fuel first : Nat) (found : List (Nat × Nat)) (a b : Sl), ρ = [.val (nI N), .val (nI S), .own (.list (found.map encP)), .val (nI first), a, b, .non] ∧ found ++ bks N S fuel first = bks N S N 0 ∧ N ≤ first + fuel ∧ first ≤ N ∧ m = N - first ∧ found.length ≤ 2 * first, ?_, ?_⟩
  · exact ⟨N, N, 0, [], _, _, rfl, rfl, by omega, by omega, rfl, by simp⟩
  rintro m ρ ⟨fuel, first, found, a, b, rfl, h1, h2, h3, rfl, h5⟩
  walk_at "r"
  refine brn.of (fun h => ?_) fun h => ?_
  · have h : first < N := by simpa using h
    walk_at "r"
    have e0 : (if 4 * (S : Int) < (N : Int) - (first : Int) then 4 * (S : Int) else (N : Int) - (first : Int)) = ((min (N - first) (4 * S) : Nat) : Int) := by split <;> omega
    rw [e0]
    have h6 : min (N - first) (4 * S) ≤ N - first := Nat.min_le_left ..
    have h7 : 1 ≤ min (N - first) (4 * S) := by omega
    have hb : bks N S fuel first = (bk (min (N - first) (4 * S))).map (sh first) ++ bks N S (fuel - 1) (first + min (N - first) (4 * S)) := by
      cases fuel with
      | zero => omega
      | succ fuel => exact if_pos h
    generalize min (N - first) (4 * S) = part at *
    refine ⟨part, rfl, by omega, ?_⟩
    walk_at "r"
    have hl := bk_len part
    have hu : up4 part ≤ part := by unfold up4; omega
    refine ⟨fun r ρ => ∃ (done rest : List (Nat × Nat)) (c : Sl), bk part = done ++ rest ∧ r = rest.map encP ∧ ρ = [.val (nI N), .val (nI S), .own (.list ((found ++ done.map (sh first)).map encP)), .val (nI first), .val (nI part), c, .non], ?_, ?_, ?_⟩
    · exact ⟨[], bk part, _, rfl, rfl, by rw [List.map_nil, List.append_nil]; rfl⟩
    · rintro x r ρ ⟨done, rest, c, e1, e2, rfl⟩
      obtain ⟨⟨p, q⟩, rest, rfl, rfl, rfl⟩ := map_cons' e2
      walk_at "r"
      refine lc_map [.val (nI N), .val (nI S), .own (.list ((found ++ done.map (sh first)).map encP)), .val (nI first), .val (nI part), .val (encP (p, q)), .non] rfl [p, q] nI (fun n => nI (if n = 0 then 0 else n + first)) rfl (by simp) ?_ ?_
      · intro n hn G1 H1 k1 hk1
        walk_at "r"
        refine brn.of (fun h => ?_) fun h => ?_
        · have h : n ≠ 0 := by simp at h; omega
          walk_at "r"
          have q := hk1
          rw [if_neg h] at q
          exact q _ rfl
        · have h : n = 0 := by simp at h; omega
          walk_at "r"
          have q := hk1
          rw [if_pos h] at q
          exact q _ rfl
      · walk_at "r"
        have hd : done.length ≤ 2 * up4 part := by have := congrArg List.length e1; simp at this; omega
        refine ⟨by simp; omega, ?_⟩
        have e3 : (found ++ done.map (sh first)).map encP ++ [encP (sh first (p, q))] = (found ++ (done ++ [(p, q)]).map (sh first)).map encP := by simp
        refine ⟨done ++ [(p, q)], rest, .val (encP (p, q)), by rw [e1]; simp, rfl, ?_⟩
        rw [← e3]
        rfl
    · rintro ρ ⟨done, rest, c, e1, e2, rfl⟩
      have e2 := map_nil' e2
      subst e2
      rw [List.append_nil] at e1
      walk_at "r"
      refine ⟨N - (first + part), by omega, fuel - 1, first + part, found ++ done.map (sh first), _, _, rfl, ?_, by omega, by omega, rfl, ?_⟩
      · rw [← e1, List.append_assoc, ← hb, h1]
      · rw [List.length_append, List.length_map, ← e1, hl]; unfold up4; omega
  · have h : ¬ first < N := by simpa using h
    walk_at "r"
    have q := hq
    rw [← h1, bks_end (by omega), List.append_nil] at q
    exact q
end
/-! ### side_of, read_order -/
def sdo (N p : Nat) : Nat × Nat := if p ≤ 4 * up4 N / 2 then (p - 1, if p % 2 = 0 then 0 else 1) else (4 * up4 N - p, if (4 * up4 N - p) % 2 = 0 then 0 else 1)
def c_side_of (C : Addr) : DC := fun ds Q E => ∃ N p : Nat, ds = [nI N, nI p] ∧ N ≤ 1000 ∧ p ≤ 10000 ∧ (¬ (1 ≤ p ∧ p ≤ N) → E (.plain C)) ∧ (1 ≤ p → p ≤ N → Q (encP (sdo N p)))
theorem len_side_of {C : Addr} : ∀ ds kq ke, c_side_of C ds kq ke → ds.length = 2 := by rintro _ _ _ ⟨N, S, rfl, _⟩; rfl
def fro (l : List (Nat × Nat)) : List Nat := (idx 0 l).map fun p => if p.1 % 2 = 0 then p.2.2 else p.2.1
def bao (l : List (Nat × Nat)) : List Nat := (idx 0 l).map fun p => if p.1 % 2 = 0 then p.2.1 else p.2.2
def ro (l : List (Nat × Nat)) : List Nat := fro l ++ (bao l).reverse
def c_read_order : DC := fun ds Q _ => ∃ l : List (Nat × Nat), ds = [encS l] ∧ l.length ≤ 10000 ∧ Q (encN (ro l))
theorem len_read_order : ∀ ds kq ke, c_read_order ds kq ke → ds.length = 1 := by rintro _ _ _ ⟨l, rfl, _⟩; rfl
def crL (t : Rat) (S : Nat) : List Rat := (List.range S).map fun n => t * ((S - 1 - n : Nat) : Int)
def c_creep_of : DC := fun ds Q _ => ∃ (S : Nat) (t : Rat), ds = [nI S, encQ t] ∧ 1 ≤ S ∧ S ≤ 100 ∧ Bd 10 t ∧ Q (.tuple ((crL t S).map encQ))
theorem len_creep_of : ∀ ds kq ke, c_creep_of ds kq ke → ds.length = 2 := by rintro _ _ _ ⟨l, t, rfl, _⟩; rfl
section
variable {P : Program} {w : World} {K : PySem.W.Frag} {mg : Str → Option Value} {base : Heap}
abbrev s_side_of : Stmt := topS 12
theorem sc_side_of : FnScope ["pages", "page", "many"] ["pages", "page"] (defScope s_side_of) := ⟨rfl, rfl, rfl, by decide +kernel, rfl, by decide +kernel, by decide +kernel⟩
theorem ok_side_of {f : Addr} {fd : FuncData} (F : Fun K "side_of" "side_of" s_side_of f fd) (hm : mg "side_of" = some (.ref f)) (hb : Binds K fd ["pages", "page"] []) (bl : ∀ x : Str, bnames.contains x = true → mg x = none) {C_NoSuch : Addr} (x_NoSuch : ExcF K mg "NoSuch" C_NoSuch) (p_is_integer : Pf P w K mg base 1 "is_integer" 3 c_is_integer) : Pf P w K mg base 2 "side_of" 2 (c_side_of C_NoSuch) := by
  refine pf_of (k := 1) F sc_side_of rfl hm hb bl (len_side_of) fun cdv A outer s H G E ds kq ke hc c tk => ?_
  refine ⟨_, (dss_cons (ds_if (dt_not (dt_tru (de_call p_is_integer c (da_cons (de_var 1) (da_cons de_int (da_cons (de_var 0) da_nil)))).toB)) (dss_one (ds_raise x_NoSuch c tk)) dss_nil)
      (dss_cons (ds_set (i := 2) c rfl (Or.inl rfl) (de_bin od_mulA (de_neg (de_bin od_fdiv (de_neg (db_var 0)).toB de_int.toB).toB).toB de_int.toB))
      (dss_cons (ds_if (dt_cmp od_le (db_var 1) (de_bin od_fdiv (db_var 2) de_int.toB).toB) (dss_one (ds_ret (de_tup (da_cons (de_bin od_sub (db_var 1) de_int.toB) (da_cons (de_if (dt_tru (de_bin od_mod (db_var 1) de_int.toB).toB) de_int de_int) da_nil))))) dss_nil)
      (dss_one (ds_ret (de_tup (da_cons (de_bin od_sub (db_var 2) (db_var 1)) (da_cons (de_if (dt_cmp (od_eq c) (de_bin od_mod (de_bin od_sub (db_var 2) (db_var 1)).toB de_int.toB).toB de_int.toB) de_int de_int) da_nil)))))))), ?_⟩
  obtain ⟨N, p, rfl, hN, hp, hE, hq⟩ := hc
  walk_at "r"
  refine ⟨.int p, some 1, some (N : Int), rfl, ?_⟩
  rw [isInt_int, geO_some, leO_some]
  walk_at "r"
  refine brn.of (fun h => ?_) fun h => ?_
  · walk_at "r"
    refine hE fun ⟨z1, z2⟩ => ?_
    have e1 : decide ((1 : Int) ≤ (p : Int)) = true := decide_eq_true (by omega)
    have e2 : decide ((p : Int) ≤ (N : Int)) = true := decide_eq_true (by omega)
    rw [e1, e2] at h
    cases h
  · have h : 1 ≤ p ∧ p ≤ N := by simp at h; omega
    walk_at "r"
    rw [up_4]
    have e4 : (((up4 N : Nat) : Int) * 4).fdiv 2 = ((4 * up4 N / 2 : Nat) : Int) := by rw [Int.fdiv_eq_ediv_of_nonneg _ (by decide)]; omega
    have hu : p ≤ 4 * up4 N := by unfold up4; omega
    have q := hq h.1 h.2
    walk_at "r"
    rw [e4]
    have e2 : ∀ n : Nat, ((n : Int)).fmod 2 = ((n % 2 : Nat) : Int) := fun n => by rw [Int.fmod_eq_emod_of_nonneg _ (by decide)]; rfl
    refine brn.of (fun h2 => ?_) fun h2 => ?_
    · have h2 : p ≤ 4 * up4 N / 2 := by have := of_decide_eq_true h2; omega
      walk_at "r"
      rw [e2]
      have q := hq h.1 h.2
      unfold sdo at q
      rw [if_pos h2] at q
      unfold encP nI at q
      refine brn.of (fun h3 => ?_) fun h3 => ?_
      · have h3 : ¬ p % 2 = 0 := by simp at h3; omega
        rw [if_neg h3, show ((p - 1 : Nat) : Int) = (p : Int) - 1 by omega] at q
        walk_at "r"
        exact q
      · have h3 : p % 2 = 0 := by simp at h3; omega
        rw [if_pos h3, show ((p - 1 : Nat) : Int) = (p : Int) - 1 by omega] at q
        walk_at "r"
        exact q
    · have h2 : ¬ p ≤ 4 * up4 N / 2 := by have := of_decide_eq_false h2; omega
      walk_at "r"
      have q := hq h.1 h.2
      unfold sdo at q
      rw [if_neg h2] at q
      unfold encP nI at q
      have e5 : (((up4 N : Nat) : Int) * 4) - (p : Int) = ((4 * up4 N - p : Nat) : Int) := by omega
      rw [e5, e2, eqvI]
      refine brn.of (fun h3 => ?_) fun h3 => ?_
      · have h3 : (4 * up4 N - p) % 2 = 0 := by have := of_decide_eq_true h3; omega
        rw [if_pos h3] at q
        walk_at "r"
        exact q
      · have h3 : ¬ (4 * up4 N - p) % 2 = 0 := by
          have := of_decide_eq_false h3
          omega
        rw [if_neg h3] at q
        walk_at "r"
        exact q
abbrev s_read_order : Stmt := topS 13
theorem sc_read_order : FnScope ["sides", "front", "back", "number", "side"] ["sides"] (defScope s_read_order) := ⟨rfl, rfl, rfl, by decide +kernel, rfl, by decide +kernel, by decide +kernel⟩
theorem ok_read_order {f : Addr} {fd : FuncData} (F : Fun K "read_order" "read_order" s_read_order f fd) (hm : mg "read_order" = some (.ref f)) (hb : Binds K fd ["sides"] []) (bl : ∀ x : Str, bnames.contains x = true → mg x = none) : Pf P w K mg base 1 "read_order" 1 c_read_order := by
  refine pf_of (k := 0) F sc_read_order rfl hm hb bl (len_read_order) fun cdv A outer s H G E ds kq ke hc c tk => ?_
  refine ⟨_, (dss_cons (ds_setLc (i := 1) (own := [("number", 3), ("side", 4)]) c rfl rfl (sw_true rfl rfl rfl rfl) (di_en c (de_var 0)) rfl (fun _ _ _ _ _ _ _ c => (dg_tup (n := 2) c (dgs_cons (dg_name (i := 3) c rfl (by first | exact Or.inl rfl | exact Or.inr rfl)) (dgs_cons (dg_name (i := 4) c rfl (by first | exact Or.inl rfl | exact Or.inr rfl)) dgs_nil)))) (fun _ _ _ _ _ _ _ c => dts_nil) (fun _ _ _ _ _ _ _ c => (de_if (dt_cmp (od_eq c) (de_bin od_mod (db_var 3) de_int.toB).toB de_int.toB) (de_ix (db_var 4) de_int.toB) (de_ix (db_var 4) de_int.toB))))
      (dss_cons (ds_setLc (i := 2) (own := [("number", 3), ("side", 4)]) c rfl rfl (sw_true rfl rfl rfl rfl) (di_en c (de_var 0)) rfl (fun _ _ _ _ _ _ _ c => (dg_tup (n := 2) c (dgs_cons (dg_name (i := 3) c rfl (by first | exact Or.inl rfl | exact Or.inr rfl)) (dgs_cons (dg_name (i := 4) c rfl (by first | exact Or.inl rfl | exact Or.inr rfl)) dgs_nil)))) (fun _ _ _ _ _ _ _ c => dts_nil) (fun _ _ _ _ _ _ _ c => (de_if (dt_cmp (od_eq c) (de_bin od_mod (db_var 3) de_int.toB).toB de_int.toB) (de_ix (db_var 4) de_int.toB) (de_ix (db_var 4) de_int.toB))))
      (dss_one (ds_ret (de_callT cd_tuple (nb c) boot_tuple (dbs_cons (de_bin od_add (db_var 1) (de_rev (db_var 2)).toB).toB dbs_nil)))))), ?_⟩
  obtain ⟨l, rfl, hl, hq⟩ := hc
  walk_at "r"
  have hi := idx_len 0 l
  have e2 : ∀ n : Nat, ((n : Int)).fmod 2 = ((n % 2 : Nat) : Int) := fun n => by rw [Int.fmod_eq_emod_of_nonneg _ (by decide)]; rfl
  refine lc_map [.val (encS l), .non, .non, .non, .non] rfl (idx 0 l) (fun p => .tuple [.int (p.1 : Nat), encP p.2]) (fun p => nI (if p.1 % 2 = 0 then p.2.2 else p.2.1)) (enum_idx encP 0 l) (by omega) ?_ ?_
  · rintro ⟨n, p, q⟩ hp G0 H0 k hk
    walk_at "r"
    rw [e2, eqvI]
    refine brn.of (fun h => ?_) fun h => ?_
    · have h : n % 2 = 0 := by have := of_decide_eq_true h; omega
      walk_at "r"
      have q := hk
      rw [if_pos h] at q
      exact q _ rfl
    · have h : ¬ n % 2 = 0 := by have := of_decide_eq_false h; omega
      walk_at "r"
      have q := hk
      rw [if_neg h] at q
      exact q _ rfl
  walk_at "r"
  have e3 : (idx 0 l).map (fun p => nI (if p.1 % 2 = 0 then p.2.2 else p.2.1)) = (fro l).map nI := by unfold fro; rw [List.map_map]; rfl
  rw [e3]
  refine lc_map [.val (encS l), .val (.list ((fro l).map nI)), .non, .non, .non] rfl (idx 0 l) (fun p => .tuple [.int (p.1 : Nat), encP p.2]) (fun p => nI (if p.1 % 2 = 0 then p.2.1 else p.2.2)) (enum_idx encP 0 l) (by omega) ?_ ?_
  · rintro ⟨n, p, q⟩ hp G0 H0 k hk
    walk_at "r"
    rw [e2, eqvI]
    refine brn.of (fun h => ?_) fun h => ?_
    · have h : n % 2 = 0 := by have := of_decide_eq_true h; omega
      walk_at "r"
      have q := hk
      rw [if_pos h] at q
      exact q _ rfl
    · have h : ¬ n % 2 = 0 := by have := of_decide_eq_false h; omega
      walk_at "r"
      have q := hk
      rw [if_neg h] at q
      exact q _ rfl
  walk_at "r"
  have e4 : (idx 0 l).map (fun p => nI (if p.1 % 2 = 0 then p.2.1 else p.2.2)) = (bao l).map nI := by unfold bao; rw [List.map_map]; rfl
  rw [e4]
  have l1 : (fro l).length = l.length := by unfold fro; rw [List.length_map, hi]
  have l2 : (bao l).length = l.length := by unfold bao; rw [List.length_map, hi]
  refine ⟨by simp; omega, ?_⟩
  walk_at "r"
  have q := hq
  unfold encN ro at q
  rw [List.map_append, List.map_reverse] at q
  exact q
abbrev s_creep_of : Stmt := topS 14
theorem sc_creep_of : FnScope ["sheets", "thickness", "number"] ["sheets", "thickness"] (defScope s_creep_of) := ⟨rfl, rfl, rfl, by decide +kernel, rfl, by decide +kernel, by decide +kernel⟩
theorem ok_creep_of {f : Addr} {fd : FuncData} (F : Fun K "creep_of" "creep_of" s_creep_of f fd) (hm : mg "creep_of" = some (.ref f)) (hb : Binds K fd ["sheets", "thickness"] []) (bl : ∀ x : Str, bnames.contains x = true → mg x = none) {C_NoSuch : Addr} (p_fraction : Pf P w K mg base 2 "fraction" 2 (c_fraction C_NoSuch)) : Pf P w K mg base 3 "creep_of" 2 c_creep_of := by
  refine pf_of (k := 2) F sc_creep_of rfl hm hb bl (len_creep_of) fun cdv A outer s H G E ds kq ke hc c tk => ?_
  refine ⟨_, (dss_one (ds_ret (de_callT cd_tuple (nb c) boot_tuple (dbs_cons (df_lc (own := [("number", 2)]) c (di_range1 (nb c) (dbs_cons (db_var 0) dbs_nil)) rfl (fun _ _ _ _ _ _ _ c => (dg_name (i := 2) c rfl (by first | exact Or.inl rfl | exact Or.inr rfl))) (fun _ _ _ _ _ _ _ c => dts_nil) (fun _ _ _ _ _ _ _ c => (de_call p_fraction c (da_cons (de_bin od_mulA (de_ix (db_var 1) de_int.toB).toB (de_bin od_sub (de_bin od_sub (db_var 0) de_int.toB).toB (db_var 2)).toB) (da_cons (de_ix (db_var 1) de_int.toB) da_nil))))).toE.toB dbs_nil)))), ?_⟩
  obtain ⟨S, t, rfl, hS, hS2, ht, hq⟩ := hc
  have hd := ht.den
  walk_at "r"
  rw [Int.toNat_natCast]
  refine lc_map [.val (nI S), .val (encQ t), .non] rfl (List.range S) (fun (i : Nat) => .int (0 + (i : Int) * 1)) (fun i => encQ (t * ((S - 1 - i : Nat) : Int))) rfl (by rw [List.length_range]; omega) ?_ ?_
  · intro i hi G0 H0 k hk
    have hi := List.mem_range.mp hi
    have e : (S : Int) - 1 - (0 + (i : Int) * 1) = ((S - 1 - i : Nat) : Int) := by omega
    walk_at "r"
    rw [e]
    refine ⟨cm_lt (a := 10) (b := 10) ht.1 (by omega), ?_⟩
    walk_at "r"
    refine ⟨_, _, rfl, lt_pow_mono (nat_mul_lt (a := 10) (b := 10) ht.1 (by omega)) (by decide), lt_pow_mono hd (by decide), fun z => absurd z (den_ne t), fun _ => ?_⟩
    rw [show Rat.divInt (t.num * ((S - 1 - i : Nat) : Int)) t.den = t * (((S - 1 - i : Nat) : Int) : Rat) by rw [mul_eq, Rat.num_intCast, Rat.den_intCast]; simp]
    exact hk _ rfl
  · walk_at "r"
    unfold crL at hq
    rw [List.map_map] at hq
    exact hq
end
/-! ### grids -/
def encR (rows : List (List Nat)) : D := .tuple (rows.map encN)
def encG (sides : List (List (List Nat))) : D := .tuple (sides.map encR)
def cei (N z : Nat) : Nat := (N + z - 1) / z
theorem cei_le (N z : Nat) (hz : 1 ≤ z) : cei N z ≤ N := by
  unfold cei
  cases N with
  | zero => rw [Nat.div_eq_of_lt (by omega)]; exact Nat.le_refl 0
  | succ a =>
    obtain ⟨b, rfl⟩ : ∃ b, z = b + 1 := ⟨z - 1, by omega⟩
    refine Nat.div_le_of_le_mul ?_
    have : (b + 1) * (a + 1) = b * a + b + a + 1 := by rw [Nat.add_mul, Nat.mul_add]; omega
    omega
theorem cei_eq (N z : Nat) (hz : 1 ≤ z) {a : Int} (ha : a = (z : Int) := by first | rfl | (rw [Int.natCast_mul])) : ((cei N z : Nat) : Int) = if (1 : Int) < (N : Int) + 1 then ((N : Int) + 1 - 1 - 1) / a + 1 else 0 := by
  subst ha
  unfold cei
  split
  · have e : N + z - 1 = (N - 1) + z := by omega
    rw [e, Nat.add_div_right _ (by omega), show (N : Int) + 1 - 1 - 1 = ((N - 1 : Nat) : Int) by omega, ← Int.natCast_ediv]
    rfl
  · have e : N = 0 := by omega
    subst e
    rw [Nat.div_eq_of_lt (by omega)]
    rfl
def muS (N A Dn k : Nat) : List (List Nat) := (List.range Dn).map fun r => (List.range A).map fun c => zz N (1 + k * (A * Dn) + r * A + c)
def mu (N A Dn : Nat) : List (List (List Nat)) := (List.range (cei N (A * Dn))).map (muS N A Dn)
def c_many_up : DC := fun ds Q _ => ∃ N A Dn : Nat, ds = [nI N, nI A, nI Dn] ∧ N ≤ 1000 ∧ 1 ≤ A ∧ A ≤ 100 ∧ 1 ≤ Dn ∧ Dn ≤ 100 ∧ Q (encG (mu N A Dn))
theorem len_many_up : ∀ ds kq ke, c_many_up ds kq ke → ds.length = 3 := by rintro _ _ _ ⟨N, A, Dn, rfl, _⟩; rfl
section
variable {P : Program} {w : World} {K : PySem.W.Frag} {mg : Str → Option Value} {base : Heap}
abbrev s_many_up : Stmt := topS 15
theorem sc_many_up : FnScope ["pages", "across", "down", "size", "found", "first", "rows", "row", "page"] ["pages", "across", "down"] (defScope s_many_up) := ⟨rfl, rfl, rfl, by decide +kernel, rfl, by decide +kernel, by decide +kernel⟩
theorem ok_many_up {f : Addr} {fd : FuncData} (F : Fun K "many_up" "many_up" s_many_up f fd) (hm : mg "many_up" = some (.ref f)) (hb : Binds K fd ["pages", "across", "down"] []) (bl : ∀ x : Str, bnames.contains x = true → mg x = none) : Pf P w K mg base 1 "many_up" 3 c_many_up := by
  refine pf_of (k := 0) F sc_many_up rfl hm hb bl (len_many_up) fun cdv A outer s H G E ds kq ke hc c tk => ?_
  refine ⟨_, (dss_cons (ds_set (i := 3) c rfl (Or.inl rfl) (de_bin od_mulA (db_var 1) (db_var 2)))
      (dss_cons (ds_setF (i := 4) c rfl (Or.inl rfl) (df_lst da_nil))
      (dss_cons (ds_for c (di_range3 (nb c) (dbs_cons de_int.toB (dbs_cons (de_bin od_add (db_var 0) de_int.toB).toB (dbs_cons (db_var 3) dbs_nil)))) (dg_name (i := 5) c rfl (by first | exact Or.inl rfl | exact Or.inr rfl)) (dss_cons (ds_setF (i := 6) c rfl (Or.inl rfl) (df_lst da_nil))
        (dss_cons (ds_for c (di_range1 (nb c) (dbs_cons (db_var 2) dbs_nil)) (dg_name (i := 7) c rfl (by first | exact Or.inl rfl | exact Or.inr rfl)) (dss_one (ds_app (i := 6) (de_callT cd_tuple (nb c) boot_tuple (dbs_cons (df_lc (own := [("page", 8)]) c (di_range2 (nb c) (dbs_cons (de_bin od_add (db_var 5) (de_bin od_mulA (db_var 7) (db_var 1)).toB).toB (dbs_cons (de_bin od_add (db_var 5) (de_bin od_mulA (de_bin od_add (db_var 7) de_int.toB).toB (db_var 1)).toB).toB dbs_nil))) rfl (fun _ _ _ _ _ _ _ c => (dg_name (i := 8) c rfl (by first | exact Or.inl rfl | exact Or.inr rfl))) (fun _ _ _ _ _ _ _ c => dts_nil) (fun _ _ _ _ _ _ _ c => (de_if (dt_cmp od_le (db_var 8) (db_var 0)) (de_var 8) de_int))).toE.toB dbs_nil)))))
        (dss_one (ds_app (i := 4) (de_callT cd_tuple (nb c) boot_tuple (dbs_cons (db_var 6) dbs_nil)))))))
      (dss_one (ds_ret (de_callT cd_tuple (nb c) boot_tuple (dbs_cons (db_var 4) dbs_nil))))))), ?_⟩
  obtain ⟨N, A, Dn, rfl, hN, hA, hA2, hD, hD2, hq⟩ := hc
  walk_at "r"
  refine ⟨cm_lt (a := 10) (b := 10) (by omega) (by omega), ?_⟩
  walk_at "r"
  have hz : 1 ≤ A * Dn := Nat.mul_pos hA hD
  have hz2 : A * Dn ≤ 10000 := Nat.mul_le_mul hA2 hD2
  have hcl : cei N (A * Dn) ≤ N := cei_le N _ hz
  refine ⟨cei N (A * Dn), rgc_up (by omega) (by omega) (by rw [← Int.natCast_mul]; omega) (by rw [← Int.natCast_mul]; omega) (cei_eq N (A * Dn) hz), ?_⟩
  walk_at "r"
  have hkey : ∀ k : Nat, (1 : Int) + (k : Int) * ((A : Int) * (Dn : Int)) = ((1 + k * (A * Dn) : Nat) : Int) := fun k => by simp
  refine ⟨fun r ρ => ∃ (i m : Nat) (a b c : Sl), i + m = cei N (A * Dn) ∧ r = rangeD (1 + (i : Int) * ((A : Int) * (Dn : Int))) ((A : Int) * (Dn : Int)) m ∧ ρ = [.val (nI N), .val (nI A), .val (nI Dn), .val (.int ((A : Int) * (Dn : Int))), .own (.list (((List.range i).map (muS N A Dn)).map encR)), a, b, c, .non], ?_, ?_, ?_⟩
  · exact ⟨0, cei N (A * Dn), .non, .non, .non, by omega, by rw [show ((0 : Nat) : Int) * ((A : Int) * (Dn : Int)) = 0 by simp]; rfl, rfl⟩
  · rintro x r ρ ⟨i, m, a, b, c, h1, h2, rfl⟩
    obtain ⟨m, rfl, rfl, rfl⟩ := rangeD_cons h2
    rw [hkey]
    walk_at "r"
    rw [Int.toNat_natCast]
    refine ⟨fun r ρ => ∃ (j n : Nat) (c : Sl), j + n = Dn ∧ r = rangeD (j : Int) 1 n ∧ ρ = [.val (nI N), .val (nI A), .val (nI Dn), .val (.int ((A : Int) * (Dn : Int))), .own (.list (((List.range i).map (muS N A Dn)).map encR)), .val (.int ((1 + i * (A * Dn) : Nat) : Int)), .own (.list (((List.range j).map fun r => (List.range A).map fun c => zz N (1 + i * (A * Dn) + r * A + c)).map encN)), c, .non], ?_, ?_, ?_⟩
    · exact ⟨0, Dn, _, by omega, rfl, rfl⟩
    · rintro x r ρ ⟨j, n, c, g1, g2, rfl⟩
      obtain ⟨n, rfl, rfl, rfl⟩ := rangeD_cons g2
      have hj : j * A ≤ 10000 := Nat.mul_le_mul (show j ≤ 100 by omega) hA2
      have hi : i * (A * Dn) ≤ 10000000 := Nat.mul_le_mul (show i ≤ 1000 by omega) hz2
      walk_at "r"
      refine ⟨cm_lt (a := 10) (b := 10) (by omega) (by omega), ?_⟩
      walk_at "r"
      refine ⟨cm_lt (a := 10) (b := 10) (by omega) (by omega), ?_⟩
      have e1 : ((j : Int) + 1) * (A : Int) = ((j * A : Nat) : Int) + A := by rw [Int.add_mul, Int.one_mul, Int.natCast_mul]
      have e2 : (j : Int) * (A : Int) = ((j * A : Nat) : Int) := (Int.natCast_mul ..).symm
      walk_at "r"
      rw [e1, e2]
      generalize hF : 1 + i * (A * Dn) = F at *
      generalize hJ : j * A = J at *
      walk_at "r"
      rw [show ((F : Int) + ((J : Int) + (A : Int)) - ((F : Int) + (J : Int))).toNat = A by omega]
      refine lc_map [.val (nI N), .val (nI A), .val (nI Dn), .val (.int ((A : Int) * (Dn : Int))), .own (.list (((List.range i).map (muS N A Dn)).map encR)), .val (.int (F : Int)), .own (.list (((List.range j).map fun r => (List.range A).map fun c => zz N (F + r * A + c)).map encN)), .val (.int (j : Int)), .non] rfl (List.range A) (fun (c : Nat) => .int ((F : Int) + (J : Int) + (c : Int) * 1)) (fun c => nI (zz N (F + j * A + c))) rfl (by rw [List.length_range]; omega) ?_ ?_
      · intro c hc G0 H0 k hk
        have e3 : (F : Int) + (J : Int) + (c : Int) * 1 = ((F + j * A + c : Nat) : Int) := by omega
        rw [e3]
        walk_at "r"
        refine brn.of (fun h => ?_) fun h => ?_
        · have h : F + j * A + c ≤ N := by have := of_decide_eq_true h; omega
          walk_at "r"
          have q := hk
          rw [zz_le h] at q
          exact q _ rfl
        · have h : ¬ F + j * A + c ≤ N := by have := of_decide_eq_false h; omega
          walk_at "r"
          have q := hk
          rw [zz_gt h] at q
          exact q _ rfl
      · walk_at "r"
        refine ⟨by simp; omega, ?_⟩
        have e4 : ((List.range j).map fun r => (List.range A).map fun c => zz N (F + r * A + c)).map encN ++ [.tuple ((List.range A).map fun c => nI (zz N (F + j * A + c)))] = ((List.range (j + 1)).map fun r => (List.range A).map fun c => zz N (F + r * A + c)).map encN := by
          rw [List.range_succ, List.map_append, List.map_append]
          congr 1
          show _ = [encN _]
          unfold encN
          rw [List.map_map]
          rfl
        rw [e4]
        exact ⟨j + 1, n, _, by omega, rfl, rfl⟩
    · rintro ρ ⟨j, n, c, g1, g2, rfl⟩
      have g2 := rangeD_nil g2
      have g1 : j = Dn := by omega
      subst g1
      walk_at "r"
      refine ⟨by simp; omega, ?_⟩
      have e5 : ((List.range i).map (muS N A j)).map encR ++ [.tuple (((List.range j).map fun r => (List.range A).map fun c => zz N (1 + i * (A * j) + r * A + c)).map encN)] = ((List.range (i + 1)).map (muS N A j)).map encR := by
        rw [List.range_succ, List.map_append, List.map_append]
        rfl
      rw [e5]
      refine ⟨i + 1, m, _, _, _, by omega, ?_, rfl⟩
      rw [show (1 : Int) + ((i + 1 : Nat) : Int) * ((A : Int) * (j : Int)) = 1 + (i : Int) * ((A : Int) * (j : Int)) + (A : Int) * (j : Int) by rw [show ((i + 1 : Nat) : Int) = (i : Int) + 1 by omega, Int.add_mul, Int.one_mul]; omega, hkey]
  · rintro ρ ⟨i, m, a, b, c, h1, h2, rfl⟩
    have h2 := rangeD_nil h2
    have h1 : i = cei N (A * Dn) := by omega
    subst h1
    walk_at "r"
    exact hq
end
end K19
namespace K19
open PySem PySem.Spec PyProof.Rows L2 Dn
local macro_rules | `(tactic| walk_at "r") => `(tactic| ((conv => whnf); (repeat ((first | refine And.intro rfl ?_ | refine And.intro cm_l ?_ | refine And.intro cm_r ?_ | refine And.intro (by decide) ?_ | refine And.intro (cdv_lt (a := 64) (by decide) (by decide)) ?_ | refine And.intro (by omega) ?_); (conv => whnf)))))
def suS (N A Dn S k : Nat) : List (List Nat) := (List.range Dn).map fun r => (List.range A).map fun c => zz N (1 + k + S * (r * A + c))
def su (N A Dn : Nat) : List (List (List Nat)) := (List.range (cei N (A * Dn))).map (suS N A Dn (cei N (A * Dn)))
def c_stack_up : DC := fun ds Q _ => ∃ N A Dn : Nat, ds = [nI N, nI A, nI Dn] ∧ N ≤ 1000 ∧ 1 ≤ A ∧ A ≤ 100 ∧ 1 ≤ Dn ∧ Dn ≤ 100 ∧ Q (encG (su N A Dn))
theorem len_stack_up : ∀ ds kq ke, c_stack_up ds kq ke → ds.length = 3 := by rintro _ _ _ ⟨N, A, Dn, rfl, _⟩; rfl
def c_sheets_for : DC := fun ds Q _ => ∃ (N A Dn : Nat) (b : Bool), ds = [nI N, nI A, nI Dn, .bool b] ∧ N ≤ 1000 ∧ 1 ≤ A ∧ A ≤ 100 ∧ 1 ≤ Dn ∧ Dn ≤ 100 ∧ Q (nI (cei N (A * Dn * (if b then 2 else 1))))
theorem len_sheets_for : ∀ ds kq ke, c_sheets_for ds kq ke → ds.length = 4 := by rintro _ _ _ ⟨N, A, Dn, b, rfl, _⟩; rfl
theorem cei_neg (N z : Nat) (hz : 1 ≤ z) : -(-(N : Int)).fdiv (z : Int) = (cei N z : Nat) := by
  rw [Int.fdiv_eq_ediv_of_nonneg _ (by omega)]
  unfold cei
  have h1 := Nat.div_add_mod (N + z - 1) z
  have h2 := Nat.mod_lt (N + z - 1) (show z > 0 by omega)
  have h3 : -(((N + z - 1) / z : Nat) : Int) = -(N : Int) / (z : Int) := by
    symm
    have h4 : (-(((N + z - 1) / z : Nat) : Int)) * (z : Int) = -((z * ((N + z - 1) / z) : Nat) : Int) := by rw [Int.neg_mul, Int.natCast_mul, Int.mul_comm]
    refine (Int.ediv_eq_iff_of_pos (by omega)).mpr ⟨?_, ?_⟩
    · rw [h4]; omega
    · rw [h4]; omega
  omega
section
variable {P : Program} {w : World} {K : PySem.W.Frag} {mg : Str → Option Value} {base : Heap}
abbrev s_sheets_for : Stmt := topS 21
theorem sc_sheets_for : FnScope ["pages", "across", "down", "both", "size"] ["pages", "across", "down", "both"] (defScope s_sheets_for) := ⟨rfl, rfl, rfl, by decide +kernel, rfl, by decide +kernel, by decide +kernel⟩
theorem ok_sheets_for {f : Addr} {fd : FuncData} (F : Fun K "sheets_for" "sheets_for" s_sheets_for f fd) (hm : mg "sheets_for" = some (.ref f)) (hb : Binds K fd ["pages", "across", "down", "both"] []) (bl : ∀ x : Str, bnames.contains x = true → mg x = none) : Pf P w K mg base 1 "sheets_for" 4 c_sheets_for := by
  refine pf_of (k := 0) F sc_sheets_for rfl hm hb bl (len_sheets_for) fun cdv A outer s H G E ds kq ke hc c tk => ?_
  refine ⟨_, (dss_cons (ds_set (i := 4) c rfl (Or.inl rfl) (de_bin od_mulA (de_bin od_mulA (db_var 1) (db_var 2)).toB (de_if (dt_tru (db_var 3)) de_int de_int).toB))
      (dss_one (ds_ret (de_neg (de_bin od_fdiv (de_neg (db_var 0)).toB (db_var 4)).toB)))), ?_⟩
  obtain ⟨N, A, Dn, b, rfl, hN, hA, hA2, hD, hD2, hq⟩ := hc
  walk_at "r"
  refine ⟨cm_lt (a := 10) (b := 10) (by omega) (by omega), ?_⟩
  walk_at "r"
  have e0 : (A : Int) * (Dn : Int) = ((A * Dn : Nat) : Int) := (Int.natCast_mul ..).symm
  have hz : 1 ≤ A * Dn := Nat.mul_pos hA hD
  have hz2 : A * Dn ≤ 10000 := Nat.mul_le_mul hA2 hD2
  have key : ∀ z : Nat, 1 ≤ z → z ≤ 20000 → CDV (z : Int) := fun z h1 h2 => cdv_lt (a := 64) (by omega) (by omega)
  cases b
  · walk_at "r"
    rw [e0, Int.mul_one]
    refine ⟨key _ hz (by omega), ?_⟩
    walk_at "r"
    rw [cei_neg _ _ hz]
    rw [show (if false = true then 2 else 1) = 1 from rfl, Nat.mul_one] at hq
    exact hq
  · walk_at "r"
    rw [e0, show ((A * Dn : Nat) : Int) * 2 = ((A * Dn * 2 : Nat) : Int) by omega]
    refine ⟨key _ (by omega) (by omega), ?_⟩
    walk_at "r"
    rw [cei_neg _ _ (by omega)]
    exact hq
abbrev s_stack_up : Stmt := topS 16
theorem sc_stack_up : FnScope ["pages", "across", "down", "size", "sheets", "found", "sheet", "rows", "row", "line", "place", "page"] ["pages", "across", "down"] (defScope s_stack_up) := ⟨rfl, rfl, rfl, by decide +kernel, rfl, by decide +kernel, by decide +kernel⟩
theorem ok_stack_up {f : Addr} {fd : FuncData} (F : Fun K "stack_up" "stack_up" s_stack_up f fd) (hm : mg "stack_up" = some (.ref f)) (hb : Binds K fd ["pages", "across", "down"] []) (bl : ∀ x : Str, bnames.contains x = true → mg x = none) : Pf P w K mg base 1 "stack_up" 3 c_stack_up := by
  refine pf_of (k := 0) F sc_stack_up rfl hm hb bl (len_stack_up) fun cdv A outer s H G E ds kq ke hc c tk => ?_
  refine ⟨_, (dss_cons (ds_set (i := 3) c rfl (Or.inl rfl) (de_bin od_mulA (db_var 1) (db_var 2)))
      (dss_cons (ds_set (i := 4) c rfl (Or.inr rfl) (de_neg (de_bin od_fdiv (de_neg (db_var 0)).toB (db_var 3)).toB))
      (dss_cons (ds_setF (i := 5) c rfl (Or.inl rfl) (df_lst da_nil))
      (dss_cons (ds_for c (di_range1 (nb c) (dbs_cons (db_var 4) dbs_nil)) (dg_name (i := 6) c rfl (by first | exact Or.inl rfl | exact Or.inr rfl)) (dss_cons (ds_setF (i := 7) c rfl (Or.inl rfl) (df_lst da_nil))
        (dss_cons (ds_for c (di_range1 (nb c) (dbs_cons (db_var 2) dbs_nil)) (dg_name (i := 8) c rfl (by first | exact Or.inl rfl | exact Or.inr rfl)) (dss_cons (ds_setLc (i := 9) (own := [("place", 10)]) c rfl rfl (sw_true rfl rfl rfl rfl) (di_range1 (nb c) (dbs_cons (db_var 1) dbs_nil)) rfl (fun _ _ _ _ _ _ _ c => (dg_name (i := 10) c rfl (by first | exact Or.inl rfl | exact Or.inr rfl))) (fun _ _ _ _ _ _ _ c => dts_nil) (fun _ _ _ _ _ _ _ c => (de_bin od_add (de_bin od_add de_int.toB (db_var 6)).toB (de_bin od_mulA (db_var 4) (de_bin od_add (de_bin od_mulA (db_var 8) (db_var 1)).toB (db_var 10)).toB).toB)))
          (dss_one (ds_app (i := 7) (de_callT cd_tuple (nb c) boot_tuple (dbs_cons (df_lc (own := [("page", 11)]) c (di_seq (de_var 9)) rfl (fun _ _ _ _ _ _ _ c => (dg_name (i := 11) c rfl (by first | exact Or.inl rfl | exact Or.inr rfl))) (fun _ _ _ _ _ _ _ c => dts_nil) (fun _ _ _ _ _ _ _ c => (de_if (dt_cmp od_le (db_var 11) (db_var 0)) (de_var 11) de_int))).toE.toB dbs_nil))))))
        (dss_one (ds_app (i := 5) (de_callT cd_tuple (nb c) boot_tuple (dbs_cons (db_var 7) dbs_nil)))))))
      (dss_one (ds_ret (de_callT cd_tuple (nb c) boot_tuple (dbs_cons (db_var 5) dbs_nil)))))))), ?_⟩
  obtain ⟨N, A, Dn, rfl, hN, hA, hA2, hD, hD2, hq⟩ := hc
  have e0 : (A : Int) * (Dn : Int) = ((A * Dn : Nat) : Int) := (Int.natCast_mul ..).symm
  have hz : 1 ≤ A * Dn := Nat.mul_pos hA hD
  have hz2 : A * Dn ≤ 10000 := Nat.mul_le_mul hA2 hD2
  walk_at "r"
  refine ⟨cm_lt (a := 10) (b := 10) (by omega) (by omega), ?_⟩
  walk_at "r"
  rw [e0]
  refine ⟨cdv_lt (a := 64) (by omega) (by omega), ?_⟩
  walk_at "r"
  rw [cei_neg _ _ hz]
  have hcl : cei N (A * Dn) ≤ N := cei_le N _ hz
  generalize hS : cei N (A * Dn) = S at *
  walk_at "r"
  rw [Int.toNat_natCast]
  refine ⟨fun r ρ => ∃ (i m : Nat) (a b c d : Sl), i + m = S ∧ r = rangeD (i : Int) 1 m ∧ ρ = [.val (nI N), .val (nI A), .val (nI Dn), .val (.int ((A * Dn : Nat) : Int)), .val (nI S), .own (.list (((List.range i).map (suS N A Dn S)).map encR)), a, b, c, d, .non, .non], ?_, ?_, ?_⟩
  · exact ⟨0, S, _, _, _, _, by omega, rfl, rfl⟩
  · rintro x r ρ ⟨i, m, a, b, c, d, h1, h2, rfl⟩
    obtain ⟨m, rfl, rfl, rfl⟩ := rangeD_cons h2
    walk_at "r"
    rw [Int.toNat_natCast]
    refine ⟨fun r ρ => ∃ (j n : Nat) (c d : Sl), j + n = Dn ∧ r = rangeD (j : Int) 1 n ∧ ρ = [.val (nI N), .val (nI A), .val (nI Dn), .val (.int ((A * Dn : Nat) : Int)), .val (nI S), .own (.list (((List.range i).map (suS N A Dn S)).map encR)), .val (nI i), .own (.list (((List.range j).map fun r => (List.range A).map fun c => zz N (1 + i + S * (r * A + c))).map encN)), c, d, .non, .non], ?_, ?_, ?_⟩
    · exact ⟨0, Dn, _, _, by omega, rfl, rfl⟩
    · rintro x r ρ ⟨j, n, c, d, g1, g2, rfl⟩
      obtain ⟨n, rfl, rfl, rfl⟩ := rangeD_cons g2
      have hj : j * A ≤ 10000 := Nat.mul_le_mul (show j ≤ 100 by omega) hA2
      walk_at "r"
      rw [Int.toNat_natCast]
      refine lc_map [.val (nI N), .val (nI A), .val (nI Dn), .val (.int ((A * Dn : Nat) : Int)), .val (nI S), .own (.list (((List.range i).map (suS N A Dn S)).map encR)), .val (nI i), .own (.list (((List.range j).map fun r => (List.range A).map fun c => zz N (1 + i + S * (r * A + c))).map encN)), .val (nI j), d, .non, .non] rfl (List.range A) (fun (c : Nat) => .int (0 + (c : Int) * 1)) (fun c => nI (1 + i + S * (j * A + c))) rfl (by rw [List.length_range]; omega) ?_ ?_
      · intro c hc G0 H0 k hk
        have hc := List.mem_range.mp hc
        have e3 : (0 : Int) + (c : Int) * 1 = (c : Int) := by omega
        rw [e3]
        walk_at "r"
        refine ⟨cm_lt (a := 10) (b := 10) (by omega) (by omega), ?_⟩
        walk_at "r"
        refine ⟨cm_lt (a := 10) (b := 20) (by omega) (by rw [← Int.natCast_mul]; omega), ?_⟩
        walk_at "r"
        have e4 : (1 : Int) + (i : Int) + (S : Int) * ((j : Int) * (A : Int) + (c : Int)) = ((1 + i + S * (j * A + c) : Nat) : Int) := by simp
        rw [e4]
        exact hk _ rfl
      walk_at "r"
      have e6 : ((List.range A).map fun c => nI (1 + i + S * (j * A + c))) = ((List.range A).map fun c => 1 + i + S * (j * A + c)).map nI := by rw [List.map_map]; rfl
      rw [e6]
      refine lc_map [.val (nI N), .val (nI A), .val (nI Dn), .val (.int ((A * Dn : Nat) : Int)), .val (nI S), .own (.list (((List.range i).map (suS N A Dn S)).map encR)), .val (nI i), .own (.list (((List.range j).map fun r => (List.range A).map fun c => zz N (1 + i + S * (r * A + c))).map encN)), .val (nI j), .val (.list (((List.range A).map fun c => 1 + i + S * (j * A + c)).map nI)), .non, .non] rfl ((List.range A).map fun c => 1 + i + S * (j * A + c)) nI (fun n => nI (zz N n)) rfl (by simp; omega) ?_ ?_
      · intro n hn G0 H0 k hk
        walk_at "r"
        refine brn.of (fun h => ?_) fun h => ?_
        · have h : n ≤ N := by have := of_decide_eq_true h; omega
          walk_at "r"
          have q := hk
          rw [zz_le h] at q
          exact q _ rfl
        · have h : ¬ n ≤ N := by have := of_decide_eq_false h; omega
          walk_at "r"
          have q := hk
          rw [zz_gt h] at q
          exact q _ rfl
      walk_at "r"
      refine ⟨by simp; omega, ?_⟩
      have e7 : ((List.range j).map fun r => (List.range A).map fun c => zz N (1 + i + S * (r * A + c))).map encN ++ [.tuple (((List.range A).map fun c => 1 + i + S * (j * A + c)).map fun n => nI (zz N n))] = ((List.range (j + 1)).map fun r => (List.range A).map fun c => zz N (1 + i + S * (r * A + c))).map encN := by
        rw [List.range_succ, List.map_append, List.map_append]
        congr 1
        show _ = [encN _]
        unfold encN
        rw [List.map_map, List.map_map]
        rfl
      rw [e7]
      exact ⟨j + 1, n, _, _, by omega, rfl, rfl⟩
    · rintro ρ ⟨j, n, c, d, g1, g2, rfl⟩
      have g2 := rangeD_nil g2
      have g1 : j = Dn := by omega
      subst g1
      walk_at "r"
      refine ⟨by simp; omega, ?_⟩
      have e5 : ((List.range i).map (suS N A j S)).map encR ++ [.tuple (((List.range j).map fun r => (List.range A).map fun c => zz N (1 + i + S * (r * A + c))).map encN)] = ((List.range (i + 1)).map (suS N A j S)).map encR := by
        rw [List.range_succ, List.map_append, List.map_append]
        rfl
      rw [e5]
      exact ⟨i + 1, m, _, _, _, _, by omega, rfl, rfl⟩
  · rintro ρ ⟨i, m, a, b, c, d, h1, h2, rfl⟩
    have h2 := rangeD_nil h2
    have h1 : i = S := by omega
    subst h1
    walk_at "r"
    unfold su at hq
    rw [hS] at hq
    exact hq
end
end K19
namespace K19
open PySem PySem.Spec PyProof.Rows L2 Dn
local macro_rules | `(tactic| walk_at "r") => `(tactic| ((conv => whnf); (repeat ((first | refine And.intro rfl ?_ | refine And.intro cm_l ?_ | refine And.intro cm_r ?_ | refine And.intro (by decide) ?_ | refine And.intro (cdv_lt (a := 64) (by decide) (by decide)) ?_ | refine And.intro (by omega) ?_); (conv => whnf)))))
abbrev Side := List (List Nat)
def bko (b : Bool) (s : Side) : Side := if b then s.map List.reverse else s.reverse
def c_backs_of : DC := fun ds Q _ => ∃ (s : Side) (b : Bool), ds = [encR s, .bool b] ∧ s.length ≤ 10000 ∧ Q (encR (bko b s))
theorem len_backs_of : ∀ ds kq ke, c_backs_of ds kq ke → ds.length = 2 := by rintro _ _ _ ⟨N, A, rfl, _⟩; rfl
def c_reversed_sides : DC := fun ds Q _ => ∃ (s : List Side), ds = [encG s] ∧ Q (encG s.reverse)
theorem len_reversed_sides : ∀ ds kq ke, c_reversed_sides ds kq ke → ds.length = 1 := by rintro _ _ _ ⟨N, rfl, _⟩; rfl
def wat (s t : Side) : Side := (s.zip t).map fun p => p.1 ++ p.2
def c_work_and_turn (C : Addr) : DC := fun ds Q E => ∃ s t : Side, ds = [encR s, encR t] ∧ s.length = t.length ∧ s.length ≤ 10000 ∧ (∀ r ∈ s, r.length ≤ 1000) ∧ (∀ r ∈ t, r.length ≤ 1000) ∧ Q (encR (wat s t))
theorem len_work_and_turn {C : Addr} : ∀ ds kq ke, c_work_and_turn C ds kq ke → ds.length = 2 := by rintro _ _ _ ⟨N, A, rfl, _⟩; rfl
section
variable {P : Program} {w : World} {K : PySem.W.Frag} {mg : Str → Option Value} {base : Heap}
abbrev s_backs_of : Stmt := topS 18
theorem sc_backs_of : FnScope ["side", "by_long", "row"] ["side", "by_long"] (defScope s_backs_of) := ⟨rfl, rfl, rfl, by decide +kernel, rfl, by decide +kernel, by decide +kernel⟩
theorem ok_backs_of {f : Addr} {fd : FuncData} (F : Fun K "backs_of" "backs_of" s_backs_of f fd) (hm : mg "backs_of" = some (.ref f)) (hb : Binds K fd ["side", "by_long"] []) (bl : ∀ x : Str, bnames.contains x = true → mg x = none) : Pf P w K mg base 1 "backs_of" 2 c_backs_of := by
  refine pf_of (k := 0) F sc_backs_of rfl hm hb bl (len_backs_of) fun cdv A outer s H G E ds kq ke hc c tk => ?_
  refine ⟨_, (dss_one (ds_ret (de_if (dt_tru (db_var 1)) (de_callT cd_tuple (nb c) boot_tuple (dbs_cons (df_lc (own := [("row", 2)]) c (di_seq (de_var 0)) rfl (fun _ _ _ _ _ _ _ c => (dg_name (i := 2) c rfl (by first | exact Or.inl rfl | exact Or.inr rfl))) (fun _ _ _ _ _ _ _ c => dts_nil) (fun _ _ _ _ _ _ _ c => (de_rev (db_var 2)))).toE.toB dbs_nil)) (de_rev (db_var 0))))), ?_⟩
  obtain ⟨s, b, rfl, hl, hq⟩ := hc
  cases b
  · walk_at "r"
    unfold bko encR at hq
    rw [if_neg (by decide), List.map_reverse] at hq
    exact hq
  · walk_at "r"
    refine lc_map [.val (encR s), .val (.bool true), .non] rfl s encN (fun r => encN r.reverse) rfl (by omega) ?_ ?_
    · intro r hr G0 H0 k hk
      walk_at "r"
      have q := hk
      unfold encN at q
      rw [List.map_reverse] at q
      exact q _ rfl
    · walk_at "r"
      unfold bko encR at hq
      rw [if_pos rfl, List.map_map] at hq
      exact hq
abbrev s_reversed_sides : Stmt := topS 24
theorem sc_reversed_sides : FnScope ["sides"] ["sides"] (defScope s_reversed_sides) := ⟨rfl, rfl, rfl, by decide +kernel, rfl, by decide +kernel, by decide +kernel⟩
theorem ok_reversed_sides {f : Addr} {fd : FuncData} (F : Fun K "reversed_sides" "reversed_sides" s_reversed_sides f fd) (hm : mg "reversed_sides" = some (.ref f)) (hb : Binds K fd ["sides"] []) (bl : ∀ x : Str, bnames.contains x = true → mg x = none) : Pf P w K mg base 1 "reversed_sides" 1 c_reversed_sides := by
  refine pf_of (k := 0) F sc_reversed_sides rfl hm hb bl (len_reversed_sides) fun cdv A outer s H G E ds kq ke hc c tk => ?_
  refine ⟨_, (dss_one (ds_ret (de_rev (db_var 0)))), ?_⟩
  obtain ⟨s, rfl, hq⟩ := hc
  walk_at "r"
  unfold encG at hq
  rw [List.map_reverse] at hq
  exact hq
abbrev s_work_and_turn : Stmt := topS 20
theorem sc_work_and_turn : FnScope ["side", "other", "row", "back"] ["side", "other"] (defScope s_work_and_turn) := ⟨rfl, rfl, rfl, by decide +kernel, rfl, by decide +kernel, by decide +kernel⟩
theorem ok_work_and_turn {f : Addr} {fd : FuncData} (F : Fun K "work_and_turn" "work_and_turn" s_work_and_turn f fd) (hm : mg "work_and_turn" = some (.ref f)) (hb : Binds K fd ["side", "other"] []) (bl : ∀ x : Str, bnames.contains x = true → mg x = none) {C_Misfit : Addr} (x_Misfit : ExcF K mg "Misfit" C_Misfit) : Pf P w K mg base 1 "work_and_turn" 2 (c_work_and_turn C_Misfit) := by
  refine pf_of (k := 0) F sc_work_and_turn rfl hm hb bl (len_work_and_turn) fun cdv A outer s H G E ds kq ke hc c tk => ?_
  refine ⟨_, (dss_cons (ds_if (dt_cmp (od_ne c) (de_callB cd_len (nb c) PySem.boot_len (dbs_cons (db_var 0) dbs_nil)).toB (de_callB cd_len (nb c) PySem.boot_len (dbs_cons (db_var 1) dbs_nil)).toB) (dss_one (ds_raise x_Misfit c tk)) dss_nil)
      (dss_one (ds_ret (de_callT cd_tuple (nb c) boot_tuple (dbs_cons (df_lc (own := [("row", 2), ("back", 3)]) c (di_zip c (de_var 0) (de_var 1)) rfl (fun _ _ _ _ _ _ _ c => (dg_tup (n := 2) c (dgs_cons (dg_name (i := 2) c rfl (by first | exact Or.inl rfl | exact Or.inr rfl)) (dgs_cons (dg_name (i := 3) c rfl (by first | exact Or.inl rfl | exact Or.inr rfl)) dgs_nil)))) (fun _ _ _ _ _ _ _ c => dts_nil) (fun _ _ _ _ _ _ _ c => (de_bin od_add (db_var 2) (db_var 3)))).toE.toB dbs_nil))))), ?_⟩
  obtain ⟨s, t, rfl, hl, hl2, hs, ht, hq⟩ := hc
  walk_at "r"
  refine brn.ff (by rw [eqvI, decide_eq_true (by simp [hl])]; rfl) ?_
  walk_at "r"
  have e : zipL (s.map encN) (t.map encN) = (s.zip t).map fun p => .tuple [encN p.1, encN p.2] := by
    unfold zipL
    rw [List.zip_map, List.map_map]; rfl
  refine lc_map [.val (encR s), .val (encR t), .non, .non] rfl (s.zip t) (fun p => .tuple [encN p.1, encN p.2]) (fun p => encN (p.1 ++ p.2)) e (by rw [List.length_zip]; omega) ?_ ?_
  · rintro ⟨r, r'⟩ hr G0 H0 k hk
    have h1 := hs r (List.of_mem_zip hr).1
    have h2 := ht r' (List.of_mem_zip hr).2
    walk_at "r"
    refine ⟨by simp; omega, ?_⟩
    walk_at "r"
    have q := hk
    unfold encN at q
    rw [List.map_append] at q
    exact q _ rfl
  · walk_at "r"
    unfold wat encR at hq
    rw [List.map_map] at hq
    exact hq
end
def at3 (s : Side) (r c : Nat) : Nat := (s.getD r []).getD c 0
def cutC (l : List Side) (r j : Nat) : List Nat := (List.range j).flatMap fun c => l.map fun s => at3 s r c
def cut (l : List Side) (A i : Nat) : List Nat := (List.range i).flatMap fun r => cutC l r A
theorem cutC_succ (l : List Side) (r j : Nat) : cutC l r (j + 1) = cutC l r j ++ l.map fun s => at3 s r j := by unfold cutC; rw [List.range_succ, List.flatMap_append]; simp
theorem cut_succ (l : List Side) (A i : Nat) : cut l A (i + 1) = cut l A i ++ cutC l i A := by unfold cut; rw [List.range_succ, List.flatMap_append]; simp
theorem cutC_len (l : List Side) (r j : Nat) : (cutC l r j).length = j * l.length := by
  induction j with
  | zero => simp [cutC]
  | succ j ih => rw [cutC_succ, List.length_append, ih, List.length_map, Nat.succ_mul]
theorem cut_len (l : List Side) (A i : Nat) : (cut l A i).length = i * (A * l.length) := by
  induction i with
  | zero => simp [cut]
  | succ i ih => rw [cut_succ, List.length_append, ih, cutC_len, Nat.succ_mul]
def Rect (l : List Side) (A Dn : Nat) : Prop := ∀ s ∈ l, s.length = Dn ∧ ∀ r ∈ s, r.length = A
def c_cut_heap : DC := fun ds Q _ => ∃ (l : List Side) (A Dn : Nat), ds = [encG l] ∧ l ≠ [] ∧ Rect l A Dn ∧ 1 ≤ Dn ∧ l.length ≤ 1000 ∧ A ≤ 100 ∧ Dn ≤ 100 ∧ Q (encN (cut l A Dn))
theorem len_cut_heap : ∀ ds kq ke, c_cut_heap ds kq ke → ds.length = 1 := by rintro _ _ _ ⟨N, A, Dn, rfl, _⟩; rfl
section
variable {P : Program} {w : World} {K : PySem.W.Frag} {mg : Str → Option Value} {base : Heap}
abbrev s_cut_heap : Stmt := topS 17
theorem sc_cut_heap : FnScope ["sides", "found", "row", "place", "side"] ["sides"] (defScope s_cut_heap) := ⟨rfl, rfl, rfl, by decide +kernel, rfl, by decide +kernel, by decide +kernel⟩
theorem ok_cut_heap {f : Addr} {fd : FuncData} (F : Fun K "cut_heap" "cut_heap" s_cut_heap f fd) (hm : mg "cut_heap" = some (.ref f)) (hb : Binds K fd ["sides"] []) (bl : ∀ x : Str, bnames.contains x = true → mg x = none) : Pf P w K mg base 1 "cut_heap" 1 c_cut_heap := by
  refine pf_of (k := 0) F sc_cut_heap rfl hm hb bl (len_cut_heap) fun cdv A outer s H G E ds kq ke hc c tk => ?_
  refine ⟨_, (dss_cons (ds_setF (i := 1) c rfl (Or.inl rfl) (df_lst da_nil))
      (dss_cons (ds_for c (di_range1 (nb c) (dbs_cons (de_callB cd_len (nb c) PySem.boot_len (dbs_cons (de_ix (db_var 0) de_int.toB).toB dbs_nil)).toB dbs_nil)) (dg_name (i := 2) c rfl (by first | exact Or.inl rfl | exact Or.inr rfl)) (dss_one (ds_for c (di_range1 (nb c) (dbs_cons (de_callB cd_len (nb c) PySem.boot_len (dbs_cons (de_ix (de_ix (db_var 0) de_int.toB).toB de_int.toB).toB dbs_nil)).toB dbs_nil)) (dg_name (i := 3) c rfl (by first | exact Or.inl rfl | exact Or.inr rfl)) (dss_one (ds_ext (i := 1) (df_lc (own := [("side", 4)]) c (di_seq (de_var 0)) rfl (fun _ _ _ _ _ _ _ c => (dg_name (i := 4) c rfl (by first | exact Or.inl rfl | exact Or.inr rfl))) (fun _ _ _ _ _ _ _ c => dts_nil) (fun _ _ _ _ _ _ _ c => (de_ix (de_ix (db_var 4) (db_var 2)).toB (db_var 3)))).toE)))))
      (dss_one (ds_ret (de_callT cd_tuple (nb c) boot_tuple (dbs_cons (db_var 1) dbs_nil)))))), ?_⟩
  obtain ⟨l, A, Dn, rfl, hne, hR, hD1, hl, hA, hD, hq⟩ := hc
  obtain ⟨s0, l', rfl⟩ : ∃ s0 l', l = s0 :: l' := by
    cases l with
    | nil => exact absurd rfl hne
    | cons a b => exact ⟨a, b, rfl⟩
  have h0 := hR s0 (List.mem_cons_self ..)
  obtain ⟨r0, s0', rfl⟩ : ∃ r0 s0', s0 = r0 :: s0' := by
    cases s0 with
    | nil => have := h0.1; simp at this; omega
    | cons a b => exact ⟨a, b, rfl⟩
  have hA0 : r0.length = A := h0.2 r0 (List.mem_cons_self ..)
  generalize hL : ((r0 :: s0') :: l') = L at *
  have hat : ∀ x : D, True := fun _ => trivial
  have e0 : L2.atI (L.map encR) 0 = some (encR (r0 :: s0')) := by rw [← hL]; exact at_0 _ _
  walk_at "r"
  rw [e0]
  walk_at "r"
  have e1 : ((((r0 :: s0').map encN).length : Nat) : Int) = (Dn : Int) := by rw [List.length_map, h0.1]
  rw [e1]
  walk_at "r"
  rw [Int.toNat_natCast]
  have hAL : A * L.length ≤ 100000 := Nat.mul_le_mul hA hl
  refine ⟨fun r ρ => ∃ (i m : Nat) (a b : Sl), i + m = Dn ∧ r = rangeD (i : Int) 1 m ∧ ρ = [.val (encG L), .own (.list ((cut L A i).map nI)), a, b, .non], ?_, ?_, ?_⟩
  · exact ⟨0, Dn, _, _, by omega, rfl, rfl⟩
  · rintro x r ρ ⟨i, m, a, b, h1, h2, rfl⟩
    obtain ⟨m, rfl, rfl, rfl⟩ := rangeD_cons h2
    have e2 : L2.atI ((r0 :: s0').map encN) 0 = some (encN r0) := at_0 _ _
    walk_at "r"
    rw [e0]
    walk_at "r"
    rw [e2]
    walk_at "r"
    have e3 : (((r0.map nI).length : Nat) : Int) = (A : Int) := by rw [List.length_map, hA0]
    rw [e3]
    walk_at "r"
    rw [Int.toNat_natCast]
    have hi : i * (A * L.length) ≤ 10000000 := Nat.mul_le_mul (show i ≤ 100 by omega) hAL
    refine ⟨fun r ρ => ∃ (j n : Nat) (b : Sl), j + n = A ∧ r = rangeD (j : Int) 1 n ∧ ρ = [.val (encG L), .own (.list ((cut L A i ++ cutC L i j).map nI)), .val (nI i), b, .non], ?_, ?_, ?_⟩
    · exact ⟨0, A, _, by omega, rfl, by rw [show cutC L i 0 = [] from rfl, List.append_nil]; rfl⟩
    · rintro x r ρ ⟨j, n, b, g1, g2, rfl⟩
      obtain ⟨n, rfl, rfl, rfl⟩ := rangeD_cons g2
      have hj : j * L.length ≤ 100000 := Nat.mul_le_mul (show j ≤ 100 by omega) hl
      walk_at "r"
      refine lc_map [.val (encG L), .own (.list ((cut L A i ++ cutC L i j).map nI)), .val (nI i), .val (nI j), .non] rfl L encR (fun s => nI (at3 s i j)) rfl (by omega) ?_ ?_
      · intro s hs G0 H0 k hk
        have hr := hR s hs
        have hi2 : i < s.length := by rw [hr.1]; omega
        have hj2 : j < (s[i]).length := by rw [hr.2 _ (List.getElem_mem hi2)]; omega
        have e4 : L2.atI (s.map encN) (i : Int) = some (encN s[i]) := by rw [at_nat, List.getElem?_map, List.getElem?_eq_getElem hi2]; rfl
        have e5 : L2.atI (s[i].map nI) (j : Int) = some (nI (at3 s i j)) := by
          rw [at_nat, List.getElem?_map, List.getElem?_eq_getElem hj2]
          rw [show at3 s i j = s[i][j] by simp [at3, hi2, hj2]]
          rfl
        walk_at "r"
        rw [e4]
        walk_at "r"
        rw [e5]
        walk_at "r"
        exact hk _ rfl
      · walk_at "r"
        refine ⟨by rw [List.length_map, List.length_append, cut_len, cutC_len, List.length_map]; omega, ?_⟩
        have e6 : (cut L A i ++ cutC L i j).map nI ++ L.map (fun s => nI (at3 s i j)) = (cut L A i ++ cutC L i (j + 1)).map nI := by
          rw [cutC_succ, List.map_append, List.map_append, List.map_append, List.map_map, List.append_assoc]; rfl
        rw [e6]
        exact ⟨j + 1, n, _, by omega, rfl, rfl⟩
    · rintro ρ ⟨j, n, b, g1, g2, rfl⟩
      have g2 := rangeD_nil g2
      have g1 : j = A := by omega
      subst g1
      walk_at "r"
      rw [← cut_succ]
      exact ⟨i + 1, m, _, _, by omega, rfl, rfl⟩
  · rintro ρ ⟨i, m, a, b, h1, h2, rfl⟩
    have h2 := rangeD_nil h2
    have h1 : i = Dn := by omega
    subst h1
    walk_at "r"
    exact hq
end
/-! ### both_sides -/
def blankS (s : Side) : Side := s.map fun r => List.replicate r.length 0
def prs (bl : Side) : List Side → List (Side × Side)
  | [] => []
  | [x] => [(x, bl)]
  | x :: y :: l => (x, y) :: prs bl l
def encBS (b : Bool) (p : Side × Side) : D := .tuple [encR p.1, encR (bko b p.2)]
def c_both_sides : DC := fun ds Q _ => ∃ (l : List Side) (b : Bool), ds = [encG l, .bool b] ∧ l ≠ [] ∧ l.length ≤ 1000 ∧ (∀ s ∈ l, s.length ≤ 100 ∧ ∀ r ∈ s, r.length ≤ 100) ∧
  Q (.tuple ((prs (blankS (l.headD [])) l).map (encBS b)))
theorem len_both_sides : ∀ ds kq ke, c_both_sides ds kq ke → ds.length = 2 := by rintro _ _ _ ⟨N, A, rfl, _⟩; rfl
section
variable {P : Program} {w : World} {K : PySem.W.Frag} {mg : Str → Option Value} {base : Heap}
abbrev s_both_sides : Stmt := topS 19
theorem sc_both_sides : FnScope ["sides", "by_long", "found", "place", "back", "row"] ["sides", "by_long"] (defScope s_both_sides) := ⟨rfl, rfl, rfl, by decide +kernel, rfl, by decide +kernel, by decide +kernel⟩
theorem ok_both_sides {f : Addr} {fd : FuncData} (F : Fun K "both_sides" "both_sides" s_both_sides f fd) (hm : mg "both_sides" = some (.ref f)) (hb : Binds K fd ["sides", "by_long"] []) (bl : ∀ x : Str, bnames.contains x = true → mg x = none) (p_backs_of : Pf P w K mg base 1 "backs_of" 2 c_backs_of) : Pf P w K mg base 2 "both_sides" 2 c_both_sides := by
  refine pf_of (k := 1) F sc_both_sides rfl hm hb bl (len_both_sides) fun cdv A outer s H G E ds kq ke hc c tk => ?_
  refine ⟨_, (dss_cons (ds_setF (i := 2) c rfl (Or.inl rfl) (df_lst da_nil))
      (dss_cons (ds_for c (di_range3 (nb c) (dbs_cons de_int.toB (dbs_cons (de_callB cd_len (nb c) PySem.boot_len (dbs_cons (db_var 0) dbs_nil)).toB (dbs_cons de_int.toB dbs_nil)))) (dg_name (i := 3) c rfl (by first | exact Or.inl rfl | exact Or.inr rfl)) (dss_cons (ds_set (i := 4) c rfl (Or.inl rfl) (de_if (dt_cmp (od_ltA c) (de_bin od_add (db_var 3) de_int.toB).toB (de_callB cd_len (nb c) PySem.boot_len (dbs_cons (db_var 0) dbs_nil)).toB) (de_ix (db_var 0) (de_bin od_add (db_var 3) de_int.toB).toB) (de_callT cd_tuple (nb c) boot_tuple (dbs_cons (df_lc (own := [("row", 5)]) c (di_seq (de_ix (db_var 0) de_int.toB)) rfl (fun _ _ _ _ _ _ _ c => (dg_name (i := 5) c rfl (by first | exact Or.inl rfl | exact Or.inr rfl))) (fun _ _ _ _ _ _ _ c => dts_nil) (fun _ _ _ _ _ _ _ c => (de_bin od_mulA (de_tup (da_cons de_int da_nil)).toB (de_callB cd_len (nb c) PySem.boot_len (dbs_cons (db_var 5) dbs_nil)).toB))).toE.toB dbs_nil))))
        (dss_one (ds_app (i := 2) (de_tup (da_cons (de_ix (db_var 0) (db_var 3)) (da_cons (de_call p_backs_of c (da_cons (de_var 4) (da_cons (de_var 1) da_nil))) da_nil)))))))
      (dss_one (ds_ret (de_callT cd_tuple (nb c) boot_tuple (dbs_cons (db_var 2) dbs_nil)))))), ?_⟩
  obtain ⟨l, b, rfl, hne, hl, hR, hq⟩ := hc
  walk_at "r"
  rw [List.length_map]
  refine ⟨(l.length + 1) / 2, rgc_up (by omega) (by omega) (by decide) (by decide) (by split <;> omega), ?_⟩
  walk_at "r"
  obtain ⟨s0, l', hL⟩ : ∃ s0 l', l = s0 :: l' := by
    cases l with
    | nil => exact absurd rfl hne
    | cons a b => exact ⟨a, b, rfl⟩
  have hbl : blankS (l.headD []) = blankS s0 := by rw [hL]; rfl
  rw [hbl] at hq
  have h0 := hR s0 (by rw [hL]; exact List.mem_cons_self ..)
  refine ⟨fun r ρ => ∃ (i : Nat) (done : List (Side × Side)) (rest : List Side) (a c : Sl), l.drop (2 * i) = rest ∧ done ++ prs (blankS s0) rest = prs (blankS s0) l ∧ done.length ≤ i ∧ i ≤ 1000 ∧ r = rangeD ((2 * i : Nat) : Int) 2 ((rest.length + 1) / 2) ∧ ρ = [.val (encG l), .val (.bool b), .own (.list (done.map (encBS b))), a, c, .non], ?_, ?_, ?_⟩
  · exact ⟨0, [], l, _, _, rfl, rfl, by simp, by omega, rfl, rfl⟩
  · rintro x r ρ ⟨i, done, rest, a, c, h1, h2, h3, h4, h5, rfl⟩
    obtain ⟨m, h6, rfl, rfl⟩ := rangeD_cons h5
    have hlen : rest.length = l.length - 2 * i := by rw [← h1, List.length_drop]
    obtain ⟨x, rest', hr⟩ : ∃ x rest', rest = x :: rest' := by
      cases rest with
      | nil => simp at h6
      | cons x r => exact ⟨x, r, rfl⟩
    have hx : l[2 * i]? = some x := by
      have := List.getElem?_drop (xs := l) (i := 2 * i) (j := 0)
      rw [h1, hr] at this
      exact this.symm
    have hxa : L2.atI (l.map encR) (((2 * i : Nat) : Int)) = some (encR x) := by rw [at_nat, List.getElem?_map, hx]; rfl
    have hxm : x ∈ l := List.mem_of_getElem? hx
    have hR1 := hR x hxm
    walk_at "r"
    rw [List.length_map]
    have main : ∀ (y : Side) (r2 : List Side), y.length ≤ 100 → l.drop (2 * (i + 1)) = r2 → prs (blankS s0) rest = (x, y) :: prs (blankS s0) r2 → m = (r2.length + 1) / 2 → ∀ (e : D), True := fun _ _ _ _ _ _ _ => trivial
    cases rest' with
    | nil =>
      have hl2 : l.length = 2 * i + 1 := by rw [hr] at hlen; simp at hlen; omega
      refine brn.ff (decide_eq_false (by omega)) ?_
      have hsa : L2.atI (l.map encR) 0 = some (encR s0) := by rw [hL]; exact at_0 _ _
      walk_at "r"
      rw [hsa]
      walk_at "r"
      refine lc_map [.val (encG l), .val (.bool b), .own (.list (done.map (encBS b))), .val (.int ((2 * i : Nat) : Int)), c, .non] rfl s0 encN (fun r => encN (List.replicate r.length 0)) rfl (by omega) ?_ ?_
      · intro r hr G0 H0 k hk
        have hl3 := h0.2 r hr
        walk_at "r"
        rw [List.length_map]
        refine ⟨⟨by omega, by omega, by decide⟩, ?_⟩
        walk_at "r"
        have e : (List.replicate ((r.length : Int)).toNat [PyData.int 0]).flatten = (List.replicate r.length 0).map nI := by
          rw [Int.toNat_natCast, List.map_replicate]
          generalize r.length = n
          induction n with
          | zero => rfl
          | succ n ih => rw [List.replicate_succ, List.flatten_cons, ih, List.replicate_succ]; rfl
        rw [e]
        exact hk _ rfl
      walk_at "r"
      rw [hxa]
      walk_at "r"
      refine ⟨blankS s0, b, by unfold blankS encR; rw [List.map_map]; rfl, by unfold blankS; rw [List.length_map]; omega, ?_⟩
      walk_at "r"
      refine ⟨by rw [List.length_map]; omega, ?_⟩
      have e1 : done.map (encBS b) ++ [.tuple [encR x, encR (bko b (blankS s0))]] = (done ++ [(x, blankS s0)]).map (encBS b) := by rw [List.map_append]; rfl
      rw [e1]
      have hd : l.drop (2 * (i + 1)) = [] := by
        rw [show 2 * (i + 1) = 2 * i + 2 by omega, ← List.drop_drop, h1, hr]; rfl
      refine ⟨i + 1, done ++ [(x, blankS s0)], [], _, _, hd, ?_, by simp; omega, by omega, ?_, rfl⟩
      · rw [← h2, hr, show prs (blankS s0) [] = [] from rfl, List.append_nil]; rfl
      · rw [hr] at h6
        simp at h6
        rw [show m = 0 by omega]
        rfl
    | cons y rest' =>
      have hl2 : 2 * i + 1 < l.length := by rw [hr] at hlen; simp at hlen; omega
      have hy : l[2 * i + 1]? = some y := by
        have := List.getElem?_drop (xs := l) (i := 2 * i) (j := 1)
        rw [h1, hr] at this
        exact this.symm
      have hya : L2.atI (l.map encR) (((2 * i : Nat) : Int) + 1) = some (encR y) := by
        rw [show (((2 * i : Nat) : Int) + 1) = ((2 * i + 1 : Nat) : Int) by omega, at_nat, List.getElem?_map, hy]; rfl
      have hyR := hR y (List.mem_of_getElem? hy)
      refine brn.tt (decide_eq_true (by omega)) ?_
      walk_at "r"
      rw [hya]
      walk_at "r"
      rw [hxa]
      walk_at "r"
      refine ⟨y, b, rfl, by omega, ?_⟩
      walk_at "r"
      refine ⟨by rw [List.length_map]; omega, ?_⟩
      have e1 : done.map (encBS b) ++ [.tuple [encR x, encR (bko b y)]] = (done ++ [(x, y)]).map (encBS b) := by rw [List.map_append]; rfl
      rw [e1]
      have hd : l.drop (2 * (i + 1)) = rest' := by
        rw [show 2 * (i + 1) = 2 * i + 2 by omega, ← List.drop_drop, h1, hr]; rfl
      refine ⟨i + 1, done ++ [(x, y)], rest', _, _, hd, ?_, by simp; omega, by omega, ?_, rfl⟩
      · rw [← h2, hr, List.append_assoc]; rfl
      · rw [hr] at h6
        simp at h6
        rw [show m = (rest'.length + 1) / 2 by omega]
        congr 1
  · rintro ρ ⟨i, done, rest, a, c, h1, h2, h3, h4, h5, rfl⟩
    have h5 := rangeD_nil h5
    have h6 : rest = [] := List.eq_nil_of_length_eq_zero (by omega)
    rw [h6] at h2
    walk_at "r"
    rw [← h2] at hq
    rw [show prs (blankS s0) [] = [] from rfl, List.append_nil] at hq
    exact hq
end
end K19
namespace K19
open PySem PySem.Spec PyProof.Rows L2 Dn
local macro_rules | `(tactic| walk_at "r") => `(tactic| ((conv => whnf); (repeat ((first | refine And.intro rfl ?_ | refine And.intro cm_l ?_ | refine And.intro cm_r ?_ | refine And.intro (by decide) ?_ | refine And.intro (cdv_lt (a := 64) (by decide) (by decide)) ?_ | refine And.intro (by omega) ?_); (conv => whnf)))))
def pr (a b : Nat) : D := .tuple [nI a, nI b]
def bgA (s0 s1 p0 p1 g : Nat) : Nat := (s0 + g) / (p0 + g)
def bgD (s0 s1 p0 p1 g : Nat) : Nat := (s1 + g) / (p1 + g)
def bgT (s0 s1 p0 p1 g : Nat) : Bool := decide (bgA s0 s1 p0 p1 g * bgD s0 s1 p0 p1 g < bgA s0 s1 p1 p0 g * bgD s0 s1 p1 p0 g)
def bgR (s0 s1 p0 p1 g : Nat) : D := if bgT s0 s1 p0 p1 g then .tuple [nI (bgA s0 s1 p1 p0 g), nI (bgD s0 s1 p1 p0 g), .bool true] else .tuple [nI (bgA s0 s1 p0 p1 g), nI (bgD s0 s1 p0 p1 g), .bool false]
def c_best_grid : DC := fun ds Q _ => ∃ s0 s1 p0 p1 g : Nat, ds = [pr s0 s1, pr p0 p1, nI g] ∧ s0 ≤ 100 ∧ s1 ≤ 100 ∧ 1 ≤ p0 ∧ p0 ≤ 100 ∧ 1 ≤ p1 ∧ p1 ≤ 100 ∧ g ≤ 100 ∧ Q (bgR s0 s1 p0 p1 g)
theorem len_best_grid : ∀ ds kq ke, c_best_grid ds kq ke → ds.length = 3 := by rintro _ _ _ ⟨a, b, c, d, e, rfl, _⟩; rfl
theorem fdiv_nat (a b : Nat) : (a : Int).fdiv (b : Int) = ((a / b : Nat) : Int) := by rw [Int.fdiv_eq_ediv_of_nonneg _ (by omega), Int.natCast_ediv]
section
variable {P : Program} {w : World} {K : PySem.W.Frag} {mg : Str → Option Value} {base : Heap}
abbrev s_best_grid : Stmt := topS 22
theorem sc_best_grid : FnScope ["sheet", "page", "gap", "best", "turned", "key", "wide", "high", "across", "down"] ["sheet", "page", "gap"] (defScope s_best_grid) := ⟨rfl, rfl, rfl, by decide +kernel, rfl, by decide +kernel, by decide +kernel⟩
theorem ok_best_grid {f : Addr} {fd : FuncData} (F : Fun K "best_grid" "best_grid" s_best_grid f fd) (hm : mg "best_grid" = some (.ref f)) (hb : Binds K fd ["sheet", "page", "gap"] []) (bl : ∀ x : Str, bnames.contains x = true → mg x = none) : Pf P w K mg base 1 "best_grid" 3 c_best_grid := by
  refine pf_of (k := 0) F sc_best_grid rfl hm hb bl (len_best_grid) fun cdv A outer s H G E ds kq ke hc c tk => ?_
  refine ⟨_, (dss_cons (ds_set (i := 3) c rfl (Or.inl rfl) de_non)
      (dss_cons (ds_for c (di_seq (de_tup (da_cons de_int (da_cons de_int da_nil)))) (dg_name (i := 4) c rfl (by first | exact Or.inl rfl | exact Or.inr rfl)) (dss_cons (ds_asg (de_if (dt_tru (db_var 4)) (de_tup (da_cons (de_ix (db_var 1) de_int.toB) (da_cons (de_ix (db_var 1) de_int.toB) da_nil))) (de_var 1)) (dg_tup (n := 2) c (dgs_cons (dg_name (i := 6) c rfl (by first | exact Or.inl rfl | exact Or.inr rfl)) (dgs_cons (dg_name (i := 7) c rfl (by first | exact Or.inl rfl | exact Or.inr rfl)) dgs_nil))))
        (dss_cons (ds_cut (ds_par (i := 8) (j := 9) c rfl rfl (by decide) rfl rfl (da_cons (de_bin od_fdiv (de_bin od_add (de_ix (db_var 0) de_int.toB).toB (db_var 2)).toB (de_bin od_add (db_var 6) (db_var 2)).toB) (da_cons (de_bin od_fdiv (de_bin od_add (de_ix (db_var 0) de_int.toB).toB (db_var 2)).toB (de_bin od_add (db_var 7) (db_var 2)).toB) da_nil))))
        (dss_cons (ds_set (i := 5) c rfl (Or.inl rfl) (de_tup (da_cons (de_bin od_mulA (de_neg (db_var 8)).toB (db_var 9)) (da_cons (de_var 4) da_nil))))
        (dss_one (ds_if (dw_or (dt_cmp od_is (db_var 3) de_non.toB) (dw_or1 (dt_cmp (od_ltA c) (db_var 5) (de_ix (db_var 3) de_int.toB).toB))).t (dss_one (ds_set (i := 3) c rfl (Or.inl rfl) (de_tup (da_cons (de_var 5) (da_cons (de_tup (da_cons (de_var 8) (da_cons (de_var 9) (da_cons (de_cmp (od_eq c) (db_var 4) de_int.toB) da_nil)))) da_nil))))) dss_nil))))))
      (dss_one (ds_ret (de_ix (db_var 3) de_int.toB))))), ?_⟩
  obtain ⟨s0, s1, p0, p1, g, rfl, h1, h2, h3, h4, h5, h6, h7, hq⟩ := hc
  have k0 : bgA s0 s1 p0 p1 g ≤ 200 := Nat.le_trans (Nat.div_le_self _ _) (by omega)
  have k1 : bgD s0 s1 p0 p1 g ≤ 200 := Nat.le_trans (Nat.div_le_self _ _) (by omega)
  have k2 : bgA s0 s1 p1 p0 g ≤ 200 := Nat.le_trans (Nat.div_le_self _ _) (by omega)
  have k3 : bgD s0 s1 p1 p0 g ≤ 200 := Nat.le_trans (Nat.div_le_self _ _) (by omega)
  have e0 : ((s0 : Int) + (g : Int)).fdiv ((p0 : Int) + (g : Int)) = (bgA s0 s1 p0 p1 g : Nat) := by rw [← Int.natCast_add, ← Int.natCast_add, fdiv_nat]; rfl
  have e1 : ((s1 : Int) + (g : Int)).fdiv ((p1 : Int) + (g : Int)) = (bgD s0 s1 p0 p1 g : Nat) := by rw [← Int.natCast_add, ← Int.natCast_add, fdiv_nat]; rfl
  have e2 : ((s0 : Int) + (g : Int)).fdiv ((p1 : Int) + (g : Int)) = (bgA s0 s1 p1 p0 g : Nat) := by rw [← Int.natCast_add, ← Int.natCast_add, fdiv_nat]; rfl
  have e3 : ((s1 : Int) + (g : Int)).fdiv ((p0 : Int) + (g : Int)) = (bgD s0 s1 p1 p0 g : Nat) := by rw [← Int.natCast_add, ← Int.natCast_add, fdiv_nat]; rfl
  unfold bgR bgT at hq
  generalize bgA s0 s1 p0 p1 g = A0 at *
  generalize bgD s0 s1 p0 p1 g = D0 at *
  generalize bgA s0 s1 p1 p0 g = A1 at *
  generalize bgD s0 s1 p1 p0 g = D1 at *
  walk_at "r"
  refine sFor.of ?_
  walk_at "r"
  refine ⟨fun ρ => ρ = [.val (pr s0 s1), .val (pr p0 p1), .val (nI g), .val .none, .val (.int 0), .non, .val (nI p0), .val (nI p1), .val (nI A0), .val (nI D0)], ?_, ?_⟩
  · walk_at "r"
    refine ⟨cdv_lt (a := 64) (by omega) (by omega), ?_⟩
    walk_at "r"
    refine ⟨cdv_lt (a := 64) (by omega) (by omega), ?_⟩
    walk_at "r"
    rw [e0, e1]
    rfl
  rintro ρ rfl
  walk_at "r"
  refine ⟨cm_lt (a := 10) (b := 10) (by omega) (by omega), ?_⟩
  walk_at "r"
  refine ⟨fun ρ => ρ = [.val (pr s0 s1), .val (pr p0 p1), .val (nI g), .val (.tuple [.tuple [.int (-(A0 : Int) * (D0 : Int)), .int 0], .tuple [nI A0, nI D0, .bool false]]), .val (.int 1), .val (.tuple [.int (-(A0 : Int) * (D0 : Int)), .int 0]), .val (nI p1), .val (nI p0), .val (nI A1), .val (nI D1)], ?_, ?_⟩
  · walk_at "r"
    refine ⟨cdv_lt (a := 64) (by omega) (by omega), ?_⟩
    walk_at "r"
    refine ⟨cdv_lt (a := 64) (by omega) (by omega), ?_⟩
    walk_at "r"
    rw [e2, e3]
    rfl
  rintro ρ rfl
  walk_at "r"
  refine ⟨cm_lt (a := 10) (b := 10) (by omega) (by omega), ?_⟩
  walk_at "r"
  have hb : HT.lexLt [-(A1 : Int) * (D1 : Int), 1] [-(A0 : Int) * (D0 : Int), 0] = decide (A0 * D0 < A1 * D1) := by
    rw [HT.lexLt_cons, Int.neg_mul, Int.neg_mul, ← Int.natCast_mul, ← Int.natCast_mul]
    split
    · rename_i h
      rw [decide_eq_false (by omega)]; rfl
    · rename_i h
      apply decide_eq_decide.mpr
      omega
  rw [hb]
  refine brn.of (fun h => ?_) fun h => ?_
  · rw [if_pos h] at hq
    walk_at "r"
    exact hq
  · rw [if_neg (by rw [h]; decide)] at hq
    walk_at "r"
    exact hq
end
theorem fm_len {α β : Type} (xs : List α) (ys : List β) : (xs.flatMap fun _ => ys).length = xs.length * ys.length := by
  induction xs with
  | nil => simp
  | cons x xs ih => rw [List.flatMap_cons, List.length_append, ih, List.length_cons, Nat.succ_mul, Nat.add_comm]
def plL (s p n g : Nat) : Int := ((s : Int) - (n : Int) * (p : Int) - ((n : Int) - 1) * (g : Int)).fdiv 2
def encI (p : Int × Int) : D := .tuple [.int p.1, .int p.2]
def plR (L T : Int) (p0 p1 A Dn g : Nat) : List (Int × Int) := (List.range Dn).flatMap fun (r : Nat) => (List.range A).map fun (c : Nat) => (L + (c : Int) * ((p0 : Int) + (g : Int)), T + (r : Int) * ((p1 : Int) + (g : Int)))
def c_places_on (C : Addr) : DC := fun ds Q E => ∃ s0 s1 p0 p1 A Dn g : Nat, ds = [pr s0 s1, pr p0 p1, pr A Dn, nI g] ∧ s0 ≤ 100 ∧ s1 ≤ 100 ∧ p0 ≤ 100 ∧ p1 ≤ 100 ∧ g ≤ 100 ∧ A ≤ 200 ∧ Dn ≤ 200 ∧
  ((plL s0 p0 A g < 0 ∨ plL s1 p1 Dn g < 0) → E (.plain C)) ∧ (0 ≤ plL s0 p0 A g → 0 ≤ plL s1 p1 Dn g → Q (.tuple ((plR (plL s0 p0 A g) (plL s1 p1 Dn g) p0 p1 A Dn g).map encI)))
theorem len_places_on {C : Addr} : ∀ ds kq ke, c_places_on C ds kq ke → ds.length = 4 := by rintro _ _ _ ⟨a, b, c, d, e, f, g, rfl, _⟩; rfl
section
variable {P : Program} {w : World} {K : PySem.W.Frag} {mg : Str → Option Value} {base : Heap}
abbrev s_places_on : Stmt := topS 23
theorem sc_places_on : FnScope ["sheet", "page", "grid", "gap", "left", "top", "across", "down", "row", "side"] ["sheet", "page", "grid", "gap"] (defScope s_places_on) := ⟨rfl, rfl, rfl, by decide +kernel, rfl, by decide +kernel, by decide +kernel⟩
theorem ok_places_on {f : Addr} {fd : FuncData} (F : Fun K "places_on" "places_on" s_places_on f fd) (hm : mg "places_on" = some (.ref f)) (hb : Binds K fd ["sheet", "page", "grid", "gap"] []) (bl : ∀ x : Str, bnames.contains x = true → mg x = none) {C_Misfit : Addr} (x_Misfit : ExcF K mg "Misfit" C_Misfit) : Pf P w K mg base 1 "places_on" 4 (c_places_on C_Misfit) := by
  refine pf_of (k := 0) F sc_places_on rfl hm hb bl (len_places_on) fun cdv A outer s H G E ds kq ke hc c tk => ?_
  refine ⟨_, (dss_cons (ds_asg (de_var 2) (dg_tup (n := 2) c (dgs_cons (dg_name (i := 6) c rfl (by first | exact Or.inl rfl | exact Or.inr rfl)) (dgs_cons (dg_name (i := 7) c rfl (by first | exact Or.inl rfl | exact Or.inr rfl)) dgs_nil))))
      (dss_cons (ds_cut (ds_set (i := 4) c rfl (Or.inr rfl) (de_bin od_fdiv (de_bin od_sub (de_bin od_sub (de_ix (db_var 0) de_int.toB).toB (de_bin od_mulA (db_var 6) (de_ix (db_var 1) de_int.toB).toB).toB).toB (de_bin od_mulA (de_bin od_sub (db_var 6) de_int.toB).toB (db_var 3)).toB).toB de_int.toB)))
      (dss_cons (ds_cut (ds_set (i := 5) c rfl (Or.inr rfl) (de_bin od_fdiv (de_bin od_sub (de_bin od_sub (de_ix (db_var 0) de_int.toB).toB (de_bin od_mulA (db_var 7) (de_ix (db_var 1) de_int.toB).toB).toB).toB (de_bin od_mulA (de_bin od_sub (db_var 7) de_int.toB).toB (db_var 3)).toB).toB de_int.toB)))
      (dss_cons (ds_if (dw_or (dt_cmp (od_ltA c) (db_var 4) de_int.toB) (dw_or1 (dt_cmp (od_ltA c) (db_var 5) de_int.toB))).t (dss_one (ds_raise x_Misfit c tk)) dss_nil)
      (dss_one (ds_ret (de_callT cd_tuple (nb c) boot_tuple (dbs_cons (df_lc2 (own := [("row", 8), ("side", 9)]) (vs1 := [9]) c (di_range1 (nb c) (dbs_cons (db_var 7) dbs_nil)) rfl (fun _ _ _ _ _ _ _ c => (dg_name (i := 8) c rfl (by first | exact Or.inl rfl | exact Or.inr rfl))) (fun _ _ _ _ _ _ _ c => dts_nil) (fun _ _ _ _ _ _ _ c => (di_range1 (nb c) (dbs_cons (db_var 6) dbs_nil))) (fun _ _ _ _ _ _ _ c => (dg_name (i := 9) c rfl (by first | exact Or.inl rfl | exact Or.inr rfl))) (fun _ _ _ _ _ _ _ c => dts_nil) (fun _ _ _ _ _ _ _ c => (de_tup (da_cons (de_bin od_add (db_var 4) (de_bin od_mulA (db_var 9) (de_bin od_add (de_ix (db_var 1) de_int.toB).toB (db_var 3)).toB).toB) (da_cons (de_bin od_add (db_var 5) (de_bin od_mulA (db_var 8) (de_bin od_add (de_ix (db_var 1) de_int.toB).toB (db_var 3)).toB).toB) da_nil))))).toE.toB dbs_nil)))))))), ?_⟩
  obtain ⟨s0, s1, p0, p1, A, Dn, g, rfl, h1, h2, h3, h4, h5, h6, h7, hE, hq⟩ := hc
  have eL : ((s0 : Int) - (A : Int) * (p0 : Int) - ((A : Int) - 1) * (g : Int)).fdiv 2 = plL s0 p0 A g := rfl
  have eT : ((s1 : Int) - (Dn : Int) * (p1 : Int) - ((Dn : Int) - 1) * (g : Int)).fdiv 2 = plL s1 p1 Dn g := rfl
  generalize plL s0 p0 A g = L at *
  generalize plL s1 p1 Dn g = T at *
  walk_at "r"
  refine ⟨fun ρ => ρ = [.val (pr s0 s1), .val (pr p0 p1), .val (pr A Dn), .val (nI g), .val (.int L), .non, .val (nI A), .val (nI Dn), .non, .non], ?_, ?_⟩
  · walk_at "r"
    refine ⟨cm_lt (a := 10) (b := 10) (by omega) (by omega), ?_⟩
    walk_at "r"
    refine ⟨cm_lt (a := 10) (b := 10) (by omega) (by omega), ?_⟩
    walk_at "r"
    rw [eL]
    rfl
  rintro ρ rfl
  walk_at "r"
  refine ⟨fun ρ => ρ = [.val (pr s0 s1), .val (pr p0 p1), .val (pr A Dn), .val (nI g), .val (.int L), .val (.int T), .val (nI A), .val (nI Dn), .non, .non], ?_, ?_⟩
  · walk_at "r"
    refine ⟨cm_lt (a := 10) (b := 10) (by omega) (by omega), ?_⟩
    walk_at "r"
    refine ⟨cm_lt (a := 10) (b := 10) (by omega) (by omega), ?_⟩
    walk_at "r"
    rw [eT]
    rfl
  rintro ρ rfl
  walk_at "r"
  refine brn.of (fun h => ?_) fun h => ?_
  · have h := of_decide_eq_true h
    walk_at "r"
    exact hE (.inl h)
  have hL : 0 ≤ L := by have := of_decide_eq_false h; omega
  walk_at "r"
  refine brn.of (fun h => ?_) fun h => ?_
  · have h := of_decide_eq_true h
    walk_at "r"
    exact hE (.inr h)
  have hT : 0 ≤ T := by have := of_decide_eq_false h; omega
  have hq := hq hL hT
  walk_at "r"
  rw [Int.toNat_natCast]
  refine lc2_map [.val (pr s0 s1), .val (pr p0 p1), .val (pr A Dn), .val (nI g), .val (.int L), .val (.int T), .val (nI A), .val (nI Dn), .non, .non] rfl (List.range Dn) (fun (r : Nat) => .int (0 + (r : Int) * 1)) (fun _ => List.range A) (fun _ (c : Nat) => .int (0 + (c : Int) * 1)) (fun r c => encI (L + (c : Int) * ((p0 : Int) + (g : Int)), T + (r : Int) * ((p1 : Int) + (g : Int)))) rfl ?_
    (fun r => [.val (pr s0 s1), .val (pr p0 p1), .val (pr A Dn), .val (nI g), .val (.int L), .val (.int T), .val (nI A), .val (nI Dn), .val (nI r), .non]) (fun _ => rfl) ?_ ?_ ?_
  · have : ((List.range Dn).flatMap fun _ => List.range A).length = Dn * A := by rw [fm_len, List.length_range, List.length_range]
    rw [this]
    exact Nat.le_trans (Nat.mul_le_mul h7 h6) (by decide)
  · intro r hr G0 H0 k hk
    rw [show (0 : Int) + (r : Int) * 1 = (r : Int) by omega]
    walk_at "r"
    rw [Int.toNat_natCast]
    exact hk _ rfl
  · intro r hr c hc G0 H0 k hk
    have hr := List.mem_range.mp hr
    have hc := List.mem_range.mp hc
    rw [show (0 : Int) + (c : Int) * 1 = (c : Int) by omega]
    walk_at "r"
    refine ⟨cm_lt (a := 10) (b := 10) (by omega) (by omega), ?_⟩
    walk_at "r"
    refine ⟨cm_lt (a := 10) (b := 10) (by omega) (by omega), ?_⟩
    walk_at "r"
    exact hk _ rfl
  · walk_at "r"
    have e : (plR L T p0 p1 A Dn g).map encI = (List.range Dn).flatMap fun (r : Nat) => (List.range A).map fun (c : Nat) => encI (L + (c : Int) * ((p0 : Int) + (g : Int)), T + (r : Int) * ((p1 : Int) + (g : Int))) := by
      unfold plR
      rw [List.map_flatMap]
      congr 1
      funext r
      rw [List.map_map]
      rfl
    rw [e] at hq
    exact hq
end
def stL (ln pt d : Nat) : List Nat := (List.range (cei (ln - pt) d + 1)).map (· * d)
theorem st_end {ln pt d i : Nat} (hd : 1 ≤ d) (h1 : ¬ i * d + pt < ln) (h2 : i = 0 ∨ (i - 1) * d + pt < ln) : i = cei (ln - pt) d := by
  unfold cei
  symm
  refine Nat.div_eq_of_lt_le ?_ ?_
  · rcases h2 with h2 | h2
    · subst h2; simp
    · cases i with
      | zero => simp
      | succ i => rw [Nat.succ_mul]; simp at h2; omega
  · rw [Nat.succ_mul]; omega
def c_starts_of (C : Addr) : DC := fun ds Q _ => ∃ ln pt ov : Nat, ds = [nI ln, nI pt, nI ov] ∧ ov < pt ∧ pt ≤ 100 ∧ ln ≤ 200 ∧ Q (.list ((stL ln pt (pt - ov)).map nI))
theorem len_starts_of {C : Addr} : ∀ ds kq ke, c_starts_of C ds kq ke → ds.length = 3 := by rintro _ _ _ ⟨a, b, c, rfl, _⟩; rfl
section
variable {P : Program} {w : World} {K : PySem.W.Frag} {mg : Str → Option Value} {base : Heap}
abbrev s_starts_of : Stmt := topS 26
theorem sc_starts_of : FnScope ["length", "part", "overlap", "found", "here"] ["length", "part", "overlap"] (defScope s_starts_of) := ⟨rfl, rfl, rfl, by decide +kernel, rfl, by decide +kernel, by decide +kernel⟩
theorem ok_starts_of {f : Addr} {fd : FuncData} (F : Fun K "starts_of" "starts_of" s_starts_of f fd) (hm : mg "starts_of" = some (.ref f)) (hb : Binds K fd ["length", "part", "overlap"] []) (bl : ∀ x : Str, bnames.contains x = true → mg x = none) {C_NoSuch : Addr} (x_NoSuch : ExcF K mg "NoSuch" C_NoSuch) : Pf P w K mg base 1 "starts_of" 3 (c_starts_of C_NoSuch) := by
  refine pf_of (k := 0) F sc_starts_of rfl hm hb bl (len_starts_of) fun cdv A outer s H G E ds kq ke hc c tk => ?_
  refine ⟨_, (dss_cons (ds_parF (i := 3) (j := 4) c rfl rfl (by decide) rfl rfl (df_lst (da_cons de_int da_nil)) dk_int)
      (dss_cons (ds_if (dw_and (dt_cmp od_ge (db_var 2) (db_var 1)) (dw_and1 (dt_cmp (od_ltA c) (db_var 1) (db_var 0)))).t (dss_one (ds_raise x_NoSuch c tk)) dss_nil)
      (dss_cons (ds_while c (dt_cmp (od_ltA c) (de_bin od_add (db_var 4) (db_var 1)).toB (db_var 0)) (dss_cons (ds_aug (i := 4) c rfl (Or.inl rfl) od_iadd (de_bin od_sub (db_var 1) (db_var 2)).toB)
        (dss_one (ds_app (i := 3) (de_var 4)))))
      (dss_one (ds_ret (de_var 3)))))), ?_⟩
  obtain ⟨ln, pt, ov, rfl, h1, h2, h3, hq⟩ := hc
  obtain ⟨d, hd⟩ : ∃ d, pt - ov = d := ⟨_, rfl⟩
  rw [hd] at hq
  have hd1 : 1 ≤ d := by omega
  walk_at "r"
  refine brn.ff (decide_eq_false (by omega)) ?_
  walk_at "r"
  refine ⟨fun m ρ => ∃ i : Nat, ρ = [.val (nI ln), .val (nI pt), .val (nI ov), .own (.list (((List.range (i + 1)).map (· * d)).map nI)), .val (nI (i * d))] ∧ (i = 0 ∨ (i - 1) * d + pt < ln) ∧ m = ln - i * d, ⟨_, 0, ?_, .inl rfl, rfl⟩, ?_⟩
  · show _ = [Sl.val (nI ln), .val (nI pt), .val (nI ov), .own (.list [nI (0 * d)]), .val (nI (0 * d))]
    rw [Nat.zero_mul]
    rfl
  rintro m ρ ⟨i, rfl, h4, rfl⟩
  have hi : i ≤ ln := by
    rcases h4 with h4 | h4
    · omega
    · have : (i - 1) * 1 ≤ (i - 1) * d := Nat.mul_le_mul_left _ hd1
      omega
  walk_at "r"
  refine brn.of (fun h => ?_) fun h => ?_
  · have h : i * d + pt < ln := by have := of_decide_eq_true h; omega
    walk_at "r"
    have e1 : ((i * d : Nat) : Int) + ((pt : Int) - (ov : Int)) = (((i + 1) * d : Nat) : Int) := by rw [Nat.succ_mul]; omega
    rw [e1]
    have e2 : ((List.range (i + 1)).map (· * d)).map nI ++ [PyData.int (((i + 1) * d : Nat) : Int)] = ((List.range (i + 1 + 1)).map (· * d)).map nI := by
      rw [List.range_succ (n := i + 1), List.map_append, List.map_append]
      rfl
    rw [e2]
    refine ⟨by simp; omega, ?_⟩
    exact ⟨_, by rw [Nat.succ_mul]; omega, i + 1, rfl, .inr (by simpa using h), rfl⟩
  · have h : ¬ i * d + pt < ln := by have := of_decide_eq_false h; omega
    have e := st_end hd1 h h4
    walk_at "r"
    unfold stL at hq
    rw [← e] at hq
    exact hq
end
def poR (a b : List Nat) : List (Nat × Nat) := b.flatMap fun t => a.map fun l => (l, t)
def c_poster (_ : Addr) : DC := fun ds Q _ => ∃ ln0 ln1 pt0 pt1 ov : Nat, ds = [pr ln0 ln1, pr pt0 pt1, nI ov] ∧ ov < pt0 ∧ ov < pt1 ∧ pt0 ≤ 100 ∧ pt1 ≤ 100 ∧ ln0 ≤ 200 ∧ ln1 ≤ 200 ∧ Q (.tuple ((poR (stL ln0 pt0 (pt0 - ov)) (stL ln1 pt1 (pt1 - ov))).map encP))
theorem len_poster {C : Addr} : ∀ ds kq ke, c_poster C ds kq ke → ds.length = 3 := by rintro _ _ _ ⟨a, b, c, d, e, rfl, _⟩; rfl
theorem poR_len (a b : List Nat) : (poR a b).length = b.length * a.length := by
  unfold poR
  induction b with
  | nil => simp
  | cons x xs ih => rw [List.flatMap_cons, List.length_append, ih, List.length_cons, Nat.succ_mul, Nat.add_comm, List.length_map]
theorem stL_len {ln pt d : Nat} (h : ln ≤ 200) (hd : 1 ≤ d) : (stL ln pt d).length ≤ 201 := by
  unfold stL
  rw [List.length_map, List.length_range]
  have := cei_le (ln - pt) d hd
  omega
section
variable {P : Program} {w : World} {K : PySem.W.Frag} {mg : Str → Option Value} {base : Heap}
abbrev s_poster : Stmt := topS 25
theorem sc_poster : FnScope ["picture", "sheet", "overlap", "found", "top", "left"] ["picture", "sheet", "overlap"] (defScope s_poster) := ⟨rfl, rfl, rfl, by decide +kernel, rfl, by decide +kernel, by decide +kernel⟩
theorem ok_poster {f : Addr} {fd : FuncData} (F : Fun K "poster" "poster" s_poster f fd) (hm : mg "poster" = some (.ref f)) (hb : Binds K fd ["picture", "sheet", "overlap"] []) (bl : ∀ x : Str, bnames.contains x = true → mg x = none) {C_NoSuch : Addr} (p_starts_of : Pf P w K mg base 1 "starts_of" 3 (c_starts_of C_NoSuch)) : Pf P w K mg base 2 "poster" 3 (c_poster C_NoSuch) := by
  refine pf_of (k := 1) F sc_poster rfl hm hb bl (len_poster) fun cdv A outer s H G E ds kq ke hc c tk => ?_
  refine ⟨_, (dss_cons (ds_setF (i := 3) c rfl (Or.inl rfl) (df_lst da_nil))
      (dss_cons (ds_for c (di_seq (de_call p_starts_of c (da_cons (de_ix (db_var 0) de_int.toB) (da_cons (de_ix (db_var 1) de_int.toB) (da_cons (de_var 2) da_nil))))) (dg_name (i := 4) c rfl (by first | exact Or.inl rfl | exact Or.inr rfl)) (dss_one (ds_ext (i := 3) (df_lc (own := [("left", 5)]) c (di_seq (de_call p_starts_of c (da_cons (de_ix (db_var 0) de_int.toB) (da_cons (de_ix (db_var 1) de_int.toB) (da_cons (de_var 2) da_nil))))) rfl (fun _ _ _ _ _ _ _ c => (dg_name (i := 5) c rfl (by first | exact Or.inl rfl | exact Or.inr rfl))) (fun _ _ _ _ _ _ _ c => dts_nil) (fun _ _ _ _ _ _ _ c => (de_tup (da_cons (de_var 5) (da_cons (de_var 4) da_nil))))).toE)))
      (dss_one (ds_ret (de_callT cd_tuple (nb c) boot_tuple (dbs_cons (db_var 3) dbs_nil)))))), ?_⟩
  obtain ⟨ln0, ln1, pt0, pt1, ov, rfl, h1, h2, h3, h4, h5, h6, hq⟩ := hc
  have l0 := stL_len (ln := ln0) (pt := pt0) (d := pt0 - ov) h5 (by omega)
  have l1 := stL_len (ln := ln1) (pt := pt1) (d := pt1 - ov) h6 (by omega)
  walk_at "r"
  refine ⟨ln1, pt1, ov, rfl, h2, h4, h6, ?_⟩
  generalize hA : stL ln0 pt0 (pt0 - ov) = A at *
  generalize stL ln1 pt1 (pt1 - ov) = Bq at *
  walk_at "r"
  refine ⟨fun r ρ => ∃ (done rest : List Nat) (a : Sl), Bq = done ++ rest ∧ r = rest.map nI ∧ ρ = [.val (pr ln0 ln1), .val (pr pt0 pt1), .val (nI ov), .own (.list ((poR A done).map encP)), a, .non], ?_, ?_, ?_⟩
  · exact ⟨[], Bq, _, rfl, rfl, rfl⟩
  · rintro x r ρ ⟨done, rest, a, e1, e2, rfl⟩
    obtain ⟨t, rest, rfl, rfl, rfl⟩ := map_cons' e2
    walk_at "r"
    refine ⟨ln0, pt0, ov, rfl, h1, h3, h5, ?_⟩
    rw [hA]
    walk_at "r"
    refine lc_map [.val (pr ln0 ln1), .val (pr pt0 pt1), .val (nI ov), .own (.list ((poR A done).map encP)), .val (nI t), .non] rfl A nI (fun l => encP (l, t)) rfl (by omega) ?_ ?_
    · intro l hl G0 H0 k hk
      walk_at "r"
      exact hk _ rfl
    walk_at "r"
    have hdl : done.length ≤ 201 := by rw [e1] at l1; simp at l1; omega
    have hpl : (poR A done).length ≤ 201 * 201 := by rw [poR_len]; exact Nat.mul_le_mul hdl l0
    refine ⟨by rw [List.length_map, List.length_map]; omega, ?_⟩
    have e3 : (poR A done).map encP ++ A.map (fun l => encP (l, t)) = (poR A (done ++ [t])).map encP := by
      unfold poR
      rw [List.flatMap_append, List.map_append]
      simp
    rw [e3]
    exact ⟨done ++ [t], rest, _, by rw [e1]; simp, rfl, rfl⟩
  · rintro ρ ⟨done, rest, a, e1, e2, rfl⟩
    have e2 := map_nil' e2
    rw [e2, List.append_nil] at e1
    walk_at "r"
    rw [e1] at hq
    exact hq
end
end K19
namespace K19
open PySem PySem.Spec PyProof.Rows L2 Dn
section
local macro_rules | `(tactic| walk_at "r") => `(tactic| ((conv => whnf); (repeat (refine ⟨rfl, rfl, ?_⟩; (conv => whnf)))))
def isSt (d : D) : Prop := ∃ (s0 : Int) (p : Nat) (ns : List Int) (s3 : Int), d = .list [.int s0, .int p, .list (ns.map .int), .int s3]
def c__law_draw : DCM := fun d ds Q => ∃ n : Int, ds = [.int n] ∧ 0 < n ∧ n < 2 ^ 60 ∧ isSt d ∧ ∀ r d', 0 ≤ r → r < n → isSt d' → Q (.int r) d'
theorem len__law_draw : ∀ d ds kq, c__law_draw d ds kq → ds.length = 1 := by rintro _ _ _ ⟨n, rfl, _⟩; rfl
variable {P : Program} {w : World} {K : PySem.W.Frag} {mg : Str → Option Value} {base : Heap}
abbrev s__law_draw : Stmt := topS 28
theorem sc__law_draw : FnScope ["state", "limit", "digit", "position", "cell", "mixed"] ["state", "limit"] (defScope s__law_draw) := ⟨rfl, rfl, rfl, by decide +kernel, rfl, by decide +kernel, by decide +kernel⟩
theorem ok__law_draw {f : Addr} {fd : FuncData} (F : Fun K "_law_draw" "_law_draw" s__law_draw f fd) (hm : mg "_law_draw" = some (.ref f)) (hb : Binds K fd ["state", "limit"] []) (bl : ∀ x : Str, bnames.contains x = true → mg x = none) : PfM P w K mg base 1 "_law_draw" 2 c__law_draw := by
  refine pf_ofM (k := 0) F sc__law_draw rfl hm hb bl (len__law_draw) fun cdv A outer s H G a E d ds kq hc c tk => ?_
  refine ⟨_, (dss_cons (ds_if (dt_cmp (od_ltA c) (de_ix (db_var 0) de_int.toB).toB (db_var 1)) (dss_cons (ds_set (i := 3) c rfl (Or.inl rfl) (de_ix (db_var 0) de_int.toB))
        (dss_cons (ds_put (i := 0) (de_bin od_add (db_var 3) de_int.toB) de_int.toB)
        (dss_cons (ds_set (i := 4) c rfl (Or.inl rfl) de_int)
        (dss_cons (ds_if (dt_cmp (od_ltA c) (db_var 3) (de_callB cd_len (nb c) PySem.boot_len (dbs_cons (de_ix (db_var 0) de_int.toB).toB dbs_nil)).toB) (dss_one (ds_set (i := 4) c rfl (Or.inl rfl) (de_ix (de_ix (db_var 0) de_int.toB).toB (db_var 3)))) dss_nil)
        (dss_one (ds_if (dt_cmp od_ge (db_var 4) (de_bin od_pow de_int.toB de_int.toB).toB) (dss_one (ds_put (i := 0) (de_var 4) de_int.toB)) (dss_cons (ds_put (i := 0) (de_bin od_mod (de_callT cd_int (nb c) boot_int (dbs_cons (de_bin od_mulA (de_bin od_add (de_bin od_add (de_bin od_add (de_ix (db_var 0) de_int.toB).toB (de_bin od_mod (de_callT cd_int (nb c) boot_int (dbs_cons (db_var 4) dbs_nil)).toB de_int.toB).toB).toB (db_var 3)).toB de_int.toB).toB de_int.toB).toB dbs_nil)).toB de_int.toB) de_int.toB)
          (dss_cons (ds_set (i := 5) c rfl (Or.inl rfl) (de_bin od_mod (de_callT cd_int (nb c) boot_int (dbs_cons (de_bin od_add (de_bin od_mulA (de_ix (db_var 0) de_int.toB).toB de_int.toB).toB de_int.toB).toB dbs_nil)).toB de_int.toB))
          (dss_one (ds_put (i := 0) (de_bin od_add (de_bin od_mulA (db_var 5) de_int.toB).toB (de_bin od_mod (de_callT cd_int (nb c) boot_int (dbs_cons (de_bin od_add (de_bin od_mulA (db_var 5) de_int.toB).toB (de_ix (db_var 0) de_int.toB).toB).toB dbs_nil)).toB de_int.toB).toB) de_int.toB)))))))))) dss_nil)
      (dss_cons (ds_set (i := 2) c rfl (Or.inl rfl) (de_bin od_mod (de_callT cd_int (nb c) boot_int (dbs_cons (de_ix (db_var 0) de_int.toB).toB dbs_nil)).toB (db_var 1)))
      (dss_cons (ds_put (i := 0) (de_bin od_fdiv (de_ix (db_var 0) de_int.toB).toB (db_var 1)) de_int.toB)
      (dss_one (ds_ret (de_var 2)))))), ?_⟩
  obtain ⟨n, rfl, hn, hn2, ⟨s0, p, ns, s3, rfl⟩, hq⟩ := hc
  walk_at "r"
  refine brn.of (fun h => ?t) fun h => ?e
  case' t =>
    walk_at "r"
    refine brn.of (fun h => ?t1) fun h => ?t2
    case' t1 =>
      have hp : p < ns.length := by simpa using h
      walk_at "r"
      rw [at_nat, List.getElem?_map, List.getElem?_eq_getElem hp, Option.map_some]
      walk_at "r"
      refine ⟨⟨by decide, by decide, by decide⟩, ?_⟩
      walk_at "r"
      refine brn.of (fun h => ?t11) fun h => ?t12
    case' t2 =>
      walk_at "r"
      refine ⟨⟨by decide, by decide, by decide⟩, ?_⟩
  all_goals walk_at "r"
  case' t12 =>
    refine ⟨by decide, ?_⟩
    walk_at "r"
    refine ⟨cm_r, ?_⟩
    walk_at "r"
    refine ⟨by decide, ?_⟩
    walk_at "r"
    refine ⟨cm_r, ?_⟩
    walk_at "r"
    refine ⟨by decide, ?_⟩
    walk_at "r"
    refine ⟨cm_r, ?_⟩
    walk_at "r"
    refine ⟨cm_r, ?_⟩
    walk_at "r"
    refine ⟨by decide, ?_⟩
    walk_at "r"
  case' t2 =>
    refine ⟨by decide, ?_⟩
    walk_at "r"
    refine ⟨cm_r, ?_⟩
    walk_at "r"
    refine ⟨by decide, ?_⟩
    walk_at "r"
    refine ⟨cm_r, ?_⟩
    walk_at "r"
    refine ⟨by decide, ?_⟩
    walk_at "r"
    refine ⟨cm_r, ?_⟩
    walk_at "r"
    refine ⟨cm_r, ?_⟩
    walk_at "r"
    refine ⟨by decide, ?_⟩
    walk_at "r"
  all_goals
    refine ⟨by omega, ?_⟩
    walk_at "r"
    refine ⟨cdv_lt (a := 60) (by omega) (by omega), ?_⟩
    walk_at "r"
    refine hq _ _ (Int.fmod_nonneg_of_pos _ hn) (Int.fmod_lt_of_pos _ hn) ?_
  case' e => exact ⟨_, p, ns, _, rfl⟩
  all_goals exact ⟨_, p + 1, ns, _, rfl⟩
end
local macro_rules | `(tactic| walk_at "r") => `(tactic| ((conv => whnf); (repeat ((first | refine And.intro rfl ?_ | refine And.intro cm_l ?_ | refine And.intro cm_r ?_ | refine And.intro (by decide) ?_ | refine And.intro (cdv_lt (a := 64) (by decide) (by decide)) ?_ | refine And.intro (by omega) ?_); (conv => whnf)))))
def full (l : List Nat) : List Nat := l.filter fun n => decide (0 < n)
theorem full_eq (l : List Nat) : l.filterMap (fun n => if 0 < n then some (nI n) else none) = (full l).map nI := by
  induction l with
  | nil => rfl
  | cons x xs ih =>
    unfold full at ih ⊢
    rw [List.filterMap_cons, List.filter_cons]
    by_cases h : 0 < x
    · rw [if_pos h, if_pos (decide_eq_true h), List.map_cons, ih]
    · rw [if_neg h, if_neg (by rw [decide_eq_false h]; decide), ih]
def c__law_full : DC := fun ds Q _ => ∃ l : List Nat, ds = [encN l] ∧ l.length ≤ 100000 ∧ Q (encN (full l))
theorem len__law_full : ∀ ds kq ke, c__law_full ds kq ke → ds.length = 1 := by rintro _ _ _ ⟨l, rfl, _⟩; rfl
def c__law_side : DC := fun ds Q _ => ∃ N p : Nat, ds = [nI N, nI p] ∧ N ≤ 1000 ∧ p ≤ 10000 ∧ (¬ (1 ≤ p ∧ p ≤ N) → Q .none) ∧ (1 ≤ p → p ≤ N → Q (encP (sdo N p)))
theorem len__law_side : ∀ ds kq ke, c__law_side ds kq ke → ds.length = 2 := by rintro _ _ _ ⟨l, m, rfl, _⟩; rfl
def c__law_places : DC := fun ds Q _ => ∃ s0 s1 p0 p1 A Dn g : Nat, ds = [pr s0 s1, pr p0 p1, pr A Dn, nI g] ∧ s0 ≤ 100 ∧ s1 ≤ 100 ∧ p0 ≤ 100 ∧ p1 ≤ 100 ∧ g ≤ 100 ∧ A ≤ 200 ∧ Dn ≤ 200 ∧
  ((plL s0 p0 A g < 0 ∨ plL s1 p1 Dn g < 0) → Q .none) ∧ (0 ≤ plL s0 p0 A g → 0 ≤ plL s1 p1 Dn g → Q (.tuple ((plR (plL s0 p0 A g) (plL s1 p1 Dn g) p0 p1 A Dn g).map encI)))
theorem len__law_places : ∀ ds kq ke, c__law_places ds kq ke → ds.length = 4 := by rintro _ _ _ ⟨a, b, c, d, e, f, g, rfl, _⟩; rfl
section
variable {P : Program} {w : World} {K : PySem.W.Frag} {mg : Str → Option Value} {base : Heap}
abbrev s__law_full : Stmt := topS 29
theorem sc__law_full : FnScope ["pages", "page"] ["pages"] (defScope s__law_full) := ⟨rfl, rfl, rfl, by decide +kernel, rfl, by decide +kernel, by decide +kernel⟩
theorem ok__law_full {f : Addr} {fd : FuncData} (F : Fun K "_law_full" "_law_full" s__law_full f fd) (hm : mg "_law_full" = some (.ref f)) (hb : Binds K fd ["pages"] []) (bl : ∀ x : Str, bnames.contains x = true → mg x = none) : Pf P w K mg base 1 "_law_full" 1 c__law_full := by
  refine pf_of (k := 0) F sc__law_full rfl hm hb bl (len__law_full) fun cdv A outer s H G E ds kq ke hc c tk => ?_
  refine ⟨_, (dss_one (ds_ret (de_callT cd_tuple (nb c) boot_tuple (dbs_cons (df_lc (own := [("page", 1)]) c (di_seq (de_var 0)) rfl (fun _ _ _ _ _ _ _ c => (dg_name (i := 1) c rfl (by first | exact Or.inl rfl | exact Or.inr rfl))) (fun _ _ _ _ _ _ _ c => (dts_one (dt_cmp od_gt (db_var 1) de_int.toB))) (fun _ _ _ _ _ _ _ c => (de_var 1))).toE.toB dbs_nil)))), ?_⟩
  obtain ⟨l, rfl, hl, hq⟩ := hc
  walk_at "r"
  refine lc_fm [.val (encN l), .non] rfl l nI (fun n => if 0 < n then some (nI n) else none) rfl (by omega) ?_ ?_
  · intro n hn G0 H0 k k0 hk hk0
    walk_at "r"
    refine brn.of (fun h => ?_) fun h => ?_
    · have h : 0 < n := by have := of_decide_eq_true h; omega
      walk_at "r"
      exact hk _ _ (if_pos h) rfl
    · have h : ¬ 0 < n := by have := of_decide_eq_false h; omega
      exact hk0 _ (if_neg h) rfl
  · walk_at "r"
    rw [full_eq]
    exact hq
abbrev s__law_side : Stmt := topS 30
theorem sc__law_side : FnScope ["pages", "page"] ["pages", "page"] (defScope s__law_side) := ⟨rfl, rfl, rfl, by decide +kernel, rfl, by decide +kernel, by decide +kernel⟩
theorem ok__law_side {f : Addr} {fd : FuncData} (F : Fun K "_law_side" "_law_side" s__law_side f fd) (hm : mg "_law_side" = some (.ref f)) (hb : Binds K fd ["pages", "page"] []) (bl : ∀ x : Str, bnames.contains x = true → mg x = none) {C_NoSuch : Addr} (x_NoSuch : ExcF K mg "NoSuch" C_NoSuch) (p_side_of : Pf P w K mg base 2 "side_of" 2 (c_side_of C_NoSuch)) : Pf P w K mg base 3 "_law_side" 2 c__law_side := by
  refine pf_of (k := 2) F sc__law_side rfl hm hb bl (len__law_side) fun cdv A outer s H G E ds kq ke hc c tk => ?_
  refine ⟨_, (dss_one (ds_try c tk ⟨rfl, by decide, .inl x_NoSuch.g⟩ rfl rfl (fun _ _ _ _ c tk => (dss_one (ds_ret (de_call p_side_of c (da_cons (de_var 0) (da_cons (de_var 1) da_nil)))))) (fun _ _ => (dss_one (ds_ret de_non))))), ?_⟩
  obtain ⟨N, p, rfl, hN, hp, hE, hq⟩ := hc
  walk_at "r"
  intro B
  walk_at "r"
  refine ⟨N, p, rfl, hN, hp, fun z => ?_, fun z1 z2 => hq z1 z2⟩
  walk_at "r"
  refine ⟨true, x_NoSuch.xm, fun _ => ?_, fun z => nomatch z⟩
  walk_at "r"
  exact hE z
abbrev s__law_places : Stmt := topS 31
theorem sc__law_places : FnScope ["sheet", "page", "grid", "gap"] ["sheet", "page", "grid", "gap"] (defScope s__law_places) := ⟨rfl, rfl, rfl, by decide +kernel, rfl, by decide +kernel, by decide +kernel⟩
theorem ok__law_places {f : Addr} {fd : FuncData} (F : Fun K "_law_places" "_law_places" s__law_places f fd) (hm : mg "_law_places" = some (.ref f)) (hb : Binds K fd ["sheet", "page", "grid", "gap"] []) (bl : ∀ x : Str, bnames.contains x = true → mg x = none) {C_Misfit : Addr} (x_Misfit : ExcF K mg "Misfit" C_Misfit) (p_places_on : Pf P w K mg base 1 "places_on" 4 (c_places_on C_Misfit)) : Pf P w K mg base 2 "_law_places" 4 c__law_places := by
  refine pf_of (k := 1) F sc__law_places rfl hm hb bl (len__law_places) fun cdv A outer s H G E ds kq ke hc c tk => ?_
  refine ⟨_, (dss_one (ds_try c tk ⟨rfl, by decide, .inl x_Misfit.g⟩ rfl rfl (fun _ _ _ _ c tk => (dss_one (ds_ret (de_call p_places_on c (da_cons (de_var 0) (da_cons (de_var 1) (da_cons (de_var 2) (da_cons (de_var 3) da_nil)))))))) (fun _ _ => (dss_one (ds_ret de_non))))), ?_⟩
  obtain ⟨s0, s1, p0, p1, A, Dn, g, rfl, h1, h2, h3, h4, h5, h6, h7, hE, hq⟩ := hc
  walk_at "r"
  intro B
  walk_at "r"
  refine ⟨s0, s1, p0, p1, A, Dn, g, rfl, h1, h2, h3, h4, h5, h6, h7, fun z => ?_, fun z1 z2 => hq z1 z2⟩
  walk_at "r"
  refine ⟨true, x_Misfit.xm, fun _ => ?_, fun z => nomatch z⟩
  walk_at "r"
  exact hE z
end
end K19
namespace K19
open PySem PySem.Spec PyProof.Rows L2 Dn
local macro_rules | `(tactic| walk_at "r") => `(tactic| ((conv => whnf); (repeat ((first | refine And.intro rfl ?_ | refine And.intro cm_l ?_ | refine And.intro cm_r ?_ | refine And.intro (by decide) ?_ | refine And.intro (cdv_lt (a := 64) (by decide) (by decide)) ?_ | refine And.intro (by omega) ?_); (conv => whnf)))))
def one2 (N : Nat) : List Nat := List.range' 1 N
def sel (p : Nat × Nat) (k : Nat) : Nat := if k = 0 then p.1 else p.2
def okA (N : Nat) : Bool := (full (ro (bk N)) == one2 N) && ((bks N (up4 N) N 0) == bk N) && (List.range N).all fun i => decide ((sdo N (i + 1)).1 < (bk N).length) && decide ((sdo N (i + 1)).2 < 2) && (sel ((bk N).getD (sdo N (i + 1)).1 (0, 0)) (sdo N (i + 1)).2 == i + 1)
theorem ok_A : ((List.range 61).all fun N => N == 0 || okA N) = true := by decide +kernel
def chs (z : Nat) : Nat → List (Nat × Nat) → List Nat
  | 0, _ => []
  | f + 1, l => full (ro (l.take z)) ++ chs z f (l.drop z)
def okB (N S : Nat) : Bool := (chs (2 * S) (cei (bks N S N 0).length (2 * S)) (bks N S N 0) == one2 N) && decide ((bks N S N 0).length ≤ 200)
theorem ok_B : ((List.range 61).all fun N => N == 0 || (List.range 5).all fun S => S == 0 || okB N S) = true := by decide +kernel
end K19
namespace K19
open PySem PySem.Spec PyProof.Rows L2 Dn
def flatG (l : List Side) : List Nat := l.flatMap fun s => s.flatMap id
def okG (N A Dn : Nat) : Bool := (full (flatG (mu N A Dn)) == List.range' 1 N) && (full (cut (su N A Dn) A Dn) == List.range' 1 N)
theorem ok_G : ((List.range 61).all fun N => N == 0 || (List.range 5).all fun A => A == 0 || (List.range 5).all fun Dn => Dn == 0 || okG N A Dn) = true := by decide +kernel
end K19
namespace K19
open PySem PySem.Spec PyProof.Rows L2 Dn
local macro_rules | `(tactic| walk_at "r") => `(tactic| ((conv => whnf); (repeat ((first | refine And.intro rfl ?_ | refine And.intro cm_l ?_ | refine And.intro cm_r ?_ | refine And.intro (by decide) ?_ | refine And.intro (cdv_lt (a := 64) (by decide) (by decide)) ?_ | refine And.intro (by omega) ?_); (conv => whnf)))))
theorem dep_tup {n : Nat} {xs : List D} (h : ∀ x ∈ xs, dep n x = true) : dep (n + 1) (.tuple xs) = true := List.all_eq_true.mpr h
theorem dep_lst {n : Nat} {xs : List D} (h : ∀ x ∈ xs, dep n x = true) : dep (n + 1) (.list xs) = true := List.all_eq_true.mpr h
theorem dep_N (n : Nat) (l : List Nat) : dep (n + 2) (encN l) = true := dep_tup fun x hx => by obtain ⟨y, _, rfl⟩ := List.mem_map.mp hx; rfl
theorem dep_S (n : Nat) (l : List (Nat × Nat)) : dep (n + 3) (encS l) = true := dep_tup fun x hx => by obtain ⟨y, _, rfl⟩ := List.mem_map.mp hx; rfl
theorem dep_R (n : Nat) (l : Side) : dep (n + 3) (encR l) = true := dep_tup fun x hx => by obtain ⟨y, _, rfl⟩ := List.mem_map.mp hx; exact dep_N n y
theorem dep_G (n : Nat) (l : List Side) : dep (n + 4) (encG l) = true := dep_tup fun x hx => by obtain ⟨y, _, rfl⟩ := List.mem_map.mp hx; exact dep_R n y
theorem eq_same {d e : D} (h : d = e) (hd : dep 20 e = true) : PyData.eqv d e = true := by subst h; exact PySem.SeqAt.eqv_refl _ (dep_depth 20 _ hd).1
theorem ne_same {d e : D} (h : d = e) (hd : dep 20 e = true) : (!PyData.eqv d e) = false := by rw [eq_same h hd]; rfl
theorem rg_one (N : Nat) : PyData.tuple (rangeD 1 1 N) = encN (one2 N) := by
  unfold encN one2
  rw [rangeD_map]
  congr 1
  rw [List.map_map]
  apply List.ext_getElem
  · simp
  · intro i h1 h2
    simp [nI]
theorem A_of {N : Nat} (h1 : 1 ≤ N) (h2 : N ≤ 60) : okA N = true := by
  have h := List.all_eq_true.mp ok_A N (List.mem_range.mpr (by omega))
  rw [beq_eq_false_iff_ne.mpr (show N ≠ 0 by omega), Bool.false_or] at h
  exact h
theorem ro_len (l : List (Nat × Nat)) : (ro l).length = 2 * l.length := by unfold ro fro bao; rw [List.length_append, List.length_reverse, List.length_map, List.length_map, idx_len]; omega
theorem cei_0 (N z : Nat) (hz : 1 ≤ z) : ((cei N z : Nat) : Int) = if (0 : Int) < (N : Int) then ((N : Int) - 0 - 1) / (z : Int) + 1 else 0 := by
  have h := cei_eq N z hz
  rw [h]
  by_cases h0 : 0 < N
  · rw [if_pos (by omega), if_pos (by omega), show (N : Int) + 1 - 1 - 1 = (N : Int) - 0 - 1 by omega]
  · rw [if_neg (by omega), if_neg (by omega)]
theorem B_of {N S : Nat} (h1 : 1 ≤ N) (h2 : N ≤ 60) (h3 : 1 ≤ S) (h4 : S ≤ 4) : okB N S = true := by
  have h := List.all_eq_true.mp ok_B N (List.mem_range.mpr (by omega))
  rw [beq_eq_false_iff_ne.mpr (show N ≠ 0 by omega), Bool.false_or] at h
  have h := List.all_eq_true.mp h S (List.mem_range.mpr (by omega))
  rw [beq_eq_false_iff_ne.mpr (show S ≠ 0 by omega), Bool.false_or] at h
  exact h
theorem crL_len (t : Rat) (S : Nat) : (crL t S).length = S := by unfold crL; rw [List.length_map, List.length_range]
theorem crL_get {t : Rat} {S k : Nat} (h : k < S) : L2.atI ((crL t S).map encQ) (k : Int) = some (encQ (t * ((S - 1 - k : Nat) : Int))) := by
  rw [at_nat, List.getElem?_map]
  unfold crL
  rw [List.getElem?_map, List.getElem?_range h]
  rfl
theorem crL_last {t : Rat} {S : Nat} (h : 1 ≤ S) : L2.atI ((crL t S).map encQ) (-1) = some (encQ 0) := by
  have h1 := at_neg ((crL t S).map encQ) 0 (by rw [List.length_map, crL_len]; omega)
  rw [List.length_map, crL_len] at h1
  have h2 := crL_get (t := t) (S := S) (k := S - 1) (by omega)
  rw [at_nat] at h2
  rw [show (-1 : Int) = -((0 + 1 : Nat) : Int) from rfl, h1, show S - (0 + 1) = S - 1 from rfl, h2, show S - 1 - (S - 1) = 0 by omega]
  rw [show t * (((0 : Nat) : Int) : Rat) = 0 by simp]
theorem crL_step {t : Rat} {S k : Nat} (h : k + 1 < S) : t * (((S - 1 - k : Nat) : Int) : Rat) - t * (((S - 1 - (k + 1) : Nat) : Int) : Rat) = t := by
  rw [show ((S - 1 - k : Nat) : Int) = ((S - 1 - (k + 1) : Nat) : Int) + 1 by omega, Rat.intCast_add]
  grind
theorem bd_nat {n : Nat} (h : n ≤ 100) : Bd 10 (((n : Nat) : Int) : Rat) := ⟨by rw [Rat.num_intCast]; omega, by rw [Rat.den_intCast]; decide⟩
theorem bools_no {α : Type} (xs : List α) : boolsOf (xs.map fun _ => PyData.bool false) = some (xs.map fun _ => false) := boolsOf_map _ xs
def c__law_folded : DCM := fun d ds Q => ∃ N : Nat, ds = [nI N] ∧ 1 ≤ N ∧ N ≤ 60 ∧ isSt d ∧ ∀ d', isSt d' → Q (.bool true) d'
theorem len__law_folded : ∀ d ds kq, c__law_folded d ds kq → ds.length = 1 := by rintro _ _ _ ⟨n, rfl, _⟩; rfl
section
variable {P : Program} {w : World} {K : PySem.W.Frag} {mg : Str → Option Value} {base : Heap}
abbrev s__law_folded : Stmt := topS 32
theorem sc__law_folded : FnScope ["state", "pages", "sides", "page", "sheets", "rows", "found", "start", "thick", "creep", "side", "place", "k"] ["state", "pages"] (defScope s__law_folded) := ⟨rfl, rfl, rfl, by decide +kernel, rfl, by decide +kernel, by decide +kernel⟩
theorem ok__law_folded {f : Addr} {fd : FuncData} (F : Fun K "_law_folded" "_law_folded" s__law_folded f fd) (hm : mg "_law_folded" = some (.ref f)) (hb : Binds K fd ["state", "pages"] []) (bl : ∀ x : Str, bnames.contains x = true → mg x = none) {C_NoSuch : Addr} (p_booklet : Pf P w K mg base 1 "booklet" 1 c_booklet) (p__law_full : Pf P w K mg base 1 "_law_full" 1 c__law_full) (p_read_order : Pf P w K mg base 1 "read_order" 1 c_read_order) (p__law_side : Pf P w K mg base 3 "_law_side" 2 c__law_side) (p__law_draw : PfM P w K mg base 1 "_law_draw" 2 c__law_draw) (p_booklets : Pf P w K mg base 2 "booklets" 2 c_booklets) (p_fraction : Pf P w K mg base 2 "fraction" 2 (c_fraction C_NoSuch)) (p_creep_of : Pf P w K mg base 3 "creep_of" 2 c_creep_of) (p_minus : Pf P w K mg base 3 "minus" 2 c_minus) : PfM P w K mg base 4 "_law_folded" 2 c__law_folded := by
  refine pf_ofM (k := 3) F sc__law_folded rfl hm hb bl (len__law_folded) fun cdv A outer s H G a E d ds kq hc c tk => ?_
  refine ⟨_, (dss_cons (ds_set (i := 2) c rfl (Or.inl rfl) (de_call p_booklet c (da_cons (de_var 1) da_nil)))
      (dss_cons (ds_if (dw_or (dt_cmp (od_ne c) (de_bin od_mod (de_callB cd_len (nb c) PySem.boot_len (dbs_cons (db_var 2) dbs_nil)).toB de_int.toB).toB de_int.toB) (dw_or (dt_cmp (od_ne c) (de_callB cd_len (nb c) PySem.boot_len (dbs_cons (db_var 2) dbs_nil)).toB (de_bin od_mulA de_int.toB (de_bin od_fdiv (de_bin od_add (db_var 1) de_int.toB).toB de_int.toB).toB).toB) (dw_or1 (dt_cmp (od_ne c) (de_call p__law_full c (da_cons (de_call p_read_order c (da_cons (de_var 2) da_nil)) da_nil)).toB (de_tupRg2 c de_int.toB (de_bin od_add (db_var 1) de_int.toB).toB).toB)))).t (dss_one (ds_ret de_bl)) dss_nil)
      (dss_cons (ds_for c (di_range2 (nb c) (dbs_cons de_int.toB (dbs_cons (de_bin od_add (db_var 1) de_int.toB).toB dbs_nil))) (dg_name (i := 3) c rfl (by first | exact Or.inl rfl | exact Or.inr rfl)) (dss_cons (ds_asg (de_call p__law_side c (da_cons (de_var 1) (da_cons (de_var 3) da_nil))) (dg_tup (n := 2) c (dgs_cons (dg_name (i := 10) c rfl (by first | exact Or.inl rfl | exact Or.inr rfl)) (dgs_cons (dg_name (i := 11) c rfl (by first | exact Or.inl rfl | exact Or.inr rfl)) dgs_nil))))
        (dss_one (ds_if (dt_cmp (od_ne c) (de_ix (de_ix (db_var 2) (db_var 10)).toB (db_var 11)).toB (db_var 3)) (dss_one (ds_ret de_bl)) dss_nil))))
      (dss_cons (ds_if (dw_or (dt_cmp od_isn (de_call p__law_side c (da_cons (de_var 1) (da_cons de_int da_nil))).toB de_non.toB) (dw_or1 (dt_cmp od_isn (de_call p__law_side c (da_cons (de_var 1) (da_cons (de_bin od_add (db_var 1) de_int.toB) da_nil))).toB de_non.toB))).t (dss_one (ds_ret de_bl)) dss_nil)
      (dss_cons (ds_set (i := 4) c rfl (Or.inl rfl) (de_bin od_add de_int.toB (de_callM (i := 0) p__law_draw c (da_cons de_int da_nil)).toB))
      (dss_cons (ds_set (i := 5) c rfl (Or.inl rfl) (de_call p_booklets c (da_cons (de_var 1) (da_cons (de_var 4) da_nil))))
      (dss_cons (ds_set (i := 6) c rfl (Or.inl rfl) (de_tup da_nil))
      (dss_cons (ds_for c (di_range3 (nb c) (dbs_cons de_int.toB (dbs_cons (de_callB cd_len (nb c) PySem.boot_len (dbs_cons (db_var 5) dbs_nil)).toB (dbs_cons (de_bin od_mulA de_int.toB (db_var 4)).toB dbs_nil)))) (dg_name (i := 7) c rfl (by first | exact Or.inl rfl | exact Or.inr rfl)) (dss_one (ds_set (i := 6) c rfl (Or.inl rfl) (de_bin od_add (db_var 6) (de_call p__law_full c (da_cons (de_call p_read_order c (da_cons (de_slice (db_var 5) (dp_some (db_var 7)) (dp_some (de_bin od_add (db_var 7) (de_bin od_mulA de_int.toB (db_var 4)).toB).toB)) da_nil)) da_nil)).toB))))
      (dss_cons (ds_if (dw_or (dt_cmp (od_ne c) (db_var 6) (de_tupRg2 c de_int.toB (de_bin od_add (db_var 1) de_int.toB).toB).toB) (dw_or1 (dt_cmp (od_ne c) (de_call p_booklets c (da_cons (de_var 1) (da_cons (de_bin od_fdiv (de_bin od_add (db_var 1) de_int.toB).toB de_int.toB) da_nil))).toB (db_var 2)))).t (dss_one (ds_ret de_bl)) dss_nil)
      (dss_cons (ds_set (i := 8) c rfl (Or.inr rfl) (de_call p_fraction c (da_cons (de_bin od_add de_int.toB (de_callM (i := 0) p__law_draw c (da_cons de_int da_nil)).toB) (da_cons (de_bin od_add de_int.toB (de_callM (i := 0) p__law_draw c (da_cons de_int da_nil)).toB) da_nil))))
      (dss_cons (ds_set (i := 9) c rfl (Or.inr rfl) (de_call p_creep_of c (da_cons (de_var 4) (da_cons (de_var 8) da_nil))))
      (dss_one (ds_ret (de_and (de_cmp (od_eq c) (de_callB cd_len (nb c) PySem.boot_len (dbs_cons (db_var 9) dbs_nil)).toB (db_var 4)) (de_and (de_cmp (od_eq c) (de_ix (db_var 9) (de_neg de_int.toB).toB).toB (de_tup (da_cons de_int (da_cons de_int da_nil))).toB) (de_one (de_not (de_callB (cd_any c) (nb c) boot_any (dbs_cons (df_lc (own := [("k", 12)]) c (di_range1 (nb c) (dbs_cons (de_bin od_sub (db_var 4) de_int.toB).toB dbs_nil)) rfl (fun _ _ _ _ _ _ _ c => (dg_name (i := 12) c rfl (by first | exact Or.inl rfl | exact Or.inr rfl))) (fun _ _ _ _ _ _ _ c => dts_nil) (fun _ _ _ _ _ _ _ c => (de_cmp (od_ne c) (de_call p_minus c (da_cons (de_ix (db_var 9) (db_var 12)) (da_cons (de_ix (db_var 9) (de_bin od_add (db_var 12) de_int.toB).toB) da_nil))).toB (db_var 8)))).toE.toB dbs_nil))))))))))))))))))), ?_⟩
  obtain ⟨N, rfl, h1, h2, hst, hq⟩ := hc
  have hA := A_of h1 h2
  unfold okA at hA
  rw [Bool.and_eq_true, Bool.and_eq_true] at hA
  obtain ⟨⟨hA1, hA2⟩, hA3⟩ := hA
  have hA1 := eq_of_beq hA1
  have hA2 := eq_of_beq hA2
  have hu : 4 * up4 N < N + 4 := by unfold up4; omega
  walk_at "r"
  refine ⟨N, rfl, by omega, ?_⟩
  have hl : (bk N).length = 2 * up4 N := bk_len N
  have e1 : PyData.eqv (.int (((((bk N).map encP).length : Nat) : Int).fmod 2)) (.int 0) = true := by
    rw [List.length_map, hl, eqvI, Int.fmod_eq_emod_of_nonneg _ (by decide), decide_eq_true (by omega)]
  have e2 : PyData.eqv (.int ((((bk N).map encP).length : Nat) : Int)) (.int (2 * ((N : Int) + 3).fdiv 4)) = true := by
    rw [List.length_map, hl, eqvI, Int.fdiv_eq_ediv_of_nonneg _ (by decide), decide_eq_true (by unfold up4; omega)]
  walk_at "r"
  refine brn.ff (by rw [e1]; rfl) ?_
  walk_at "r"
  refine brn.ff (by rw [e2]; rfl) ?_
  walk_at "r"
  refine ⟨bk N, rfl, by omega, ?_⟩
  have hr := ro_len (bk N)
  walk_at "r"
  refine ⟨ro (bk N), rfl, by omega, ?_⟩
  rw [hA1]
  walk_at "r"
  refine ⟨⟨by omega, by omega, by omega, by omega, by omega⟩, ?_⟩
  rw [show ((N : Int) + 1 - 1).toNat = N by omega, rg_one]
  refine ⟨dep_N 18 _, dep_N 18 _, ?_⟩
  walk_at "r"
  refine brn.ff (ne_same rfl (dep_N 18 _)) ?_
  walk_at "r"
  rw [show ((N : Int) + 1 - 1).toNat = N by omega]
  refine ⟨fun r ρ => ∃ (i m : Nat) (a b c : Sl), i + m = N ∧ r = rangeD ((i + 1 : Nat) : Int) 1 m ∧ ρ = [.own d, .val (nI N), .val (encS (bk N)), a, .non, .non, .non, .non, .non, .non, b, c, .non], ?_, ?_, ?_⟩
  · exact ⟨0, N, _, _, _, by omega, rfl, rfl⟩
  · rintro x r ρ ⟨i, m, a, b, c, g1, g2, rfl⟩
    obtain ⟨m, rfl, rfl, rfl⟩ := rangeD_cons g2
    have h3 := List.all_eq_true.mp hA3 i (List.mem_range.mpr (by omega))
    rw [Bool.and_eq_true, Bool.and_eq_true] at h3
    obtain ⟨⟨h4, h5⟩, h6⟩ := h3
    have h4 := of_decide_eq_true h4
    have h5 := of_decide_eq_true h5
    have h6 := eq_of_beq h6
    walk_at "r"
    refine ⟨N, i + 1, rfl, by omega, by omega, fun z => absurd ⟨by omega, by omega⟩ z, fun _ _ => ?_⟩
    generalize sdo N (i + 1) = sp at *
    obtain ⟨sd, pl⟩ := sp
    have h4 : sd < (bk N).length := h4
    have h5 : pl < 2 := h5
    have e3 : L2.atI ((bk N).map encP) (sd : Int) = some (encP (bk N)[sd]) := by rw [at_nat, List.getElem?_map, List.getElem?_eq_getElem h4]; rfl
    have h6 : sel (bk N)[sd] pl = i + 1 := by
      have h6 : sel ((bk N).getD sd (0, 0)) pl = i + 1 := h6
      rw [show (bk N).getD sd (0, 0) = (bk N)[sd] by simp [h4]] at h6
      exact h6
    generalize (bk N)[sd] = pq at *
    obtain ⟨p, q⟩ := pq
    walk_at "r"
    rw [e3]
    have hp : pl = 0 ∨ pl = 1 := by omega
    rcases hp with rfl | rfl
    · have h6 : p = i + 1 := h6
      walk_at "r"
      refine brn.ff (ne_same (d := nI p) (e := nI (i + 1)) (by rw [h6]) rfl) ?_
      walk_at "r"
      exact ⟨i + 1, m, _, _, _, by omega, rfl, rfl⟩
    · have h6 : q = i + 1 := h6
      walk_at "r"
      refine brn.ff (ne_same (d := nI q) (e := nI (i + 1)) (by rw [h6]) rfl) ?_
      walk_at "r"
      exact ⟨i + 1, m, _, _, _, by omega, rfl, rfl⟩
  · rintro ρ ⟨i, m, a, b, c, g1, g2, rfl⟩
    have g2 := rangeD_nil g2
    walk_at "r"
    refine ⟨N, 0, rfl, by omega, by omega, fun _ => ?_, fun z => absurd z (by omega)⟩
    walk_at "r"
    refine ⟨N, N + 1, rfl, by omega, by omega, fun _ => ?_, fun _ z => absurd z (by omega)⟩
    walk_at "r"
    refine ⟨4, rfl, by decide, by decide, hst, fun r d1 r1 r2 hst => ?_⟩
    obtain ⟨S, hS, hS1, hS2⟩ : ∃ S : Nat, 1 + r = S ∧ 1 ≤ S ∧ S ≤ 4 := ⟨(1 + r).toNat, by omega, by omega, by omega⟩
    walk_at "r"
    rw [hS]
    refine ⟨N, S, rfl, by omega, hS1, by omega, ?_⟩
    have hB := B_of h1 h2 hS1 hS2
    unfold okB at hB
    rw [Bool.and_eq_true] at hB
    have hB1 := eq_of_beq hB.1
    have hB2 := of_decide_eq_true hB.2
    generalize bks N S N 0 = rows at *
    walk_at "r"
    rw [List.length_map]
    refine ⟨cei rows.length (2 * S), rgc_up (by omega) (by omega) (by omega) (by omega) (by rw [cei_0 _ _ (by omega)]; rfl), ?_⟩
    walk_at "r"
    generalize hn : cei rows.length (2 * S) = n at *
    refine ⟨fun r ρ => ∃ (i m : Nat) (found : List Nat) (e : Sl), i + m = n ∧ r = rangeD ((i * (2 * S) : Nat) : Int) (2 * (S : Int)) m ∧ found ++ chs (2 * S) m (rows.drop (i * (2 * S))) = one2 N ∧ ρ = [.own d1, .val (nI N), .val (encS (bk N)), a, .val (nI S), .val (encS rows), .val (encN found), e, .non, .non, b, c, .non], ?_, ?_, ?_⟩
    · exact ⟨0, n, [], _, by omega, by rw [Nat.zero_mul]; rfl, by rw [Nat.zero_mul]; exact hB1, rfl⟩
    · rintro x r ρ ⟨i, m, found, e, k1, k2, k3, rfl⟩
      obtain ⟨m, rfl, rfl, rfl⟩ := rangeD_cons k2
      have hf : found.length ≤ 60 := by
        have := congrArg List.length k3
        unfold one2 at this
        simp at this
        omega
      have ec : cutD (rows.map encP) (some ((i * (2 * S) : Nat) : Int)) (some (((i * (2 * S) : Nat) : Int) + 2 * (S : Int))) = ((rows.drop (i * (2 * S))).take (2 * S)).map encP := by
        rw [show (((i * (2 * S) : Nat) : Int) + 2 * (S : Int)) = ((i * (2 * S) + 2 * S : Nat) : Int) by omega, cut_mid, List.map_take, List.map_drop, List.drop_take, Nat.add_sub_cancel_left]
      have hch : ((rows.drop (i * (2 * S))).take (2 * S)).length ≤ 200 := by rw [List.length_take, List.length_drop]; omega
      have hro := ro_len ((rows.drop (i * (2 * S))).take (2 * S))
      have hfu : (full (ro ((rows.drop (i * (2 * S))).take (2 * S)))).length ≤ (ro ((rows.drop (i * (2 * S))).take (2 * S))).length := List.length_filter_le _ _
      have hcs : chs (2 * S) (m + 1) (rows.drop (i * (2 * S))) = full (ro ((rows.drop (i * (2 * S))).take (2 * S))) ++ chs (2 * S) m (rows.drop ((i + 1) * (2 * S))) := by
        show full _ ++ chs _ m ((rows.drop (i * (2 * S))).drop (2 * S)) = _
        rw [List.drop_drop, Nat.succ_mul i (2 * S)]
      have k3' : (found ++ full (ro ((rows.drop (i * (2 * S))).take (2 * S)))) ++ chs (2 * S) m (rows.drop ((i + 1) * (2 * S))) = one2 N := by
        rw [List.append_assoc, ← hcs, k3]
      have hst2 : (((i + 1) * (2 * S) : Nat) : Int) = ((i * (2 * S) : Nat) : Int) + 2 * (S : Int) := by rw [Nat.succ_mul i (2 * S)]; omega
      walk_at "r"
      rw [ec]
      generalize (rows.drop (i * (2 * S))).take (2 * S) = ch at *
      refine ⟨ch, rfl, by omega, ?_⟩
      walk_at "r"
      refine ⟨ro ch, rfl, by omega, ?_⟩
      walk_at "r"
      refine ⟨by rw [List.length_map, List.length_map]; omega, ?_⟩
      walk_at "r"
      rw [← List.map_append]
      exact ⟨i + 1, m, _, _, by omega, by rw [hst2], k3', rfl⟩
    · rintro ρ ⟨i, m, found, e, k1, k2, k3, rfl⟩
      have k2 := rangeD_nil k2
      subst k2
      have k3 : found = one2 N := by rw [← k3]; simp [chs]
      subst k3
      have eu : ((N : Int) + 3).fdiv 4 = ((up4 N : Nat) : Int) := by rw [Int.fdiv_eq_ediv_of_nonneg _ (by decide)]; unfold up4; omega
      have hu1 : 1 ≤ up4 N := by unfold up4; omega
      walk_at "r"
      refine ⟨⟨by omega, by omega, by omega, by omega, by omega⟩, ?_⟩
      rw [show ((N : Int) + 1 - 1).toNat = N by omega, rg_one]
      refine ⟨dep_N 18 _, dep_N 18 _, ?_⟩
      walk_at "r"
      refine brn.ff (ne_same rfl (dep_N 18 _)) ?_
      walk_at "r"
      refine ⟨N, up4 N, by unfold nI; rw [eu], by omega, hu1, by omega, ?_⟩
      rw [hA2]
      walk_at "r"
      refine ⟨dep_S 17 _, dep_S 17 _, ?_⟩
      walk_at "r"
      refine brn.ff (ne_same rfl (dep_S 17 _)) ?_
      walk_at "r"
      refine ⟨9, rfl, by decide, by decide, hst, fun t1 d2 q1 q2 hst => ?_⟩
      walk_at "r"
      refine ⟨9, rfl, by decide, by decide, hst, fun t2 d3 q3 q4 hst => ?_⟩
      walk_at "r"
      refine ⟨1 + t1, 1 + t2, rfl, lt_pow_mono (a := 10) (by omega) (by decide), lt_pow_mono (a := 10) (by omega) (by decide), fun z => absurd z (by omega), fun _ => ?_⟩
      have ht : Bd 10 (Rat.divInt (1 + t1) (1 + t2)) := bd_divInt (by omega) (by omega) (by omega)
      generalize Rat.divInt (1 + t1) (1 + t2) = t at *
      walk_at "r"
      refine ⟨S, t, rfl, hS1, by omega, ht, ?_⟩
      walk_at "r"
      refine brn.tt (eq_same (d := .int ((((crL t S).map encQ).length : Nat) : Int)) (e := nI S) (by rw [List.length_map, crL_len]; rfl) rfl) ?_
      walk_at "r"
      rw [crL_last hS1]
      walk_at "r"
      rw [show ((S : Int) - 1).toNat = S - 1 by omega]
      refine lc_map [.own d3, .val (nI N), .val (encS (bk N)), a, .val (nI S), .val (encS rows), .val (encN (one2 N)), e, .val (encQ t), .val (.tuple ((crL t S).map encQ)), b, c, .non] rfl (List.range (S - 1)) (fun (k : Nat) => .int (0 + (k : Int) * 1)) (fun _ => .bool false) rfl (by rw [List.length_range]; omega) ?_ ?_
      · intro k hk G0 H0 K1 hK
        have hk := List.mem_range.mp hk
        rw [show (0 : Int) + (k : Int) * 1 = (k : Int) by omega]
        walk_at "r"
        rw [crL_get (by omega)]
        walk_at "r"
        rw [show (k : Int) + 1 = ((k + 1 : Nat) : Int) by omega, crL_get (by omega)]
        walk_at "r"
        refine ⟨_, _, rfl, (bd_mul ht (bd_nat (by omega))).mono (by decide), (bd_mul ht (bd_nat (by omega))).mono (by decide), ?_⟩
        have es := crL_step (t := t) (S := S) (k := k) (by omega)
        walk_at "r"
        rw [es, eq_same rfl (dep_encQ 19 t)]
        exact hK _ rfl
      · walk_at "r"
        rw [bools_no]
        walk_at "r"
        rw [show ((List.range (S - 1)).map fun _ => false).any id = false by simp]
        exact hq _ hst
end
end K19
namespace K19
open PySem PySem.Spec PyProof.Rows L2 Dn
local macro_rules | `(tactic| walk_at "r") => `(tactic| ((conv => whnf); (repeat ((first | refine And.intro rfl ?_ | refine And.intro cm_l ?_ | refine And.intro cm_r ?_ | refine And.intro (by decide) ?_ | refine And.intro (cdv_lt (a := 64) (by decide) (by decide)) ?_ | refine And.intro (by omega) ?_); (conv => whnf)))))
theorem cei_up {x d : Nat} (hd : 1 ≤ d) : x ≤ cei x d * d ∧ (cei x d = 0 ∨ (cei x d - 1) * d < x) := by
  unfold cei
  have h1 := Nat.div_add_mod (x + d - 1) d
  have h2 := Nat.mod_lt (x + d - 1) (show d > 0 by omega)
  rw [Nat.mul_comm] at h1
  generalize (x + d - 1) / d = q at *
  refine ⟨by omega, ?_⟩
  cases q with
  | zero => exact .inl rfl
  | succ q => right; rw [Nat.succ_mul] at h1; rw [Nat.add_sub_cancel]; omega
theorem st_len (ln pt d : Nat) : (stL ln pt d).length = cei (ln - pt) d + 1 := by unfold stL; rw [List.length_map, List.length_range]
theorem st_get {ln pt d k : Nat} (h : k ≤ cei (ln - pt) d) : L2.atI ((stL ln pt d).map nI) (k : Int) = some (nI (k * d)) := by
  rw [at_nat, List.getElem?_map]
  unfold stL
  rw [List.getElem?_map, List.getElem?_range (by omega)]
  rfl
theorem st_neg {ln pt d i : Nat} (h : i ≤ cei (ln - pt) d) : L2.atI ((stL ln pt d).map nI) (-((i + 1 : Nat) : Int)) = some (nI ((cei (ln - pt) d - i) * d)) := by
  have h1 := at_neg ((stL ln pt d).map nI) i (by rw [List.length_map, st_len]; omega)
  rw [List.length_map, st_len] at h1
  have h2 := st_get (ln := ln) (pt := pt) (d := d) (k := cei (ln - pt) d - i) (by omega)
  rw [at_nat] at h2
  rw [h1, show cei (ln - pt) d + 1 - (i + 1) = cei (ln - pt) d - i by omega, h2]
def c__law_poster : DCM := fun d ds Q => ∃ s0 s1 : Nat, ds = [pr s0 s1] ∧ 10 ≤ s0 ∧ 10 ≤ s1 ∧ s0 ≤ 39 ∧ s1 ≤ 39 ∧ isSt d ∧ ∀ d', isSt d' → Q (.bool true) d'
theorem len__law_poster : ∀ d ds kq, c__law_poster d ds kq → ds.length = 1 := by rintro _ _ _ ⟨n, m, rfl, _⟩; rfl
section
variable {P : Program} {w : World} {K : PySem.W.Frag} {mg : Str → Option Value} {base : Heap}
abbrev s__law_poster : Stmt := topS 35
theorem sc__law_poster : FnScope ["state", "sheet", "picture", "overlap", "rows", "k", "due", "top", "starts", "left", "j"] ["state", "sheet"] (defScope s__law_poster) := ⟨rfl, rfl, rfl, by decide +kernel, rfl, by decide +kernel, by decide +kernel⟩
theorem ok__law_poster {f : Addr} {fd : FuncData} (F : Fun K "_law_poster" "_law_poster" s__law_poster f fd) (hm : mg "_law_poster" = some (.ref f)) (hb : Binds K fd ["state", "sheet"] []) (bl : ∀ x : Str, bnames.contains x = true → mg x = none) {C_NoSuch : Addr} (p__law_draw : PfM P w K mg base 1 "_law_draw" 2 c__law_draw) (p_starts_of : Pf P w K mg base 1 "starts_of" 3 (c_starts_of C_NoSuch)) (p_poster : Pf P w K mg base 2 "poster" 3 (c_poster C_NoSuch)) : PfM P w K mg base 3 "_law_poster" 2 c__law_poster := by
  refine pf_ofM (k := 2) F sc__law_poster rfl hm hb bl (len__law_poster) fun cdv A outer s H G a E d ds kq hc c tk => ?_
  refine ⟨_, (dss_cons (ds_set (i := 2) c rfl (Or.inr rfl) (de_tup (da_cons (de_bin od_add de_int.toB (de_callM (i := 0) p__law_draw c (da_cons de_int da_nil)).toB) (da_cons (de_bin od_add de_int.toB (de_callM (i := 0) p__law_draw c (da_cons de_int da_nil)).toB) da_nil))))
      (dss_cons (ds_cut (ds_set (i := 3) c rfl (Or.inr rfl) (de_callM (i := 0) p__law_draw c (da_cons de_int da_nil))))
      (dss_cons (ds_setLc (i := 4) (own := [("k", 5)]) c rfl rfl (sw_true rfl rfl rfl rfl) (di_range1 (nb c) (dbs_cons de_int.toB dbs_nil)) rfl (fun _ _ _ _ _ _ _ c => (dg_name (i := 5) c rfl (by first | exact Or.inl rfl | exact Or.inr rfl))) (fun _ _ _ _ _ _ _ c => dts_nil) (fun _ _ _ _ _ _ _ c => (de_call p_starts_of c (da_cons (de_ix (db_var 2) (db_var 5)) (da_cons (de_ix (db_var 1) (db_var 5)) (da_cons (de_var 3) da_nil))))))
      (dss_cons (ds_for c (di_range1 (nb c) (dbs_cons de_int.toB dbs_nil)) (dg_name (i := 5) c rfl (by first | exact Or.inl rfl | exact Or.inr rfl)) (dss_cons (ds_set (i := 8) c rfl (Or.inr rfl) (de_ix (db_var 4) (db_var 5)))
        (dss_cons (ds_if (dw_or (dt_cmp (od_ne c) (de_ix (db_var 8) de_int.toB).toB de_int.toB) (dw_or (dt_cmp (od_ltA c) (de_bin od_add (de_ix (db_var 8) (de_neg de_int.toB).toB).toB (de_ix (db_var 1) (db_var 5)).toB).toB (de_ix (db_var 2) (db_var 5)).toB) (dw_or1 (dt_tru (de_callB (cd_any c) (nb c) boot_any (dbs_cons (df_lc (own := [("j", 10)]) c (di_range1 (nb c) (dbs_cons (de_bin od_sub (de_callB cd_len (nb c) PySem.boot_len (dbs_cons (db_var 8) dbs_nil)).toB de_int.toB).toB dbs_nil)) rfl (fun _ _ _ _ _ _ _ c => (dg_name (i := 10) c rfl (by first | exact Or.inl rfl | exact Or.inr rfl))) (fun _ _ _ _ _ _ _ c => dts_nil) (fun _ _ _ _ _ _ _ c => (de_cmp (od_ne c) (de_bin od_sub (de_ix (db_var 8) (de_bin od_add (db_var 10) de_int.toB).toB).toB (de_ix (db_var 8) (db_var 10)).toB).toB (de_bin od_sub (de_ix (db_var 1) (db_var 5)).toB (db_var 3)).toB))).toE.toB dbs_nil)).toB)))).t (dss_one (ds_ret de_bl)) dss_nil)
        (dss_one (ds_if (dw_and (dt_cmp od_gt (de_callB cd_len (nb c) PySem.boot_len (dbs_cons (db_var 8) dbs_nil)).toB de_int.toB) (dw_and1 (dt_cmp od_ge (de_bin od_add (de_ix (db_var 8) (de_neg de_int.toB).toB).toB (de_ix (db_var 1) (db_var 5)).toB).toB (de_ix (db_var 2) (db_var 5)).toB))).t (dss_one (ds_ret de_bl)) dss_nil)))))
      (dss_cons (ds_set (i := 6) c rfl (Or.inl rfl) (df_lst da_nil).toE)
      (dss_cons (ds_for c (di_seq (de_ix (db_var 4) de_int.toB)) (dg_name (i := 7) c rfl (by first | exact Or.inl rfl | exact Or.inr rfl)) (dss_one (ds_set (i := 6) c rfl (Or.inl rfl) (de_bin od_add (db_var 6) (df_lc (own := [("left", 9)]) c (di_seq (de_ix (db_var 4) de_int.toB)) rfl (fun _ _ _ _ _ _ _ c => (dg_name (i := 9) c rfl (by first | exact Or.inl rfl | exact Or.inr rfl))) (fun _ _ _ _ _ _ _ c => dts_nil) (fun _ _ _ _ _ _ _ c => (de_tup (da_cons (de_var 9) (da_cons (de_var 7) da_nil))))).toE.toB))))
      (dss_one (ds_ret (de_cmp (od_eq c) (de_call p_poster c (da_cons (de_var 2) (da_cons (de_var 1) (da_cons (de_var 3) da_nil)))).toB (de_callT cd_tuple (nb c) boot_tuple (dbs_cons (db_var 6) dbs_nil)).toB))))))))), ?_⟩
  obtain ⟨s0, s1, rfl, h1, h2, h3, h4, hst, hq⟩ := hc
  walk_at "r"
  refine ⟨90, rfl, by decide, by decide, hst, fun r1 d1 q1 q2 hst => ?_⟩
  walk_at "r"
  refine ⟨90, rfl, by decide, by decide, hst, fun r2 d2 q3 q4 hst => ?_⟩
  walk_at "r"
  refine ⟨fun ρ => ∃ (d : D) (m0 m1 ov : Nat), isSt d ∧ 1 ≤ m0 ∧ m0 ≤ 90 ∧ 1 ≤ m1 ∧ m1 ≤ 90 ∧ ov < 8 ∧ ρ = [.own d, .val (pr s0 s1), .val (pr m0 m1), .val (nI ov), .non, .non, .non, .non, .non, .non, .non], ?_, ?_⟩
  · walk_at "r"
    refine ⟨8, rfl, by decide, by decide, hst, fun r3 d3 q5 q6 hst => ?_⟩
    obtain ⟨m0, e0, e0'⟩ : ∃ n : Nat, 1 + r1 = n ∧ 1 ≤ n ∧ n ≤ 90 := ⟨(1 + r1).toNat, by omega, by omega, by omega⟩
    obtain ⟨m1, e1, e1'⟩ : ∃ n : Nat, 1 + r2 = n ∧ 1 ≤ n ∧ n ≤ 90 := ⟨(1 + r2).toNat, by omega, by omega, by omega⟩
    obtain ⟨ov, rfl, e2⟩ : ∃ n : Nat, r3 = n ∧ n < 8 := ⟨r3.toNat, by omega, by omega⟩
    rw [e0, e1]
    exact ⟨d3, m0, m1, ov, hst, e0'.1, e0'.2, e1'.1, e1'.2, e2, rfl⟩
  rintro ρ ⟨d, m0, m1, ov, hst, a1, a2, a3, a4, a5, rfl⟩
  have lS : ∀ k : Nat, k < 2 → ∃ s m : Nat, (k = 0 ∧ s = s0 ∧ m = m0 ∨ k = 1 ∧ s = s1 ∧ m = m1) ∧ L2.atI [nI s0, nI s1] (k : Int) = some (nI s) ∧ L2.atI [nI m0, nI m1] (k : Int) = some (nI m) ∧ 10 ≤ s ∧ s ≤ 39 ∧ 1 ≤ m ∧ m ≤ 90 := fun k hk => by
    have : k = 0 ∨ k = 1 := by omega
    rcases this with rfl | rfl
    · exact ⟨s0, m0, .inl ⟨rfl, rfl, rfl⟩, rfl, rfl, h1, h3, a1, a2⟩
    · exact ⟨s1, m1, .inr ⟨rfl, rfl, rfl⟩, rfl, rfl, h2, h4, a3, a4⟩
  walk_at "r"
  refine lc_map [.own d, .val (pr s0 s1), .val (pr m0 m1), .val (nI ov), .non, .non, .non, .non, .non, .non, .non] rfl (List.range 2) (fun (k : Nat) => .int (0 + (k : Int) * 1)) (fun k => .list ((if k = 0 then stL m0 s0 (s0 - ov) else stL m1 s1 (s1 - ov)).map nI)) rfl (by decide) ?_ ?_
  · intro k hk G0 H0 K1 hK
    obtain ⟨s, m, hk2, x1, x2, x3, x4, x5, x6⟩ := lS k (List.mem_range.mp hk)
    rw [show (0 : Int) + (k : Int) * 1 = (k : Int) by omega]
    walk_at "r"
    rw [x2]
    walk_at "r"
    rw [x1]
    walk_at "r"
    refine ⟨m, s, ov, rfl, by omega, by omega, by omega, ?_⟩
    have q := hK
    rcases hk2 with ⟨rfl, rfl, rfl⟩ | ⟨rfl, rfl, rfl⟩
    · rw [if_pos rfl] at q
      exact q _ rfl
    · rw [if_neg (by decide)] at q
      exact q _ rfl
  generalize hrows : (List.range 2).map (fun k => PyData.list ((if k = 0 then stL m0 s0 (s0 - ov) else stL m1 s1 (s1 - ov)).map nI)) = rows
  have hrow : ∀ k s m : Nat, (k = 0 ∧ s = s0 ∧ m = m0 ∨ k = 1 ∧ s = s1 ∧ m = m1) → L2.atI rows (k : Int) = some (.list ((stL m s (s - ov)).map nI)) := fun k s m hk => by
    rcases hk with ⟨rfl, rfl, rfl⟩ | ⟨rfl, rfl, rfl⟩ <;> (rw [← hrows]; rfl)
  walk_at "r"
  refine ⟨fun r ρ => ∃ (i m : Nat) (a b : Sl), i + m = 2 ∧ r = rangeD (i : Int) 1 m ∧ ρ = [.own d, .val (pr s0 s1), .val (pr m0 m1), .val (nI ov), .val (.list rows), a, .non, .non, b, .non, .non], ?_, ?_, ?_⟩
  · exact ⟨0, 2, _, _, by omega, rfl, rfl⟩
  · rintro x r ρ ⟨i, n, a, b, k1, k2, rfl⟩
    obtain ⟨n, rfl, rfl, rfl⟩ := rangeD_cons k2
    obtain ⟨s, m, hk2, x1, x2, x3, x4, x5, x6⟩ := lS i (by omega)
    have hrw := hrow i s m hk2
    have hd : 1 ≤ s - ov := by omega
    obtain ⟨c1, c2⟩ := cei_up (x := m - s) hd
    have g0 := st_get (ln := m) (pt := s) (d := s - ov) (k := 0) (by omega)
    have g1 := st_neg (ln := m) (pt := s) (d := s - ov) (i := 0) (by omega)
    have gl := st_len m s (s - ov)
    have gg := fun j => @st_get m s (s - ov) j
    have g2 := @st_neg m s (s - ov) 1
    have cl := cei_le (m - s) (s - ov) hd
    generalize stL m s (s - ov) = st at *
    generalize cei (m - s) (s - ov) = C at *
    generalize hd' : s - ov = d' at *
    walk_at "r"
    rw [hrw]
    walk_at "r"
    rw [show L2.atI (st.map nI) 0 = some (nI 0) by have := g0; rw [Nat.zero_mul] at this; exact this]
    have g1' : L2.atI (st.map nI) (-1) = some (nI (C * d')) := g1
    have ex : ((s : Int) - (ov : Int)) = (d' : Int) := by omega
    have c1' : m ≤ C * d' + s := by omega
    walk_at "r"
    rw [g1']
    walk_at "r"
    rw [x1]
    walk_at "r"
    rw [x2]
    walk_at "r"
    refine brn.ff (decide_eq_false (by omega)) ?_
    have glI : (((st.map nI).length : Nat) : Int) = (C : Int) + 1 := by rw [List.length_map, gl]; omega
    walk_at "r"
    rw [glI]
    walk_at "r"
    rw [show ((C : Int) + 1 - 1).toNat = C by omega]
    refine lc_map [.own d, .val (pr s0 s1), .val (pr m0 m1), .val (nI ov), .val (.list rows), .val (nI i), .non, .non, .val (.list (st.map nI)), .non, .non] rfl (List.range C) (fun (k : Nat) => .int (0 + (k : Int) * 1)) (fun _ => .bool false) rfl (by rw [List.length_range]; omega) ?_ ?_
    · intro j hj G0 H0 K1 hK
      have hj := List.mem_range.mp hj
      rw [show (0 : Int) + (j : Int) * 1 = (j : Int) by omega]
      have ej : (((j + 1) * d' : Nat) : Int) - ((j * d' : Nat) : Int) = (d' : Int) := by rw [Nat.succ_mul]; omega
      walk_at "r"
      rw [show (j : Int) + 1 = ((j + 1 : Nat) : Int) by omega, gg (j + 1) (by omega)]
      walk_at "r"
      rw [gg j (by omega)]
      walk_at "r"
      rw [x1]
      walk_at "r"
      rw [ej, ex, eqvI, decide_eq_true rfl]
      exact hK _ rfl
    walk_at "r"
    rw [bools_no]
    walk_at "r"
    refine brn.ff (by simp) ?_
    walk_at "r"
    rw [glI]
    refine brn.of (fun h => ?_) fun h => ?_
    · have h : 1 ≤ C := by have := of_decide_eq_true h; omega
      have g2' : L2.atI (st.map nI) (-2) = some (nI ((C - 1) * d')) := g2 h
      have c2' : (C - 1) * d' + s < m := by omega
      walk_at "r"
      rw [g2']
      walk_at "r"
      rw [x1]
      walk_at "r"
      rw [x2]
      walk_at "r"
      refine brn.ff (decide_eq_false (by omega)) ?_
      walk_at "r"
      exact ⟨i + 1, n, _, _, by omega, rfl, rfl⟩
    · walk_at "r"
      exact ⟨i + 1, n, _, _, by omega, rfl, rfl⟩
  · rintro ρ ⟨i, n, a, b, k1, k2, rfl⟩
    have r0 := hrow 0 s0 m0 (.inl ⟨rfl, rfl, rfl⟩)
    have r1 := hrow 1 s1 m1 (.inr ⟨rfl, rfl, rfl⟩)
    have l0 := stL_len (ln := m0) (pt := s0) (d := s0 - ov) (by omega) (by omega)
    have l1 := stL_len (ln := m1) (pt := s1) (d := s1 - ov) (by omega) (by omega)
    walk_at "r"
    rw [show L2.atI rows 1 = _ from r1]
    generalize hA : stL m0 s0 (s0 - ov) = A at *
    generalize hB : stL m1 s1 (s1 - ov) = Bq at *
    walk_at "r"
    refine ⟨fun r ρ => ∃ (done rest : List Nat) (x y : Sl), Bq = done ++ rest ∧ r = rest.map nI ∧ ρ = [.own d, .val (pr s0 s1), .val (pr m0 m1), .val (nI ov), .val (.list rows), a, .val (.list ((poR A done).map encP)), x, y, .non, .non], ?_, ?_, ?_⟩
    · exact ⟨[], Bq, _, _, rfl, rfl, rfl⟩
    · rintro x r ρ ⟨done, rest, x, y, e1, e2, rfl⟩
      obtain ⟨t, rest, rfl, rfl, rfl⟩ := map_cons' e2
      have hdl : done.length ≤ 201 := by rw [e1] at l1; simp at l1; omega
      have hpl : (poR A done).length ≤ 201 * 201 := by rw [poR_len]; exact Nat.mul_le_mul hdl l0
      walk_at "r"
      rw [show L2.atI rows 0 = _ from r0]
      walk_at "r"
      refine lc_map [.own d, .val (pr s0 s1), .val (pr m0 m1), .val (nI ov), .val (.list rows), a, .val (.list ((poR A done).map encP)), .val (nI t), y, .non, .non] rfl A nI (fun l => encP (l, t)) rfl (by omega) ?_ ?_
      · intro l hl G0 H0 K1 hK
        walk_at "r"
        exact hK _ rfl
      walk_at "r"
      refine ⟨by rw [List.length_map, List.length_map]; omega, ?_⟩
      have e3 : (poR A done).map encP ++ A.map (fun l => encP (l, t)) = (poR A (done ++ [t])).map encP := by
        unfold poR
        rw [List.flatMap_append, List.map_append]
        simp
      walk_at "r"
      rw [e3]
      exact ⟨done ++ [t], rest, _, _, by rw [e1]; simp, rfl, rfl⟩
    · rintro ρ ⟨done, rest, x, y, e1, e2, rfl⟩
      have e2 := map_nil' e2
      rw [e2, List.append_nil] at e1
      subst e1
      walk_at "r"
      refine ⟨m0, m1, s0, s1, ov, rfl, by omega, by omega, by omega, by omega, by omega, by omega, ?_⟩
      rw [hA, hB]
      walk_at "r"
      refine ⟨dep_S 17 _, dep_S 17 _, ?_⟩
      walk_at "r"
      rw [show PyData.eqv (.tuple ((poR A Bq).map encP)) (.tuple ((poR A Bq).map encP)) = true from eq_same rfl (dep_S 17 (poR A Bq))]
      exact hq _ hst
end
end K19
namespace K19
open PySem PySem.Spec PyProof.Rows L2 Dn
local macro_rules | `(tactic| walk_at "r") => `(tactic| ((conv => whnf); (repeat ((first | refine And.intro rfl ?_ | refine And.intro cm_l ?_ | refine And.intro cm_r ?_ | refine And.intro (by decide) ?_ | refine And.intro (cdv_lt (a := 64) (by decide) (by decide)) ?_ | refine And.intro (by omega) ?_); (conv => whnf)))))
theorem G_of {N A Dn : Nat} (h1 : 1 ≤ N) (h2 : N ≤ 60) (h3 : 1 ≤ A) (h4 : A ≤ 4) (h5 : 1 ≤ Dn) (h6 : Dn ≤ 4) : okG N A Dn = true := by
  have h := List.all_eq_true.mp ok_G N (List.mem_range.mpr (by omega))
  rw [beq_eq_false_iff_ne.mpr (show N ≠ 0 by omega), Bool.false_or] at h
  have h := List.all_eq_true.mp h A (List.mem_range.mpr (by omega))
  rw [beq_eq_false_iff_ne.mpr (show A ≠ 0 by omega), Bool.false_or] at h
  have h := List.all_eq_true.mp h Dn (List.mem_range.mpr (by omega))
  rw [beq_eq_false_iff_ne.mpr (show Dn ≠ 0 by omega), Bool.false_or] at h
  exact h
theorem cei_two (N z : Nat) (hz : 1 ≤ z) : cei N (z * 2) = (cei N z + 1) / 2 := by
  unfold cei
  rw [show (N + z - 1) / z + 1 = (N + z - 1 + z) / z from (Nat.add_div_right _ hz).symm, Nat.div_div_eq_div_mul]
  congr 1
  omega
theorem cei_pos {N z : Nat} (h : 1 ≤ N) (hz : 1 ≤ z) : 1 ≤ cei N z := by
  unfold cei
  exact (Nat.le_div_iff_mul_le hz).mpr (by omega)
theorem mu_len (N A Dn : Nat) : (mu N A Dn).length = cei N (A * Dn) := by unfold mu; rw [List.length_map, List.length_range]
theorem su_len (N A Dn : Nat) : (su N A Dn).length = cei N (A * Dn) := by unfold su; rw [List.length_map, List.length_range]
theorem mu_rect (N A Dn : Nat) : Rect (mu N A Dn) A Dn := by
  intro s hs
  unfold mu at hs
  obtain ⟨k, _, rfl⟩ := List.mem_map.mp hs
  unfold muS
  refine ⟨by rw [List.length_map, List.length_range], fun r hr => ?_⟩
  obtain ⟨k, _, rfl⟩ := List.mem_map.mp hr
  rw [List.length_map, List.length_range]
theorem su_rect (N A Dn : Nat) : Rect (su N A Dn) A Dn := by
  intro s hs
  unfold su at hs
  obtain ⟨k, _, rfl⟩ := List.mem_map.mp hs
  unfold suS
  refine ⟨by rw [List.length_map, List.length_range], fun r hr => ?_⟩
  obtain ⟨k, _, rfl⟩ := List.mem_map.mp hr
  rw [List.length_map, List.length_range]
theorem bko_bko (b : Bool) (s : Side) : bko b (bko b s) = s := by
  cases b
  · simp [bko]
  · simp only [bko, if_true, List.map_map]
    rw [show (List.reverse ∘ List.reverse : List Nat → List Nat) = id from funext fun x => List.reverse_reverse x, List.map_id]
def oddT (bl : Side) (l : List Side) : List Side := if l.length % 2 = 1 then [bl] else []
theorem prs_flat (bl : Side) : ∀ l : List Side, (prs bl l).flatMap (fun p => [p.1, p.2]) = l ++ oddT bl l
  | [] => rfl
  | [x] => rfl
  | x :: y :: l => by
    have ih := prs_flat bl l
    have e : oddT bl (x :: y :: l) = oddT bl l := by unfold oddT; rw [List.length_cons, List.length_cons, show (l.length + 1 + 1) % 2 = l.length % 2 by omega]
    rw [e]
    show [x, y] ++ (prs bl l).flatMap (fun p => [p.1, p.2]) = _
    rw [ih]
    rfl
theorem prs_len (bl : Side) : ∀ l : List Side, (prs bl l).length = (l.length + 1) / 2
  | [] => rfl
  | [x] => by simp [prs]
  | x :: y :: l => by
    show (prs bl l).length + 1 = _
    rw [prs_len bl l, List.length_cons, List.length_cons]
    omega
theorem mem_prs {bl : Side} {P : Side → Prop} (hb : P bl) : ∀ {l : List Side}, (∀ s ∈ l, P s) → ∀ p ∈ prs bl l, P p.1 ∧ P p.2
  | [], _, p, hp => nomatch hp
  | [x], h, p, hp => by
    have e : p = (x, bl) := by simpa [prs] using hp
    rw [e]
    exact ⟨h x (by simp), hb⟩
  | x :: y :: l, h, p, hp => by
    rcases List.mem_cons.mp hp with rfl | hp
    · exact ⟨h x (by simp), h y (by simp)⟩
    · exact mem_prs hb (fun s hs => h s (by simp [hs])) p hp
theorem blank_rect {A Dn : Nat} : ∀ {s : Side}, s.length = Dn → (∀ r ∈ s, r.length = A) → blankS s = List.replicate Dn (List.replicate A 0) := by
  intro s h1 h2
  unfold blankS
  subst h1
  induction s with
  | nil => rfl
  | cons r s ih =>
    rw [List.map_cons, List.length_cons, List.replicate_succ, h2 r (by simp), ih fun r hr => h2 r (by simp [hr])]
theorem wat_take {A : Nat} : ∀ {s t : Side}, s.length = t.length → (∀ r ∈ s, r.length = A) → (wat s t).map (fun r => r.take A) = s
  | [], [], _, _ => rfl
  | a :: s, b :: t, h, h2 => by
    have e := h2 a (by simp)
    show (a ++ b).take A :: (wat s t).map _ = _
    rw [wat_take (by simpa using h) fun r hr => h2 r (by simp [hr]), ← e, List.take_left]
theorem wat_drop {A : Nat} : ∀ {s t : Side}, s.length = t.length → (∀ r ∈ s, r.length = A) → (wat s t).map (fun r => r.drop A) = t
  | [], [], _, _ => rfl
  | a :: s, b :: t, h, h2 => by
    have e := h2 a (by simp)
    show (a ++ b).drop A :: (wat s t).map _ = _
    rw [wat_drop (by simpa using h) fun r hr => h2 r (by simp [hr]), ← e, List.drop_left]
theorem wat_len {s t : Side} (h : s.length = t.length) : (wat s t).length = s.length := by unfold wat; rw [List.length_map, List.length_zip, h]; omega
theorem flatG_cons (s : Side) (l : List Side) : flatG (s :: l) = s.flatMap id ++ flatG l := rfl
theorem rect_flat {l : List Side} {A Dn : Nat} (h : Rect l A Dn) : (flatG l).length = l.length * (Dn * A) := by
  induction l with
  | nil => simp [flatG]
  | cons s l ih =>
    obtain ⟨h1, h2⟩ := h s (by simp)
    have e : ∀ {s : Side} {n : Nat}, s.length = n → (∀ r ∈ s, r.length = A) → (s.flatMap id).length = n * A := by
      intro s
      induction s with
      | nil => intro n e _; rw [← e]; simp
      | cons r s ih => intro n e h; rw [← e, List.flatMap_cons, List.length_append, ih rfl fun r hr => h r (by simp [hr])]; simp only [id, List.length_cons]; rw [h r (by simp), Nat.succ_mul]; omega
    rw [flatG_cons, List.length_append, ih fun s hs => h s (by simp [hs]), e h1 h2, List.length_cons, Nat.succ_mul]
    omega
def c__law_gridded : DCM := fun d ds Q => ∃ N : Nat, ds = [nI N] ∧ 1 ≤ N ∧ N ≤ 60 ∧ isSt d ∧ ∀ d', isSt d' → Q (.bool true) d'
theorem len__law_gridded : ∀ d ds kq, c__law_gridded d ds kq → ds.length = 1 := by rintro _ _ _ ⟨n, rfl, _⟩; rfl
section
variable {P : Program} {w : World} {K : PySem.W.Frag} {mg : Str → Option Value} {base : Heap}
abbrev s__law_gridded : Stmt := topS 33
theorem sc__law_gridded : FnScope ["state", "pages", "across", "down", "sides", "flat", "side", "heaps", "by_long", "again", "wide", "row", "front", "back"] ["state", "pages"] (defScope s__law_gridded) := ⟨rfl, rfl, rfl, by decide +kernel, rfl, by decide +kernel, by decide +kernel⟩
theorem ok__law_gridded {f : Addr} {fd : FuncData} (F : Fun K "_law_gridded" "_law_gridded" s__law_gridded f fd) (hm : mg "_law_gridded" = some (.ref f)) (hb : Binds K fd ["state", "pages"] []) (bl : ∀ x : Str, bnames.contains x = true → mg x = none) {C_Misfit : Addr} (p__law_draw : PfM P w K mg base 1 "_law_draw" 2 c__law_draw) (p_many_up : Pf P w K mg base 1 "many_up" 3 c_many_up) (p__law_full : Pf P w K mg base 1 "_law_full" 1 c__law_full) (p_sheets_for : Pf P w K mg base 1 "sheets_for" 4 c_sheets_for) (p_stack_up : Pf P w K mg base 1 "stack_up" 3 c_stack_up) (p_cut_heap : Pf P w K mg base 1 "cut_heap" 1 c_cut_heap) (p_both_sides : Pf P w K mg base 2 "both_sides" 2 c_both_sides) (p_backs_of : Pf P w K mg base 1 "backs_of" 2 c_backs_of) (p_reversed_sides : Pf P w K mg base 1 "reversed_sides" 1 c_reversed_sides) (p_work_and_turn : Pf P w K mg base 1 "work_and_turn" 2 (c_work_and_turn C_Misfit)) : PfM P w K mg base 3 "_law_gridded" 2 c__law_gridded := by
  refine pf_ofM (k := 2) F sc__law_gridded rfl hm hb bl (len__law_gridded) fun cdv A outer s H G a E d ds kq hc c tk => ?_
  refine ⟨_, (dss_cons (ds_set (i := 2) c rfl (Or.inr rfl) (de_bin od_add de_int.toB (de_callM (i := 0) p__law_draw c (da_cons de_int da_nil)).toB))
      (dss_cons (ds_cut (ds_set (i := 3) c rfl (Or.inl rfl) (de_bin od_add de_int.toB (de_callM (i := 0) p__law_draw c (da_cons de_int da_nil)).toB)))
      (dss_cons (ds_set (i := 4) c rfl (Or.inl rfl) (de_call p_many_up c (da_cons (de_var 1) (da_cons (de_var 2) (da_cons (de_var 3) da_nil)))))
      (dss_cons (ds_set (i := 5) c rfl (Or.inl rfl) (de_tup da_nil))
      (dss_cons (ds_cut (ds_for c (di_seq (de_var 4)) (dg_name (i := 6) c rfl (by first | exact Or.inl rfl | exact Or.inr rfl)) (dss_one (ds_for c (di_seq (de_var 6)) (dg_name (i := 11) c rfl (by first | exact Or.inl rfl | exact Or.inr rfl)) (dss_one (ds_set (i := 5) c rfl (Or.inl rfl) (de_bin od_add (db_var 5) (db_var 11))))))))
      (dss_cons (ds_if (dw_or (dt_cmp (od_ne c) (de_call p__law_full c (da_cons (de_var 5) da_nil)).toB (de_tupRg2 c de_int.toB (de_bin od_add (db_var 1) de_int.toB).toB).toB) (dw_or (dt_cmp (od_ne c) (de_callB cd_len (nb c) PySem.boot_len (dbs_cons (db_var 4) dbs_nil)).toB (de_call p_sheets_for c (da_cons (de_var 1) (da_cons (de_var 2) (da_cons (de_var 3) (da_cons de_bl da_nil))))).toB) (dw_or1 (dt_cmp (od_ne c) (de_call p_sheets_for c (da_cons (de_var 1) (da_cons (de_var 2) (da_cons (de_var 3) (da_cons de_bl da_nil))))).toB (de_bin od_fdiv (de_bin od_add (de_callB cd_len (nb c) PySem.boot_len (dbs_cons (db_var 4) dbs_nil)).toB de_int.toB).toB de_int.toB).toB)))).t (dss_one (ds_ret de_bl)) dss_nil)
      (dss_cons (ds_set (i := 7) c rfl (Or.inl rfl) (de_call p_stack_up c (da_cons (de_var 1) (da_cons (de_var 2) (da_cons (de_var 3) da_nil)))))
      (dss_cons (ds_if (dw_or (dt_cmp (od_ne c) (de_callB cd_len (nb c) PySem.boot_len (dbs_cons (db_var 7) dbs_nil)).toB (de_callB cd_len (nb c) PySem.boot_len (dbs_cons (db_var 4) dbs_nil)).toB) (dw_or1 (dt_cmp (od_ne c) (de_call p__law_full c (da_cons (de_call p_cut_heap c (da_cons (de_var 7) da_nil)) da_nil)).toB (de_tupRg2 c de_int.toB (de_bin od_add (db_var 1) de_int.toB).toB).toB))).t (dss_one (ds_ret de_bl)) dss_nil)
      (dss_cons (ds_cut (ds_set (i := 8) c rfl (Or.inl rfl) (de_cmp (od_eq c) (de_callM (i := 0) p__law_draw c (da_cons de_int da_nil)).toB de_int.toB)))
      (dss_cons (ds_set (i := 9) c rfl (Or.inl rfl) (de_tup da_nil))
      (dss_cons (ds_for c (di_seq (de_call p_both_sides c (da_cons (de_var 4) (da_cons (de_var 8) da_nil)))) (dg_tup (n := 2) c (dgs_cons (dg_name (i := 12) c rfl (by first | exact Or.inl rfl | exact Or.inr rfl)) (dgs_cons (dg_name (i := 13) c rfl (by first | exact Or.inl rfl | exact Or.inr rfl)) dgs_nil))) (dss_one (ds_set (i := 9) c rfl (Or.inl rfl) (de_bin od_add (db_var 9) (de_tup (da_cons (de_var 12) (da_cons (de_call p_backs_of c (da_cons (de_var 13) (da_cons (de_var 8) da_nil))) da_nil))).toB))))
      (dss_cons (ds_if (dw_or (dt_cmp (od_ne c) (de_slice (db_var 9) dp_none (dp_some (de_callB cd_len (nb c) PySem.boot_len (dbs_cons (db_var 4) dbs_nil)).toB)).toB (db_var 4)) (dw_or (dt_cmp (od_ne c) (de_callB cd_len (nb c) PySem.boot_len (dbs_cons (db_var 9) dbs_nil)).toB (de_bin od_mulA de_int.toB (de_bin od_fdiv (de_bin od_add (de_callB cd_len (nb c) PySem.boot_len (dbs_cons (db_var 4) dbs_nil)).toB de_int.toB).toB de_int.toB).toB).toB) (dw_or1 (dt_cmp (od_notin c) (de_slice (db_var 9) (dp_some (de_callB cd_len (nb c) PySem.boot_len (dbs_cons (db_var 4) dbs_nil)).toB) dp_none).toB (df_lst (da_cons (de_tup da_nil) (da_cons (de_tup (da_cons (de_bin od_mulA (de_tup (da_cons (de_bin od_mulA (de_tup (da_cons de_int da_nil)).toB (db_var 2)) da_nil)).toB (db_var 3)) da_nil)) da_nil))).toE.toB)))).t (dss_one (ds_ret de_bl)) dss_nil)
      (dss_cons (ds_if (dw_or (dt_cmp (od_ne c) (de_call p_reversed_sides c (da_cons (de_call p_reversed_sides c (da_cons (de_var 4) da_nil)) da_nil)).toB (db_var 4)) (dw_or1 (dt_cmp (od_ne c) (de_call p_backs_of c (da_cons (de_call p_backs_of c (da_cons (de_ix (db_var 4) de_int.toB) (da_cons (de_var 8) da_nil))) (da_cons (de_var 8) da_nil))).toB (de_ix (db_var 4) de_int.toB).toB))).t (dss_one (ds_ret de_bl)) dss_nil)
      (dss_cons (ds_set (i := 10) c rfl (Or.inl rfl) (de_call p_work_and_turn c (da_cons (de_ix (db_var 4) de_int.toB) (da_cons (de_ix (db_var 4) (de_neg de_int.toB).toB) da_nil))))
      (dss_one (ds_ret (de_and (de_cmp (od_eq c) (de_callT cd_tuple (nb c) boot_tuple (dbs_cons (df_lc (own := [("row", 11)]) c (di_seq (de_var 10)) rfl (fun _ _ _ _ _ _ _ c => (dg_name (i := 11) c rfl (by first | exact Or.inl rfl | exact Or.inr rfl))) (fun _ _ _ _ _ _ _ c => dts_nil) (fun _ _ _ _ _ _ _ c => (de_slice (db_var 11) dp_none (dp_some (db_var 2))))).toE.toB dbs_nil)).toB (de_ix (db_var 4) de_int.toB).toB) (de_one (de_cmp (od_eq c) (de_callT cd_tuple (nb c) boot_tuple (dbs_cons (df_lc (own := [("row", 11)]) c (di_seq (de_var 10)) rfl (fun _ _ _ _ _ _ _ c => (dg_name (i := 11) c rfl (by first | exact Or.inl rfl | exact Or.inr rfl))) (fun _ _ _ _ _ _ _ c => dts_nil) (fun _ _ _ _ _ _ _ c => (de_slice (db_var 11) (dp_some (db_var 2)) dp_none))).toE.toB dbs_nil)).toB (de_ix (db_var 4) (de_neg de_int.toB).toB).toB))))))))))))))))))), ?_⟩
  obtain ⟨N, rfl, h1, h2, hst, hq⟩ := hc
  walk_at "r"
  refine ⟨4, rfl, by decide, by decide, hst, fun r1 d1 a1 a2 hst => ?_⟩
  walk_at "r"
  refine ⟨fun ρ => ∃ (d : D) (A Dn : Nat), isSt d ∧ 1 ≤ A ∧ A ≤ 4 ∧ 1 ≤ Dn ∧ Dn ≤ 4 ∧ ρ = .own d :: .val (nI N) :: .val (nI A) :: .val (nI Dn) :: List.replicate 10 .non, ?_, ?_⟩
  · walk_at "r"
    refine ⟨4, rfl, by decide, by decide, hst, fun r2 d2 a3 a4 hst => ?_⟩
    obtain ⟨A, e0, f0⟩ : ∃ n : Nat, 1 + r1 = n ∧ 1 ≤ n ∧ n ≤ 4 := ⟨(1 + r1).toNat, by omega, by omega, by omega⟩
    obtain ⟨Dn, e1, f1⟩ : ∃ n : Nat, 1 + r2 = n ∧ 1 ≤ n ∧ n ≤ 4 := ⟨(1 + r2).toNat, by omega, by omega, by omega⟩
    walk_at "r"
    rw [e0, e1]
    exact ⟨d2, A, Dn, hst, f0.1, f0.2, f1.1, f1.2, rfl⟩
  rintro ρ ⟨d, A, Dn, hst, b1, b2, b3, b4, rfl⟩
  have hG := G_of h1 h2 b1 b2 b3 b4
  unfold okG at hG
  rw [Bool.and_eq_true] at hG
  have hG1 := eq_of_beq hG.1
  have hG2 := eq_of_beq hG.2
  have hml := mu_len N A Dn
  have hsl := su_len N A Dn
  have hmr := mu_rect N A Dn
  have hsr := su_rect N A Dn
  have hz : 1 ≤ A * Dn := Nat.mul_pos b1 b3
  have hz16 : A * Dn ≤ 16 := Nat.mul_le_mul b2 b4
  have hc1 := cei_pos h1 hz
  have hc2 := cei_le N (A * Dn) hz
  have hc3 := cei_two N (A * Dn) hz
  have hfl := rect_flat hmr
  have hcF : cei N (A * Dn * (if (false : Bool) = true then 2 else 1)) = cei N (A * Dn) := by simp
  have hcT : cei N (A * Dn * (if (true : Bool) = true then 2 else 1)) = (cei N (A * Dn) + 1) / 2 := hc3
  walk_at "r"
  refine ⟨N, A, Dn, rfl, by omega, by omega, by omega, by omega, by omega, ?_⟩
  generalize mu N A Dn = G at *
  obtain ⟨S, hSE⟩ : ∃ S, su N A Dn = S := ⟨_, rfl⟩
  rw [hSE] at hG2 hsl hsr
  generalize cei N (A * Dn) = C at *
  walk_at "r"
  refine ⟨fun ρ => ∃ (a b : Sl), ρ = .own d :: .val (nI N) :: .val (nI A) :: .val (nI Dn) :: .val (encG G) :: .val (encN (flatG G)) :: a :: .non :: .non :: .non :: .non :: b :: .non :: .non :: [], ?_, ?_⟩
  · refine ⟨fun r ρ => ∃ (done rest : List Side) (a b : Sl), G = done ++ rest ∧ r = rest.map encR ∧ ρ = .own d :: .val (nI N) :: .val (nI A) :: .val (nI Dn) :: .val (encG G) :: .val (encN (flatG done)) :: a :: .non :: .non :: .non :: .non :: b :: .non :: .non :: [], ?_, ?_, ?_⟩
    · exact ⟨[], G, _, _, rfl, rfl, rfl⟩
    · rintro x r ρ ⟨done, rest, a, b, e1, e2, rfl⟩
      obtain ⟨s, rest, rfl, rfl, rfl⟩ := map_cons' e2
      walk_at "r"
      refine ⟨fun r ρ => ∃ (done2 rest2 : List (List Nat)) (b : Sl), s = done2 ++ rest2 ∧ r = rest2.map encN ∧ ρ = .own d :: .val (nI N) :: .val (nI A) :: .val (nI Dn) :: .val (encG G) :: .val (encN (flatG done ++ done2.flatMap id)) :: .val (encR s) :: .non :: .non :: .non :: .non :: b :: .non :: .non :: [], ?_, ?_, ?_⟩
      · exact ⟨[], s, _, rfl, rfl, by simp; rfl⟩
      · rintro x r ρ ⟨done2, rest2, b, k1, k2, rfl⟩
        obtain ⟨t, rest2, rfl, rfl, rfl⟩ := map_cons' k2
        walk_at "r"
        have hS : (flatG (done ++ s :: rest)).length = (flatG done).length + ((done2.flatMap id).length + (t.length + ((rest2.flatMap id).length + (flatG rest).length))) := by unfold flatG; rw [k1]; simp
        rw [← e1, hfl] at hS
        have hb : G.length * (Dn * A) ≤ 60 * 16 := Nat.mul_le_mul (by omega) (by rw [Nat.mul_comm]; exact hz16)
        refine ⟨by simp only [List.length_map, List.length_append]; omega, ?_⟩
        have e3 : (flatG done ++ done2.flatMap id) ++ t = flatG done ++ (done2 ++ [t]).flatMap id := by rw [List.flatMap_append, List.append_assoc]; simp
        walk_at "r"
        rw [← List.map_append, e3]
        exact ⟨done2 ++ [t], rest2, _, by rw [k1]; simp, rfl, rfl⟩
      · rintro ρ ⟨done2, rest2, b, k1, k2, rfl⟩
        have k2 := map_nil' k2
        subst k2
        rw [List.append_nil] at k1
        subst k1
        have e3 : flatG (done ++ [s]) = flatG done ++ s.flatMap id := by unfold flatG; simp
        rw [← e3]
        exact ⟨done ++ [s], rest, _, _, by rw [e1]; simp, rfl, rfl⟩
    · rintro ρ ⟨done, rest, a, b, e1, e2, rfl⟩
      have e2 := map_nil' e2
      subst e2
      rw [List.append_nil] at e1
      subst e1
      exact ⟨_, _, rfl⟩
  rintro ρ ⟨sa, sb, rfl⟩
  have hGC : G.length * (Dn * A) ≤ 60 * 16 := Nat.mul_le_mul (by omega) (by rw [Nat.mul_comm]; exact hz16)
  walk_at "r"
  refine ⟨flatG G, rfl, by omega, ?_⟩
  rw [hG1]
  walk_at "r"
  refine ⟨⟨by omega, by omega, by omega, by omega, by omega⟩, ?_⟩
  rw [show ((N : Int) + 1 - 1).toNat = N by omega, rg_one]
  refine ⟨dep_N 18 _, dep_N 18 _, ?_⟩
  walk_at "r"
  refine brn.ff (ne_same rfl (dep_N 18 _)) ?_
  walk_at "r"
  refine ⟨N, A, Dn, false, rfl, by omega, by omega, by omega, by omega, by omega, ?_⟩
  rw [hcF]
  walk_at "r"
  refine brn.ff (ne_same (d := .int (((G.map encR).length : Nat) : Int)) (e := nI C) (by rw [List.length_map, hml]; rfl) rfl) ?_
  walk_at "r"
  refine ⟨N, A, Dn, true, rfl, by omega, by omega, by omega, by omega, by omega, ?_⟩
  rw [hcT]
  walk_at "r"
  refine brn.ff (ne_same (d := nI ((C + 1) / 2)) (e := .int (((((G.map encR).length : Nat) : Int) + 1).fdiv 2)) (by rw [List.length_map, hml, Int.fdiv_eq_ediv_of_nonneg _ (by decide)]; unfold nI; congr 1) rfl) ?_
  walk_at "r"
  refine ⟨N, A, Dn, rfl, by omega, by omega, by omega, by omega, by omega, ?_⟩
  rw [hSE]
  have hcl := cut_len S A Dn
  have hcl2 : Dn * (A * S.length) ≤ 4 * (4 * 60) := Nat.mul_le_mul b4 (Nat.mul_le_mul b2 (by omega))
  have hSn : S ≠ [] := fun z => by rw [z] at hsl; simp at hsl; omega
  walk_at "r"
  refine brn.ff (ne_same (d := .int (((S.map encR).length : Nat) : Int)) (e := .int (((G.map encR).length : Nat) : Int)) (by rw [List.length_map, List.length_map, hsl, hml]) rfl) ?_
  walk_at "r"
  refine ⟨S, A, Dn, rfl, hSn, hsr, b3, by omega, by omega, by omega, ?_⟩
  walk_at "r"
  refine ⟨cut S A Dn, rfl, by omega, ?_⟩
  rw [hG2]
  walk_at "r"
  refine ⟨⟨by omega, by omega, by omega, by omega, by omega⟩, ?_⟩
  rw [show ((N : Int) + 1 - 1).toNat = N by omega, rg_one]
  refine ⟨dep_N 18 _, dep_N 18 _, ?_⟩
  walk_at "r"
  refine brn.ff (ne_same rfl (dep_N 18 _)) ?_
  walk_at "r"
  refine ⟨fun ρ => ∃ (d : D) (b : Bool), isSt d ∧ ρ = .own d :: .val (nI N) :: .val (nI A) :: .val (nI Dn) :: .val (encG G) :: .val (encN (flatG G)) :: sa :: .val (encG S) :: .val (.bool b) :: .non :: .non :: sb :: .non :: .non :: [], ?_, ?_⟩
  · walk_at "r"
    refine ⟨2, rfl, by decide, by decide, hst, fun r2 d2 a3 a4 hst => ?_⟩
    walk_at "r"
    exact ⟨_, _, hst, rfl⟩
  rintro ρ ⟨d, b, hst, rfl⟩
  have hGn : G ≠ [] := fun z => by rw [z] at hml; simp at hml; omega
  obtain ⟨s0, G', hG'⟩ : ∃ s0 G', G = s0 :: G' := by
    cases G with
    | nil => exact absurd rfl hGn
    | cons a b => exact ⟨a, b, rfl⟩
  have h0 := hmr s0 (by rw [hG']; simp)
  have hbl := blank_rect h0.1 h0.2
  have hpl := prs_len (blankS s0) G
  have hpf := prs_flat (blankS s0) G
  have hpm := mem_prs (bl := blankS s0) (P := fun s => s.length = Dn) (by rw [hbl, List.length_replicate]) fun s hs => (hmr s hs).1
  have hhd : G.headD [] = s0 := by rw [hG']; rfl
  walk_at "r"
  refine ⟨G, b, rfl, hGn, by omega, fun s hs => ⟨by rw [(hmr s hs).1]; omega, fun r hr => by rw [(hmr s hs).2 r hr]; omega⟩, ?_⟩
  rw [hhd]
  generalize hPR : prs (blankS s0) G = PR at *
  walk_at "r"
  refine ⟨fun r ρ => ∃ (done rest : List (Side × Side)) (x y : Sl), PR = done ++ rest ∧ r = rest.map (encBS b) ∧ ρ = .own d :: .val (nI N) :: .val (nI A) :: .val (nI Dn) :: .val (encG G) :: .val (encN (flatG G)) :: sa :: .val (encG S) :: .val (.bool b) :: .val (encG (done.flatMap fun p => [p.1, p.2])) :: .non :: sb :: x :: y :: [], ?_, ?_, ?_⟩
  · exact ⟨[], PR, _, _, rfl, rfl, rfl⟩
  · rintro x r ρ ⟨done, rest, x1, x2, e1, e2, rfl⟩
    obtain ⟨⟨p, q⟩, rest, rfl, rfl, rfl⟩ := map_cons' e2
    have hq2 : q.length = Dn := (hpm (p, q) (by rw [e1]; simp)).2
    have hbq : (bko b q).length = q.length := by cases b <;> simp [bko]
    have hdl : (done.flatMap fun p => [p.1, p.2]).length = 2 * done.length := by
      clear hpl hpf hpm e1 e2 hPR
      induction done with
      | nil => rfl
      | cons x xs ih => rw [List.flatMap_cons, List.length_append, ih, List.length_cons]; simp; omega
    have hdn : done.length ≤ 60 := by rw [e1] at hpl; simp at hpl; omega
    walk_at "r"
    refine ⟨bko b q, b, rfl, by rw [hbq]; omega, ?_⟩
    rw [bko_bko]
    walk_at "r"
    refine ⟨by rw [List.length_map, hdl]; simp; omega, ?_⟩
    have e3 : (done.flatMap fun p => [p.1, p.2]).map encR ++ [encR p, encR q] = ((done ++ [(p, q)]).flatMap fun p => [p.1, p.2]).map encR := by rw [List.flatMap_append, List.map_append]; rfl
    walk_at "r"
    rw [e3]
    exact ⟨done ++ [(p, q)], rest, _, _, by rw [e1]; simp, rfl, rfl⟩
  · rintro ρ ⟨done, rest, x1, x2, e1, e2, rfl⟩
    have e2 := map_nil' e2
    subst e2
    rw [List.append_nil] at e1
    subst e1
    rw [hpf]
    walk_at "r"
    rw [List.length_map, cut_to, List.map_append, List.take_left' (List.length_map _)]
    refine ⟨dep_G 16 _, dep_G 16 _, ?_⟩
    walk_at "r"
    refine brn.ff (ne_same rfl (dep_G 16 G)) ?_
    have hol : (oddT (blankS s0) G).length = G.length % 2 := by unfold oddT; split <;> rename_i z <;> simp <;> omega
    have e4 : ((((G ++ oddT (blankS s0) G).map encR).length : Nat) : Int) = 2 * ((((G.length + 1) / 2 : Nat)) : Int) := by rw [List.length_map, List.length_append, hol]; omega
    have e5 : (((G.map encR).length : Nat) : Int) + 1 = ((G.length + 1 : Nat) : Int) := by rw [List.length_map]; omega
    walk_at "r"
    rw [e4, e5]
    refine brn.ff (ne_same (d := .int (2 * ((((G.length + 1) / 2 : Nat)) : Int))) (e := .int (2 * (((G.length + 1 : Nat) : Int).fdiv 2))) (by rw [Int.fdiv_eq_ediv_of_nonneg _ (by decide)]; congr 1) rfl) ?_
    walk_at "r"
    rw [List.length_map, cut_from, List.map_append, List.drop_left' (List.length_map _)]
    walk_at "r"
    have z1 : (List.replicate ((A : Int)).toNat [PyData.int 0]).flatten = (List.replicate A 0).map nI := by rw [Int.toNat_natCast, List.map_replicate]; simp [nI]
    have z2 : (List.replicate ((Dn : Int)).toNat [encN (List.replicate A 0)]).flatten = (blankS s0).map encN := by rw [Int.toNat_natCast, hbl, List.map_replicate]; simp
    refine ⟨⟨by omega, by omega, by decide⟩, ?_⟩
    rw [z1]
    walk_at "r"
    refine ⟨⟨by omega, by omega, by simp⟩, ?_⟩
    rw [show PyData.tuple ((List.replicate A 0).map nI) = encN (List.replicate A 0) from rfl, z2]
    walk_at "r"
    have z3 : (!([PyData.tuple [], PyData.tuple [PyData.tuple ((blankS s0).map encN)]].any fun z => PyData.eqv z (encG (oddT (blankS s0) G)))) = false := by
      unfold oddT
      split
      · have := eq_same (d := encG [blankS s0]) rfl (dep_G 16 [blankS s0])
        rw [List.any_cons, List.any_cons, show PyData.eqv (PyData.tuple [PyData.tuple ((blankS s0).map encN)]) (encG [blankS s0]) = true from this]
        simp
      · rfl
    refine ⟨dep_G 16 _, ?_, ?_⟩
    · have := dep_G 15 [blankS s0]
      show (dep 19 (PyData.tuple []) && (dep 19 (encG [blankS s0]) && true)) = true
      rw [this]
      rfl
    refine brn.ff z3 ?_
    walk_at "r"
    refine ⟨G, rfl, ?_⟩
    walk_at "r"
    refine ⟨G.reverse, rfl, ?_⟩
    rw [List.reverse_reverse]
    walk_at "r"
    refine ⟨dep_G 16 _, dep_G 16 _, ?_⟩
    walk_at "r"
    refine brn.ff (ne_same rfl (dep_G 16 G)) ?_
    have g0 : L2.atI (G.map encR) 0 = some (encR s0) := by rw [hG']; exact at_0 _ _
    walk_at "r"
    rw [g0]
    walk_at "r"
    have hbs : (bko b s0).length = s0.length := by cases b <;> simp [bko]
    refine ⟨s0, b, rfl, by omega, ?_⟩
    walk_at "r"
    refine ⟨bko b s0, b, rfl, by omega, ?_⟩
    rw [bko_bko]
    walk_at "r"
    rw [g0]
    walk_at "r"
    refine ⟨dep_R 17 _, dep_R 17 _, ?_⟩
    walk_at "r"
    refine brn.ff (ne_same rfl (dep_R 17 s0)) ?_
    obtain ⟨sl, hsl1, hsl2⟩ : ∃ sl, G.getLast? = some sl ∧ sl ∈ G := by
      cases hx : G.getLast? with
      | none => exact absurd (List.getLast?_eq_none_iff.mp hx) hGn
      | some sl => exact ⟨sl, rfl, List.mem_of_getLast? hx⟩
    have gl : L2.atI (G.map encR) (-1) = some (encR sl) := by
      have := at_neg (G.map encR) 0 (by rw [List.length_map]; omega)
      rw [show (-1 : Int) = -((0 + 1 : Nat) : Int) from rfl, this, ← List.getLast?_eq_getElem?, List.getLast?_map, hsl1]
      rfl
    have hl0 := hmr sl hsl2
    walk_at "r"
    rw [g0]
    walk_at "r"
    rw [gl]
    walk_at "r"
    refine ⟨s0, sl, rfl, by rw [h0.1, hl0.1], by omega, fun r hr => by rw [h0.2 r hr]; omega, fun r hr => by rw [hl0.2 r hr]; omega, ?_⟩
    have w1 := wat_take (A := A) (s := s0) (t := sl) (by rw [h0.1, hl0.1]) h0.2
    have w2 := wat_drop (A := A) (s := s0) (t := sl) (by rw [h0.1, hl0.1]) h0.2
    have w3 := wat_len (s := s0) (t := sl) (by rw [h0.1, hl0.1])
    generalize wat s0 sl = wt at *
    walk_at "r"
    refine lc_map [.own d, .val (nI N), .val (nI A), .val (nI Dn), .val (encG G), .val (encN (flatG G)), sa, .val (encG S), .val (.bool b), .val (encG (G ++ oddT (blankS s0) G)), .val (encR wt), .non, x1, x2] rfl wt encN (fun r => encN (r.take A)) rfl (by omega) ?_ ?_
    · intro r hr G0 H0 K1 hK
      walk_at "r"
      rw [cut_to, ← List.map_take]
      exact hK _ rfl
    have w1' : wt.map (fun r => encN (r.take A)) = s0.map encN := by conv => rhs; rw [← w1]
                                                                     rw [List.map_map]; rfl
    have w2' : wt.map (fun r => encN (r.drop A)) = sl.map encN := by conv => rhs; rw [← w2]
                                                                     rw [List.map_map]; rfl
    rw [w1']
    walk_at "r"
    rw [g0]
    walk_at "r"
    refine ⟨dep_R 17 s0, dep_R 17 s0, ?_⟩
    walk_at "r"
    rw [show PyData.eqv (.tuple (s0.map encN)) (encR s0) = true from eq_same rfl (dep_R 17 s0)]
    walk_at "r"
    refine lc_map [.own d, .val (nI N), .val (nI A), .val (nI Dn), .val (encG G), .val (encN (flatG G)), sa, .val (encG S), .val (.bool b), .val (encG (G ++ oddT (blankS s0) G)), .val (encR wt), .non, x1, x2] rfl wt encN (fun r => encN (r.drop A)) rfl (by omega) ?_ ?_
    · intro r hr G0 H0 K1 hK
      walk_at "r"
      rw [cut_from, ← List.map_drop]
      exact hK _ rfl
    rw [w2']
    walk_at "r"
    rw [gl]
    walk_at "r"
    refine ⟨dep_R 17 sl, dep_R 17 sl, ?_⟩
    walk_at "r"
    rw [show PyData.eqv (.tuple (sl.map encN)) (encR sl) = true from eq_same rfl (dep_R 17 sl)]
    exact hq _ hst
end
end K19
namespace K19
open PySem PySem.Spec PyProof.Rows L2 Dn
local macro_rules | `(tactic| walk_at "r") => `(tactic| ((conv => whnf); (repeat ((first | refine And.intro rfl ?_ | refine And.intro cm_l ?_ | refine And.intro cm_r ?_ | refine And.intro (by decide) ?_ | refine And.intro (cdv_lt (a := 64) (by decide) (by decide)) ?_ | refine And.intro (by omega) ?_); (conv => whnf)))))
theorem fit_iff {n p g s : Nat} (h : 1 ≤ n) (hp : 1 ≤ p) : (n : Int) * (p : Int) + ((n : Int) - 1) * (g : Int) ≤ (s : Int) ↔ n ≤ (s + g) / (p + g) := by
  rw [Nat.le_div_iff_mul_le (by omega), Nat.mul_add, Int.sub_mul, Int.one_mul]
  have e1 : (n : Int) * (p : Int) = ((n * p : Nat) : Int) := by rw [Int.natCast_mul]
  have e2 : (n : Int) * (g : Int) = ((n * g : Nat) : Int) := by rw [Int.natCast_mul]
  rw [e1, e2]
  omega
theorem plL_neg {n p g s : Nat} : plL s p n g < 0 ↔ ¬ (n : Int) * (p : Int) + ((n : Int) - 1) * (g : Int) ≤ (s : Int) := by
  unfold plL
  rw [Int.fdiv_eq_ediv_of_nonneg _ (by decide)]
  generalize (n : Int) * (p : Int) = u
  generalize ((n : Int) - 1) * (g : Int) = v
  omega
theorem plR_len (L T : Int) (p0 p1 A Dn g : Nat) : (plR L T p0 p1 A Dn g).length = Dn * A := by
  unfold plR
  have : ∀ (n : Nat) (f : Nat → List (Int × Int)), (∀ r, (f r).length = A) → ((List.range n).flatMap f).length = n * A := by
    intro n f hf
    induction n with
    | zero => simp
    | succ n ih => rw [List.range_succ, List.flatMap_append, List.length_append, ih, Nat.succ_mul]; simp [hf]
  exact this Dn _ fun r => by simp
theorem fm_get {α : Type} {A : Nat} {f : Nat → List α} (hf : ∀ r, (f r).length = A) : ∀ (n r c : Nat), r < n → c < A → ((List.range n).flatMap f)[r * A + c]? = (f r)[c]? := by
  have hl : ∀ n, ((List.range n).flatMap f).length = n * A := by
    intro n
    induction n with
    | zero => simp
    | succ n ih => rw [List.range_succ, List.flatMap_append, List.length_append, ih, Nat.succ_mul]; simp [hf]
  intro n
  induction n with
  | zero => intro r c h; omega
  | succ n ih =>
    intro r c hr hc
    rw [List.range_succ, List.flatMap_append]
    by_cases e : r < n
    · rw [List.getElem?_append_left, ih r c e hc]
      rw [hl]
      have := Nat.mul_le_mul_right A (show r + 1 ≤ n by omega)
      rw [Nat.succ_mul] at this
      omega
    · have e : r = n := by omega
      subst e
      rw [List.getElem?_append_right (by rw [hl]; omega), hl, Nat.add_sub_cancel_left]
      simp
theorem plR_get {L T : Int} {p0 p1 A Dn g r c : Nat} (hr : r < Dn) (hc : c < A) : (plR L T p0 p1 A Dn g)[r * A + c]? = some (L + (c : Int) * ((p0 : Int) + (g : Int)), T + (r : Int) * ((p1 : Int) + (g : Int))) := by
  unfold plR
  rw [fm_get (A := A) (fun r => by simp) Dn r c hr hc, List.getElem?_map, List.getElem?_range hc]
  rfl
theorem pl_room {s p A g c : Nat} (h : 0 ≤ plL s p A g) (hc : c < A) : 0 ≤ plL s p A g + (c : Int) * ((p : Int) + (g : Int)) ∧ plL s p A g + (c : Int) * ((p : Int) + (g : Int)) + (p : Int) ≤ (s : Int) := by
  have h0 : 0 ≤ (c : Int) * ((p : Int) + (g : Int)) := Int.mul_nonneg (by omega) (by omega)
  have h1 : (c : Int) * ((p : Int) + (g : Int)) ≤ ((A : Int) - 1) * ((p : Int) + (g : Int)) := Int.mul_le_mul_of_nonneg_right (by omega) (by omega)
  have h2 : ((A : Int) - 1) * ((p : Int) + (g : Int)) + (p : Int) = (A : Int) * (p : Int) + ((A : Int) - 1) * (g : Int) := by rw [Int.mul_add, Int.sub_mul ((A : Int)) 1 (p : Int)]; omega
  unfold plL at *
  rw [Int.fdiv_eq_ediv_of_nonneg _ (by decide)] at *
  generalize (A : Int) * (p : Int) = u at *
  generalize ((A : Int) - 1) * (g : Int) = v at *
  generalize (c : Int) * ((p : Int) + (g : Int)) = x at *
  generalize ((A : Int) - 1) * ((p : Int) + (g : Int)) = y at *
  omega
def c__law_grid : DCM := fun d ds Q => ds = [] ∧ isSt d ∧ ∀ d', isSt d' → Q (.bool true) d'
theorem len__law_grid : ∀ d ds kq, c__law_grid d ds kq → ds.length = 0 := by rintro _ _ _ ⟨rfl, _⟩; rfl
section
variable {P : Program} {w : World} {K : PySem.W.Frag} {mg : Str → Option Value} {base : Heap}
abbrev s__law_grid : Stmt := topS 34
theorem sc__law_grid : FnScope ["state", "sheet", "page", "gap", "size", "k", "places", "across", "down", "turned", "one", "two", "fits", "told", "left", "top"] ["state"] (defScope s__law_grid) := ⟨rfl, rfl, rfl, by decide +kernel, rfl, by decide +kernel, by decide +kernel⟩
theorem ok__law_grid {f : Addr} {fd : FuncData} (F : Fun K "_law_grid" "_law_grid" s__law_grid f fd) (hm : mg "_law_grid" = some (.ref f)) (hb : Binds K fd ["state"] []) (bl : ∀ x : Str, bnames.contains x = true → mg x = none) (p__law_draw : PfM P w K mg base 1 "_law_draw" 2 c__law_draw) (p_best_grid : Pf P w K mg base 1 "best_grid" 3 c_best_grid) (p__law_places : Pf P w K mg base 2 "_law_places" 4 c__law_places) (p__law_poster : PfM P w K mg base 3 "_law_poster" 2 c__law_poster) : PfM P w K mg base 4 "_law_grid" 1 c__law_grid := by
  refine pf_ofM (k := 3) F sc__law_grid rfl hm hb bl (len__law_grid) fun cdv A outer s H G a E d ds kq hc c tk => ?_
  refine ⟨_, (dss_cons (ds_set (i := 1) c rfl (Or.inl rfl) (de_tup (da_cons (de_bin od_add de_int.toB (de_callM (i := 0) p__law_draw c (da_cons de_int da_nil)).toB) (da_cons (de_bin od_add de_int.toB (de_callM (i := 0) p__law_draw c (da_cons de_int da_nil)).toB) da_nil))))
      (dss_cons (ds_set (i := 2) c rfl (Or.inl rfl) (de_tup (da_cons (de_bin od_add de_int.toB (de_callM (i := 0) p__law_draw c (da_cons de_int da_nil)).toB) (da_cons (de_bin od_add de_int.toB (de_callM (i := 0) p__law_draw c (da_cons de_int da_nil)).toB) da_nil))))
      (dss_cons (ds_cut (ds_set (i := 3) c rfl (Or.inl rfl) (de_callM (i := 0) p__law_draw c (da_cons de_int da_nil))))
      (dss_cons (ds_cut (ds_asg (de_call p_best_grid c (da_cons (de_var 1) (da_cons (de_var 2) (da_cons (de_var 3) da_nil)))) (dg_tup (n := 3) c (dgs_cons (dg_name (i := 7) c rfl (by first | exact Or.inl rfl | exact Or.inr rfl)) (dgs_cons (dg_name (i := 8) c rfl (by first | exact Or.inl rfl | exact Or.inr rfl)) (dgs_cons (dg_name (i := 9) c rfl (by first | exact Or.inl rfl | exact Or.inr rfl)) dgs_nil))))))
      (dss_cons (ds_cut (ds_set (i := 4) c rfl (Or.inl rfl) (de_if (dt_tru (db_var 9)) (de_tup (da_cons (de_ix (db_var 2) de_int.toB) (da_cons (de_ix (db_var 2) de_int.toB) da_nil))) (de_var 2))))
      (dss_cons (ds_for c (di_range1 (nb c) (dbs_cons de_int.toB dbs_nil)) (dg_name (i := 5) c rfl (by first | exact Or.inl rfl | exact Or.inr rfl)) (dss_cons (ds_set (i := 10) c rfl (Or.inl rfl) (de_bin od_add de_int.toB (de_callM (i := 0) p__law_draw c (da_cons de_int da_nil)).toB))
        (dss_cons (ds_set (i := 11) c rfl (Or.inl rfl) (de_bin od_add de_int.toB (de_callM (i := 0) p__law_draw c (da_cons de_int da_nil)).toB))
        (dss_cons (ds_cut (ds_set (i := 12) c rfl (Or.inl rfl) (de_and (de_cmp od_le (de_bin od_add (de_bin od_mulA (db_var 10) (de_ix (db_var 2) de_int.toB).toB).toB (de_bin od_mulA (de_bin od_sub (db_var 10) de_int.toB).toB (db_var 3)).toB).toB (de_ix (db_var 1) de_int.toB).toB) (de_one (de_cmp od_le (de_bin od_add (de_bin od_mulA (db_var 11) (de_ix (db_var 2) de_int.toB).toB).toB (de_bin od_mulA (de_bin od_sub (db_var 11) de_int.toB).toB (db_var 3)).toB).toB (de_ix (db_var 1) de_int.toB).toB)))))
        (dss_cons (ds_cut (ds_if (dw_and (dt_tru (db_var 12)) (dw_and1 (dt_cmp od_gt (de_bin od_mulA (db_var 10) (db_var 11)).toB (de_bin od_mulA (db_var 7) (db_var 8)).toB))).t (dss_one (ds_ret de_bl)) dss_nil))
        (dss_cons (ds_set (i := 13) c rfl (Or.inl rfl) (de_call p__law_places c (da_cons (de_var 1) (da_cons (de_var 2) (da_cons (de_tup (da_cons (de_var 10) (da_cons (de_var 11) da_nil))) (da_cons (de_var 3) da_nil))))))
        (dss_one (ds_if (dt_cmp (od_eq c) (de_cmp od_is (db_var 13) de_non.toB).toB (db_var 12)) (dss_one (ds_ret de_bl)) dss_nil))))))))
      (dss_cons (ds_if (dt_cmp (od_eq c) (de_bin od_mulA (db_var 7) (db_var 8)).toB de_int.toB) (dss_one (ds_ret de_bl)) dss_nil)
      (dss_cons (ds_set (i := 6) c rfl (Or.inl rfl) (de_call p__law_places c (da_cons (de_var 1) (da_cons (de_var 4) (da_cons (de_tup (da_cons (de_var 7) (da_cons (de_var 8) da_nil))) (da_cons (de_var 3) da_nil))))))
      (dss_cons (ds_if (dw_or (dt_cmp od_is (db_var 6) de_non.toB) (dw_or1 (dt_cmp (od_ne c) (de_callB cd_len (nb c) PySem.boot_len (dbs_cons (db_var 6) dbs_nil)).toB (de_bin od_mulA (db_var 7) (db_var 8)).toB))).t (dss_one (ds_ret de_bl)) dss_nil)
      (dss_cons (ds_for c (di_range1 (nb c) (dbs_cons (de_callB cd_len (nb c) PySem.boot_len (dbs_cons (db_var 6) dbs_nil)).toB dbs_nil)) (dg_name (i := 5) c rfl (by first | exact Or.inl rfl | exact Or.inr rfl)) (dss_cons (ds_asg (de_ix (db_var 6) (db_var 5)) (dg_tup (n := 2) c (dgs_cons (dg_name (i := 14) c rfl (by first | exact Or.inl rfl | exact Or.inr rfl)) (dgs_cons (dg_name (i := 15) c rfl (by first | exact Or.inl rfl | exact Or.inr rfl)) dgs_nil))))
        (dss_cons (ds_if (dw_or (dt_cmp (od_ltA c) (db_var 14) de_int.toB) (dw_or (dt_cmp (od_ltA c) (db_var 15) de_int.toB) (dw_or (dt_cmp od_gt (de_bin od_add (db_var 14) (de_ix (db_var 4) de_int.toB).toB).toB (de_ix (db_var 1) de_int.toB).toB) (dw_or1 (dt_cmp od_gt (de_bin od_add (db_var 15) (de_ix (db_var 4) de_int.toB).toB).toB (de_ix (db_var 1) de_int.toB).toB))))).t (dss_one (ds_ret de_bl)) dss_nil)
        (dss_one (ds_if (dw_and (dt_cmp (od_ne c) (de_bin od_mod (de_callT cd_int (nb c) boot_int (dbs_cons (de_bin od_add (db_var 5) de_int.toB).toB dbs_nil)).toB (db_var 7)).toB de_int.toB) (dw_and1 (dt_cmp (od_ne c) (de_ix (db_var 6) (de_bin od_add (db_var 5) de_int.toB).toB).toB (de_tup (da_cons (de_bin od_add (de_bin od_add (db_var 14) (de_ix (db_var 4) de_int.toB).toB).toB (db_var 3)) (da_cons (de_var 15) da_nil))).toB))).t (dss_one (ds_ret de_bl)) dss_nil)))))
      (dss_one (ds_ret (de_callM (i := 0) p__law_poster c (da_cons (de_var 1) da_nil)))))))))))))), ?_⟩
  obtain ⟨rfl, hst, hq⟩ := hc
  walk_at "r"
  refine ⟨30, rfl, by decide, by decide, hst, fun r1 d1 a1 a2 hst => ?_⟩
  walk_at "r"
  refine ⟨30, rfl, by decide, by decide, hst, fun r2 d2 a3 a4 hst => ?_⟩
  walk_at "r"
  refine ⟨9, rfl, by decide, by decide, hst, fun r3 d3 a5 a6 hst => ?_⟩
  walk_at "r"
  refine ⟨9, rfl, by decide, by decide, hst, fun r4 d4 a7 a8 hst => ?_⟩
  walk_at "r"
  refine ⟨fun ρ => ∃ (d : D) (s0 s1 p0 p1 g : Nat), isSt d ∧ 10 ≤ s0 ∧ s0 ≤ 39 ∧ 10 ≤ s1 ∧ s1 ≤ 39 ∧ 3 ≤ p0 ∧ p0 ≤ 11 ∧ 3 ≤ p1 ∧ p1 ≤ 11 ∧ g ≤ 3 ∧ ρ = .own d :: .val (pr s0 s1) :: .val (pr p0 p1) :: .val (nI g) :: List.replicate 12 .non, ?_, ?_⟩
  · walk_at "r"
    refine ⟨4, rfl, by decide, by decide, hst, fun r5 d5 a9 a10 hst => ?_⟩
    obtain ⟨s0, e0, f0⟩ : ∃ n : Nat, 10 + r1 = n ∧ 10 ≤ n ∧ n ≤ 39 := ⟨(10 + r1).toNat, by omega, by omega, by omega⟩
    obtain ⟨s1, e1, f1⟩ : ∃ n : Nat, 10 + r2 = n ∧ 10 ≤ n ∧ n ≤ 39 := ⟨(10 + r2).toNat, by omega, by omega, by omega⟩
    obtain ⟨p0, e2, f2⟩ : ∃ n : Nat, 3 + r3 = n ∧ 3 ≤ n ∧ n ≤ 11 := ⟨(3 + r3).toNat, by omega, by omega, by omega⟩
    obtain ⟨p1, e3, f3⟩ : ∃ n : Nat, 3 + r4 = n ∧ 3 ≤ n ∧ n ≤ 11 := ⟨(3 + r4).toNat, by omega, by omega, by omega⟩
    obtain ⟨g, rfl, f4⟩ : ∃ n : Nat, r5 = n ∧ n ≤ 3 := ⟨r5.toNat, by omega, by omega⟩
    rw [e0, e1, e2, e3]
    exact ⟨d5, s0, s1, p0, p1, g, hst, f0.1, f0.2, f1.1, f1.2, f2.1, f2.2, f3.1, f3.2, f4, rfl⟩
  rintro ρ ⟨d, s0, s1, p0, p1, g, hst, f1, f2, f3, f4, f5, f6, f7, f8, f9, rfl⟩
  have k0 : bgA s0 s1 p0 p1 g ≤ 50 := Nat.le_trans (Nat.div_le_self _ _) (by omega)
  have k1 : bgD s0 s1 p0 p1 g ≤ 50 := Nat.le_trans (Nat.div_le_self _ _) (by omega)
  have k2 : bgA s0 s1 p1 p0 g ≤ 50 := Nat.le_trans (Nat.div_le_self _ _) (by omega)
  have k3 : bgD s0 s1 p1 p0 g ≤ 50 := Nat.le_trans (Nat.div_le_self _ _) (by omega)
  have u0 : bgA s0 s1 p0 p1 g = (s0 + g) / (p0 + g) := rfl
  have u1 : bgD s0 s1 p0 p1 g = (s1 + g) / (p1 + g) := rfl
  have u2 : bgA s0 s1 p1 p0 g = (s0 + g) / (p1 + g) := rfl
  have u3 : bgD s0 s1 p1 p0 g = (s1 + g) / (p0 + g) := rfl
  walk_at "r"
  refine ⟨fun ρ => ∃ (A Dn q0 q1 : Nat) (t : Bool), A ≤ 50 ∧ Dn ≤ 50 ∧ A ≤ (s0 + g) / (q0 + g) ∧ Dn ≤ (s1 + g) / (q1 + g) ∧ ((s0 + g) / (p0 + g)) * ((s1 + g) / (p1 + g)) ≤ A * Dn ∧ (t = true → q0 = p1 ∧ q1 = p0) ∧ (t = false → q0 = p0 ∧ q1 = p1) ∧ ρ = .own d :: .val (pr s0 s1) :: .val (pr p0 p1) :: .val (nI g) :: .non :: .non :: .non :: .val (nI A) :: .val (nI Dn) :: .val (.bool t) :: List.replicate 6 .non, ?_, ?_⟩
  · walk_at "r"
    refine ⟨s0, s1, p0, p1, g, rfl, by omega, by omega, by omega, by omega, by omega, by omega, by omega, ?_⟩
    unfold bgR bgT
    generalize bgA s0 s1 p0 p1 g = A0 at *
    generalize bgD s0 s1 p0 p1 g = D0 at *
    generalize bgA s0 s1 p1 p0 g = A1 at *
    generalize bgD s0 s1 p1 p0 g = D1 at *
    split
    · rename_i hT
      have hT := of_decide_eq_true hT
      walk_at "r"
      exact ⟨A1, D1, p1, p0, true, k2, k3, by rw [u2]; exact Nat.le_refl _, by rw [u3]; exact Nat.le_refl _, by rw [← u0, ← u1]; omega, fun _ => ⟨rfl, rfl⟩, fun z => (by cases z), rfl⟩
    · walk_at "r"
      exact ⟨A0, D0, p0, p1, false, k0, k1, by rw [u0]; exact Nat.le_refl _, by rw [u1]; exact Nat.le_refl _, by rw [← u0, ← u1]; exact Nat.le_refl _, fun z => (by cases z), fun _ => ⟨rfl, rfl⟩, rfl⟩
  rintro ρ ⟨A, Dn, q0, q1, t, v1, v2, v3, v4, v5, v6, v7, rfl⟩
  have q0b : 3 ≤ q0 ∧ q0 ≤ 11 ∧ 3 ≤ q1 ∧ q1 ≤ 11 := by
    cases t
    · rw [(v7 rfl).1, (v7 rfl).2]; omega
    · rw [(v6 rfl).1, (v6 rfl).2]; omega
  walk_at "r"
  refine ⟨fun ρ => ρ = .own d :: .val (pr s0 s1) :: .val (pr p0 p1) :: .val (nI g) :: .val (pr q0 q1) :: .non :: .non :: .val (nI A) :: .val (nI Dn) :: .val (.bool t) :: List.replicate 6 .non, ?_, ?_⟩
  · walk_at "r"
    cases t
    · rw [(v7 rfl).1, (v7 rfl).2]
      rfl
    · rw [(v6 rfl).1, (v6 rfl).2]
      rfl
  rintro ρ rfl
  clear v6 v7 u0 u1 u2 u3 k0 k1 k2 k3
  have hAD : A * Dn ≤ 50 * 50 := Nat.mul_le_mul v1 v2
  walk_at "r"
  refine ⟨fun r ρ => ∃ (d : D) (n : Nat) (b1 b2 b3 b4 b5 : Sl), isSt d ∧ r = rangeD ((6 - n : Nat) : Int) 1 n ∧ n ≤ 6 ∧ ρ = .own d :: .val (pr s0 s1) :: .val (pr p0 p1) :: .val (nI g) :: .val (pr q0 q1) :: b1 :: .non :: .val (nI A) :: .val (nI Dn) :: .val (.bool t) :: b2 :: b3 :: b4 :: b5 :: .non :: .non :: [], ?_, ?_, ?_⟩
  · exact ⟨d, 6, _, _, _, _, _, hst, rfl, by omega, rfl⟩
  · rintro x r ρ ⟨d, n, b1, b2, b3, b4, b5, hst, e1, e2, rfl⟩
    obtain ⟨n, rfl, rfl, rfl⟩ := rangeD_cons e1
    walk_at "r"
    refine ⟨8, rfl, by decide, by decide, hst, fun r5 d5 a9 a10 hst => ?_⟩
    walk_at "r"
    refine ⟨8, rfl, by decide, by decide, hst, fun r6 d6 a11 a12 hst => ?_⟩
    walk_at "r"
    obtain ⟨o, e3, f3⟩ : ∃ n : Nat, 1 + r5 = n ∧ 1 ≤ n ∧ n ≤ 8 := ⟨(1 + r5).toNat, by omega, by omega, by omega⟩
    obtain ⟨w, e4, f4⟩ : ∃ n : Nat, 1 + r6 = n ∧ 1 ≤ n ∧ n ≤ 8 := ⟨(1 + r6).toNat, by omega, by omega, by omega⟩
    rw [e3, e4]
    have i0 := fit_iff (n := o) (p := p0) (g := g) (s := s0) f3.1 (by omega)
    have i1 := fit_iff (n := w) (p := p1) (g := g) (s := s1) f4.1 (by omega)
    have n0 := plL_neg (n := o) (p := p0) (g := g) (s := s0)
    have n1 := plL_neg (n := w) (p := p1) (g := g) (s := s1)
    refine ⟨fun ρ => ∃ fb : Bool, (fb = true ↔ (o ≤ (s0 + g) / (p0 + g) ∧ w ≤ (s1 + g) / (p1 + g))) ∧ ρ = .own d6 :: .val (pr s0 s1) :: .val (pr p0 p1) :: .val (nI g) :: .val (pr q0 q1) :: .val (.int ((6 - (n + 1) : Nat) : Int)) :: .non :: .val (nI A) :: .val (nI Dn) :: .val (.bool t) :: .val (nI o) :: .val (nI w) :: .val (.bool fb) :: b5 :: .non :: .non :: [], ?_, ?_⟩
    · walk_at "r"
      refine ⟨cm_lt (a := 10) (b := 10) (by omega) (by omega), ?_⟩
      walk_at "r"
      refine ⟨cm_lt (a := 10) (b := 10) (by omega) (by omega), ?_⟩
      walk_at "r"
      refine brn.of (fun h => ?_) fun h => ?_
      · have h := i0.mp (of_decide_eq_true h)
        walk_at "r"
        refine ⟨cm_lt (a := 10) (b := 10) (by omega) (by omega), ?_⟩
        walk_at "r"
        refine ⟨cm_lt (a := 10) (b := 10) (by omega) (by omega), ?_⟩
        walk_at "r"
        refine ⟨_, ?_, rfl⟩
        rw [decide_eq_true_iff]
        exact ⟨fun z => ⟨h, i1.mp z⟩, fun z => i1.mpr z.2⟩
      · have h := of_decide_eq_false h
        exact ⟨false, ⟨fun z => (by cases z), fun z => absurd (i0.mpr z.1) h⟩, rfl⟩
    rintro ρ ⟨fb, hfb, rfl⟩
    walk_at "r"
    refine ⟨fun ρ => ρ = .own d6 :: .val (pr s0 s1) :: .val (pr p0 p1) :: .val (nI g) :: .val (pr q0 q1) :: .val (.int ((6 - (n + 1) : Nat) : Int)) :: .non :: .val (nI A) :: .val (nI Dn) :: .val (.bool t) :: .val (nI o) :: .val (nI w) :: .val (.bool fb) :: b5 :: .non :: .non :: [], ?_, ?_⟩
    · cases fb
      · rfl
      · obtain ⟨l1, l2⟩ := hfb.mp rfl
        have l3 : o * w ≤ A * Dn := Nat.le_trans (Nat.mul_le_mul l1 l2) v5
        walk_at "r"
        refine ⟨cm_lt (a := 10) (b := 10) (by omega) (by omega), ?_⟩
        walk_at "r"
        refine ⟨cm_lt (a := 10) (b := 10) (by omega) (by omega), ?_⟩
        walk_at "r"
        refine brn.ff (decide_eq_false (by rw [← Int.natCast_mul, ← Int.natCast_mul]; omega)) ?_
        rfl
    rintro ρ rfl
    walk_at "r"
    refine ⟨s0, s1, p0, p1, o, w, g, rfl, by omega, by omega, by omega, by omega, by omega, by omega, by omega, fun z => ?_, fun z1 z2 => ?_⟩
    · have ef : fb = false := by
        cases fb with
        | false => rfl
        | true =>
          obtain ⟨l1, l2⟩ := hfb.mp rfl
          rcases z with z | z
          · exact absurd (i0.mpr l1) (n0.mp z)
          · exact absurd (i1.mpr l2) (n1.mp z)
      subst ef
      walk_at "r"
      refine ⟨d6, n, _, _, _, _, _, hst, by congr 1; omega, by omega, rfl⟩
    · have ef : fb = true := hfb.mpr ⟨i0.mp (Classical.byContradiction fun z => absurd (n0.mpr z) (by omega)), i1.mp (Classical.byContradiction fun z => absurd (n1.mpr z) (by omega))⟩
      subst ef
      walk_at "r"
      refine ⟨d6, n, _, _, _, _, _, hst, by congr 1; omega, by omega, rfl⟩
  · rintro ρ ⟨d, n, b1, b2, b3, b4, b5, hst, e1, e2, rfl⟩
    walk_at "r"
    refine ⟨cm_lt (a := 10) (b := 10) (by omega) (by omega), ?_⟩
    walk_at "r"
    refine brn.of (fun h => ?_) fun h => ?_
    · walk_at "r"
      exact hq _ hst
    · have h : ¬ ((A : Int) * (Dn : Int) = 0) := by
        rw [eqvI] at h
        exact of_decide_eq_false h
      have hA : 1 ≤ A := by
        cases A with
        | zero => exact absurd (by simp) h
        | succ => omega
      have hD : 1 ≤ Dn := by
        cases Dn with
        | zero => exact absurd (by simp) h
        | succ => omega
      have i0 := (fit_iff (n := A) (p := q0) (g := g) (s := s0) hA (by omega)).mpr v3
      have i1 := (fit_iff (n := Dn) (p := q1) (g := g) (s := s1) hD (by omega)).mpr v4
      have n0 : 0 ≤ plL s0 q0 A g := by
        have := plL_neg (n := A) (p := q0) (g := g) (s := s0)
        omega
      have n1 : 0 ≤ plL s1 q1 Dn g := by
        have := plL_neg (n := Dn) (p := q1) (g := g) (s := s1)
        omega
      walk_at "r"
      refine ⟨s0, s1, q0, q1, A, Dn, g, rfl, by omega, by omega, by omega, by omega, by omega, by omega, by omega, fun z => by omega, fun z1 z2 => ?_⟩
      have hpl := plR_len (plL s0 q0 A g) (plL s1 q1 Dn g) q0 q1 A Dn g
      have hpg := fun r c => @plR_get (plL s0 q0 A g) (plL s1 q1 Dn g) q0 q1 A Dn g r c
      generalize plR (plL s0 q0 A g) (plL s1 q1 Dn g) q0 q1 A Dn g = PL at *
      walk_at "r"
      refine ⟨cm_lt (a := 10) (b := 10) (by omega) (by omega), ?_⟩
      have hPl : (((PL.map encI).length : Nat) : Int) = (A : Int) * (Dn : Int) := by rw [List.length_map, hpl, Int.natCast_mul, Int.mul_comm]
      walk_at "r"
      refine brn.ff (ne_same (d := .int (((PL.map encI).length : Nat) : Int)) (e := .int ((A : Int) * (Dn : Int))) (by rw [hPl]) rfl) ?_
      walk_at "r"
      rw [List.length_map, hpl]
      rw [Int.toNat_natCast]
      refine ⟨fun r ρ => ∃ (k m : Nat) (b1 b6 b7 : Sl), k + m = Dn * A ∧ r = rangeD (k : Int) 1 m ∧ ρ = .own d :: .val (pr s0 s1) :: .val (pr p0 p1) :: .val (nI g) :: .val (pr q0 q1) :: b1 :: .val (.tuple (PL.map encI)) :: .val (nI A) :: .val (nI Dn) :: .val (.bool t) :: b2 :: b3 :: b4 :: b5 :: b6 :: b7 :: [], ?_, ?_, ?_⟩
      · exact ⟨0, Dn * A, _, _, _, by omega, rfl, rfl⟩
      · rintro x r ρ ⟨k, m, b1, b6, b7, j1, j2, rfl⟩
        obtain ⟨m, rfl, rfl, rfl⟩ := rangeD_cons j2
        have hk : k < Dn * A := by omega
        have hr : k / A < Dn := (Nat.div_lt_iff_lt_mul hA).mpr hk
        have hc : k % A < A := Nat.mod_lt _ hA
        have hkd : k / A * A + k % A = k := by rw [Nat.mul_comm]; exact Nat.div_add_mod k A
        have hg := hpg (k / A) (k % A) hr hc
        rw [hkd] at hg
        have hnx : (k + 1) % A ≠ 0 → PL[k + 1]? = some (plL s0 q0 A g + ((k % A + 1 : Nat) : Int) * ((q0 : Int) + (g : Int)), plL s1 q1 Dn g + ((k / A : Nat) : Int) * ((q1 : Int) + (g : Int))) := fun z => by
          have hc2 : k % A + 1 < A := by
            rcases Nat.lt_or_ge (k % A + 1) A with z2 | z2
            · exact z2
            · have e : k % A + 1 = A := by omega
              have e9 : k + 1 = (k / A + 1) * A := by rw [Nat.succ_mul]; omega
              exact absurd (by rw [e9, Nat.mul_mod_left]) z
          have := hpg (k / A) (k % A + 1) hr hc2
          rw [← Nat.add_assoc, hkd] at this
          exact this
        obtain ⟨l1, l2⟩ := pl_room (p := q0) n0 hc
        obtain ⟨l3, l4⟩ := pl_room (p := q1) n1 hr
        have hst4 : plL s0 q0 A g + ((k % A + 1 : Nat) : Int) * ((q0 : Int) + (g : Int)) = plL s0 q0 A g + ((k % A : Nat) : Int) * ((q0 : Int) + (g : Int)) + (q0 : Int) + (g : Int) := by rw [Int.natCast_add, Int.add_mul]; omega
        rw [hst4] at hnx
        generalize plL s0 q0 A g + ((k % A : Nat) : Int) * ((q0 : Int) + (g : Int)) = L at *
        generalize plL s1 q1 Dn g + ((k / A : Nat) : Int) * ((q1 : Int) + (g : Int)) = T at *
        walk_at "r"
        rw [at_nat, List.getElem?_map, hg]
        walk_at "r"
        refine brn.ff (decide_eq_false (by omega)) ?_
        walk_at "r"
        refine brn.ff (decide_eq_false (by omega)) ?_
        walk_at "r"
        refine brn.ff (decide_eq_false (by omega)) ?_
        walk_at "r"
        refine brn.ff (decide_eq_false (by omega)) ?_
        walk_at "r"
        refine brn.of (fun z => ?_) fun z => ?_
        · have hnx := hnx (fun z2 => by
            rw [show ((k : Int) + 1).fmod (A : Int) = (((k + 1) % A : Nat) : Int) by rw [Int.fmod_eq_emod_of_nonneg _ (by omega)]; exact (Int.natCast_emod (k + 1) A).symm, z2] at z
            exact absurd z (by decide))
          walk_at "r"
          rw [show (k : Int) + 1 = ((k + 1 : Nat) : Int) by omega, at_nat, List.getElem?_map, hnx]
          walk_at "r"
          refine brn.ff (ne_same (d := encI (L + (q0 : Int) + (g : Int), T)) (e := encI (L + (q0 : Int) + (g : Int), T)) rfl rfl) ?_
          walk_at "r"
          exact ⟨k + 1, m, _, _, _, by omega, rfl, rfl⟩
        · walk_at "r"
          exact ⟨k + 1, m, _, _, _, by omega, rfl, rfl⟩
      · rintro ρ ⟨k, m, b1, b6, b7, j1, j2, rfl⟩
        walk_at "r"
        exact ⟨s0, s1, rfl, f1, f3, f2, f4, hst, hq⟩
end
end K19
namespace K19
open PySem PySem.Spec PyProof.Rows L2 Dn
local macro_rules | `(tactic| walk_at "r") => `(tactic| ((conv => whnf); (repeat ((first | refine And.intro rfl ?_ | refine And.intro cm_l ?_ | refine And.intro cm_r ?_ | refine And.intro (by decide) ?_ | refine And.intro (cdv_lt (a := 64) (by decide) (by decide)) ?_ | refine And.intro (by omega) ?_); (conv => whnf)))))
section
variable {P : Program} {w : World} {K : PySem.W.Frag} {mg : Str → Option Value} {base : Heap}
abbrev s_law : Stmt := topS 36
theorem sc_law : FnScope ["script", "state", "pages"] ["script"] (defScope s_law) := ⟨rfl, rfl, rfl, by decide +kernel, rfl, by decide +kernel, by decide +kernel⟩
theorem ok_law {f : Addr} {fd : FuncData} (F : Fun K "law" "law" s_law f fd) (bl : ∀ x : Str, bnames.contains x = true → mg x = none) (p__law_draw : PfM P w K mg base 1 "_law_draw" 2 c__law_draw) (p__law_folded : PfM P w K mg base 4 "_law_folded" 2 c__law_folded) (p__law_gridded : PfM P w K mg base 3 "_law_gridded" 2 c__law_gridded) (p__law_grid : PfM P w K mg base 4 "_law_grid" 1 c__law_grid) : FnOk P w K mg base CX0 5 f fd ["script"] (spLawD K) := by
  refine law_ok (k := 4) F sc_law bl fun cdv A outer s H E ns hns c tk => ?_
  refine ⟨_, (dss_cons (ds_setF (i := 1) c rfl (Or.inl rfl) (df_lst (da_cons de_int (da_cons de_int (da_cons (df_listS (i := 0) c).toE (da_cons de_int da_nil))))))
      (dss_cons (ds_set (i := 2) c rfl (Or.inl rfl) (de_bin od_add de_int.toB (de_callM (i := 1) p__law_draw c (da_cons de_int da_nil)).toB))
      (dss_one (ds_ret (de_and (de_callM (i := 1) p__law_folded c (da_cons (de_var 2) da_nil)) (de_and (de_callM (i := 1) p__law_gridded c (da_cons (de_var 2) da_nil)) (de_one (de_callM (i := 1) p__law_grid c da_nil)))))))), ?_⟩
  walk_at "r"
  have st0 : isSt (.list [.int 0, .int 0, .list (ns.map .int), .int 1]) := ⟨0, 0, ns, 1, rfl⟩
  refine ⟨60, rfl, by decide, by decide, st0, fun r1 d1 a1 a2 hst => ?_⟩
  walk_at "r"
  obtain ⟨N, e0, f0⟩ : ∃ n : Nat, 1 + r1 = n ∧ 1 ≤ n ∧ n ≤ 60 := ⟨(1 + r1).toNat, by omega, by omega, by omega⟩
  rw [e0]
  refine ⟨N, rfl, f0.1, f0.2, hst, fun d2 hst => ?_⟩
  walk_at "r"
  refine ⟨N, rfl, f0.1, f0.2, hst, fun d3 hst => ?_⟩
  walk_at "r"
  exact fun d4 hst => rfl
end
end K19
namespace K19
open PySem PySem.Spec PyProof.Rows L2 Dn
theorem all_mk {P : Program} {w : World} {K : PySem.W.Frag} {h : Heap} {mg : Str → Option Value} {fa C_NoSuch C_Misfit f_is_integer f_common_divisor f_fraction f_minus f_booklet f_booklets f_side_of f_read_order f_creep_of f_many_up f_stack_up f_cut_heap f_backs_of f_both_sides f_work_and_turn f_sheets_for f_best_grid f_places_on f_reversed_sides f_poster f_starts_of f__law_draw f__law_full f__law_side f__law_places f__law_folded f__law_gridded f__law_grid f__law_poster f_law : Addr} (X : K.In h) (G : h.Ns mainGlobals mg) (hfa : mg "law" = some (.ref fa))
    {oc_is_integer kV_is_integer dc_is_integer pm_is_integer cd_is_integer ct_is_integer : Value} {od_is_integer an_is_integer : Option Addr} {sl_is_integer : Array (Option Value)}
    {oc_common_divisor kV_common_divisor dc_common_divisor pm_common_divisor cd_common_divisor ct_common_divisor : Value} {od_common_divisor an_common_divisor : Option Addr} {sl_common_divisor : Array (Option Value)}
    {oc_fraction kV_fraction dc_fraction pm_fraction cd_fraction ct_fraction : Value} {od_fraction an_fraction : Option Addr} {sl_fraction : Array (Option Value)}
    {oc_minus kV_minus dc_minus pm_minus cd_minus ct_minus : Value} {od_minus an_minus : Option Addr} {sl_minus : Array (Option Value)}
    {oc_booklet kV_booklet dc_booklet pm_booklet cd_booklet ct_booklet : Value} {od_booklet an_booklet : Option Addr} {sl_booklet : Array (Option Value)}
    {oc_booklets kV_booklets dc_booklets pm_booklets cd_booklets ct_booklets : Value} {od_booklets an_booklets : Option Addr} {sl_booklets : Array (Option Value)}
    {oc_side_of kV_side_of dc_side_of pm_side_of cd_side_of ct_side_of : Value} {od_side_of an_side_of : Option Addr} {sl_side_of : Array (Option Value)}
    {oc_read_order kV_read_order dc_read_order pm_read_order cd_read_order ct_read_order : Value} {od_read_order an_read_order : Option Addr} {sl_read_order : Array (Option Value)}
    {oc_creep_of kV_creep_of dc_creep_of pm_creep_of cd_creep_of ct_creep_of : Value} {od_creep_of an_creep_of : Option Addr} {sl_creep_of : Array (Option Value)}
    {oc_many_up kV_many_up dc_many_up pm_many_up cd_many_up ct_many_up : Value} {od_many_up an_many_up : Option Addr} {sl_many_up : Array (Option Value)}
    {oc_stack_up kV_stack_up dc_stack_up pm_stack_up cd_stack_up ct_stack_up : Value} {od_stack_up an_stack_up : Option Addr} {sl_stack_up : Array (Option Value)}
    {oc_cut_heap kV_cut_heap dc_cut_heap pm_cut_heap cd_cut_heap ct_cut_heap : Value} {od_cut_heap an_cut_heap : Option Addr} {sl_cut_heap : Array (Option Value)}
    {oc_backs_of kV_backs_of dc_backs_of pm_backs_of cd_backs_of ct_backs_of : Value} {od_backs_of an_backs_of : Option Addr} {sl_backs_of : Array (Option Value)}
    {oc_both_sides kV_both_sides dc_both_sides pm_both_sides cd_both_sides ct_both_sides : Value} {od_both_sides an_both_sides : Option Addr} {sl_both_sides : Array (Option Value)}
    {oc_work_and_turn kV_work_and_turn dc_work_and_turn pm_work_and_turn cd_work_and_turn ct_work_and_turn : Value} {od_work_and_turn an_work_and_turn : Option Addr} {sl_work_and_turn : Array (Option Value)}
    {oc_sheets_for kV_sheets_for dc_sheets_for pm_sheets_for cd_sheets_for ct_sheets_for : Value} {od_sheets_for an_sheets_for : Option Addr} {sl_sheets_for : Array (Option Value)}
    {oc_best_grid kV_best_grid dc_best_grid pm_best_grid cd_best_grid ct_best_grid : Value} {od_best_grid an_best_grid : Option Addr} {sl_best_grid : Array (Option Value)}
    {oc_places_on kV_places_on dc_places_on pm_places_on cd_places_on ct_places_on : Value} {od_places_on an_places_on : Option Addr} {sl_places_on : Array (Option Value)}
    {oc_reversed_sides kV_reversed_sides dc_reversed_sides pm_reversed_sides cd_reversed_sides ct_reversed_sides : Value} {od_reversed_sides an_reversed_sides : Option Addr} {sl_reversed_sides : Array (Option Value)}
    {oc_poster kV_poster dc_poster pm_poster cd_poster ct_poster : Value} {od_poster an_poster : Option Addr} {sl_poster : Array (Option Value)}
    {oc_starts_of kV_starts_of dc_starts_of pm_starts_of cd_starts_of ct_starts_of : Value} {od_starts_of an_starts_of : Option Addr} {sl_starts_of : Array (Option Value)}
    {oc__law_draw kV__law_draw dc__law_draw pm__law_draw cd__law_draw ct__law_draw : Value} {od__law_draw an__law_draw : Option Addr} {sl__law_draw : Array (Option Value)}
    {oc__law_full kV__law_full dc__law_full pm__law_full cd__law_full ct__law_full : Value} {od__law_full an__law_full : Option Addr} {sl__law_full : Array (Option Value)}
    {oc__law_side kV__law_side dc__law_side pm__law_side cd__law_side ct__law_side : Value} {od__law_side an__law_side : Option Addr} {sl__law_side : Array (Option Value)}
    {oc__law_places kV__law_places dc__law_places pm__law_places cd__law_places ct__law_places : Value} {od__law_places an__law_places : Option Addr} {sl__law_places : Array (Option Value)}
    {oc__law_folded kV__law_folded dc__law_folded pm__law_folded cd__law_folded ct__law_folded : Value} {od__law_folded an__law_folded : Option Addr} {sl__law_folded : Array (Option Value)}
    {oc__law_gridded kV__law_gridded dc__law_gridded pm__law_gridded cd__law_gridded ct__law_gridded : Value} {od__law_gridded an__law_gridded : Option Addr} {sl__law_gridded : Array (Option Value)}
    {oc__law_grid kV__law_grid dc__law_grid pm__law_grid cd__law_grid ct__law_grid : Value} {od__law_grid an__law_grid : Option Addr} {sl__law_grid : Array (Option Value)}
    {oc__law_poster kV__law_poster dc__law_poster pm__law_poster cd__law_poster ct__law_poster : Value} {od__law_poster an__law_poster : Option Addr} {sl__law_poster : Array (Option Value)}
    {oc_law kV_law dc_law pm_law cd_law ct_law : Value} {od_law an_law : Option Addr} {sl_law : Array (Option Value)}
    (eA_NoSuch : PySem.W.nsIn K mainGlobals "NoSuch" = some (some (.ref C_NoSuch)))
    (eX_NoSuch : PySem.W.excIn K C_NoSuch [.type "ValueError", .type "Exception", .type "BaseException", .type "object"] "ValueError.__new__" = true)
    (eK_NoSuch : PySem.W.keepIn K (.ref C_NoSuch) = true)
    (eB_NoSuch : PySem.W.subIn K (.ref C_NoSuch) (.type "BaseException") = some true)
    (eT_NoSuch : PySem.W.typeIn K (.ref C_NoSuch) = some (.type "type"))
    (eI_NoSuch : PySem.W.isClsIn K C_NoSuch = true)
    (eS_NoSuch : PySem.W.subIn K (.ref C_NoSuch) (.ref C_NoSuch) = some true)
    (eA_Misfit : PySem.W.nsIn K mainGlobals "Misfit" = some (some (.ref C_Misfit)))
    (eX_Misfit : PySem.W.excIn K C_Misfit [.type "ValueError", .type "Exception", .type "BaseException", .type "object"] "ValueError.__new__" = true)
    (eK_Misfit : PySem.W.keepIn K (.ref C_Misfit) = true)
    (eB_Misfit : PySem.W.subIn K (.ref C_Misfit) (.type "BaseException") = some true)
    (eT_Misfit : PySem.W.typeIn K (.ref C_Misfit) = some (.type "type"))
    (eI_Misfit : PySem.W.isClsIn K C_Misfit = true)
    (eS_Misfit : PySem.W.subIn K (.ref C_Misfit) (.ref C_Misfit) = some true)
    (a_is_integer : PySem.W.nsIn K mainGlobals "is_integer" = some (some (.ref f_is_integer)))
    (l_is_integer : K.lookup f_is_integer = some ⟨oc_is_integer, od_is_integer, .func (PySem.W.fnOf "is_integer" "is_integer" (defArgs s_is_integer) (defBody s_is_integer) (defScope s_is_integer) .none kV_is_integer dc_is_integer pm_is_integer an_is_integer cd_is_integer ct_is_integer), sl_is_integer⟩)
    (c_o_is_integer : PySem.W.codeIn K cd_is_integer "is_integer" = true)
    (k_is_integer : PySem.W.keepIn K (.ref f_is_integer) = true)
    (a_common_divisor : PySem.W.nsIn K mainGlobals "common_divisor" = some (some (.ref f_common_divisor)))
    (l_common_divisor : K.lookup f_common_divisor = some ⟨oc_common_divisor, od_common_divisor, .func (PySem.W.fnOf "common_divisor" "common_divisor" (defArgs s_common_divisor) (defBody s_common_divisor) (defScope s_common_divisor) .none kV_common_divisor dc_common_divisor pm_common_divisor an_common_divisor cd_common_divisor ct_common_divisor), sl_common_divisor⟩)
    (c_o_common_divisor : PySem.W.codeIn K cd_common_divisor "common_divisor" = true)
    (k_common_divisor : PySem.W.keepIn K (.ref f_common_divisor) = true)
    (a_fraction : PySem.W.nsIn K mainGlobals "fraction" = some (some (.ref f_fraction)))
    (l_fraction : K.lookup f_fraction = some ⟨oc_fraction, od_fraction, .func (PySem.W.fnOf "fraction" "fraction" (defArgs s_fraction) (defBody s_fraction) (defScope s_fraction) .none kV_fraction dc_fraction pm_fraction an_fraction cd_fraction ct_fraction), sl_fraction⟩)
    (c_o_fraction : PySem.W.codeIn K cd_fraction "fraction" = true)
    (k_fraction : PySem.W.keepIn K (.ref f_fraction) = true)
    (a_minus : PySem.W.nsIn K mainGlobals "minus" = some (some (.ref f_minus)))
    (l_minus : K.lookup f_minus = some ⟨oc_minus, od_minus, .func (PySem.W.fnOf "minus" "minus" (defArgs s_minus) (defBody s_minus) (defScope s_minus) .none kV_minus dc_minus pm_minus an_minus cd_minus ct_minus), sl_minus⟩)
    (c_o_minus : PySem.W.codeIn K cd_minus "minus" = true)
    (k_minus : PySem.W.keepIn K (.ref f_minus) = true)
    (a_booklet : PySem.W.nsIn K mainGlobals "booklet" = some (some (.ref f_booklet)))
    (l_booklet : K.lookup f_booklet = some ⟨oc_booklet, od_booklet, .func (PySem.W.fnOf "booklet" "booklet" (defArgs s_booklet) (defBody s_booklet) (defScope s_booklet) .none kV_booklet dc_booklet pm_booklet an_booklet cd_booklet ct_booklet), sl_booklet⟩)
    (c_o_booklet : PySem.W.codeIn K cd_booklet "booklet" = true)
    (k_booklet : PySem.W.keepIn K (.ref f_booklet) = true)
    (a_booklets : PySem.W.nsIn K mainGlobals "booklets" = some (some (.ref f_booklets)))
    (l_booklets : K.lookup f_booklets = some ⟨oc_booklets, od_booklets, .func (PySem.W.fnOf "booklets" "booklets" (defArgs s_booklets) (defBody s_booklets) (defScope s_booklets) .none kV_booklets dc_booklets pm_booklets an_booklets cd_booklets ct_booklets), sl_booklets⟩)
    (c_o_booklets : PySem.W.codeIn K cd_booklets "booklets" = true)
    (k_booklets : PySem.W.keepIn K (.ref f_booklets) = true)
    (a_side_of : PySem.W.nsIn K mainGlobals "side_of" = some (some (.ref f_side_of)))
    (l_side_of : K.lookup f_side_of = some ⟨oc_side_of, od_side_of, .func (PySem.W.fnOf "side_of" "side_of" (defArgs s_side_of) (defBody s_side_of) (defScope s_side_of) .none kV_side_of dc_side_of pm_side_of an_side_of cd_side_of ct_side_of), sl_side_of⟩)
    (c_o_side_of : PySem.W.codeIn K cd_side_of "side_of" = true)
    (k_side_of : PySem.W.keepIn K (.ref f_side_of) = true)
    (a_read_order : PySem.W.nsIn K mainGlobals "read_order" = some (some (.ref f_read_order)))
    (l_read_order : K.lookup f_read_order = some ⟨oc_read_order, od_read_order, .func (PySem.W.fnOf "read_order" "read_order" (defArgs s_read_order) (defBody s_read_order) (defScope s_read_order) .none kV_read_order dc_read_order pm_read_order an_read_order cd_read_order ct_read_order), sl_read_order⟩)
    (c_o_read_order : PySem.W.codeIn K cd_read_order "read_order" = true)
    (k_read_order : PySem.W.keepIn K (.ref f_read_order) = true)
    (a_creep_of : PySem.W.nsIn K mainGlobals "creep_of" = some (some (.ref f_creep_of)))
    (l_creep_of : K.lookup f_creep_of = some ⟨oc_creep_of, od_creep_of, .func (PySem.W.fnOf "creep_of" "creep_of" (defArgs s_creep_of) (defBody s_creep_of) (defScope s_creep_of) .none kV_creep_of dc_creep_of pm_creep_of an_creep_of cd_creep_of ct_creep_of), sl_creep_of⟩)
    (c_o_creep_of : PySem.W.codeIn K cd_creep_of "creep_of" = true)
    (k_creep_of : PySem.W.keepIn K (.ref f_creep_of) = true)
    (a_many_up : PySem.W.nsIn K mainGlobals "many_up" = some (some (.ref f_many_up)))
    (l_many_up : K.lookup f_many_up = some ⟨oc_many_up, od_many_up, .func (PySem.W.fnOf "many_up" "many_up" (defArgs s_many_up) (defBody s_many_up) (defScope s_many_up) .none kV_many_up dc_many_up pm_many_up an_many_up cd_many_up ct_many_up), sl_many_up⟩)
    (c_o_many_up : PySem.W.codeIn K cd_many_up "many_up" = true)
    (k_many_up : PySem.W.keepIn K (.ref f_many_up) = true)
    (a_stack_up : PySem.W.nsIn K mainGlobals "stack_up" = some (some (.ref f_stack_up)))
    (l_stack_up : K.lookup f_stack_up = some ⟨oc_stack_up, od_stack_up, .func (PySem.W.fnOf "stack_up" "stack_up" (defArgs s_stack_up) (defBody s_stack_up) (defScope s_stack_up) .none kV_stack_up dc_stack_up pm_stack_up an_stack_up cd_stack_up ct_stack_up), sl_stack_up⟩)
    (c_o_stack_up : PySem.W.codeIn K cd_stack_up "stack_up" = true)
    (k_stack_up : PySem.W.keepIn K (.ref f_stack_up) = true)
    (a_cut_heap : PySem.W.nsIn K mainGlobals "cut_heap" = some (some (.ref f_cut_heap)))
    (l_cut_heap : K.lookup f_cut_heap = some ⟨oc_cut_heap, od_cut_heap, .func (PySem.W.fnOf "cut_heap" "cut_heap" (defArgs s_cut_heap) (defBody s_cut_heap) (defScope s_cut_heap) .none kV_cut_heap dc_cut_heap pm_cut_heap an_cut_heap cd_cut_heap ct_cut_heap), sl_cut_heap⟩)
    (c_o_cut_heap : PySem.W.codeIn K cd_cut_heap "cut_heap" = true)
    (k_cut_heap : PySem.W.keepIn K (.ref f_cut_heap) = true)
    (a_backs_of : PySem.W.nsIn K mainGlobals "backs_of" = some (some (.ref f_backs_of)))
    (l_backs_of : K.lookup f_backs_of = some ⟨oc_backs_of, od_backs_of, .func (PySem.W.fnOf "backs_of" "backs_of" (defArgs s_backs_of) (defBody s_backs_of) (defScope s_backs_of) .none kV_backs_of dc_backs_of pm_backs_of an_backs_of cd_backs_of ct_backs_of), sl_backs_of⟩)
    (c_o_backs_of : PySem.W.codeIn K cd_backs_of "backs_of" = true)
    (k_backs_of : PySem.W.keepIn K (.ref f_backs_of) = true)
    (a_both_sides : PySem.W.nsIn K mainGlobals "both_sides" = some (some (.ref f_both_sides)))
    (l_both_sides : K.lookup f_both_sides = some ⟨oc_both_sides, od_both_sides, .func (PySem.W.fnOf "both_sides" "both_sides" (defArgs s_both_sides) (defBody s_both_sides) (defScope s_both_sides) .none kV_both_sides dc_both_sides pm_both_sides an_both_sides cd_both_sides ct_both_sides), sl_both_sides⟩)
    (c_o_both_sides : PySem.W.codeIn K cd_both_sides "both_sides" = true)
    (k_both_sides : PySem.W.keepIn K (.ref f_both_sides) = true)
    (a_work_and_turn : PySem.W.nsIn K mainGlobals "work_and_turn" = some (some (.ref f_work_and_turn)))
    (l_work_and_turn : K.lookup f_work_and_turn = some ⟨oc_work_and_turn, od_work_and_turn, .func (PySem.W.fnOf "work_and_turn" "work_and_turn" (defArgs s_work_and_turn) (defBody s_work_and_turn) (defScope s_work_and_turn) .none kV_work_and_turn dc_work_and_turn pm_work_and_turn an_work_and_turn cd_work_and_turn ct_work_and_turn), sl_work_and_turn⟩)
    (c_o_work_and_turn : PySem.W.codeIn K cd_work_and_turn "work_and_turn" = true)
    (k_work_and_turn : PySem.W.keepIn K (.ref f_work_and_turn) = true)
    (a_sheets_for : PySem.W.nsIn K mainGlobals "sheets_for" = some (some (.ref f_sheets_for)))
    (l_sheets_for : K.lookup f_sheets_for = some ⟨oc_sheets_for, od_sheets_for, .func (PySem.W.fnOf "sheets_for" "sheets_for" (defArgs s_sheets_for) (defBody s_sheets_for) (defScope s_sheets_for) .none kV_sheets_for dc_sheets_for pm_sheets_for an_sheets_for cd_sheets_for ct_sheets_for), sl_sheets_for⟩)
    (c_o_sheets_for : PySem.W.codeIn K cd_sheets_for "sheets_for" = true)
    (k_sheets_for : PySem.W.keepIn K (.ref f_sheets_for) = true)
    (a_best_grid : PySem.W.nsIn K mainGlobals "best_grid" = some (some (.ref f_best_grid)))
    (l_best_grid : K.lookup f_best_grid = some ⟨oc_best_grid, od_best_grid, .func (PySem.W.fnOf "best_grid" "best_grid" (defArgs s_best_grid) (defBody s_best_grid) (defScope s_best_grid) .none kV_best_grid dc_best_grid pm_best_grid an_best_grid cd_best_grid ct_best_grid), sl_best_grid⟩)
    (c_o_best_grid : PySem.W.codeIn K cd_best_grid "best_grid" = true)
    (k_best_grid : PySem.W.keepIn K (.ref f_best_grid) = true)
    (a_places_on : PySem.W.nsIn K mainGlobals "places_on" = some (some (.ref f_places_on)))
    (l_places_on : K.lookup f_places_on = some ⟨oc_places_on, od_places_on, .func (PySem.W.fnOf "places_on" "places_on" (defArgs s_places_on) (defBody s_places_on) (defScope s_places_on) .none kV_places_on dc_places_on pm_places_on an_places_on cd_places_on ct_places_on), sl_places_on⟩)
    (c_o_places_on : PySem.W.codeIn K cd_places_on "places_on" = true)
    (k_places_on : PySem.W.keepIn K (.ref f_places_on) = true)
    (a_reversed_sides : PySem.W.nsIn K mainGlobals "reversed_sides" = some (some (.ref f_reversed_sides)))
    (l_reversed_sides : K.lookup f_reversed_sides = some ⟨oc_reversed_sides, od_reversed_sides, .func (PySem.W.fnOf "reversed_sides" "reversed_sides" (defArgs s_reversed_sides) (defBody s_reversed_sides) (defScope s_reversed_sides) .none kV_reversed_sides dc_reversed_sides pm_reversed_sides an_reversed_sides cd_reversed_sides ct_reversed_sides), sl_reversed_sides⟩)
    (c_o_reversed_sides : PySem.W.codeIn K cd_reversed_sides "reversed_sides" = true)
    (k_reversed_sides : PySem.W.keepIn K (.ref f_reversed_sides) = true)
    (a_poster : PySem.W.nsIn K mainGlobals "poster" = some (some (.ref f_poster)))
    (l_poster : K.lookup f_poster = some ⟨oc_poster, od_poster, .func (PySem.W.fnOf "poster" "poster" (defArgs s_poster) (defBody s_poster) (defScope s_poster) .none kV_poster dc_poster pm_poster an_poster cd_poster ct_poster), sl_poster⟩)
    (c_o_poster : PySem.W.codeIn K cd_poster "poster" = true)
    (k_poster : PySem.W.keepIn K (.ref f_poster) = true)
    (a_starts_of : PySem.W.nsIn K mainGlobals "starts_of" = some (some (.ref f_starts_of)))
    (l_starts_of : K.lookup f_starts_of = some ⟨oc_starts_of, od_starts_of, .func (PySem.W.fnOf "starts_of" "starts_of" (defArgs s_starts_of) (defBody s_starts_of) (defScope s_starts_of) .none kV_starts_of dc_starts_of pm_starts_of an_starts_of cd_starts_of ct_starts_of), sl_starts_of⟩)
    (c_o_starts_of : PySem.W.codeIn K cd_starts_of "starts_of" = true)
    (k_starts_of : PySem.W.keepIn K (.ref f_starts_of) = true)
    (a__law_draw : PySem.W.nsIn K mainGlobals "_law_draw" = some (some (.ref f__law_draw)))
    (l__law_draw : K.lookup f__law_draw = some ⟨oc__law_draw, od__law_draw, .func (PySem.W.fnOf "_law_draw" "_law_draw" (defArgs s__law_draw) (defBody s__law_draw) (defScope s__law_draw) .none kV__law_draw dc__law_draw pm__law_draw an__law_draw cd__law_draw ct__law_draw), sl__law_draw⟩)
    (c_o__law_draw : PySem.W.codeIn K cd__law_draw "_law_draw" = true)
    (k__law_draw : PySem.W.keepIn K (.ref f__law_draw) = true)
    (a__law_full : PySem.W.nsIn K mainGlobals "_law_full" = some (some (.ref f__law_full)))
    (l__law_full : K.lookup f__law_full = some ⟨oc__law_full, od__law_full, .func (PySem.W.fnOf "_law_full" "_law_full" (defArgs s__law_full) (defBody s__law_full) (defScope s__law_full) .none kV__law_full dc__law_full pm__law_full an__law_full cd__law_full ct__law_full), sl__law_full⟩)
    (c_o__law_full : PySem.W.codeIn K cd__law_full "_law_full" = true)
    (k__law_full : PySem.W.keepIn K (.ref f__law_full) = true)
    (a__law_side : PySem.W.nsIn K mainGlobals "_law_side" = some (some (.ref f__law_side)))
    (l__law_side : K.lookup f__law_side = some ⟨oc__law_side, od__law_side, .func (PySem.W.fnOf "_law_side" "_law_side" (defArgs s__law_side) (defBody s__law_side) (defScope s__law_side) .none kV__law_side dc__law_side pm__law_side an__law_side cd__law_side ct__law_side), sl__law_side⟩)
    (c_o__law_side : PySem.W.codeIn K cd__law_side "_law_side" = true)
    (k__law_side : PySem.W.keepIn K (.ref f__law_side) = true)
    (a__law_places : PySem.W.nsIn K mainGlobals "_law_places" = some (some (.ref f__law_places)))
    (l__law_places : K.lookup f__law_places = some ⟨oc__law_places, od__law_places, .func (PySem.W.fnOf "_law_places" "_law_places" (defArgs s__law_places) (defBody s__law_places) (defScope s__law_places) .none kV__law_places dc__law_places pm__law_places an__law_places cd__law_places ct__law_places), sl__law_places⟩)
    (c_o__law_places : PySem.W.codeIn K cd__law_places "_law_places" = true)
    (k__law_places : PySem.W.keepIn K (.ref f__law_places) = true)
    (a__law_folded : PySem.W.nsIn K mainGlobals "_law_folded" = some (some (.ref f__law_folded)))
    (l__law_folded : K.lookup f__law_folded = some ⟨oc__law_folded, od__law_folded, .func (PySem.W.fnOf "_law_folded" "_law_folded" (defArgs s__law_folded) (defBody s__law_folded) (defScope s__law_folded) .none kV__law_folded dc__law_folded pm__law_folded an__law_folded cd__law_folded ct__law_folded), sl__law_folded⟩)
    (c_o__law_folded : PySem.W.codeIn K cd__law_folded "_law_folded" = true)
    (k__law_folded : PySem.W.keepIn K (.ref f__law_folded) = true)
    (a__law_gridded : PySem.W.nsIn K mainGlobals "_law_gridded" = some (some (.ref f__law_gridded)))
    (l__law_gridded : K.lookup f__law_gridded = some ⟨oc__law_gridded, od__law_gridded, .func (PySem.W.fnOf "_law_gridded" "_law_gridded" (defArgs s__law_gridded) (defBody s__law_gridded) (defScope s__law_gridded) .none kV__law_gridded dc__law_gridded pm__law_gridded an__law_gridded cd__law_gridded ct__law_gridded), sl__law_gridded⟩)
    (c_o__law_gridded : PySem.W.codeIn K cd__law_gridded "_law_gridded" = true)
    (k__law_gridded : PySem.W.keepIn K (.ref f__law_gridded) = true)
    (a__law_grid : PySem.W.nsIn K mainGlobals "_law_grid" = some (some (.ref f__law_grid)))
    (l__law_grid : K.lookup f__law_grid = some ⟨oc__law_grid, od__law_grid, .func (PySem.W.fnOf "_law_grid" "_law_grid" (defArgs s__law_grid) (defBody s__law_grid) (defScope s__law_grid) .none kV__law_grid dc__law_grid pm__law_grid an__law_grid cd__law_grid ct__law_grid), sl__law_grid⟩)
    (c_o__law_grid : PySem.W.codeIn K cd__law_grid "_law_grid" = true)
    (k__law_grid : PySem.W.keepIn K (.ref f__law_grid) = true)
    (a__law_poster : PySem.W.nsIn K mainGlobals "_law_poster" = some (some (.ref f__law_poster)))
    (l__law_poster : K.lookup f__law_poster = some ⟨oc__law_poster, od__law_poster, .func (PySem.W.fnOf "_law_poster" "_law_poster" (defArgs s__law_poster) (defBody s__law_poster) (defScope s__law_poster) .none kV__law_poster dc__law_poster pm__law_poster an__law_poster cd__law_poster ct__law_poster), sl__law_poster⟩)
    (c_o__law_poster : PySem.W.codeIn K cd__law_poster "_law_poster" = true)
    (k__law_poster : PySem.W.keepIn K (.ref f__law_poster) = true)
    (a_law : PySem.W.nsIn K mainGlobals "law" = some (some (.ref f_law)))
    (l_law : K.lookup f_law = some ⟨oc_law, od_law, .func (PySem.W.fnOf "law" "law" (defArgs s_law) (defBody s_law) (defScope s_law) .none kV_law dc_law pm_law an_law cd_law ct_law), sl_law⟩)
    (c_o_law : PySem.W.codeIn K cd_law "law" = true)
    (k_law : PySem.W.keepIn K (.ref f_law) = true)
    (z0 : PySem.W.nsIn K mainGlobals "len" = some none)
    (z1 : PySem.W.nsIn K mainGlobals "range" = some none)
    (z2 : PySem.W.nsIn K mainGlobals "int" = some none)
    (z3 : PySem.W.nsIn K mainGlobals "isinstance" = some none)
    (z4 : PySem.W.nsIn K mainGlobals "sum" = some none)
    (z5 : PySem.W.nsIn K mainGlobals "any" = some none)
    (z6 : PySem.W.nsIn K mainGlobals "all" = some none)
    (z7 : PySem.W.nsIn K mainGlobals "enumerate" = some none)
    (z8 : PySem.W.nsIn K mainGlobals "sorted" = some none)
    (z9 : PySem.W.nsIn K mainGlobals "list" = some none)
    (z10 : PySem.W.nsIn K mainGlobals "tuple" = some none)
    (z11 : PySem.W.nsIn K mainGlobals "str" = some none)
    (z12 : PySem.W.nsIn K mainGlobals "max" = some none)
    (z13 : PySem.W.nsIn K mainGlobals "min" = some none)
    (z14 : PySem.W.nsIn K mainGlobals "zip" = some none)
    (z15 : PySem.W.nsIn K mainGlobals "dict" = some none)
    (z16 : PySem.W.nsIn K mainGlobals "abs" = some none)
    (z17 : PySem.W.nsIn K mainGlobals "reversed" = some none)
    (z18 : PySem.W.nsIn K mainGlobals "bool" = some none)
    (z19 : PySem.W.nsIn K mainGlobals "super" = some none)
    (z20 : PySem.W.nsIn K mainGlobals "ValueError" = some none)
    : ∃ fd : FuncData, (∀ (s : Shared) (u : Value), BindsTo s fd ⟨[u], []⟩ [("script", u)]) ∧ ∀ base : Heap, K.In base → base.Ns mainGlobals mg → FnOk P w K mg base CX0 5 fa fd ["script"] (spLawD K) := by
  have e := hfa.symm.trans (PySem.W.mg_of X G a_law)
  cases e
  have bl : ∀ x : Str, bnames.contains x = true → mg x = none := names_free fun x hx => by
    simp only [bnames, List.mem_cons, List.not_mem_nil, or_false] at hx
    rcases hx with rfl | rfl | rfl | rfl | rfl | rfl | rfl | rfl | rfl | rfl | rfl | rfl | rfl | rfl | rfl | rfl | rfl | rfl | rfl | rfl | rfl
    · exact PySem.W.mg_none_of X G z0
    · exact PySem.W.mg_none_of X G z1
    · exact PySem.W.mg_none_of X G z2
    · exact PySem.W.mg_none_of X G z3
    · exact PySem.W.mg_none_of X G z4
    · exact PySem.W.mg_none_of X G z5
    · exact PySem.W.mg_none_of X G z6
    · exact PySem.W.mg_none_of X G z7
    · exact PySem.W.mg_none_of X G z8
    · exact PySem.W.mg_none_of X G z9
    · exact PySem.W.mg_none_of X G z10
    · exact PySem.W.mg_none_of X G z11
    · exact PySem.W.mg_none_of X G z12
    · exact PySem.W.mg_none_of X G z13
    · exact PySem.W.mg_none_of X G z14
    · exact PySem.W.mg_none_of X G z15
    · exact PySem.W.mg_none_of X G z16
    · exact PySem.W.mg_none_of X G z17
    · exact PySem.W.mg_none_of X G z18
    · exact PySem.W.mg_none_of X G z19
    · exact PySem.W.mg_none_of X G z20
  have x_NoSuch : ExcF K mg "NoSuch" C_NoSuch := ⟨PySem.W.mg_of X G eA_NoSuch, eX_NoSuch, eK_NoSuch, eB_NoSuch, eT_NoSuch, exm_by eB_NoSuch eI_NoSuch eT_NoSuch eS_NoSuch⟩
  have x_Misfit : ExcF K mg "Misfit" C_Misfit := ⟨PySem.W.mg_of X G eA_Misfit, eX_Misfit, eK_Misfit, eB_Misfit, eT_Misfit, exm_by eB_Misfit eI_Misfit eT_Misfit eS_Misfit⟩
  have F_is_integer := fun_mk (st := s_is_integer) l_is_integer c_o_is_integer k_is_integer
  have b_is_integer := F_is_integer.binds (ps := ["value", "low", "high"]) fun _ _ _ _ _ _ us hl => match us, hl with | [_, _, _], _ => rfl
  have F_common_divisor := fun_mk (st := s_common_divisor) l_common_divisor c_o_common_divisor k_common_divisor
  have b_common_divisor := F_common_divisor.binds (ps := ["one", "two"]) fun _ _ _ _ _ _ us hl => match us, hl with | [_, _], _ => rfl
  have F_fraction := fun_mk (st := s_fraction) l_fraction c_o_fraction k_fraction
  have b_fraction := F_fraction.binds (ps := ["over", "under"]) fun _ _ _ _ _ _ us hl => match us, hl with | [_, _], _ => rfl
  have F_minus := fun_mk (st := s_minus) l_minus c_o_minus k_minus
  have b_minus := F_minus.binds (ps := ["one", "two"]) fun _ _ _ _ _ _ us hl => match us, hl with | [_, _], _ => rfl
  have F_booklet := fun_mk (st := s_booklet) l_booklet c_o_booklet k_booklet
  have b_booklet := F_booklet.binds (ps := ["pages"]) fun _ _ _ _ _ _ us hl => match us, hl with | [_], _ => rfl
  have F_booklets := fun_mk (st := s_booklets) l_booklets c_o_booklets k_booklets
  have b_booklets := F_booklets.binds (ps := ["pages", "sheets"]) fun _ _ _ _ _ _ us hl => match us, hl with | [_, _], _ => rfl
  have F_side_of := fun_mk (st := s_side_of) l_side_of c_o_side_of k_side_of
  have b_side_of := F_side_of.binds (ps := ["pages", "page"]) fun _ _ _ _ _ _ us hl => match us, hl with | [_, _], _ => rfl
  have F_read_order := fun_mk (st := s_read_order) l_read_order c_o_read_order k_read_order
  have b_read_order := F_read_order.binds (ps := ["sides"]) fun _ _ _ _ _ _ us hl => match us, hl with | [_], _ => rfl
  have F_creep_of := fun_mk (st := s_creep_of) l_creep_of c_o_creep_of k_creep_of
  have b_creep_of := F_creep_of.binds (ps := ["sheets", "thickness"]) fun _ _ _ _ _ _ us hl => match us, hl with | [_, _], _ => rfl
  have F_many_up := fun_mk (st := s_many_up) l_many_up c_o_many_up k_many_up
  have b_many_up := F_many_up.binds (ps := ["pages", "across", "down"]) fun _ _ _ _ _ _ us hl => match us, hl with | [_, _, _], _ => rfl
  have F_stack_up := fun_mk (st := s_stack_up) l_stack_up c_o_stack_up k_stack_up
  have b_stack_up := F_stack_up.binds (ps := ["pages", "across", "down"]) fun _ _ _ _ _ _ us hl => match us, hl with | [_, _, _], _ => rfl
  have F_cut_heap := fun_mk (st := s_cut_heap) l_cut_heap c_o_cut_heap k_cut_heap
  have b_cut_heap := F_cut_heap.binds (ps := ["sides"]) fun _ _ _ _ _ _ us hl => match us, hl with | [_], _ => rfl
  have F_backs_of := fun_mk (st := s_backs_of) l_backs_of c_o_backs_of k_backs_of
  have b_backs_of := F_backs_of.binds (ps := ["side", "by_long"]) fun _ _ _ _ _ _ us hl => match us, hl with | [_, _], _ => rfl
  have F_both_sides := fun_mk (st := s_both_sides) l_both_sides c_o_both_sides k_both_sides
  have b_both_sides := F_both_sides.binds (ps := ["sides", "by_long"]) fun _ _ _ _ _ _ us hl => match us, hl with | [_, _], _ => rfl
  have F_work_and_turn := fun_mk (st := s_work_and_turn) l_work_and_turn c_o_work_and_turn k_work_and_turn
  have b_work_and_turn := F_work_and_turn.binds (ps := ["side", "other"]) fun _ _ _ _ _ _ us hl => match us, hl with | [_, _], _ => rfl
  have F_sheets_for := fun_mk (st := s_sheets_for) l_sheets_for c_o_sheets_for k_sheets_for
  have b_sheets_for := F_sheets_for.binds (ps := ["pages", "across", "down", "both"]) fun _ _ _ _ _ _ us hl => match us, hl with | [_, _, _, _], _ => rfl
  have F_best_grid := fun_mk (st := s_best_grid) l_best_grid c_o_best_grid k_best_grid
  have b_best_grid := F_best_grid.binds (ps := ["sheet", "page", "gap"]) fun _ _ _ _ _ _ us hl => match us, hl with | [_, _, _], _ => rfl
  have F_places_on := fun_mk (st := s_places_on) l_places_on c_o_places_on k_places_on
  have b_places_on := F_places_on.binds (ps := ["sheet", "page", "grid", "gap"]) fun _ _ _ _ _ _ us hl => match us, hl with | [_, _, _, _], _ => rfl
  have F_reversed_sides := fun_mk (st := s_reversed_sides) l_reversed_sides c_o_reversed_sides k_reversed_sides
  have b_reversed_sides := F_reversed_sides.binds (ps := ["sides"]) fun _ _ _ _ _ _ us hl => match us, hl with | [_], _ => rfl
  have F_poster := fun_mk (st := s_poster) l_poster c_o_poster k_poster
  have b_poster := F_poster.binds (ps := ["picture", "sheet", "overlap"]) fun _ _ _ _ _ _ us hl => match us, hl with | [_, _, _], _ => rfl
  have F_starts_of := fun_mk (st := s_starts_of) l_starts_of c_o_starts_of k_starts_of
  have b_starts_of := F_starts_of.binds (ps := ["length", "part", "overlap"]) fun _ _ _ _ _ _ us hl => match us, hl with | [_, _, _], _ => rfl
  have F__law_draw := fun_mk (st := s__law_draw) l__law_draw c_o__law_draw k__law_draw
  have b__law_draw := F__law_draw.binds (ps := ["state", "limit"]) fun _ _ _ _ _ _ us hl => match us, hl with | [_, _], _ => rfl
  have F__law_full := fun_mk (st := s__law_full) l__law_full c_o__law_full k__law_full
  have b__law_full := F__law_full.binds (ps := ["pages"]) fun _ _ _ _ _ _ us hl => match us, hl with | [_], _ => rfl
  have F__law_side := fun_mk (st := s__law_side) l__law_side c_o__law_side k__law_side
  have b__law_side := F__law_side.binds (ps := ["pages", "page"]) fun _ _ _ _ _ _ us hl => match us, hl with | [_, _], _ => rfl
  have F__law_places := fun_mk (st := s__law_places) l__law_places c_o__law_places k__law_places
  have b__law_places := F__law_places.binds (ps := ["sheet", "page", "grid", "gap"]) fun _ _ _ _ _ _ us hl => match us, hl with | [_, _, _, _], _ => rfl
  have F__law_folded := fun_mk (st := s__law_folded) l__law_folded c_o__law_folded k__law_folded
  have b__law_folded := F__law_folded.binds (ps := ["state", "pages"]) fun _ _ _ _ _ _ us hl => match us, hl with | [_, _], _ => rfl
  have F__law_gridded := fun_mk (st := s__law_gridded) l__law_gridded c_o__law_gridded k__law_gridded
  have b__law_gridded := F__law_gridded.binds (ps := ["state", "pages"]) fun _ _ _ _ _ _ us hl => match us, hl with | [_, _], _ => rfl
  have F__law_grid := fun_mk (st := s__law_grid) l__law_grid c_o__law_grid k__law_grid
  have b__law_grid := F__law_grid.binds (ps := ["state"]) fun _ _ _ _ _ _ us hl => match us, hl with | [_], _ => rfl
  have F__law_poster := fun_mk (st := s__law_poster) l__law_poster c_o__law_poster k__law_poster
  have b__law_poster := F__law_poster.binds (ps := ["state", "sheet"]) fun _ _ _ _ _ _ us hl => match us, hl with | [_, _], _ => rfl
  have F_law := fun_mk (st := s_law) l_law c_o_law k_law
  refine ⟨PySem.W.fnOf "law" "law" (defArgs s_law) (defBody s_law) (defScope s_law) .none kV_law dc_law pm_law an_law cd_law ct_law, fun s u => .of_eq rfl, fun base _ _ => ?_⟩
  have p_is_integer := ok_is_integer (P := P) (w := w) (base := base) F_is_integer (PySem.W.mg_of X G a_is_integer) b_is_integer bl
  have p_common_divisor := ok_common_divisor (P := P) (w := w) (base := base) F_common_divisor (PySem.W.mg_of X G a_common_divisor) b_common_divisor bl
  have p_booklet := ok_booklet (P := P) (w := w) (base := base) F_booklet (PySem.W.mg_of X G a_booklet) b_booklet bl
  have p_read_order := ok_read_order (P := P) (w := w) (base := base) F_read_order (PySem.W.mg_of X G a_read_order) b_read_order bl
  have p_many_up := ok_many_up (P := P) (w := w) (base := base) F_many_up (PySem.W.mg_of X G a_many_up) b_many_up bl
  have p_stack_up := ok_stack_up (P := P) (w := w) (base := base) F_stack_up (PySem.W.mg_of X G a_stack_up) b_stack_up bl
  have p_cut_heap := ok_cut_heap (P := P) (w := w) (base := base) F_cut_heap (PySem.W.mg_of X G a_cut_heap) b_cut_heap bl
  have p_backs_of := ok_backs_of (P := P) (w := w) (base := base) F_backs_of (PySem.W.mg_of X G a_backs_of) b_backs_of bl
  have p_work_and_turn := ok_work_and_turn (P := P) (w := w) (base := base) F_work_and_turn (PySem.W.mg_of X G a_work_and_turn) b_work_and_turn bl x_Misfit
  have p_sheets_for := ok_sheets_for (P := P) (w := w) (base := base) F_sheets_for (PySem.W.mg_of X G a_sheets_for) b_sheets_for bl
  have p_best_grid := ok_best_grid (P := P) (w := w) (base := base) F_best_grid (PySem.W.mg_of X G a_best_grid) b_best_grid bl
  have p_places_on := ok_places_on (P := P) (w := w) (base := base) F_places_on (PySem.W.mg_of X G a_places_on) b_places_on bl x_Misfit
  have p_reversed_sides := ok_reversed_sides (P := P) (w := w) (base := base) F_reversed_sides (PySem.W.mg_of X G a_reversed_sides) b_reversed_sides bl
  have p_starts_of := ok_starts_of (P := P) (w := w) (base := base) F_starts_of (PySem.W.mg_of X G a_starts_of) b_starts_of bl x_NoSuch
  have p__law_draw := ok__law_draw (P := P) (w := w) (base := base) F__law_draw (PySem.W.mg_of X G a__law_draw) b__law_draw bl
  have p__law_full := ok__law_full (P := P) (w := w) (base := base) F__law_full (PySem.W.mg_of X G a__law_full) b__law_full bl
  have p_fraction := ok_fraction (P := P) (w := w) (base := base) F_fraction (PySem.W.mg_of X G a_fraction) b_fraction bl x_NoSuch p_common_divisor
  have p_booklets := ok_booklets (P := P) (w := w) (base := base) F_booklets (PySem.W.mg_of X G a_booklets) b_booklets bl p_booklet
  have p_side_of := ok_side_of (P := P) (w := w) (base := base) F_side_of (PySem.W.mg_of X G a_side_of) b_side_of bl x_NoSuch p_is_integer
  have p_both_sides := ok_both_sides (P := P) (w := w) (base := base) F_both_sides (PySem.W.mg_of X G a_both_sides) b_both_sides bl p_backs_of
  have p_poster := ok_poster (P := P) (w := w) (base := base) F_poster (PySem.W.mg_of X G a_poster) b_poster bl p_starts_of
  have p__law_places := ok__law_places (P := P) (w := w) (base := base) F__law_places (PySem.W.mg_of X G a__law_places) b__law_places bl x_Misfit p_places_on
  have p_minus := ok_minus (P := P) (w := w) (base := base) F_minus (PySem.W.mg_of X G a_minus) b_minus bl p_fraction
  have p_creep_of := ok_creep_of (P := P) (w := w) (base := base) F_creep_of (PySem.W.mg_of X G a_creep_of) b_creep_of bl p_fraction
  have p__law_side := ok__law_side (P := P) (w := w) (base := base) F__law_side (PySem.W.mg_of X G a__law_side) b__law_side bl x_NoSuch p_side_of
  have p__law_gridded := ok__law_gridded (P := P) (w := w) (base := base) F__law_gridded (PySem.W.mg_of X G a__law_gridded) b__law_gridded bl p__law_draw p_many_up p__law_full p_sheets_for p_stack_up p_cut_heap p_both_sides p_backs_of p_reversed_sides p_work_and_turn
  have p__law_poster := ok__law_poster (P := P) (w := w) (base := base) F__law_poster (PySem.W.mg_of X G a__law_poster) b__law_poster bl p__law_draw p_starts_of p_poster
  have p__law_folded := ok__law_folded (P := P) (w := w) (base := base) F__law_folded (PySem.W.mg_of X G a__law_folded) b__law_folded bl p_booklet p__law_full p_read_order p__law_side p__law_draw p_booklets p_fraction p_creep_of p_minus
  have p__law_grid := ok__law_grid (P := P) (w := w) (base := base) F__law_grid (PySem.W.mg_of X G a__law_grid) b__law_grid bl p__law_draw p_best_grid p__law_places p__law_poster
  exact ok_law F_law bl p__law_draw p__law_folded p__law_gridded p__law_grid
end K19
open PySem PySem.W PyProof.Rows in
set_option maxRecDepth 100000 in
set_option maxHeartbeats 0 in
theorem PySem.Challenge.cw_linesfitted_k19_sheets_that_are_read_aga_holds : PySem.Challenge.rw_linesfitted_k19_sheets_that_are_read_aga.Holds := by
  w_on; o_law; k_head; (case hw => w_witness2)
  k_fill
  refine Dn.walkD (l := PySem.Challenge.rw_linesfitted_k19_sheets_that_are_read_aga) (k := 5) ⟨rfl, by decide, by decide⟩ rfl rfl (fun w h Y => PySem.W.kIn_of Y) ?F
  case F =>
    intro w mg fa h KX G hmg
    refine' K19.all_mk KX G hmg ?eA_NoSuch ?eX_NoSuch ?eK_NoSuch ?eB_NoSuch ?eT_NoSuch ?eI_NoSuch ?eS_NoSuch ?eA_Misfit ?eX_Misfit ?eK_Misfit ?eB_Misfit ?eT_Misfit ?eI_Misfit ?eS_Misfit ?a_is_integer ?l_is_integer ?c_o_is_integer ?k_is_integer ?a_common_divisor ?l_common_divisor ?c_o_common_divisor ?k_common_divisor ?a_fraction ?l_fraction ?c_o_fraction ?k_fraction ?a_minus ?l_minus ?c_o_minus ?k_minus ?a_booklet ?l_booklet ?c_o_booklet ?k_booklet ?a_booklets ?l_booklets ?c_o_booklets ?k_booklets ?a_side_of ?l_side_of ?c_o_side_of ?k_side_of ?a_read_order ?l_read_order ?c_o_read_order ?k_read_order ?a_creep_of ?l_creep_of ?c_o_creep_of ?k_creep_of ?a_many_up ?l_many_up ?c_o_many_up ?k_many_up ?a_stack_up ?l_stack_up ?c_o_stack_up ?k_stack_up ?a_cut_heap ?l_cut_heap ?c_o_cut_heap ?k_cut_heap ?a_backs_of ?l_backs_of ?c_o_backs_of ?k_backs_of ?a_both_sides ?l_both_sides ?c_o_both_sides ?k_both_sides ?a_work_and_turn ?l_work_and_turn ?c_o_work_and_turn ?k_work_and_turn ?a_sheets_for ?l_sheets_for ?c_o_sheets_for ?k_sheets_for ?a_best_grid ?l_best_grid ?c_o_best_grid ?k_best_grid ?a_places_on ?l_places_on ?c_o_places_on ?k_places_on ?a_reversed_sides ?l_reversed_sides ?c_o_reversed_sides ?k_reversed_sides ?a_poster ?l_poster ?c_o_poster ?k_poster ?a_starts_of ?l_starts_of ?c_o_starts_of ?k_starts_of ?a__law_draw ?l__law_draw ?c_o__law_draw ?k__law_draw ?a__law_full ?l__law_full ?c_o__law_full ?k__law_full ?a__law_side ?l__law_side ?c_o__law_side ?k__law_side ?a__law_places ?l__law_places ?c_o__law_places ?k__law_places ?a__law_folded ?l__law_folded ?c_o__law_folded ?k__law_folded ?a__law_gridded ?l__law_gridded ?c_o__law_gridded ?k__law_gridded ?a__law_grid ?l__law_grid ?c_o__law_grid ?k__law_grid ?a__law_poster ?l__law_poster ?c_o__law_poster ?k__law_poster ?a_law ?l_law ?c_o_law ?k_law ?z0 ?z1 ?z2 ?z3 ?z4 ?z5 ?z6 ?z7 ?z8 ?z9 ?z10 ?z11 ?z12 ?z13 ?z14 ?z15 ?z16 ?z17 ?z18 ?z19 ?z20
    (case eA_NoSuch => k_is)
    (case eX_NoSuch => k_exc)
    (case eK_NoSuch => k_is)
    (case eB_NoSuch => k_is)
    (case eT_NoSuch => k_is)
    (case eI_NoSuch => k_is)
    (case eS_NoSuch => k_is)
    (case eA_Misfit => k_is)
    (case eX_Misfit => k_exc)
    (case eK_Misfit => k_is)
    (case eB_Misfit => k_is)
    (case eT_Misfit => k_is)
    (case eI_Misfit => k_is)
    (case eS_Misfit => k_is)
    (case a_is_integer => k_is)
    (case l_is_integer => k_is)
    (case c_o_is_integer => k_is)
    (case k_is_integer => k_is)
    (case a_common_divisor => k_is)
    (case l_common_divisor => k_is)
    (case c_o_common_divisor => k_is)
    (case k_common_divisor => k_is)
    (case a_fraction => k_is)
    (case l_fraction => k_is)
    (case c_o_fraction => k_is)
    (case k_fraction => k_is)
    (case a_minus => k_is)
    (case l_minus => k_is)
    (case c_o_minus => k_is)
    (case k_minus => k_is)
    (case a_booklet => k_is)
    (case l_booklet => k_is)
    (case c_o_booklet => k_is)
    (case k_booklet => k_is)
    (case a_booklets => k_is)
    (case l_booklets => k_is)
    (case c_o_booklets => k_is)
    (case k_booklets => k_is)
    (case a_side_of => k_is)
    (case l_side_of => k_is)
    (case c_o_side_of => k_is)
    (case k_side_of => k_is)
    (case a_read_order => k_is)
    (case l_read_order => k_is)
    (case c_o_read_order => k_is)
    (case k_read_order => k_is)
    (case a_creep_of => k_is)
    (case l_creep_of => k_is)
    (case c_o_creep_of => k_is)
    (case k_creep_of => k_is)
    (case a_many_up => k_is)
    (case l_many_up => k_is)
    (case c_o_many_up => k_is)
    (case k_many_up => k_is)
    (case a_stack_up => k_is)
    (case l_stack_up => k_is)
    (case c_o_stack_up => k_is)
    (case k_stack_up => k_is)
    (case a_cut_heap => k_is)
    (case l_cut_heap => k_is)
    (case c_o_cut_heap => k_is)
    (case k_cut_heap => k_is)
    (case a_backs_of => k_is)
    (case l_backs_of => k_is)
    (case c_o_backs_of => k_is)
    (case k_backs_of => k_is)
    (case a_both_sides => k_is)
    (case l_both_sides => k_is)
    (case c_o_both_sides => k_is)
    (case k_both_sides => k_is)
    (case a_work_and_turn => k_is)
    (case l_work_and_turn => k_is)
    (case c_o_work_and_turn => k_is)
    (case k_work_and_turn => k_is)
    (case a_sheets_for => k_is)
    (case l_sheets_for => k_is)
    (case c_o_sheets_for => k_is)
    (case k_sheets_for => k_is)
    (case a_best_grid => k_is)
    (case l_best_grid => k_is)
    (case c_o_best_grid => k_is)
    (case k_best_grid => k_is)
    (case a_places_on => k_is)
    (case l_places_on => k_is)
    (case c_o_places_on => k_is)
    (case k_places_on => k_is)
    (case a_reversed_sides => k_is)
    (case l_reversed_sides => k_is)
    (case c_o_reversed_sides => k_is)
    (case k_reversed_sides => k_is)
    (case a_poster => k_is)
    (case l_poster => k_is)
    (case c_o_poster => k_is)
    (case k_poster => k_is)
    (case a_starts_of => k_is)
    (case l_starts_of => k_is)
    (case c_o_starts_of => k_is)
    (case k_starts_of => k_is)
    (case a__law_draw => k_is)
    (case l__law_draw => k_is)
    (case c_o__law_draw => k_is)
    (case k__law_draw => k_is)
    (case a__law_full => k_is)
    (case l__law_full => k_is)
    (case c_o__law_full => k_is)
    (case k__law_full => k_is)
    (case a__law_side => k_is)
    (case l__law_side => k_is)
    (case c_o__law_side => k_is)
    (case k__law_side => k_is)
    (case a__law_places => k_is)
    (case l__law_places => k_is)
    (case c_o__law_places => k_is)
    (case k__law_places => k_is)
    (case a__law_folded => k_is)
    (case l__law_folded => k_is)
    (case c_o__law_folded => k_is)
    (case k__law_folded => k_is)
    (case a__law_gridded => k_is)
    (case l__law_gridded => k_is)
    (case c_o__law_gridded => k_is)
    (case k__law_gridded => k_is)
    (case a__law_grid => k_is)
    (case l__law_grid => k_is)
    (case c_o__law_grid => k_is)
    (case k__law_grid => k_is)
    (case a__law_poster => k_is)
    (case l__law_poster => k_is)
    (case c_o__law_poster => k_is)
    (case k__law_poster => k_is)
    (case a_law => k_is)
    (case l_law => k_is)
    (case c_o_law => k_is)
    (case k_law => k_is)
    (case z0 => k_is)
    (case z1 => k_is)
    (case z2 => k_is)
    (case z3 => k_is)
    (case z4 => k_is)
    (case z5 => k_is)
    (case z6 => k_is)
    (case z7 => k_is)
    (case z8 => k_is)
    (case z9 => k_is)
    (case z10 => k_is)
    (case z11 => k_is)
    (case z12 => k_is)
    (case z13 => k_is)
    (case z14 => k_is)
    (case z15 => k_is)
    (case z16 => k_is)
    (case z17 => k_is)
    (case z18 => k_is)
    (case z19 => k_is)
    (case z20 => k_is)
