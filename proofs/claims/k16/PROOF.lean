import PyProof.Rows.All
import HandS.ForMost
import HandS.ForExc
import HandS.AnyAll
import HandS.GenList
import HandS.EndTab
import HandS.Head0
import HandS.Head1
import HandS.Head2
import HandS.HeadEnd
import HandS.HeadHook1
import HandS.HeadHook2
import HandS.HeadHook3
import HandS.HeadHook4
import HandS.HeadWalk
import Wide.All
import OpenK.AllK
import Wide.FinOn
import HandS.Deep
import HandS.Wide
import HandS.TupAny
import HandS.Conv
import HandS.Style
import HandS.IsInst
import HandS.Rev
import HandS.Walk
import HandS.RevTup
import KE.GoesEnum
import HandS.TupMul
import HandS.Zip
import HandS.Flow
import HandS.SortInts
import HandS.DictComp
import HandS.More
import HandS.TupLen
import HandS.WordsDict
import KE.KDictDisplayH
import KE.GoesMore
import KE.GoesZip
import KE.SortData
import KE.DataMinMax
import KE.DataCmp
import KE.LtData
import PySem.Challenge.RW_linesfitted_k16_columns_that_no_others_b
set_option Elab.async false
set_option linter.all false
set_option maxRecDepth 100000
set_option maxHeartbeats 0
/-! En0: any, all of a generator expression over anything that PI serves, its element any expression that PE serves. -/
namespace GxB
open PySem PySem.Spec PyProof.Rows L2 GxR GenW
/-- a table of code objects, whatever stands in it -/
def tabF (P : Addr) : Heap → Prop := fun h => ∃ ps : Array Value, h.get? P = some { cls := .none, data := .fields ps } ∧ TriplesOk ps.toList
section
variable {X : Cx} {pins : List (Addr × Obj)} {σ : L2.St} {H : Hp} {s : Shared}
theorem tab_ok {P : Program} {w : World} {a : Addr} {h : Heap} {ps : Array Value} (e : h.get? a = some { cls := .none, data := .fields ps }) (t : TriplesOk ps.toList) : ObjOk P w H h a (.ext (tabF a)) :=
  ⟨⟨ps, e, t⟩, ⟨_, e⟩, fun _ _ ⟨ps, e1, e2⟩ k => ⟨ps, k _ e1, e2⟩⟩
theorem inv_tabF {P : Addr} {ps' : Array Value} {h' : Heap} {g' : Array GenState} {d' : Drawn} {t' : Nat} (I : Inv X pins σ H s) (hP : H P = some (.ext (tabF P))) (k : ∀ b o, b ≠ P → s.heap.get? b = some o → h'.get? b = some o)
    (hm : h'.get? P = some { cls := .none, data := .fields ps' }) (ht : TriplesOk ps'.toList) (hg : AllBare g') : Inv X pins σ H { s with heap := h', gens := g', drawn := d', toks := t' } := by
  have nP : ∀ b u, H b = some u → (∀ q, u ≠ .ext q) → b ≠ P := fun b u e q z => by
    rw [z, hP] at e
    exact q _ (Option.some.inj e).symm
  have nN : ∀ b, H b = none → b ≠ P := fun b e z => by
    rw [z, hP] at e
    cases e
  refine I.step (g' := g') (d' := d') (ch := []) (fun b hb => absurd hb (by simp)) (fun b o _ _ _ e n => k b o (nN b n) e) (fun b o _ _ _ e n => ⟨o.slots, k b o (nN b n) e⟩)
    (fun b o _ e n => n) (fun b o _ e => ?_) (fun b xs e => e) (fun b o u e => e) (fun b qs e => ⟨#[], by rw [e]; simp⟩) (fun m hn => ?_) (fun b u e => ?_) hg
  · by_cases hb : b = P
    · rw [hb]
      exact ⟨_, hm⟩
    · exact ⟨o, k b o hb e⟩
  · obtain ⟨ob, es, ep, ho, r⟩ := hn
    exact ⟨ob, es, ep, k _ ob (nN _ I.free) ho, r⟩
  · by_cases hb2 : b = P
    · rw [hb2, hP] at e
      cases e
      rw [hb2]
      exact tab_ok hm ht
    · refine (I.hok b u e).stay (fun d v hd q => k d v ?_ q) (fun d q => q) fun d xs q => q
      rcases hd with z | z
      · rw [z]
        exact hb2
      · exact nP d _ z (fun q z => by cases z)

/-- the context of a generator's frame that starts at s -/
abbrev _root_.L2.Cx.gen (X : Cx) (s : Shared) (H : Hp) (env : Env) (A : Around) (fp : List Addr) : Cx :=
  { X with s_0 := s, H_0 := H, env := env, A := A, outer := X.stack, stack := env :: X.stack, ex := fp, fn := fun _ => false, pn := [], xe := fun _ _ => False }
abbrev gEnv (X : Cx) (scope : Scope) (C : Addr) (code : Value) : Env := genEnv scope (cloFrom X.env.cells scope.names []) C code builtinsNs X.env
theorem gen_start {scope : Scope} {own : List (Str × Nat)} {fp : List Addr} {code : Value} {C a : Addr} {h5 : Heap} {g5 : Array GenState} {d5 : Drawn} {tk5 : Nat} {A' : Around} {gobj : Obj} {m0 : Str → Option Value}
    (I : Inv X pins σ H s) (ok : BlkOk X.N X.env.scope scope own) (hN : X.N.Nodup) (hcell : ∀ y ∈ scope.names, y.2 ≠ .cell) (hfp : ∀ b ∈ fp, FpOk X pins H b ∧ b < s.heap.objs.size) (hC : s.heap.objs.size = C)
    (hns : h5.Ns C m0) (kp : ∀ b o, s.heap.get? b = some o → h5.get? b = some o) (hA : A'.handled = none) (hF : A'.frames = some (gEnv X scope C code :: X.stack)) (hga : h5.get? a = some gobj) (hag : C < a) (hgd : ∀ v, gobj.data ≠ .cell v) (hb : AllBare g5) :
    Inv (X.gen s H (gEnv X scope C code) A' fp) [(a, gobj)] (wipe σ (own.map (·.2))) H { s with heap := h5, gens := g5, drawn := d5, toks := tk5 } := by
  have hfree : ∀ y ∈ scope.names, y.2 = .free → ∃ c, X.env.cells.lookup y.1 = some c := fun y hy e => by
    rcases ok.free y hy e with k | k
    · exact I.ok.has _ (.inl k)
    · exact I.ok.has _ (.inr k)
  have cm : ∀ {y c}, (y, c) ∈ cloFrom X.env.cells scope.names [] → X.env.cells.lookup y = some c ∧ c < s.heap.objs.size := fun {y c} hm => by
    rcases cloFrom_mem hm with hm | ⟨h1, rfl⟩
    · cases hm
    · obtain ⟨c, hc⟩ := hfree _ h1 rfl
      rw [hc]
      obtain ⟨w, z⟩ := I.cell _ _ hc
      exact ⟨rfl, z.lt⟩
  have look : ∀ {y}, scope.names.lookup y = some .free → ∃ c, (cloFrom X.env.cells scope.names []).lookup y = some c ∧ X.env.cells.lookup y = some c := fun {y} hl => by
    have hy : (y, NameKind.free) ∈ scope.names := PySem.mem_of_lookup hl
    obtain ⟨c', e'⟩ := mem_lookup (cloFrom_has (cells := X.env.cells) (acc := []) hy)
    exact ⟨c', e', (cm (PySem.mem_of_lookup e')).1⟩
  have hCn : H C = none := I.hok.fresh (Nat.le_of_eq hC)
  have han : H a = none := I.hok.fresh (by rw [hC]; exact Nat.le_of_lt hag)
  have okB : (X.gen s H (gEnv X scope C code) A' fp).Ok := by
    refine ⟨I.ok.mod, ok.kind, I.ok.glob, rfl, by show s.heap.objs.size ≤ C; exact Nat.le_of_eq hC,
      fun y z c e1 e2 => ?_, fun y hy => ?_, fun y c z e => (by cases z), fun _ => hA, hF, .inr ⟨rfl, rfl⟩, fun b hb => ⟨?_, fun y c e z => ?_⟩, I.bs, Nat.le_trans I.ok.bsz I.sz, fun b o e hb => ?_, fun b hb z => ?_, I.stack, I.stkFree⟩
    · exact I.ok.inj y z c (cm (PySem.mem_of_lookup e1)).1 (cm (PySem.mem_of_lookup e2)).1
    · have key : ∀ k, scope.names.lookup y = some k → (k = .cell ∨ k = .free) → ∃ c, (cloFrom X.env.cells scope.names []).lookup y = some c := fun k hk hk' => by
        rcases hk' with rfl | rfl
        · exact absurd rfl (hcell _ (PySem.mem_of_lookup hk))
        · obtain ⟨c, h1, _⟩ := look hk
          exact ⟨c, h1⟩
      rcases hy with hy | hy
      · exact key _ hy (.inl rfl)
      · exact key _ hy (.inr rfl)
    · show b ≠ C
      rw [← hC]; exact Nat.ne_of_lt (hfp b hb).2
    · exact (hfp b hb).1.2.2.2.2.1 y c (cm (PySem.mem_of_lookup e)).1 z
    · rcases (hfp b hb).1.2.2.2.1 with z | z
      · exact I.ok.noex b o e z
      · exact absurd (Nat.lt_of_lt_of_le (Heap.lt_size e) (Nat.le_trans I.ok.bsz z)) (Nat.lt_irrefl _)
    · rcases List.mem_cons.mp (I.stkSub b z) with z | z
      · exact (hfp b hb).1.2.1 z
      · exact (hfp b hb).1.2.2.1 z
  refine ⟨okB, rfl, hb, Un.kept kp, ⟨m0, hns, fun i y av e1 e2 e3 => ?_⟩, fun y c e => ?_, hCn, fun y c e => ?_, fun p hp => ?_, I.hok.kept kp, by rw [wipe_length]; exact I.len⟩
  · obtain ⟨e2, hne⟩ := wipe_some e2
    have hfr : scope.names.lookup y = some .free := by
      have no : ∀ k, scope.names.lookup y = some k → (k = .local ∨ k = .cell) → False := fun k hk hh => by
        rcases ok.own _ (PySem.mem_of_lookup hk) hh with e' | e'
        · obtain ⟨p, hp, hpy⟩ := List.mem_map.mp e'
          have e3 := ok.ix p hp
          have : p.1 = y := hpy
          rw [this] at e3
          exact hne (List.mem_map.mpr ⟨p, hp, nodup_ix hN e3 e1⟩)
        · exact e' (List.mem_of_getElem? e1)
      have e3 : Vis scope y := e3
      rcases e3 with e3 | e3 | e3
      · exact (no _ e3 (.inl rfl)).elim
      · exact (no _ e3 (.inr rfl)).elim
      · exact e3
    obtain ⟨m, hn, hl⟩ := I.loc
    have hvis : Vis X.env.scope y := (ok.free _ (PySem.mem_of_lookup hfr) rfl).elim (fun k => .inr (.inl k)) (fun k => .inr (.inr k))
    obtain ⟨w, r, q⟩ := hl i y av e1 e2 hvis
    refine ⟨w, r, .inr ⟨.inr hfr, ?_⟩⟩
    obtain ⟨c, h1, h2⟩ := look hfr
    rcases q with ⟨k, _⟩ | ⟨_, c', e', z⟩
    · have k : X.env.scope.names.lookup y = some .local := k
      rcases ok.free _ (PySem.mem_of_lookup hfr) rfl with k' | k' <;> rw [show X.env.scope.names.lookup y = _ from k'] at k <;> cases k
    · rw [h2] at e'; cases e'
      exact ⟨c, h1, z.keeps kp⟩
  · obtain ⟨w, z⟩ := I.cell y c (cm (PySem.mem_of_lookup e)).1
    exact ⟨w, z.keeps kp⟩
  · exact I.freeC y c (cm (PySem.mem_of_lookup e)).1
  · have e : p = (a, gobj) := by simpa using hp
    subst e
    refine ⟨hga, han, Nat.ne_of_gt hag, fun z => ?_, hgd⟩
    have z : a ∈ frs X.stack := z
    rcases List.mem_cons.mp (I.stkSub a z) with z | z
    · have := I.lt
      rw [← z] at this
      exact absurd (Nat.lt_trans hag (by rw [← hC]; exact this)) (Nat.lt_irrefl _)
    · exact I.nofs (by rw [hC]; exact Nat.le_of_lt hag) z
theorem inv_same (I : Inv X pins σ H s) {s' : Shared} (h1 : s'.heap = s.heap) (h2 : s'.os = s.os) (h3 : AllBare s'.gens) : Inv X pins σ H s' := by
  obtain ⟨h', g', d', t', o'⟩ := s'
  have h1 : h' = s.heap := h1
  have h2 : o' = s.os := h2
  subst h1 h2
  exact I.step (g' := g') (d' := d') (t' := t') (ch := []) (fun b hb => absurd hb (by simp)) (fun b o _ _ _ e _ => e) (fun b o _ _ _ e _ => ⟨o.slots, e⟩) (fun b o _ e n => n) (fun b o _ e => ⟨o, e⟩) (fun b xs e => e) (fun b o u e => e) (fun b qs e => ⟨#[], by rw [e]; simp⟩) (fun m hn => hn) I.hok h3
/-- while the generator sleeps -/
structure Rel (s s' : Shared) : Prop where
  heap : s'.heap = s.heap
  os : s'.os = s.os
  bare : AllBare s'.gens
theorem setGen_os (s : Shared) (g : Nat) (x : GenState) : (s.setGen g x).os = s.os := rfl
theorem setGen_heap (s : Shared) (g : Nat) (x : GenState) : (s.setGen g x).heap = s.heap := rfl

/-- the fixed things of a running generator expression -/
structure Gx where
  X : Cx
  Q : VK
  st : Bool
  σ : L2.St
  vs : List Nat
  a : Addr
  gobj : Obj
  it : Addr
  fp : List Addr
  tn : Nat → Heap → Prop
  W : Nat → Nat → Hp → Prop
def Gx.E (Z : Gx) (b : Bool) (s : Shared) : Prop := ∃ H', Inv Z.X [(Z.a, Z.gobj)] (wipe Z.σ Z.vs) H' s ∧ Z.Q (.bl b) H'
def Gx.J (Z : Gx) (i m : Nat) (s : Shared) : Prop := ∃ H', Inv Z.X [(Z.a, Z.gobj)] (wipe Z.σ Z.vs) H' s ∧ Z.tn i s.heap ∧ (∀ b ∈ Z.fp, H' b = none) ∧ ∃ m', m' ≤ m ∧ Z.W i m' H'
theorem Gx.J.rel {Z : Gx} {i m : Nat} {s s' : Shared} (h : Z.J i m s) (r : Rel s s') : Z.J i m s' := by
  obtain ⟨H', I, t, f, w⟩ := h
  exact ⟨H', inv_same I r.heap r.os r.bare, by rw [r.heap]; exact t, f, w⟩
theorem Gx.E.rel {Z : Gx} {b : Bool} {s s' : Shared} (h : Z.E b s) (r : Rel s s') : Z.E b s' := by
  obtain ⟨H', I, q⟩ := h
  exact ⟨H', inv_same I r.heap r.os r.bare, q⟩
theorem Gx.E.bare {Z : Gx} {b : Bool} {s : Shared} (h : Z.E b s) : AllBare s.gens := by obtain ⟨H', I, _⟩ := h; exact I.bare
theorem Gx.J.bare {Z : Gx} {i m : Nat} {s : Shared} (h : Z.J i m s) : AllBare s.gens := by obtain ⟨H', I, _⟩ := h; exact I.bare
def Gx.R (Z : Gx) : GenEnd := fun _ _ r s => r = .ok .next ∧ Z.E (!Z.st) s
def Gx.Y (Z : Gx) : Protocol := fun m _ v s kap => ∃ b, v = .bool b ∧ (b = Z.st → Z.E Z.st s) ∧ (b = !Z.st → ∃ m' i, m = m' + 1 ∧ Z.J i m' s ∧ ∀ s'', Rel s s'' → kap (.send .none) s'')
theorem seg_turnG {Z : Gx} {B : Around} {elt tg iter : Expr} {scope : Scope} {pos : Pos} {g : TG} {te : TE} {J : It}
    (hc : Z.X.calm = true) (hco : Z.X.env.scope.isCoroutine = false) (hA : Z.X.A = B.over (.compLoop (.GeneratorExp elt [⟨tg, iter, [], 0⟩] scope pos) 0 (.ref Z.it) .none Z.X.env) []) (hex : Z.X.ex = Z.fp) (hxe : Z.X.xe = fun _ _ => False) (hpn : Z.X.pn = [])
    (T : Turn Z.X.prog Z.X.w Z.X.K tg J Z.fp Z.it Z.tn) (hg : PG Z.X tg g) (he : PE Z.X elt te) (hafp : Z.a ∉ Z.fp)
    (turn : ∀ i m H, Z.W i m H → (J.stop i H ∧ Z.Q (.bl (!Z.st)) H) ∨ (J.go i H ∧ ∃ Nx : Hp → Prop, (∀ H', Nx H' → ∃ m', m' < m ∧ Z.W (i + 1) m' H') ∧ ∀ x H', J.yld i H x H' → g x (wipe Z.σ Z.vs) H' fun σ2 H2 => wipe σ2 Z.vs = wipe Z.σ Z.vs ∧
      te σ2 H2 fun y H3 => ∃ b, y = .bl b ∧ (b = (!Z.st) → Nx H3) ∧ (b = Z.st → Z.Q (.bl Z.st) H3))) (m i : Nat) (s₀ s : Shared) (h : Z.J i m s)
    (ih : ∀ m' i' s'', m = m' + 1 → Z.J i' m' s'' → Seg (model Z.X.prog Z.X.w) B Z.R Z.Y m s'' (.compLoop (.GeneratorExp elt [⟨tg, iter, [], 0⟩] scope pos) 0 (.ref Z.it) .none Z.X.env)
        ((model Z.X.prog Z.X.w).den (.compLoop (.GeneratorExp elt [⟨tg, iter, [], 0⟩] scope pos) 0 (.ref Z.it) .none Z.X.env)) [] s'') :
      Seg (model Z.X.prog Z.X.w) B Z.R Z.Y (m + 1) s₀ (.compLoop (.GeneratorExp elt [⟨tg, iter, [], 0⟩] scope pos) 0 (.ref Z.it) .none Z.X.env)
        ((model Z.X.prog Z.X.w).den (.compLoop (.GeneratorExp elt [⟨tg, iter, [], 0⟩] scope pos) 0 (.ref Z.it) .none Z.X.env)) [] s := by
  have stat : ∀ {σ' : L2.St} {H' : Hp} {s' : Shared}, Inv Z.X [(Z.a, Z.gobj)] σ' H' s' → (∀ b ∈ Z.fp, H' b = none) → ∀ b ∈ Z.fp, FpOk Z.X [(Z.a, Z.gobj)] H' b := fun {σ' H' s'} I' hn b hb => by
    have hb' : b ∈ Z.X.ex := by rw [hex]; exact hb
    refine ⟨hn b hb, (I'.ok.exf b hb').1, I'.ok.exfs b hb', .inl hb', fun x c e => (I'.ok.exf b hb').2 x c e, fun p hp => ?_⟩
    rw [hpn] at hp
    have e : p = (Z.a, Z.gobj) := by simpa using hp
    subst e
    exact fun z => hafp (by rw [show Z.a = b from z]; exact hb)
  obtain ⟨H5, I5, st5, n5, m', hm', w5⟩ := h
  show Seg _ B _ _ _ s₀ _ ((compTurn (.GeneratorExp elt [⟨tg, iter, [], 0⟩] scope pos) 0 (.ref Z.it) .none Z.X.env).onRaise (leaving Z.X.env)) [] s
  rw [compTurn_gen, Sem.onRaise_eq_wrap]
  refine seg_bind_wrap (wpAny_standAt ?_)
  rcases turn i m' H5 w5 with ⟨stop, qq⟩ | ⟨go, Nx, hNx, step⟩
  · refine seg_bind_wrap ?_
    rw [← hA]
    refine thnF (T.done Z.X rfl rfl rfl hc i [(Z.a, Z.gobj)] s _ H5 (fun _ _ => False) I5 (stat I5 n5) st5 stop) fun r s6 ⟨hr, I6⟩ => ?_
    subst hr
    exact seg_end (.ok .next) ⟨rfl, H5, I6, qq⟩
  · refine seg_bind_wrap ?_
    rw [← hA]
    refine thnF (T.item Z.X rfl rfl rfl hc i [(Z.a, Z.gobj)] s _ H5 (fun _ _ => False) I5 (stat I5 n5) st5 go) fun r s6 ⟨u, hr, h6⟩ => ?_
    subst hr
    refine seg_bind_wrap ?_
    rw [← hA]
    refine thnF h6 fun _ s7 ⟨x, H7, I7, r7, y7, st7, n7⟩ => ?_
    have I7' := I7.pinned (stat I7 n7) (T.obj _ _ st7)
    refine seg_bind_wrap ?_
    rw [← hA]
    have pgr := hg.run _ s7 _ H7 x u _ I7' r7 (step x H7 y7)
    rw [hxe] at pgr
    refine thnF pgr fun _ s8 ⟨σ8, H8, I8, hw8, q8⟩ => ?_
    refine seg_bind_wrap (wpAny_of_eq (a := true) rfl ?_)
    simp only [if_true]
    have hy : ∀ v, yieldOut Z.X.env v = yieldValue v := fun v => by simp only [yieldOut, hco, Bool.false_eq_true, if_false]
    simp only [hy]
    rw [Sem.bind_eq_wrap', Sem.bind_eq_wrap', Sem.wrap_wrap, Sem.wrap_wrap]
    refine seg_wrap ?_
    rw [← hA]
    have per := he.run _ s8 σ8 H8 _ I8 q8
    rw [hxe] at per
    refine thnF per fun z s10 ⟨yv, H10, I10, r10, b, eb, hb1, hb2⟩ => ?_
    subst eb
    have ez : z = .bool b := r10
    subst ez
    have back : Inv Z.X [(Z.a, Z.gobj)] (wipe Z.σ Z.vs) H10 s10 := by
      have hl : (wipe Z.σ Z.vs).length = σ8.length := by rw [← hw8, wipe_length]
      refine (I10.unpinned (pins := [(Z.a, Z.gobj)])).weak hl (fun j v e => ?_)
      rw [← hw8] at e
      exact (wipe_some e).1
    refine seg_at (seg_yield rfl rfl rfl ⟨b, rfl, fun e => ⟨H10, back, hb2 e⟩, fun e => ?_⟩)
    obtain ⟨m2, hm2, w2⟩ := hNx H10 (hb1 e)
    have pin' : ∀ b ∈ Z.fp, ∀ o, s7.heap.get? b = some o → s10.heap.get? b = some o ∧ H10 b = none := fun b hb o e =>
      let z := I10.pin (b, o) (List.mem_append_right _ (List.mem_append_right _ (mem_pinsAt hb e)))
      ⟨z.1, z.2.1⟩
    have jj : Z.J (i + 1) (m - 1) s10 := ⟨H10, back, T.keep _ _ _ st7 fun b hb o e => (pin' b hb o e).1, fun b hb => by
      obtain ⟨o, e, _⟩ := T.obj _ _ st7 b hb
      exact (pin' b hb o e).2, m2, by omega, w2⟩
    have em : m = m - 1 + 1 := by omega
    exact ⟨m - 1, i + 1, em, jj, fun s'' rl => seg_again rfl (ih (m - 1) (i + 1) s'' em (jj.rel rl))⟩
theorem seg_genLoopG {Z : Gx} {B : Around} {elt tg iter : Expr} {scope : Scope} {pos : Pos} {g : TG} {te : TE} {J : It}
    (hc : Z.X.calm = true) (hco : Z.X.env.scope.isCoroutine = false) (hA : Z.X.A = B.over (.compLoop (.GeneratorExp elt [⟨tg, iter, [], 0⟩] scope pos) 0 (.ref Z.it) .none Z.X.env) []) (hex : Z.X.ex = Z.fp) (hxe : Z.X.xe = fun _ _ => False) (hpn : Z.X.pn = [])
    (T : Turn Z.X.prog Z.X.w Z.X.K tg J Z.fp Z.it Z.tn) (hg : PG Z.X tg g) (he : PE Z.X elt te) (hafp : Z.a ∉ Z.fp)
    (turn : ∀ i m H, Z.W i m H → (J.stop i H ∧ Z.Q (.bl (!Z.st)) H) ∨ (J.go i H ∧ ∃ Nx : Hp → Prop, (∀ H', Nx H' → ∃ m', m' < m ∧ Z.W (i + 1) m' H') ∧ ∀ x H', J.yld i H x H' → g x (wipe Z.σ Z.vs) H' fun σ2 H2 => wipe σ2 Z.vs = wipe Z.σ Z.vs ∧
      te σ2 H2 fun y H3 => ∃ b, y = .bl b ∧ (b = (!Z.st) → Nx H3) ∧ (b = Z.st → Z.Q (.bl Z.st) H3))) : ∀ (m i : Nat) (s₀ s : Shared), Z.J i m s →
      Seg (model Z.X.prog Z.X.w) B Z.R Z.Y (m + 1) s₀ (.compLoop (.GeneratorExp elt [⟨tg, iter, [], 0⟩] scope pos) 0 (.ref Z.it) .none Z.X.env)
        ((model Z.X.prog Z.X.w).den (.compLoop (.GeneratorExp elt [⟨tg, iter, [], 0⟩] scope pos) 0 (.ref Z.it) .none Z.X.env)) [] s
  | 0, i, s₀, s, h => seg_turnG hc hco hA hex hxe hpn T hg he hafp turn 0 i s₀ s h fun m' _ _ e _ => by omega
  | m + 1, i, s₀, s, h => seg_turnG hc hco hA hex hxe hpn T hg he hafp turn (m + 1) i s₀ s h fun m' i' s'' e j => by
    have e : m = m' := by omega
    subst e
    exact seg_genLoopG hc hco hA hex hxe hpn T hg he hafp turn m i' s'' s'' j
theorem seg_genStartG {Z : Gx} {B : Around} {elt tg iter : Expr} {scope : Scope} {pos : Pos} {g : TG} {te : TE} {J : It}
    (hc : Z.X.calm = true) (hco : Z.X.env.scope.isCoroutine = false) (hA : Z.X.A = B.over (.compLoop (.GeneratorExp elt [⟨tg, iter, [], 0⟩] scope pos) 0 (.ref Z.it) .none Z.X.env) []) (hex : Z.X.ex = Z.fp) (hxe : Z.X.xe = fun _ _ => False) (hpn : Z.X.pn = [])
    (T : Turn Z.X.prog Z.X.w Z.X.K tg J Z.fp Z.it Z.tn) (hg : PG Z.X tg g) (he : PE Z.X elt te) (hafp : Z.a ∉ Z.fp)
    (turn : ∀ i m H, Z.W i m H → (J.stop i H ∧ Z.Q (.bl (!Z.st)) H) ∨ (J.go i H ∧ ∃ Nx : Hp → Prop, (∀ H', Nx H' → ∃ m', m' < m ∧ Z.W (i + 1) m' H') ∧ ∀ x H', J.yld i H x H' → g x (wipe Z.σ Z.vs) H' fun σ2 H2 => wipe σ2 Z.vs = wipe Z.σ Z.vs ∧
      te σ2 H2 fun y H3 => ∃ b, y = .bl b ∧ (b = (!Z.st) → Nx H3) ∧ (b = Z.st → Z.Q (.bl Z.st) H3))) (m : Nat) (s₀ s : Shared) (h : Z.J 0 m s) :
      Seg (model Z.X.prog Z.X.w) B Z.R Z.Y (m + 1) s₀ (.compStart (.GeneratorExp elt [⟨tg, iter, [], 0⟩] scope pos) 0 (.ref Z.it) .none Z.X.env)
        ((model Z.X.prog Z.X.w).den (.compStart (.GeneratorExp elt [⟨tg, iter, [], 0⟩] scope pos) 0 (.ref Z.it) .none Z.X.env)) [] s := by
  have loop := seg_genLoopG hc hco hA hex hxe hpn T hg he hafp turn m 0 s₀ s h
  obtain ⟨H5, I5, st5, n5, _⟩ := h
  show Seg _ B _ _ _ s₀ _ ((compStart (.GeneratorExp elt [⟨tg, iter, [], 0⟩] scope pos) 0 (.ref Z.it) .none Z.X.env).onRaise (leaving Z.X.env)) [] s
  unfold compStart
  rw [Sem.onRaise_eq_wrap]
  show Seg _ B _ _ _ s₀ _ ((ask >>= _).wrap _ _ _ _) [] s
  refine seg_bind_wrap (wpAny_askSetting ?_)
  split
  · exact seg_again rfl loop
  · first
      | exact seg_bind_wrap (wpAny_rule (seg_bind_wrap (wpAny_standAt (seg_bind_wrap (T.self _ 0 _ _ _ st5 (seg_again rfl loop))))))
      | (refine seg_bind_wrap (wpAny_rule ?_); show Seg _ B _ _ _ s₀ _ ((standAt iter.pos >>= _).wrap _ _ _ _) [] s; exact seg_bind_wrap (wpAny_standAt (seg_bind_wrap (T.self _ 0 _ _ _ st5 (seg_again rfl loop)))))

/-- the generator, ready to be asked -/
def Gx.Ready (Z : Gx) (B : Around) (n m : Nat) (s : Shared) : Prop := s.heap.IsGen Z.a n ∧ s.heap.NoLimit ∧ ∃ gs, s.gens[n]? = some gs ∧ (∃ i, Z.J i m s) ∧ ∀ s'', Rel s s'' → gs.Goes (model Z.X.prog Z.X.w) B Z.R Z.Y (m + 1) (.send .none) s''
theorem Gx.E.kept {Z : Gx} {b : Bool} {s : Shared} {h' : Heap} (h : Z.E b s) (k : ∀ b o, s.heap.get? b = some o → h'.get? b = some o) : Z.E b { s with heap := h' } := by
  obtain ⟨H', I, q⟩ := h
  exact ⟨H', I.kept (t' := s.toks) k, q⟩
theorem gen_next {Z : Gx} {A : Around} {E : Value → Shared → Prop} {Q : Option Value → Shared → Prop} {n m : Nat} {s : Shared} (hh : A.handled = none) (hroom : A.depth < recursionLimit) (hgo : ∃ q, Z.gobj = q ∧ ∀ h : Heap, h.get? Z.a = some q → h.IsGen Z.a n)
    (r : Z.Ready A.in1 n m s) (h0 : ∀ s', Z.E (!Z.st) s' → Q none s') (h1 : ∀ s', Z.E Z.st s' → Q (some (.bool Z.st)) s') (h2 : ∀ s' m', m = m' + 1 → Z.Ready A.in1 n m' s' → Q (some (.bool (!Z.st))) s') :
    wpAny (model Z.X.prog Z.X.w) A (pyNext (.ref Z.a)) Q E s := by
  obtain ⟨hg, hl, gs, hgs, ⟨i, j⟩, go⟩ := r
  have hn : n + 1 ≤ s.gens.size := (Array.getElem?_eq_some_iff.mp hgs).1
  refine wpAny_gsz hn ?_
  refine wpAny_pyNext_genexpQ (P := fun _ _ s₁ => Z.E (!Z.st) s₁) hh hl hroom hg hgs (go _ ⟨setGen_heap _ _ _, setGen_os _ _ _, allBare_setGen j.bare rfl⟩) (fun v s₁ gs' hb hv hsz => ?_) (fun s₁ hp h' hk _ => ?_)
  · obtain ⟨b, rfl, hv1, hv2⟩ := hv
    have hsz1 : n < s₁.gens.size := by
      rw [setGen_size] at hsz
      exact hsz
    by_cases e : b = Z.st
    · have ez := hv1 e
      rw [e]
      exact h1 _ (ez.rel ⟨setGen_heap _ _ _, setGen_os _ _ _, allBare_setGen ez.bare hb⟩)
    · have e : b = !Z.st := by cases b <;> cases hz : Z.st <;> simp_all
      obtain ⟨m', i', em, j', kap⟩ := hv2 e
      rw [e]
      refine h2 _ m' (by omega) ?_
      have rl : Rel s₁ (s₁.setGen n gs') := ⟨setGen_heap _ _ _, setGen_os _ _ _, allBare_setGen j'.bare hb⟩
      have j2 := j'.rel rl
      obtain ⟨q, eq, hq⟩ := hgo
      refine ⟨?_, ?_, gs', setGen_at hsz1, ⟨i', j2⟩, fun s'' r2 => ?_⟩
      · obtain ⟨H', I, _⟩ := j2
        refine hq _ ?_
        rw [← eq]
        exact (I.pin (Z.a, Z.gobj) (List.mem_append_right _ List.mem_cons_self)).1
      · obtain ⟨H', I, _⟩ := j2
        exact I.nolimit
      · have em' : m = m' + 1 := by omega
        subst em'
        exact kap s'' ⟨r2.heap, r2.os, r2.bare⟩
  · exact h0 _ ((Gx.E.rel hp (s' := s₁.setGen n .finished) ⟨setGen_heap _ _ _, setGen_os _ _ _, allBare_setGen (Gx.E.bare hp) rfl⟩).kept hk)
theorem all_loopG {Z : Gx} {A : Around} {R : Result → Shared → Prop} {n : Nat} (hst : Z.st = false) (hh : A.handled = none) (hroom : A.depth < recursionLimit) (hgo : ∃ q, Z.gobj = q ∧ ∀ h : Heap, h.get? Z.a = some q → h.IsGen Z.a n)
    (hR : ∀ b s', Z.E b s' → R (.ok (.ret (.bool b))) s') : ∀ (m : Nat) (s : Shared), Z.Ready A.in1.in1 n m s → codeAny (model Z.X.prog Z.X.w) A (.builtin "all.loop" ⟨[.ref Z.a], []⟩) R s := by
  intro m
  induction m with
  | zero =>
    intro s r
    refine codeAny_builtin F.entry_all_loop ?_
    rw [Around.under_plainId F.plain_all_loop _]
    show wpAny _ A.in1 (pyNext (.ref Z.a) >>= _) _ _ s
    refine wpAny_bind (gen_next hh hroom hgo r (fun s' e => ?_) (fun s' e => ?_) fun s' m' em _ => by omega)
    · refine wpAny_bind (wpAny_rule (wpAny_pure ?_))
      rw [hst] at e
      exact hR true s' e
    · rw [hst]
      refine wpAny_bind (wpAny_holding (wpAny_truthy_bool ?_))
      refine wpAny_bind (wpAny_letGo ?_)
      simp only [Bool.false_eq_true, if_false]
      refine wpAny_bind (wpAny_rule (wpAny_pure ?_))
      rw [hst] at e
      exact hR false s' e
  | succ m ih =>
    intro s r
    refine codeAny_builtin F.entry_all_loop ?_
    rw [Around.under_plainId F.plain_all_loop _]
    show wpAny _ A.in1 (pyNext (.ref Z.a) >>= _) _ _ s
    refine wpAny_bind (gen_next hh hroom hgo r (fun s' e => ?_) (fun s' e => ?_) fun s' m' em r' => ?_)
    · refine wpAny_bind (wpAny_rule (wpAny_pure ?_))
      rw [hst] at e
      exact hR true s' e
    · rw [hst]
      refine wpAny_bind (wpAny_holding (wpAny_truthy_bool ?_))
      refine wpAny_bind (wpAny_letGo ?_)
      simp only [Bool.false_eq_true, if_false]
      refine wpAny_bind (wpAny_rule (wpAny_pure ?_))
      rw [hst] at e
      exact hR false s' e
    · have em : m = m' := by omega
      subst em
      rw [hst]
      refine wpAny_bind (wpAny_holding (wpAny_truthy_bool ?_))
      refine wpAny_bind (wpAny_letGo ?_)
      simp only [Bool.not_false, if_true]
      exact wpAny_pure ⟨plainId_quiet F.plain_all_loop _, ih _ r'⟩
theorem any_loopG {Z : Gx} {A : Around} {R : Result → Shared → Prop} {n : Nat} (hst : Z.st = true) (hh : A.handled = none) (hroom : A.depth < recursionLimit) (hgo : ∃ q, Z.gobj = q ∧ ∀ h : Heap, h.get? Z.a = some q → h.IsGen Z.a n)
    (hR : ∀ b s', Z.E b s' → R (.ok (.ret (.bool b))) s') : ∀ (m : Nat) (s : Shared), Z.Ready A.in1.in1 n m s → codeAny (model Z.X.prog Z.X.w) A (.builtin "any.loop" ⟨[.ref Z.a], []⟩) R s := by
  intro m
  induction m with
  | zero =>
    intro s r
    refine codeAny_builtin F.entry_any_loop ?_
    rw [Around.under_plainId F.plain_any_loop _]
    show wpAny _ A.in1 (pyNext (.ref Z.a) >>= _) _ _ s
    refine wpAny_bind (gen_next hh hroom hgo r (fun s' e => ?_) (fun s' e => ?_) fun s' m' em _ => by omega)
    · refine wpAny_bind (wpAny_rule (wpAny_pure ?_))
      rw [hst] at e
      exact hR false s' e
    · rw [hst]
      refine wpAny_bind (wpAny_holding (wpAny_truthy_bool ?_))
      refine wpAny_bind (wpAny_letGo ?_)
      simp only [if_true]
      refine wpAny_bind (wpAny_rule (wpAny_pure ?_))
      rw [hst] at e
      exact hR true s' e
  | succ m ih =>
    intro s r
    refine codeAny_builtin F.entry_any_loop ?_
    rw [Around.under_plainId F.plain_any_loop _]
    show wpAny _ A.in1 (pyNext (.ref Z.a) >>= _) _ _ s
    refine wpAny_bind (gen_next hh hroom hgo r (fun s' e => ?_) (fun s' e => ?_) fun s' m' em r' => ?_)
    · refine wpAny_bind (wpAny_rule (wpAny_pure ?_))
      rw [hst] at e
      exact hR false s' e
    · rw [hst]
      refine wpAny_bind (wpAny_holding (wpAny_truthy_bool ?_))
      refine wpAny_bind (wpAny_letGo ?_)
      simp only [if_true]
      refine wpAny_bind (wpAny_rule (wpAny_pure ?_))
      rw [hst] at e
      exact hR true s' e
    · have em : m = m' := by omega
      subst em
      rw [hst]
      refine wpAny_bind (wpAny_holding (wpAny_truthy_bool ?_))
      refine wpAny_bind (wpAny_letGo ?_)
      simp only [Bool.not_true, Bool.false_eq_true, if_false]
      exact wpAny_pure ⟨plainId_quiet F.plain_any_loop _, ih _ r'⟩

/-- any / all (ST: what stops it) of a generator expression -/
def tAA (P : Addr) (st : Bool) (wi : TI) (g : TG) (te : TE) (vs : List Nat) : TE := fun σ H Q => wi σ H fun J H1 => H1 P = some (.ext (tabF P)) ∧ ∃ W : Nat → Nat → Hp → Prop, (∃ m, W 0 m H1) ∧ ∀ i m H, W i m H →
  (J.stop i H ∧ Q (.bl (!st)) H) ∨ (J.go i H ∧ ∃ Nx : Hp → Prop, (∀ H', Nx H' → ∃ m', m' < m ∧ W (i + 1) m' H') ∧ ∀ x H', J.yld i H x H' → g x (wipe σ vs) H' fun σ2 H2 => wipe σ2 vs = wipe σ vs ∧
    te σ2 H2 fun y H3 => ∃ b, y = .bl b ∧ (b = (!st) → Nx H3) ∧ (b = st → Q (.bl st) H3))
/-- the generator expression's own scope -/
structure GenC (scope : Scope) : Prop where
  co : scope.isCoroutine = false
  cell : ∀ y ∈ scope.names, y.2 ≠ .cell
  dot : scope.names.lookup (".0" : Str) = some NameKind.local
theorem gen_made {c P : Addr} {elt tg iter : Expr} {gpos : Pos} {scope : Scope} {own : List (Str × Nat)} {st : Bool} {wi : TI} {g : TG} {te : TE} {k : Nat} {Q : VK} {Q' : Value → Shared → Prop}
    (hc : X.calm = true) (hN : X.N.Nodup) (hr : Room (k + 1) X.A) (TB : TabB X.base X.mg c P) (hcode : X.env.code = .ref c) (S : GenC scope) (I : Inv X pins σ H s) (hi : PI X tg iter wi) (ok : BlkOk X.N X.env.scope scope own)
    (hg : ∀ (s : Shared) (H : Hp) (C : Addr) (code : Value) (A : Around) (fp : List Addr), Room k A → PG (X.gen s H (gEnv X scope C code) A fp) tg g)
    (he : ∀ (s : Shared) (H : Hp) (C : Addr) (code : Value) (A : Around) (fp : List Addr), Room k A → PE (X.gen s H (gEnv X scope C code) A fp) elt te)
    (hs : ∀ v, genFold iter X.env v = pure v) (h : tAA P st wi g te (own.map (·.2)) σ H Q)
    (hQ : ∀ (Z : Gx) (n m : Nat) s5, Z.st = st → Z.X.prog = X.prog → Z.X.w = X.w → (∃ q, Z.gobj = q ∧ ∀ h : Heap, h.get? Z.a = some q → h.IsGen Z.a n) → Z.Ready X.A.in1.in1 n m s5 → (∀ b s', Z.E b s' → ∃ H', Inv X pins σ H' s' ∧ Q (.bl b) H') → Q' (.ref Z.a) s5) :
    wpAny (model X.prog X.w) X.A (eval (.GeneratorExp elt [⟨tg, iter, [], 0⟩] scope gpos) X.env) Q' X.xe s := by
  have hfree : ∀ y ∈ scope.names, y.2 = .free → ∃ c, X.env.cells.lookup y.1 = some c := fun y hy e => by
    rcases ok.free y hy e with k | k
    · exact I.ok.has _ (.inl k)
    · exact I.ok.has _ (.inr k)
  refine wpAny_GeneratorExp_make S.co (closure_ok hfree) S.cell S.dot ok.kind hr.depth ?_ hs
  refine thn (hi.run pins s σ H _ I h) fun xv s1 hx => thn hx fun itv s2 h2 => ?_
  obtain ⟨it, fp, tn, J, H2, e, I2, T, st2, f2, hP, W, ⟨m0, w0⟩, turn⟩ := h2
  subst e
  obtain ⟨⟨ps, hPs, ht⟩, _, _⟩ := I2.hok P _ hP
  have sz : ∀ b ∈ fp, b < s2.heap.objs.size := fun b hb => by
    obtain ⟨o, e, _⟩ := T.obj _ _ st2 b hb
    exact Heap.lt_size e
  have cd : PySem.W.CodeHd s2.heap c P := TB.code.keeps fun b u e => I2.bk b u e
  have lim2 : s2.heap.NoLimit := I2.nolimit
  have cont : ∀ (code : Value) (h3 : Heap) (tk : Nat) (ps' : Array Value), Heap.ExtBut P s2.heap h3 → s2.heap.objs.size ≤ h3.objs.size → h3.get? P = some { cls := .none, data := .fields ps' } → TriplesOk ps'.toList →
      wpAny (model X.prog X.w) X.A (builtinsFor X.env.globals X.env.builtins) (fun bi s₄ =>
        ∀ h', h'.Ns s₄.heap.objs.size (fun y => if y = ".0" then some (.ref it) else none) → Heap.SameBut s₄.heap.objs.size (s₄.heap.push { cls := .type "frame", data := .dict #[] }) h' →
          Q' (.ref h'.objs.size) { s₄ with
            gens := s₄.gens.push (.fresh (.compStart (.GeneratorExp elt [⟨tg, iter, [], 0⟩] scope gpos) 0 (.ref it) .none (genEnv scope (cloFrom X.env.cells scope.names []) s₄.heap.objs.size code bi X.env))),
            toks := s₄.toks + 1 + 1 + 1,
            heap := h'.push { cls := .type "generator", data := .fields #[.int s₄.gens.size 0, .str "<genexpr>" (s₄.toks + 1), .str (X.env.qual ++ "<genexpr>") (s₄.toks + 1 + 1)] } }) X.xe { s2 with heap := h3, toks := tk } := by
    intro code h3 tk ps' hx hsz hP3 ht3
    obtain ⟨bm, ob, e1, e2, e3, e4, e5, e6, e7, e8⟩ := TB.bm
    have keep3 : ∀ b u, b ≠ P → s2.heap.get? b = some u → h3.get? b = some u := fun b u hb e => hx b u hb e
    have I3 : Inv X pins σ H2 { s2 with heap := h3, gens := s2.gens, drawn := s2.drawn, toks := tk } := inv_tabF I2 hP keep3 hP3 ht3 I2.bare
    refine wpAny_builtinsFor (m := X.mg) (by rw [I2.ok.glob]; exact (I2.mod.glob.keeps I2.bk).extBut hx TB.gP) e1 e2 (keep3 _ _ e4 (I2.bk _ _ e5)) e6 e7 e8 ?_
    intro h' hn' hs'
    have hn' : h'.Ns h3.objs.size (fun y => if y = ".0" then some (.ref it) else none) := hn'
    have hs' : Heap.SameBut h3.objs.size (h3.push { cls := .type "frame", data := .dict #[] }) h' := hs'
    have hsz' : h'.objs.size = h3.objs.size + 1 := by rw [hs'.1, Heap.size_push]
    have keep' : ∀ b o, h3.get? b = some o → h'.get? b = some o := fun b o e => hs'.extBut b o (Nat.ne_of_lt (Heap.lt_size e)) (Heap.get?_push_of_some _ e)
    show Q' (.ref h'.objs.size) { s2 with
      gens := s2.gens.push (.fresh (.compStart (.GeneratorExp elt [⟨tg, iter, [], 0⟩] scope gpos) 0 (.ref it) .none (gEnv X scope h3.objs.size code)))
      toks := tk + 1 + 1 + 1
      heap := h'.push { cls := .type "generator", data := .fields #[.int s2.gens.size 0, .str "<genexpr>" (tk + 1), .str (X.env.qual ++ "<genexpr>") (tk + 1 + 1)] } }
    generalize hgo : ({ cls := .type "generator", data := .fields #[.int s2.gens.size 0, .str "<genexpr>" (tk + 1), .str (X.env.qual ++ "<genexpr>") (tk + 1 + 1)] } : Obj) = gobj
    have keep5 : ∀ b o, h3.get? b = some o → (h'.push gobj).get? b = some o := fun b o e => Heap.get?_push_of_some _ (keep' b o e)
    have f3 : ∀ b ∈ fp, FpOk X pins H2 b ∧ b < h3.objs.size := fun b hb => ⟨f2 b hb, Nat.lt_of_lt_of_le (sz b hb) hsz⟩
    generalize hB : X.A.in1.in1 = B
    have hBf : B.frames = X.A.frames := by rw [← hB]
    generalize hA' : B.over (.compLoop (.GeneratorExp elt [⟨tg, iter, [], 0⟩] scope gpos) 0 (.ref it) .none (gEnv X scope h3.objs.size code)) [] = A'
    have hAh : A'.handled = none := by rw [← hA', ← hB]; exact hr.hd
    have hAf : A'.frames = some (gEnv X scope h3.objs.size code :: X.stack) := by
      rw [← hA']
      show pushEnvs [gEnv X scope h3.objs.size code] (pushEnvs [] B.frames) = _
      rw [hBf, I2.ok.frames]
      rfl
    have hAr : Room k A' := by
      have d1 : A'.depth ≤ X.A.depth + 1 := by rw [← hA', ← hB]; exact Nat.le_of_eq rfl
      have u1 : A'.units ≤ X.A.units + 5 := by rw [← hA', ← hB]; exact Nat.le_of_eq rfl
      exact ⟨hAh, by have := hr.dp; omega, by have := hr.un; omega⟩
    have hgp : (h'.push gobj).get? h'.objs.size = some gobj := Heap.get?_push_size _ (by rw [← hgo]; rfl)
    have I5 := gen_start (code := code) (C := h3.objs.size) (a := h'.objs.size) (h5 := h'.push gobj) (g5 := s2.gens.push (.fresh (.compStart (.GeneratorExp elt [⟨tg, iter, [], 0⟩] scope gpos) 0 (.ref it) .none (gEnv X scope h3.objs.size code)))) (d5 := s2.drawn) (tk5 := tk + 1 + 1 + 1) (gobj := gobj)
      I3 ok hN S.cell f3 rfl (hn'.push _) keep5 hAh hAf hgp (by rw [hsz']; exact Nat.lt_succ_self _) (by rw [← hgo]; intro v z; cases z) (I2.bare.push rfl)
    have hgen : ∀ h : Heap, h.get? h'.objs.size = some gobj → h.IsGen h'.objs.size s2.gens.size := fun h e => ⟨gobj, _, _, e, by rw [← hgo], by rw [← hgo], by rw [← hgo]⟩
    have stn : tn 0 (h'.push gobj) := T.keep _ _ _ st2 fun b hb o e => keep5 b o (keep3 b o (fun z => by
      have := (f2 b hb).1
      rw [z, hP] at this
      cases this) e)
    let Z : Gx := ⟨X.gen { s2 with heap := h3, gens := s2.gens, drawn := s2.drawn, toks := tk } H2 (gEnv X scope h3.objs.size code) A' fp, Q, st, σ, own.map (·.2), h'.objs.size, gobj, it, fp, tn, W⟩
    have hJ : Z.J 0 m0 { s2 with gens := s2.gens.push (.fresh (.compStart (.GeneratorExp elt [⟨tg, iter, [], 0⟩] scope gpos) 0 (.ref it) .none (gEnv X scope h3.objs.size code))), toks := tk + 1 + 1 + 1, heap := h'.push gobj } :=
      ⟨H2, I5, stn, fun b hb => (f2 b hb).1, m0, Nat.le_refl _, w0⟩
    have afp : h'.objs.size ∉ fp := fun z => by
      have q := (f3 _ z).2
      rw [hsz'] at q
      exact absurd q (Nat.not_lt.mpr (Nat.le_succ _))
    refine hQ Z s2.gens.size m0 _ rfl rfl rfl ⟨gobj, rfl, hgen⟩ ⟨hgen _ hgp, I5.nolimit, _, Array.getElem?_push_size .., ⟨0, hJ⟩, fun s'' rl => ⟨rfl, ?_⟩⟩ fun b s' ⟨H', I6, q⟩ => ⟨H', ?_, q⟩
    · rw [hB]
      exact seg_genStartG (Z := Z) hc S.co hA'.symm rfl rfl rfl T (hg _ _ _ _ _ _ hAr) (he _ _ _ _ _ _ hAr) afp turn m0 s'' s'' (hJ.rel rl)
    · exact I3.call' (ch := fp) I6.os I6.base I6.hok I6.bare fun b hb => ⟨(f3 b hb).1.2.2.2.1, (f3 b hb).1.2.1, (f3 b hb).1.2.2.2.2.1, (f3 b hb).1.2.2.2.2.2⟩
  refine ⟨lim2, ?_⟩
  cases hf : codeAmong gpos ps.toList with
  | none =>
    refine wpAny_genexprCodeX hcode (cd.code hPs ht) (cd.tab hPs) hf fun c' h' tk hx hge hlt hco' _ htab' _ => ?_
    obtain ⟨o1, vs, f1, tf, fl, tg, inF, tx, tt, op, _, _, _, _, _, _, _, _, _, htr, _⟩ := hco'
    exact cont _ h' tk _ hx (Nat.le_trans hge (Nat.le_of_lt hlt)) htab'.2 htr
  | some cv =>
    refine wpAny_genexprCode_hit hcode (cd.code hPs ht) hf ?_
    exact cont cv s2.heap s2.toks ps (Heap.ExtBut.refl _ _) (Nat.le_refl _) hPs ht
/-- all(e for tg in iter) -/
theorem pe_allG {c P : Addr} {elt tg iter : Expr} {p pos gpos : Pos} {scope : Scope} {own : List (Str × Nat)} {wi : TI} {g : TG} {te : TE} {k : Nat}
    (hc : X.calm = true) (hN : X.N.Nodup) (hr : Room (k + 1) X.A) (hgl : Gl X "all") (hm : X.mg "all" = none) (hb : bootBuiltins "all" = some (.builtin "all")) (TB : TabB X.base X.mg c P) (hcode : X.env.code = .ref c) (S : GenC scope) (hi : PI X tg iter wi) (ok : BlkOk X.N X.env.scope scope own)
    (hg : ∀ (s : Shared) (H : Hp) (C : Addr) (code : Value) (A : Around) (fp : List Addr), Room k A → PG (X.gen s H (gEnv X scope C code) A fp) tg g)
    (he : ∀ (s : Shared) (H : Hp) (C : Addr) (code : Value) (A : Around) (fp : List Addr), Room k A → PE (X.gen s H (gEnv X scope C code) A fp) elt te)
    (hs : ∀ v, genFold iter X.env v = pure v := by intro _; rfl)
    (hst : starEach [.GeneratorExp elt [⟨tg, iter, [], 0⟩] scope gpos] X.env = (false, eval (.GeneratorExp elt [⟨tg, iter, [], 0⟩] scope gpos) X.env) :: starEach [] X.env := by rfl) :
    PE X (.Call (.Name "all" p) [.GeneratorExp elt [⟨tg, iter, [], 0⟩] scope gpos] [] pos) (tAA P false wi g te (own.map (·.2))) := by
  refine ⟨fun pins s σ H Q I h => ?_⟩
  refine wpAny_Call_Name_kw (ld_blt I hgl hm hb ?_)
  refine PyProof.Rows.callWith_builtin1 ?_ hst (by rfl)
  rw [hst]
  show wpAny _ _ (spliced ((false, eval (.GeneratorExp elt [⟨tg, iter, [], 0⟩] scope gpos) X.env) :: backTo pos (starEach [] X.env))) _ _ s
  refine Calls.spliced_cons (gen_made hc hN hr TB hcode S I hi ok hg he hs h fun Z n m s5 e1 e2 e3 hgo hR hE => ?_)
  refine Calls.spliced_nil ?_
  refine call_function_tree F.kind_all F.plain_all F.entry_all (F.args_all1 _) ?_
  unfold Builtin.«all»
  refine wpAny_bind (m := oneArg "all" _) (wpAny_pure ?_)
  refine wpAny_bind (wpAny_pyIter_gen hR.1 ?_)
  refine wpAny_pure ⟨plainId_quiet F.plain_all_loop _, ?_⟩
  rw [← e2, ← e3]
  refine all_loopG e1 hr.hd hr.depth hgo (fun b s' e => ?_) m s5 hR
  obtain ⟨H', J, q⟩ := hE b s' e
  exact ⟨.bl b, H', J, rfl, q⟩
theorem pe_anyG {c P : Addr} {elt tg iter : Expr} {p pos gpos : Pos} {scope : Scope} {own : List (Str × Nat)} {wi : TI} {g : TG} {te : TE} {k : Nat}
    (hc : X.calm = true) (hN : X.N.Nodup) (hr : Room (k + 1) X.A) (hgl : Gl X "any") (hm : X.mg "any" = none) (TB : TabB X.base X.mg c P) (hcode : X.env.code = .ref c) (S : GenC scope) (hi : PI X tg iter wi) (ok : BlkOk X.N X.env.scope scope own)
    (hg : ∀ (s : Shared) (H : Hp) (C : Addr) (code : Value) (A : Around) (fp : List Addr), Room k A → PG (X.gen s H (gEnv X scope C code) A fp) tg g)
    (he : ∀ (s : Shared) (H : Hp) (C : Addr) (code : Value) (A : Around) (fp : List Addr), Room k A → PE (X.gen s H (gEnv X scope C code) A fp) elt te)
    (hs : ∀ v, genFold iter X.env v = pure v := by intro _; rfl)
    (hst : starEach [.GeneratorExp elt [⟨tg, iter, [], 0⟩] scope gpos] X.env = (false, eval (.GeneratorExp elt [⟨tg, iter, [], 0⟩] scope gpos) X.env) :: starEach [] X.env := by rfl) :
    PE X (.Call (.Name "any" p) [.GeneratorExp elt [⟨tg, iter, [], 0⟩] scope gpos] [] pos) (tAA P true wi g te (own.map (·.2))) := by
  refine ⟨fun pins s σ H Q I h => ?_⟩
  refine wpAny_Call_Name_kw (ld_blt I hgl hm boot_any ?_)
  refine PyProof.Rows.callWith_builtin1 ?_ hst (by rfl)
  rw [hst]
  show wpAny _ _ (spliced ((false, eval (.GeneratorExp elt [⟨tg, iter, [], 0⟩] scope gpos) X.env) :: backTo pos (starEach [] X.env))) _ _ s
  refine Calls.spliced_cons (gen_made hc hN hr TB hcode S I hi ok hg he hs h fun Z n m s5 e1 e2 e3 hgo hR hE => ?_)
  refine Calls.spliced_nil ?_
  refine call_function_tree F.kind_any F.plain_any F.entry_any (F.args_any1 _) ?_
  unfold Builtin.«any»
  refine wpAny_bind (m := oneArg "any" _) (wpAny_pure ?_)
  refine wpAny_bind (wpAny_pyIter_gen hR.1 ?_)
  refine wpAny_pure ⟨plainId_quiet F.plain_any_loop _, ?_⟩
  rw [← e2, ← e3]
  refine any_loopG e1 hr.hd hr.depth hgo (fun b s' e => ?_) m s5 hR
  obtain ⟨H', J, q⟩ := hE b s' e
  exact ⟨.bl b, H', J, rfl, q⟩
end
end GxB
/-! Dn: values as data, one assertion for the heap, readings that speak of data alone. -/
namespace Dn
open PySem PySem.Spec PyProof.Rows L2

abbrev D := PyData
def keyD : Key → D
  | .inl i => .int i
  | .inr x => .str x
mutual
inductive Is (K : PySem.W.Frag) (H : Hp) : V → D → Prop
  | non : Is K H .non .none
  | bl (b : Bool) : Is K H (.bl b) (.bool b)
  | int (i : Int) : Is K H (.int i) (.int i)
  | str (x : Str) : Is K H (.str x) (.str x)
  | lst {a : Addr} {xs : List V} {ds : List D} : H a = some (.lst xs) → IsAll K H xs ds → Is K H (.ref a) (.list ds)
  | tup {a : Addr} {xs : List V} {ds : List D} : H a = some (.tup xs) → IsAll K H xs ds → Is K H (.ref a) (.tuple ds)
  | dk {a : Addr} {ks : List Key} {vs : List V} {ds : List D} : H a = some (.dK (ks.zip vs)) → ks.length = vs.length → IsAll K H vs ds → Is K H (.ref a) (.dict ((ks.map keyD).zip ds))
  | dt {a : Addr} {ks : List (List Key)} {vs : List V} {ds : List D} : H a = some (.dT (ks.zip vs)) → ks.length = vs.length → IsAll K H vs ds → Is K H (.ref a) (.dict ((ks.map fun k => PyData.tuple (k.map keyD)).zip ds))
inductive IsAll (K : PySem.W.Frag) (H : Hp) : List V → List D → Prop
  | nil : IsAll K H [] []
  | cons {v : V} {vs : List V} {d : D} {ds : List D} : Is K H v d → IsAll K H vs ds → IsAll K H (v :: vs) (d :: ds)
end

theorem Same.sqt {K : PySem.W.Frag} {H H' : Hp} {a : Addr} {xs : List V} (e : Same H H') (h : H a = some (.tup xs)) : SqT K H' a xs := .of (e _ _ h)
theorem Same.rd {H H' : Hp} {a : Addr} {u : HO} (e : Same H H') (h : Rd H a u) : Rd H' a u := by
  rcases h with h | ⟨o, h⟩
  · exact .inl (e _ _ h)
  · exact .inr ⟨o, e _ _ h⟩
section
variable {K : PySem.W.Frag} {H H' : Hp}
mutual
theorem Is.mono (e : Same H H') : ∀ {v : V} {d : D}, Is K H v d → Is K H' v d
  | _, _, .non => .non
  | _, _, .bl b => .bl b
  | _, _, .int i => .int i
  | _, _, .str x => .str x
  | _, _, .lst h a => .lst (e _ _ h) (IsAll.mono e a)
  | _, _, .tup h a => .tup (e _ _ h) (IsAll.mono e a)
  | _, _, .dk h l a => .dk (e _ _ h) l (IsAll.mono e a)
  | _, _, .dt h l a => .dt (e _ _ h) l (IsAll.mono e a)
theorem IsAll.mono (e : Same H H') : ∀ {vs : List V} {ds : List D}, IsAll K H vs ds → IsAll K H' vs ds
  | _, _, .nil => .nil
  | _, _, .cons h t => .cons (Is.mono e h) (IsAll.mono e t)
end
theorem IsAll.length : ∀ {vs : List V} {ds : List D}, IsAll K H vs ds → vs.length = ds.length
  | _, _, .nil => rfl
  | _, _, .cons _ t => by simp [IsAll.length t]
theorem IsAll.get : ∀ {vs : List V} {ds : List D} {i : Nat} {v : V}, IsAll K H vs ds → vs[i]? = some v → ∃ d, ds[i]? = some d ∧ Is K H v d
  | _, _, _, _, .nil, e => by simp at e
  | _, _, 0, _, .cons h _, e => by simp at e; subst e; exact ⟨_, rfl, h⟩
  | _, _, i + 1, v, .cons _ t, e => by
    obtain ⟨d, h1, h2⟩ := IsAll.get (i := i) (v := v) t (by simpa using e)
    exact ⟨d, by simpa using h1, h2⟩
theorem IsAll.get' : ∀ {vs : List V} {ds : List D} {i : Nat} {d : D}, IsAll K H vs ds → ds[i]? = some d → ∃ v, vs[i]? = some v ∧ Is K H v d
  | _, _, _, _, .nil, e => by simp at e
  | _, _, 0, _, .cons h _, e => by simp at e; subst e; exact ⟨_, rfl, h⟩
  | _, _, i + 1, v, .cons _ t, e => by
    obtain ⟨d, h1, h2⟩ := IsAll.get' (i := i) t (by simpa using e)
    exact ⟨d, by simpa using h1, h2⟩
theorem IsAll.append : ∀ {vs us : List V} {ds es : List D}, IsAll K H vs ds → IsAll K H us es → IsAll K H (vs ++ us) (ds ++ es)
  | _, _, _, _, .nil, s => s
  | _, _, _, _, .cons r t, s => .cons r (IsAll.append t s)
theorem IsAll.set {x : V} {u : D} (r : Is K H x u) : ∀ {xs : List V} {us : List D} (i : Nat), IsAll K H xs us → IsAll K H (xs.set i x) (us.set i u)
  | _, _, _, .nil => .nil
  | _, _, 0, .cons _ t => .cons r t
  | _, _, i + 1, .cons q t => .cons q (IsAll.set r i t)
theorem IsAll.take : ∀ {xs : List V} {us : List D} (n : Nat), IsAll K H xs us → IsAll K H (xs.take n) (us.take n)
  | _, _, 0, _ => .nil
  | _, _, _ + 1, .nil => .nil
  | _, _, n + 1, .cons r t => .cons r (IsAll.take n t)
theorem IsAll.drop : ∀ {xs : List V} {us : List D} (n : Nat), IsAll K H xs us → IsAll K H (xs.drop n) (us.drop n)
  | _, _, 0, r => r
  | _, _, _ + 1, .nil => .nil
  | _, _, n + 1, .cons _ t => IsAll.drop n t
theorem IsAll.reverse {xs : List V} {us : List D} (h : IsAll K H xs us) : IsAll K H xs.reverse us.reverse := by
  induction xs generalizing us with
  | nil => cases h; exact .nil
  | cons x xs ih =>
    cases h with
    | cons r t =>
      rw [List.reverse_cons, List.reverse_cons]
      exact (ih t).append (.cons r .nil)
theorem IsAll.dropLast {xs : List V} {us : List D} (h : IsAll K H xs us) : IsAll K H xs.dropLast us.dropLast := by
  rw [List.dropLast_eq_take, List.dropLast_eq_take, h.length]
  exact h.take _
theorem IsAll.ints : ∀ {ns : List Int} {xs : List V}, IsAll K H xs (ns.map PyData.int) → xs = ns.map V.int
  | [], _, h => by cases h; rfl
  | n :: ns, _, h => by
    cases h with
    | cons r t => cases r; rw [IsAll.ints t]; rfl
theorem IsAll.of_ints : ∀ ns : List Int, IsAll K H (ns.map V.int) (ns.map PyData.int)
  | [] => .nil
  | n :: ns => .cons (.int n) (IsAll.of_ints ns)
theorem IsAll.strs : ∀ {ns : List Str} {xs : List V}, IsAll K H xs (ns.map PyData.str) → xs = ns.map V.str
  | [], _, h => by cases h; rfl
  | n :: ns, _, h => by
    cases h with
    | cons r t => cases r; rw [IsAll.strs t]; rfl
theorem IsAll.of_strs : ∀ ns : List Str, IsAll K H (ns.map V.str) (ns.map PyData.str)
  | [] => .nil
  | n :: ns => .cons (.str n) (IsAll.of_strs ns)
theorem IsAll.bls : ∀ {ns : List Bool} {xs : List V}, IsAll K H xs (ns.map PyData.bool) → xs = ns.map V.bl
  | [], _, h => by cases h; rfl
  | n :: ns, _, h => by
    cases h with
    | cons r t => cases r; rw [IsAll.bls t]; rfl
end

/-! ### what a frame holds -/
inductive Sl where
  | non
  | val (d : D)
  | own (d : D)
  /-- a list that is only read -/
  | seq (ds : List D)
inductive Exn where
  | plain (C : Addr)
  | low (C : Addr) (f : Str) (d : D)
abbrev Ro := List Sl
structure Gm where
  B : Hp
  G0 : Hp
  H0 : Hp
  I : List Nat
  ad : Nat → Addr
  W : Exn → Ro → Prop
  T : List Addr
/-- the tables of code objects stand -/
def Tabs (T : List Addr) (H : Hp) : Prop := ∀ P ∈ T, H P = some (.ext (GxB.tabF P))
def Gm.Gh (Γ : Gm) (G0 H0 : Hp) : Prop := Same G0 H0 ∧ Tabs Γ.T H0
def Own (K : PySem.W.Frag) (G H : Hp) (a : Addr) (d : D) : Prop :=
  (∃ xs ds, d = .list ds ∧ H a = some (.lst xs) ∧ IsAll K G xs ds) ∨
  (∃ (ks : List Key) (vs : List V) (ds : List D), d = .dict ((ks.map keyD).zip ds) ∧ ks.length = vs.length ∧ H a = some (.dK (ks.zip vs)) ∧ IsAll K G vs ds) ∨
  (∃ (ks : List (List Key)) (vs : List V) (ds : List D), d = .dict ((ks.map fun k => PyData.tuple (k.map keyD)).zip ds) ∧ ks.length = vs.length ∧ H a = some (.dT (ks.zip vs)) ∧ IsAll K G vs ds)
theorem Own.some {K : PySem.W.Frag} {G H : Hp} {a : Addr} {d : D} (h : Own K G H a d) : ∃ o, H a = some o := by
  rcases h with ⟨_, _, _, h, _⟩ | ⟨_, _, _, _, _, h, _⟩ | ⟨_, _, _, _, _, h, _⟩ <;> exact ⟨_, h⟩
theorem Own.mono {K : PySem.W.Frag} {G H G' H' : Hp} {a : Addr} {d : D} (h : Own K G H a d) (e : Same G G') (e' : H' a = H a) : Own K G' H' a d := by
  rcases h with ⟨xs, ds, h1, h2, h3⟩ | ⟨ks, vs, ds, h1, h2, h3, h4⟩ | ⟨ks, vs, ds, h1, h2, h3, h4⟩
  · exact .inl ⟨xs, ds, h1, by rw [e', h2], h3.mono e⟩
  · exact .inr (.inl ⟨ks, vs, ds, h1, h2, by rw [e', h3], h4.mono e⟩)
  · exact .inr (.inr ⟨ks, vs, ds, h1, h2, by rw [e', h3], h4.mono e⟩)
/-- given away: from now on it stands still -/
theorem Own.is {K : PySem.W.Frag} {G H G' : Hp} {a : Addr} {d : D} (h : Own K G H a d) (e : Same G G') (e' : G' a = H a) : Is K G' (.ref a) d := by
  rcases h with ⟨xs, ds, h1, h2, h3⟩ | ⟨ks, vs, ds, h1, h2, h3, h4⟩ | ⟨ks, vs, ds, h1, h2, h3, h4⟩
  · rw [h1]; exact .lst (by rw [e', h2]) (h3.mono e)
  · rw [h1]; exact .dk (by rw [e', h3]) h2 (h4.mono e)
  · rw [h1]; exact .dt (by rw [e', h3]) h2 (h4.mono e)
def SlOk (K : PySem.W.Frag) (H0 G H : Hp) (s : Sl) (o : Option V) : Prop :=
  match s with
  | .non => True
  | .val d => ∃ v, o = some v ∧ Is K G v d
  | .own d => ∃ a, o = some (.ref a) ∧ G a = none ∧ H0 a = none ∧ Own K G H a d
  | .seq ds => ∃ a xs, o = some (.ref a) ∧ SqL K G a xs ∧ IsAll K G xs ds
structure At (K : PySem.W.Frag) (Γ : Gm) (ρ : Ro) (σ : L2.St) (G H : Hp) : Prop where
  len : σ.length = ρ.length
  sl : ∀ (i : Nat) (s : Sl) (o : Option V), ρ[i]? = some s → σ[i]? = some o → SlOk K Γ.H0 G H s o
  sep : ∀ (i j : Nat) (di dj : D) (a : Addr), ρ[i]? = some (.own di) → ρ[j]? = some (.own dj) → σ[i]? = some (some (.ref a)) → σ[j]? = some (some (.ref a)) → i = j
  sub : Same G H
  old : ∀ a, Γ.H0 a ≠ none → G a = Γ.G0 a
  kept : Same Γ.H0 H
  inh : ∀ (i : Nat), i ∈ Γ.I → σ[i]? = some (some (.ref (Γ.ad i)))
  bas : Same Γ.B G
structure Grow (G H G' H' : Hp) : Prop where
  gg : Same G G'
  hh : Same H H'
  gh : Same G' H'
  new : ∀ a, H a ≠ none → G' a = G a
theorem Grow.refl {G H : Hp} (h : Same G H) : Grow G H G H := ⟨Same.refl _, Same.refl _, h, fun _ _ => rfl⟩
theorem some_ne {α : Type} {x : Option α} {a : α} (h : x = some a) : x ≠ none := by rw [h]; exact fun z => nomatch z
theorem Grow.trans {G H G1 H1 G2 H2 : Hp} (a : Grow G H G1 H1) (b : Grow G1 H1 G2 H2) : Grow G H G2 H2 where
  gg := a.gg.trans b.gg
  hh := a.hh.trans b.hh
  gh := b.gh
  new := fun p h => by
    obtain ⟨o, e⟩ := Option.ne_none_iff_exists'.mp h
    rw [b.new p (some_ne (a.hh p o e)), a.new p h]
/-- a new thing that stands still -/
theorem Grow.laid {G H : Hp} {p : Addr} {o : HO} (e : Same G H) (h : H p = none) : Grow G H (upd G p o) (upd H p o) where
  gg := fun b u q => by rw [upd_ne (ne_of_none q (e.free h))]; exact q
  hh := fun b u q => by rw [upd_ne (ne_of_none q h)]; exact q
  gh := fun b u q => by
    by_cases hb : b = p
    · subst hb; rw [upd_same] at q ⊢; exact q
    · rw [upd_ne hb] at q ⊢; exact e b u q
  new := fun b q => upd_ne (fun z => q (by rw [z]; exact h))
section
variable {K : PySem.W.Frag} {Γ : Gm} {ρ : Ro} {σ : L2.St} {G H G' H' : Hp}
theorem At.grow (a : At K Γ ρ σ G H) (g : Grow G H G' H') : At K Γ ρ σ G' H' where
  len := a.len
  sl := fun i s o h1 h2 => by
    have q := a.sl i s o h1 h2
    cases s with
    | non => exact True.intro
    | val d => obtain ⟨v, e, q⟩ := q; exact ⟨v, e, q.mono g.gg⟩
    | seq ds => obtain ⟨p, xs, e, q1, q2⟩ := q; exact ⟨p, xs, e, g.gg.seq q1, q2.mono g.gg⟩
    | own d =>
      obtain ⟨p, e, q1, q2, q3⟩ := q
      obtain ⟨u, hu⟩ := q3.some
      exact ⟨p, e, by rw [g.new p (some_ne hu)]; exact q1, q2, q3.mono g.gg (by rw [hu, g.hh p u hu])⟩
  sep := a.sep
  sub := g.gh
  old := fun p h => by
    obtain ⟨o, e⟩ := Option.ne_none_iff_exists'.mp h
    rw [g.new p (some_ne (a.kept p o e)), a.old p h]
  kept := a.kept.trans g.hh
  inh := a.inh
  bas := a.bas.trans g.gg
/- theorem At.w {Γ' : Gm} (a : At K Γ ρ σ G H) (h1 : Γ'.G0 = Γ.G0) (h2 : Γ'.H0 = Γ.H0) (h3 : Γ'.I = Γ.I) (h4 : Γ'.ad = Γ.ad) : At K Γ' ρ σ G H :=
  ⟨a.len, fun i s o => by rw [h2]; exact a.sl i s o, a.sep, a.sub, fun p => by rw [h1, h2]; exact a.old p, by rw [h2]; exact a.kept, by rw [h3, h4]; exact a.inh⟩ -/
theorem At.lt (a : At K Γ ρ σ G H) {i : Nat} {s : Sl} (h : ρ[i]? = some s) : ∃ o, σ[i]? = some o := by
  have := (List.getElem?_eq_some_iff.mp h).1
  exact ⟨σ[i]'(by rw [a.len]; exact this), List.getElem?_eq_getElem _⟩
theorem At.val (a : At K Γ ρ σ G H) {i : Nat} {d : D} (h : ρ[i]? = some (.val d)) : ∃ v, σ[i]? = some (some v) ∧ Is K G v d := by
  obtain ⟨o, e⟩ := a.lt h
  obtain ⟨v, e2, q⟩ := a.sl i _ o h e
  exact ⟨v, by rw [e, e2], q⟩
theorem At.own (a : At K Γ ρ σ G H) {i : Nat} {d : D} (h : ρ[i]? = some (.own d)) : ∃ p, σ[i]? = some (some (.ref p)) ∧ G p = none ∧ Γ.H0 p = none ∧ Own K G H p d := by
  obtain ⟨o, e⟩ := a.lt h
  obtain ⟨v, e2, q⟩ := a.sl i _ o h e
  exact ⟨v, by rw [e, e2], q⟩
/-- a slot is given a value -/
theorem At.set (a : At K Γ ρ σ G H) {i : Nat} {v : V} {d : D} (hi : Γ.I.contains i = false) (r : Is K G v d) : At K Γ (ρ.set i (.val d)) (σ.set i (some v)) G H where
  len := by rw [List.length_set, List.length_set, a.len]
  sl := fun j s o h1 h2 => by
    by_cases hj : i = j
    · subst hj
      have l := (List.getElem?_eq_some_iff.mp h1).1
      rw [List.length_set] at l
      rw [List.getElem?_set_self l] at h1
      rw [List.getElem?_set_self (by rw [a.len]; exact l)] at h2
      cases h1; cases h2
      exact ⟨v, rfl, r⟩
    · rw [List.getElem?_set_ne hj] at h1 h2
      exact a.sl j s o h1 h2
  sep := fun j k dj dk p h1 h2 h3 h4 => by
    by_cases hj : i = j
    · subst hj
      have l := (List.getElem?_eq_some_iff.mp h1).1
      rw [List.length_set] at l
      rw [List.getElem?_set_self l] at h1
      cases h1
    · by_cases hk : i = k
      · subst hk
        have l := (List.getElem?_eq_some_iff.mp h2).1
        rw [List.length_set] at l
        rw [List.getElem?_set_self l] at h2
        cases h2
      · rw [List.getElem?_set_ne hj] at h1 h3
        rw [List.getElem?_set_ne hk] at h2 h4
        exact a.sep j k dj dk p h1 h2 h3 h4
  sub := a.sub
  old := a.old
  kept := a.kept
  inh := fun j hj => by
    have : i ≠ j := fun z => by
      subst z
      rw [List.contains_iff_mem.mpr hj] at hi
      cases hi
    rw [List.getElem?_set_ne this]
    exact a.inh j hj
  bas := a.bas
/-- a slot is given a new thing of its own -/
theorem At.setOwn (a : At K Γ ρ σ G H) {i : Nat} {p : Addr} {d : D} (hi : Γ.I.contains i = false) (h0 : G p = none) (h1 : Γ.H0 p = none) (r : Own K G H p d) (hno : ∀ (j : Nat) dj, ρ[j]? = some (.own dj) → σ[j]? ≠ some (some (.ref p))) :
    At K Γ (ρ.set i (.own d)) (σ.set i (some (.ref p))) G H where
  len := by rw [List.length_set, List.length_set, a.len]
  sl := fun j s o h1' h2 => by
    by_cases hj : i = j
    · subst hj
      have l := (List.getElem?_eq_some_iff.mp h1').1
      rw [List.length_set] at l
      rw [List.getElem?_set_self l] at h1'
      rw [List.getElem?_set_self (by rw [a.len]; exact l)] at h2
      cases h1'; cases h2
      exact ⟨p, rfl, h0, h1, r⟩
    · rw [List.getElem?_set_ne hj] at h1' h2
      exact a.sl j s o h1' h2
  sep := fun j k dj dk q h1 h2 h3 h4 => by
    by_cases hj : i = j
    · subst hj
      by_cases hk : i = k
      · exact hk
      · have l := (List.getElem?_eq_some_iff.mp h3).1
        rw [List.length_set] at l
        rw [List.getElem?_set_self l] at h3
        cases h3
        rw [List.getElem?_set_ne hk] at h2 h4
        exact absurd h4 (hno k dk h2)
    · by_cases hk : i = k
      · subst hk
        have l := (List.getElem?_eq_some_iff.mp h4).1
        rw [List.length_set] at l
        rw [List.getElem?_set_self l] at h4
        cases h4
        rw [List.getElem?_set_ne hj] at h1 h3
        exact absurd h3 (hno j dj h1)
      · rw [List.getElem?_set_ne hj] at h1 h3
        rw [List.getElem?_set_ne hk] at h2 h4
        exact a.sep j k dj dk q h1 h2 h3 h4
  sub := a.sub
  old := a.old
  kept := a.kept
  inh := fun j hj => by
    have : i ≠ j := fun z => by
      subst z
      rw [List.contains_iff_mem.mpr hj] at hi
      cases hi
    rw [List.getElem?_set_ne this]
    exact a.inh j hj
  bas := a.bas
/-- a thing of its own is given away -/
theorem At.freeze (a : At K Γ ρ σ G H) {i : Nat} {d : D} (h : ρ[i]? = some (.own d)) : ∃ p G', σ[i]? = some (some (.ref p)) ∧ At K Γ (ρ.set i (.val d)) σ G' H ∧ Same G G' ∧ Is K G' (.ref p) d := by
  obtain ⟨p, hp, h1, h2, h3⟩ := a.own h
  obtain ⟨o, ho⟩ := h3.some
  have gg : Same G (upd G p o) := fun b u q => by rw [upd_ne (ne_of_none q h1)]; exact q
  have hl := (List.getElem?_eq_some_iff.mp h).1
  have hd : Is K (upd G p o) (.ref p) d := h3.is gg (by rw [upd_same, ho])
  refine ⟨p, upd G p o, hp, ⟨by rw [List.length_set]; exact a.len, fun j s u e1 e2 => ?_, fun j k dj dk q e1 e2 e3 e4 => ?_, fun b u q => ?_, fun b q => ?_, a.kept, a.inh, a.bas.trans gg⟩, gg, hd⟩
  · by_cases hj : i = j
    · subst hj
      rw [List.getElem?_set_self hl] at e1
      cases e1
      rw [hp] at e2
      cases e2
      exact ⟨_, rfl, hd⟩
    · rw [List.getElem?_set_ne hj] at e1
      have q := a.sl j s u e1 e2
      cases s with
      | non => exact True.intro
      | val d' => obtain ⟨v, e, q⟩ := q; exact ⟨v, e, q.mono gg⟩
      | seq ds => obtain ⟨p', xs, e, q1, q2⟩ := q; exact ⟨p', xs, e, gg.seq q1, q2.mono gg⟩
      | own d' =>
        obtain ⟨p', e, q1, q2, q3⟩ := q
        have ne : p' ≠ p := fun z => by
          subst z
          subst e
          exact hj (a.sep i j _ _ _ h e1 hp e2)
        exact ⟨p', e, by rw [upd_ne ne]; exact q1, q2, q3.mono gg rfl⟩
  · have f : ∀ (k : Nat) dk, (ρ.set i (.val d))[k]? = some (.own dk) → ρ[k]? = some (.own dk) := fun k dk e => by
      by_cases hk : i = k
      · subst hk
        rw [List.getElem?_set_self hl] at e
        cases e
      · rw [List.getElem?_set_ne hk] at e
        exact e
    exact a.sep j k dj dk q (f j dj e1) (f k dk e2) e3 e4
  · by_cases hb : b = p
    · subst hb; rw [upd_same] at q; rw [ho]; exact q
    · rw [upd_ne hb] at q; exact a.sub b u q
  · rw [upd_ne (fun z => by subst z; exact q h2)]
    exact a.old b q
/-- a thing of its own is changed -/
theorem At.write (a : At K Γ ρ σ G H) {i : Nat} {d d' : D} {p : Addr} {o : HO} (h : ρ[i]? = some (.own d)) (hp : σ[i]? = some (some (.ref p))) (r : Own K G (upd H p o) p d') : At K Γ (ρ.set i (.own d')) σ G (upd H p o) := by
  obtain ⟨p', hp', h1, h2, h3⟩ := a.own h
  rw [hp] at hp'
  cases hp'
  have hl := (List.getElem?_eq_some_iff.mp h).1
  refine ⟨by rw [List.length_set]; exact a.len, fun j s u e1 e2 => ?_, fun j k dj dk q e1 e2 e3 e4 => ?_, fun b u q => ?_, a.old, fun b u q => ?_, a.inh, a.bas⟩
  · by_cases hj : i = j
    · subst hj
      rw [List.getElem?_set_self hl] at e1
      cases e1
      rw [hp] at e2
      cases e2
      exact ⟨_, rfl, h1, h2, r⟩
    · rw [List.getElem?_set_ne hj] at e1
      have q := a.sl j s u e1 e2
      cases s with
      | non => exact True.intro
      | val d' => obtain ⟨v, e, q⟩ := q; exact ⟨v, e, q⟩
      | seq ds => exact q
      | own d' =>
        obtain ⟨p', e, q1, q2, q3⟩ := q
        have ne : p' ≠ p := fun z => by
          subst z
          subst e
          exact hj (a.sep i j _ _ _ h e1 hp e2)
        exact ⟨p', e, q1, q2, q3.mono (Same.refl _) (upd_ne ne)⟩
  · have f : ∀ (k : Nat) dk, (ρ.set i (.own d'))[k]? = some (.own dk) → ∃ d2, ρ[k]? = some (.own d2) := fun k dk e => by
      by_cases hk : i = k
      · subst hk
        exact ⟨_, h⟩
      · rw [List.getElem?_set_ne hk] at e
        exact ⟨_, e⟩
    obtain ⟨d2, f1⟩ := f j dj e1
    obtain ⟨d3, f2⟩ := f k dk e2
    exact a.sep j k d2 d3 q f1 f2 e3 e4
  · rw [upd_ne (ne_of_none q h1)]
    exact a.sub b u q
  · rw [upd_ne (ne_of_none q h2)]
    exact a.kept b u q
end
end Dn
/-! Dn: judgements and expressions. -/
namespace Dn
open PySem PySem.Spec PyProof.Rows L2

def XIs (K : PySem.W.Frag) (G H : Hp) (cls : Value) (d : Option Addr) : Exn → Prop
  | .plain C => cls = .ref C ∧ d = none
  | .low C f x => cls = .ref C ∧ ∃ a v, d = some a ∧ H a = some (.xd [(f, v)]) ∧ Is K G v x
def liftW (K : PySem.W.Frag) (Γ : Gm) : WX := fun cls d σ H => ∃ ρ G ex, At K Γ ρ σ G H ∧ XIs K G H cls d ex ∧ Γ.W ex ρ
/-- the built-in names that the text leaves as they are -/
def bnames : List Str := ["len", "range", "int", "isinstance", "sum", "any", "all", "enumerate", "sorted", "list", "tuple", "str", "max", "min", "zip", "dict", "abs", "reversed", "bool", "super", "ValueError"]
structure Cok (k : Nat) (X : Cx) (Γ : Gm) : Prop where
  calm : X.calm = true
  nd : X.N.Nodup
  room : Room k X.A
  gh : Γ.Gh Γ.G0 Γ.H0
  po : PassesOwn (model X.prog X.w) X.A X.env X.xe
  bl : ∀ x : Str, bnames.contains x = true → X.mg x = none
  pa : ∀ σ, PassesAt (L2.CX X.prog X.w) X σ (WE (liftW X.K Γ) σ)
theorem Cok.hu {k : Nat} {X : Cx} {Γ : Gm} (c : Cok k X Γ) : X.A.units + 65 < cLine := by have := c.room.un; omega
/-- no exception -/
abbrev Gm.nx (Γ : Gm) : Gm := { Γ with W := fun _ _ => False }
theorem liftW_nx {K : PySem.W.Frag} {Γ : Gm} {cls d σ H} (h : liftW K Γ.nx cls d σ H) : False := by
  obtain ⟨_, _, _, _, _, h⟩ := h
  exact h
theorem Cok.blk {k : Nat} {X : Cx} {Γ : Gm} (c : Cok k X Γ) {s : Shared} {H : Hp} {scope : Scope} {cenv : Env} {fp : List Addr} : Cok k (X.blk s H scope cenv fp) Γ.nx :=
  ⟨c.calm, c.nd, c.room, c.gh, PassesOwn.never, c.bl, fun σ pins H s e s' I q => by
    obtain ⟨_, _, _, cls, d, _, _, _, _, _, _, _, z⟩ := q
    exact (liftW_nx z).elim⟩

/-! ### judgements -/
abbrev TD := Ro → (D → Ro → Prop) → Prop
inductive B where
  | dat (d : D)
  | slot (i : Nat)
abbrev TB := Ro → (B → Ro → Prop) → Prop
abbrev TT' := Ro → (Bool → Ro → Prop) → Prop
abbrev TDs := Ro → (List D → Ro → Prop) → Prop
def IsB (K : PySem.W.Frag) (σ : L2.St) (G : Hp) (v : V) : B → Prop
  | .dat d => Is K G v d
  | .slot i => σ[i]? = some (some v)
theorem IsB.mono {K : PySem.W.Frag} {σ : L2.St} {G G' : Hp} {v : V} {b : B} (e : Same G G') (h : IsB K σ G v b) : IsB K σ G' v b := by
  cases b with
  | dat d => exact Is.mono e h
  | slot i => exact h
def look (ρ : Ro) : B → Option D
  | .dat d => some d
  | .slot i => match ρ[i]? with
    | some (.val d) => some d
    | some (.own d) => some d
    | _ => none
def withD (ρ : Ro) (b : B) (k : D → Prop) : Prop := match look ρ b with
  | some d => k d
  | none => False
theorem withD.to {ρ : Ro} {b : B} {k : D → Prop} (h : withD ρ b k) : ∃ d, look ρ b = some d ∧ k d := by
  unfold withD at h
  split at h
  · exact ⟨_, by assumption, h⟩
  · exact h.elim
/-- data, its top one's own at most -/
def IsX (K : PySem.W.Frag) (G H : Hp) (v : V) (d : D) : Prop := Is K G v d ∨ ∃ a, v = .ref a ∧ Own K G H a d
section
variable {K : PySem.W.Frag} {Γ : Gm} {ρ : Ro} {σ : L2.St} {G H : Hp} {v : V} {b : B} {d : D}
theorem At.isx (a : At K Γ ρ σ G H) (h : IsB K σ G v b) (l : look ρ b = some d) : IsX K G H v d := by
  cases b with
  | dat e => cases l; exact .inl h
  | slot i =>
    have h' : σ[i]? = some (some v) := h
    have l' : (match ρ[i]? with | some (.val d) => some d | some (.own d) => some d | _ => none) = some d := l
    cases q : ρ[i]? with
    | none => rw [q] at l'; cases l'
    | some s =>
      rw [q] at l'
      cases s with
      | non => cases l'
      | seq _ => cases l'
      | val e =>
        cases l'
        obtain ⟨w, e1, e2⟩ := a.val q
        rw [h'] at e1
        cases e1
        exact .inl e2
      | own e =>
        cases l'
        obtain ⟨p, e1, _, _, e2⟩ := a.own q
        rw [h'] at e1
        cases e1
        exact .inr ⟨p, rfl, e2⟩
theorem IsX.list {ds : List D} (s : Same G H) (h : IsX K G H v (.list ds)) : ∃ a xs, v = .ref a ∧ H a = some (.lst xs) ∧ IsAll K G xs ds := by
  rcases h with h | ⟨a, rfl, h⟩
  · cases h with
    | lst h1 h2 => exact ⟨_, _, rfl, s _ _ h1, h2⟩
  · rcases h with ⟨xs, es, h1, h2, h3⟩ | ⟨_, _, _, h1, _⟩ | ⟨_, _, _, h1, _⟩
    · cases h1
      exact ⟨a, xs, rfl, h2, h3⟩
    · cases h1
    · cases h1
theorem IsX.tup {ds : List D} (h : IsX K G H v (.tuple ds)) : ∃ a xs, v = .ref a ∧ G a = some (.tup xs) ∧ IsAll K G xs ds := by
  rcases h with h | ⟨a, rfl, h⟩
  · cases h with
    | tup h1 h2 => exact ⟨_, _, rfl, h1, h2⟩
  · rcases h with ⟨xs, es, h1, h2, h3⟩ | ⟨_, _, _, h1, _⟩ | ⟨_, _, _, h1, _⟩ <;> cases h1
theorem IsX.flat (h : IsX K G H v d) (hd : ∀ ds, d ≠ .list ds) (hd2 : ∀ ds, d ≠ .dict ds) : Is K G v d := by
  rcases h with h | ⟨a, rfl, h⟩
  · exact h
  · rcases h with ⟨xs, es, h1, h2, h3⟩ | ⟨_, _, _, h1, _⟩ | ⟨_, _, _, h1, _⟩
    · exact absurd h1 (hd _)
    · exact absurd h1 (hd2 _)
    · exact absurd h1 (hd2 _)
theorem IsX.int {i : Int} (h : IsX K G H v (.int i)) : v = .int i := by
  cases h.flat (fun _ z => nomatch z) (fun _ z => nomatch z); rfl
theorem IsX.str {i : Str} (h : IsX K G H v (.str i)) : v = .str i := by
  cases h.flat (fun _ z => nomatch z) (fun _ z => nomatch z); rfl
theorem IsX.bl {i : Bool} (h : IsX K G H v (.bool i)) : v = .bl i := by
  cases h.flat (fun _ z => nomatch z) (fun _ z => nomatch z); rfl
theorem IsX.non (h : IsX K G H v .none) : v = .non := by
  cases h.flat (fun _ z => nomatch z) (fun _ z => nomatch z); rfl
theorem IsX.is (s : Same G H) (h : IsX K G H v d) : Is K H v d := by
  rcases h with h | ⟨a, rfl, h⟩
  · exact h.mono s
  · exact h.is s rfl
end
/-- no dict within, not deeper than n -/
def dep : Nat → D → Bool
  | _, .none => true
  | _, .bool _ => true
  | _, .int _ => true
  | _, .str x => PySem.PyData.strOk x
  | 0, _ => false
  | n + 1, .list xs => xs.all (dep n)
  | n + 1, .tuple xs => xs.all (dep n)
  | _ + 1, .dict _ => false
theorem dep_depth : ∀ (n : Nat) (d : D), dep n d = true → d.canLay0 = true ∧ d.depth ≤ n := by
  have all (n : Nat) (ih : ∀ d : D, dep n d = true → d.canLay0 = true ∧ d.depth ≤ n) : ∀ xs : List D, xs.all (dep n) = true → PyData.canLayAll0 xs = true ∧ PyData.depthAll xs ≤ n := by
    intro xs
    induction xs with
    | nil => intro _; exact ⟨by simp [PyData.canLayAll0], by simp [PyData.depthAll]⟩
    | cons x xs ih2 =>
      intro h
      rw [List.all_cons, Bool.and_eq_true] at h
      obtain ⟨h1, h2⟩ := ih x h.1
      obtain ⟨h3, h4⟩ := ih2 h.2
      refine ⟨by simp [PyData.canLayAll0, h1, h3], ?_⟩
      simp only [PyData.depthAll]
      omega
  intro n
  induction n with
  | zero =>
    intro d h
    cases d with
    | none => exact ⟨by simp [PyData.canLay0], by simp [PyData.depth]⟩
    | bool b => exact ⟨by simp [PyData.canLay0], by simp [PyData.depth]⟩
    | int b => exact ⟨by simp [PyData.canLay0], by simp [PyData.depth]⟩
    | str b => exact ⟨by simpa [PyData.canLay0, dep] using h, by simp [PyData.depth]⟩
    | _ => simp [dep] at h
  | succ n ih =>
    intro d h
    cases d with
    | none => exact ⟨by simp [PyData.canLay0], by simp [PyData.depth]⟩
    | bool b => exact ⟨by simp [PyData.canLay0], by simp [PyData.depth]⟩
    | int b => exact ⟨by simp [PyData.canLay0], by simp [PyData.depth]⟩
    | str b => exact ⟨by simpa [PyData.canLay0, dep] using h, by simp [PyData.depth]⟩
    | list xs =>
      obtain ⟨h1, h2⟩ := all n ih xs (by simpa [dep] using h)
      exact ⟨by simpa [PyData.canLay0] using h1, by simp only [PyData.depth]; omega⟩
    | tuple xs =>
      obtain ⟨h1, h2⟩ := all n ih xs (by simpa [dep] using h)
      exact ⟨by simpa [PyData.canLay0] using h1, by simp only [PyData.depth]; omega⟩
    | dict _ => simp [dep] at h
theorem shaped_of {n : Nat} {d : D} (h : dep n d = true) (hn : n ≤ 64) : SeqAt.shaped d = true := by
  obtain ⟨h1, h2⟩ := dep_depth n d h
  unfold SeqAt.shaped
  rw [h1, Bool.true_and]
  exact decide_eq_true (by omega)
section
variable {K : PySem.W.Frag} {H : Hp}
mutual
theorem Is.dp : ∀ {v : V} {d : D}, Is K H v d → d.canLay0 = true → Dp K H v d
  | _, _, .non, _ => .non
  | _, _, .bl b, _ => .bl b
  | _, _, .int i, _ => .int i
  | _, _, .str x, _ => .str x
  | _, _, .lst h a, q => .lst (SqL.of h) (IsAll.dp a (by simpa [PyData.canLay0] using q))
  | _, _, .tup h a, q => .tup (.of h) (IsAll.dp a (by simpa [PyData.canLay0] using q))
  | _, _, .dk h l a, q => by simp [PyData.canLay0] at q
  | _, _, .dt h l a, q => by simp [PyData.canLay0] at q
theorem IsAll.dp : ∀ {vs : List V} {ds : List D}, IsAll K H vs ds → PyData.canLayAll0 ds = true → DpAll K H vs ds
  | _, _, .nil, _ => .nil
  | _, _, .cons h t, q => by
    simp only [PyData.canLayAll0, Bool.and_eq_true] at q
    exact .cons (Is.dp h q.1) (IsAll.dp t q.2)
end
end

theorem pe_imp {X : Cx} {e : Expr} {t t' : TE} (h : PE X e t) (i : ∀ σ H Q, t' σ H Q → t σ H Q) : PE X e t' := ⟨fun pins s σ H Q I q => h.run pins s σ H Q I (i σ H Q q)⟩
theorem pt_imp {X : Cx} {e : Expr} {t t' : TT} (h : PT X e t) (i : ∀ σ H Q, t' σ H Q → t σ H Q) : PT X e t' := ⟨fun pins s σ H Q I q => h.run pins s σ H Q I (i σ H Q q)⟩
theorem pa_imp {X : Cx} {es : List Expr} {t t' : TA} (h : PA X es t) (i : ∀ σ H Q, t' σ H Q → t σ H Q) : PA X es t' := ⟨fun po pins s σ H Q I q => h.run po pins s σ H Q I (i σ H Q q)⟩

def rdE (K : PySem.W.Frag) (Γ : Gm) (t : TD) : TE := fun σ H Q => ∃ ρ G k, At K Γ ρ σ G H ∧ t ρ k ∧ ∀ d ρ' v G' H', k d ρ' → At K Γ ρ' σ G' H' → Same G G' → Is K G' v d → Q v H'
def rdB (K : PySem.W.Frag) (Γ : Gm) (t : TB) : TE := fun σ H Q => ∃ ρ G k, At K Γ ρ σ G H ∧ t ρ k ∧ ∀ b ρ' v G' H', k b ρ' → At K Γ ρ' σ G' H' → Same G G' → IsB K σ G' v b → Q v H'
def rdT (K : PySem.W.Frag) (Γ : Gm) (t : TT') : TT := fun σ H Q => ∃ ρ G k, At K Γ ρ σ G H ∧ t ρ k ∧ ∀ b ρ' G' H', k b ρ' → At K Γ ρ' σ G' H' → Same G G' → Q b H'
def rdA (K : PySem.W.Frag) (Γ : Gm) (t : TDs) : TA := fun σ H Q => ∃ ρ G k, At K Γ ρ σ G H ∧ t ρ k ∧ ∀ ds ρ' vs G' H', k ds ρ' → At K Γ ρ' σ G' H' → Same G G' → IsAll K G' vs ds → Q vs H'
/-- a new list (or dict) at a place that nobody knows yet -/
def rdF (K : PySem.W.Frag) (Γ : Gm) (t : TD) : TE := fun σ H Q => ∃ ρ G k, At K Γ ρ σ G H ∧ t ρ k ∧ ∀ d ρ' p G' H', k d ρ' → At K Γ ρ' σ G' H' → Same G G' → G' p = none → Γ.H0 p = none → Own K G' H' p d →
  (∀ (j : Nat) dj, ρ'[j]? = some (.own dj) → σ[j]? ≠ some (some (.ref p))) → Q (.ref p) H'
structure DE (X : Cx) (Γ : Gm) (e : Expr) (t : TD) : Prop where
  pe : PE X e (rdE X.K Γ t)
structure DB (X : Cx) (Γ : Gm) (e : Expr) (t : TB) : Prop where
  pe : PE X e (rdB X.K Γ t)
structure DT (X : Cx) (Γ : Gm) (e : Expr) (t : TT') : Prop where
  pt : PT X e (rdT X.K Γ t)
structure DA (X : Cx) (Γ : Gm) (es : List Expr) (t : TDs) : Prop where
  pa : PA X es (rdA X.K Γ t)
structure DF (X : Cx) (Γ : Gm) (e : Expr) (t : TD) : Prop where
  pe : PE X e (rdF X.K Γ t)

section
variable {X : Cx} {Γ : Gm} {k : Nat} {a b e : Expr} {es : List Expr} {pos : Pos}
/-! ### names, constants -/
def dVar (I : List Nat) (i : Nat) : TD := fun ρ Q => match ρ[i]? with
  | some (.val d) => Q d ρ
  | some (.own d) => I.contains i = false ∧ Q d (ρ.set i (.val d))
  | _ => False
theorem de_var (i : Nat) {x : Str} (hN : X.N[i]? = some x := by rfl) (hv : Vis X.env.scope x := by first | exact Or.inl rfl | exact Or.inr (Or.inl rfl) | exact Or.inr (Or.inr rfl)) (hd : (x == ("__debug__" : Str)) = false := by decide)
    (hcd : (x == ("__classdict__" : Str)) = false := by decide) : DE X Γ (.Name x pos) (dVar Γ.I i) := by
  refine ⟨pe_imp (pe_var (i := i) hN hv hd hcd) ?_⟩
  rintro σ H Q ⟨ρ, G, k, at_, h, fin⟩
  unfold dVar at h
  split at h
  · rename_i d q
    obtain ⟨v, e1, e2⟩ := at_.val q
    exact ⟨v, e1, fin d ρ v G H h at_ (Same.refl _) e2⟩
  · rename_i d q
    obtain ⟨p, G', e1, a2, gg, e2⟩ := at_.freeze q
    exact ⟨_, e1, fin d _ _ G' H h.2 a2 gg e2⟩
  · exact h.elim
def dSlot (i : Nat) : TB := fun ρ Q => match ρ[i]? with
  | some (.val d) => Q (.dat d) ρ
  | some (.own _) => Q (.slot i) ρ
  | _ => False
theorem db_var (i : Nat) {x : Str} (hN : X.N[i]? = some x := by rfl) (hv : Vis X.env.scope x := by first | exact Or.inl rfl | exact Or.inr (Or.inl rfl) | exact Or.inr (Or.inr rfl)) (hd : (x == ("__debug__" : Str)) = false := by decide)
    (hcd : (x == ("__classdict__" : Str)) = false := by decide) : DB X Γ (.Name x pos) (dSlot i) := by
  refine ⟨pe_imp (pe_var (i := i) hN hv hd hcd) ?_⟩
  rintro σ H Q ⟨ρ, G, k, at_, h, fin⟩
  unfold dSlot at h
  split at h
  · rename_i d q
    obtain ⟨v, e1, e2⟩ := at_.val q
    exact ⟨v, e1, fin _ ρ v G H h at_ (Same.refl _) e2⟩
  · rename_i d q
    obtain ⟨p, e1, _, _, _⟩ := at_.own q
    exact ⟨_, e1, fin _ ρ _ G H h at_ (Same.refl _) e1⟩
  · exact h.elim
def dOf (t : TD) : TB := fun ρ Q => t ρ fun d ρ' => Q (.dat d) ρ'
theorem DE.toB {t : TD} (h : DE X Γ e t) : DB X Γ e (dOf t) := by
  refine ⟨pe_imp h.pe ?_⟩
  rintro σ H Q ⟨ρ, G, k, at_, h, fin⟩
  exact ⟨ρ, G, _, at_, h, fun d ρ' v G' H' hk a' s' r => fin (.dat d) ρ' v G' H' hk a' s' r⟩
/-- what nobody knows yet is given away -/
theorem At.give {K : PySem.W.Frag} {ρ : Ro} {σ : L2.St} {G H : Hp} {p : Addr} {d : D} (a : At K Γ ρ σ G H) (g0 : G p = none) (h0 : Γ.H0 p = none) (own : Own K G H p d) (hno : ∀ (j : Nat) dj, ρ[j]? = some (.own dj) → σ[j]? ≠ some (some (.ref p))) : ∃ G2, At K Γ ρ σ G2 H ∧ Same G G2 ∧ Is K G2 (.ref p) d := by
  obtain ⟨o, ho⟩ := own.some
  have gg : Same G (upd G p o) := fun b u q => by rw [upd_ne (ne_of_none q g0)]; exact q
  refine ⟨upd G p o, ⟨a.len, fun j s u e1 e2 => ?_, a.sep, fun b u q => ?_, fun b q => ?_, a.kept, a.inh, a.bas.trans gg⟩, gg, own.is gg (by rw [upd_same, ho])⟩
  · have q := a.sl j s u e1 e2
    cases s with
    | non => exact True.intro
    | val d' => obtain ⟨v, e, q⟩ := q; exact ⟨v, e, q.mono gg⟩
    | seq ds => obtain ⟨p', xs, e, q1, q2⟩ := q; exact ⟨p', xs, e, gg.seq q1, q2.mono gg⟩
    | own d' =>
      obtain ⟨p', e, q1, q2, q3⟩ := q
      have ne : p' ≠ p := fun z => by
        subst z
        exact hno j d' e1 (by rw [e2, e])
      exact ⟨p', e, by rw [upd_ne ne]; exact q1, q2, q3.mono gg rfl⟩
  · by_cases hb : b = p
    · subst hb; rw [upd_same] at q; rw [ho]; exact q
    · rw [upd_ne hb] at q; exact a.sub b u q
  · rw [upd_ne (fun z => by subst z; exact q h0)]
    exact a.old b q
theorem DF.toE {t : TD} (h : DF X Γ e t) : DE X Γ e t := by
  refine ⟨pe_imp h.pe ?_⟩
  rintro σ H Q ⟨ρ, G, k, at_, h, fin⟩
  refine ⟨ρ, G, _, at_, h, fun d ρ' p G' H' hk a' s' g0 h0 own hno => ?_⟩
  obtain ⟨G2, a2, s2, r2⟩ := a'.give g0 h0 own hno
  exact fin d ρ' (.ref p) G2 H' hk a2 (s'.trans s2) r2
def dC (d : D) : TD := fun ρ Q => Q d ρ
theorem de_c {v : V} {d : D} (h : PE X e (tC v)) (r : ∀ G, Is X.K G v d) : DE X Γ e (dC d) := by
  refine ⟨pe_imp h ?_⟩
  rintro σ H Q ⟨ρ, G, k, at_, h, fin⟩
  exact fin d ρ v G H h at_ (Same.refl _) (r G)
theorem de_int {i j} : DE X Γ (.Constant (.int i) j pos) (dC (.int i)) := de_c pe_int fun _ => .int i
theorem de_bl {i j} : DE X Γ (.Constant (.bool i) j pos) (dC (.bool i)) := de_c pe_bl fun _ => .bl i
theorem de_non {j} : DE X Γ (.Constant .none j pos) (dC .none) := de_c pe_non fun _ => .non
theorem de_str {i j} : DE X Γ (.Constant (.str i) j pos) (dC (.str i)) := de_c pe_str fun _ => .str i
/-- a module's constant -/
theorem de_glob {x : Str} {v : V} {u : Value} {d : D} (hg : Gl X x) (hm : X.mg x = some u) (r : RelV v u) (i : ∀ G, Is X.K G v d) (hd : (x == ("__debug__" : Str)) = false := by decide) : DE X Γ (.Name x pos) (dC d) := de_c (pe_glob hg hm r hd) i

/-! ### two operands -/
abbrev Op2 := D → D → (D → Prop) → Prop
def OpD (X : Cx) (fn : Value → Value → Sem Value) (f : Op2) : Prop :=
  OpR X fn fun x y H Q => ∃ G d e k, Same G H ∧ IsX X.K G H x d ∧ IsX X.K G H y e ∧ f d e k ∧ ∀ r v G' H', k r → Grow G H G' H' → Is X.K G' v r → Q v H'
def dBin (f : Op2) (ta tb : TB) : TD := fun ρ Q => ta ρ fun x ρ1 => tb ρ1 fun y ρ2 => withD ρ2 x fun d => withD ρ2 y fun e => f d e fun r => Q r ρ2
theorem bin_rd {f : Op2} {ta tb : TB} {r : R2} {K : PySem.W.Frag} {σ : L2.St} {H : Hp} {Q : VK}
    (hr : ∀ x y H Q, (∃ G d e k, Same G H ∧ IsX K G H x d ∧ IsX K G H y e ∧ f d e k ∧ ∀ r v G' H', k r → Grow G H G' H' → Is K G' v r → Q v H') → r x y H Q)
    (h : rdE K Γ (dBin f ta tb) σ H Q) : tOp r (rdB K Γ ta) (rdB K Γ tb) σ H Q := by
  obtain ⟨ρ, G, k, at_, h, fin⟩ := h
  refine ⟨ρ, G, _, at_, h, fun x ρ1 v1 G1 H1 h1 a1 s1 r1 => ⟨ρ1, G1, _, a1, h1, fun y ρ2 v2 G2 H2 h2 a2 s2 r2 => ?_⟩⟩
  obtain ⟨d, l1, h2⟩ := h2.to
  obtain ⟨e, l2, h2⟩ := h2.to
  exact hr _ _ _ _ ⟨G2, d, e, _, a2.sub, a2.isx (r1.mono s2) l1, a2.isx r2 l2, h2, fun r v G3 H3 hk g i => fin r ρ2 v G3 H3 hk (a2.grow g) ((s1.trans s2).trans g.gg) i⟩
theorem de_bin {op : Operator} {f : Op2} {ta tb : TB} (ho : OpD X (binaryOp op) f) (ha : DB X Γ a ta) (hb : DB X Γ b tb) : DE X Γ (.BinOp a op b pos) (dBin f ta tb) :=
  ⟨pe_imp (pe_op ho ha.pe hb.pe) fun σ H Q h => bin_rd (fun _ _ _ _ h => h) h⟩
theorem de_cmp {op : CmpOp} {f : Op2} {ta tb : TB} (ho : OpD X (compareOp op) f) (ha : DB X Γ a ta) (hb : DB X Γ b tb) (hm : behindInMarks op b = false := by first | exact nomark _ | with_unfolding_all rfl) : DE X Γ (.Compare a [op] [b] pos) (dBin f ta tb) :=
  ⟨pe_imp (pe_cmpR ho ha.pe hb.pe hm) fun σ H Q h => bin_rd (fun _ _ _ _ h => h) h⟩
theorem OpD.or {fn : Value → Value → Sem Value} {r : R2} {f : Op2} (h : OpR X fn r) (i : ∀ x y H Q, (∃ G d e k, Same G H ∧ IsX X.K G H x d ∧ IsX X.K G H y e ∧ f d e k ∧ ∀ r v G' H', k r → Grow G H G' H' → Is X.K G' v r → Q v H') → r x y H Q) : OpD X fn f := by
  intro pins s σ H x y v u Q I rx ry q
  exact h pins s σ H x y v u Q I rx ry (i _ _ _ _ q)

/-! ### arithmetic -/
def addD : Op2
  | .int i, .int j, Q => Q (.int (i + j))
  | .str x, .str y, Q => x.length + y.length ≤ 16777216 ∧ Q (.str (x ++ y))
  | .tuple xs, .tuple ys, Q => xs.length + ys.length ≤ 16777216 ∧ Q (.tuple (xs ++ ys))
  | .list xs, .list ys, Q => xs.length + ys.length ≤ 16777216 ∧ Q (.list (xs ++ ys))
  | _, _, _ => False
theorem line_le {n : Nat} (h : n ≤ 16777216) : n ≤ sizeLine := by rw [sizeLine_eq]; exact h
theorem line_lt {n : Nat} (h : n < 16777216) : n < sizeLine := by rw [sizeLine_eq]; exact h
theorem od_add : OpD X (binaryOp .Add) addD := by
  refine OpD.or ((op_add.or (op_add_str.or op_catA)).or op_cat) ?_
  rintro x y H Q ⟨G, d, e, k, s, hx, hy, h, fin⟩
  cases d with
  | int i =>
    cases e with
    | int j => exact .inl (.inl ⟨i, j, hx.int, hy.int, fin _ _ G H h (.refl s) (.int _)⟩)
    | _ => exact (show False from h).elim
  | str i =>
    cases e with
    | str j => exact .inl (.inr (.inl ⟨i, j, hx.str, hy.str, line_le h.1, fin _ _ G H h.2 (.refl s) (.str _)⟩))
    | _ => exact (show False from h).elim
  | tuple xs =>
    cases e with
    | tuple ys =>
      obtain ⟨p, us, rfl, h1, h2⟩ := hx.tup
      obtain ⟨q, ws, rfl, h3, h4⟩ := hy.tup
      have l1 := h2.length
      have l2 := h4.length
      refine .inl (.inr (.inr ⟨p, q, us, ws, rfl, rfl, Same.sqt s h1, Same.sqt s h3, line_le (by rw [l1, l2]; exact h.1), fun e => ?_, fun _ e => ?_, fun _ _ r hr => ?_⟩))
      · subst e
        cases h2
        exact fin _ _ G H h.2 (.refl s) (.tup h3 h4)
      · subst e
        cases h4
        refine fin _ _ G H h.2 (.refl s) ?_
        rw [List.append_nil]
        exact .tup h1 h2
      · have g := Grow.laid (o := .tup (us ++ ws)) s hr
        exact fin _ _ _ _ h.2 g (.tup upd_same ((h2.mono g.gg).append (h4.mono g.gg)))
    | _ => exact (show False from h).elim
  | list xs =>
    cases e with
    | list ys =>
      obtain ⟨p, us, rfl, h1, h2⟩ := hx.list s
      obtain ⟨q, ws, rfl, h3, h4⟩ := hy.list s
      refine .inr ⟨p, q, us, ws, rfl, rfl, h1, h3, line_le (by rw [h2.length, h4.length]; exact h.1), fun r hr => ?_⟩
      have g := Grow.laid (o := .lst (us ++ ws)) s hr
      exact fin _ _ _ _ h.2 g (.lst upd_same ((h2.mono g.gg).append (h4.mono g.gg)))
    | _ => exact (show False from h).elim
  | _ => exact (show False from h).elim
/-- a new list by + -/
def addL : Op2
  | .list xs, .list ys, Q => xs.length + ys.length ≤ 16777216 ∧ Q (.list (xs ++ ys))
  | _, _, _ => False
def subD : Op2
  | .int i, .int j, Q => Q (.int (i - j))
  | _, _, _ => False
theorem od_sub : OpD X (binaryOp .Sub) subD := by
  refine OpD.or op_sub ?_
  rintro x y H Q ⟨G, d, e, k, s, hx, hy, h, fin⟩
  cases d with
  | int i =>
    cases e with
    | int j => exact ⟨i, j, hx.int, hy.int, fin _ _ G H h (.refl s) (.int _)⟩
    | _ => exact (show False from h).elim
  | _ => exact (show False from h).elim
/-- products of less than a million bits -/
def CM (i j : Int) : Prop := (∃ a b : Nat, i.natAbs < 2 ^ a ∧ j.natAbs < 2 ^ b ∧ a + b ≤ 1000000) ∨ (-(2 ^ 64) < i ∧ i < 2 ^ 64) ∨ (-(2 ^ 64) < j ∧ j < 2 ^ 64)
theorem CM.ok {i j : Int} (h : CM i j) : IntMulOk i j := by
  rcases h with ⟨a, b, ha, hb, hab⟩ | h
  · by_cases h0 : a = 0
    · subst h0
      have : i = 0 := by omega
      subst this
      exact (CMul.ok (.inl ⟨by omega, by omega⟩))
    · by_cases h1 : b = 0
      · subst h1
        have : j = 0 := by omega
        subst this
        exact (CMul.ok (.inr ⟨by omega, by omega⟩))
      · exact (wide_mul ha hb (by omega) (by omega) hab).ok
  · exact CMul.ok h
theorem op_mulC : OpR X (binaryOp .Mult) (rI CM fun i j => .int (i * j)) := opI fun _ _ _ _ _ _ _ hc q => mul_int q hc.ok
def mulD : Op2
  | .int i, .int j, Q => CM i j ∧ Q (.int (i * j))
  | _, _, _ => False
theorem od_mul : OpD X (binaryOp .Mult) mulD := by
  refine OpD.or op_mulC ?_
  rintro x y H Q ⟨G, d, e, k, s, hx, hy, h, fin⟩
  cases d with
  | int i =>
    cases e with
    | int j => exact ⟨i, j, hx.int, hy.int, h.1, fin _ _ G H h.2 (.refl s) (.int _)⟩
    | _ => exact (show False from h).elim
  | _ => exact (show False from h).elim
def CDV (j : Int) : Prop := j ≠ 0 ∧ j.natAbs < 2 ^ 9000
theorem op_fdivC : OpR X (binaryOp .FloorDiv) (rI (fun _ j => CDV j) fun i j => .int (i.fdiv j)) := opI fun i j _ _ _ _ _ hc q =>
  floordiv_int hc.1 q (.inl (PyProof.noPylong_of_log2 (PySem.Flt.log2_lt_of (by decide) hc.2)))
def fdivD : Op2
  | .int i, .int j, Q => CDV j ∧ Q (.int (i.fdiv j))
  | _, _, _ => False
theorem od_fdiv : OpD X (binaryOp .FloorDiv) fdivD := by
  refine OpD.or op_fdivC ?_
  rintro x y H Q ⟨G, d, e, k, s, hx, hy, h, fin⟩
  cases d with
  | int i =>
    cases e with
    | int j => exact ⟨i, j, hx.int, hy.int, h.1, fin _ _ G H h.2 (.refl s) (.int _)⟩
    | _ => exact (show False from h).elim
  | _ => exact (show False from h).elim
def modD : Op2
  | .int i, .int j, Q => j ≠ 0 ∧ Q (.int (i.fmod j))
  | _, _, _ => False
theorem od_mod : OpD X (binaryOp .Mod) modD := by
  refine OpD.or op_modN ?_
  rintro x y H Q ⟨G, d, e, k, s, hx, hy, h, fin⟩
  cases d with
  | int i =>
    cases e with
    | int j => exact ⟨i, j, hx.int, hy.int, h.1, fin _ _ G H h.2 (.refl s) (.int _)⟩
    | _ => exact (show False from h).elim
  | _ => exact (show False from h).elim
def powD : Op2
  | .int i, .int j, Q => (0 ≤ j ∧ j ≤ 1000000 ∧ i.natAbs < 2 ^ 64) ∧ Q (.int (i ^ j.toNat))
  | _, _, _ => False
theorem od_pow : OpD X (binaryOp .Pow) powD := by
  refine OpD.or op_pow ?_
  rintro x y H Q ⟨G, d, e, k, s, hx, hy, h, fin⟩
  cases d with
  | int i =>
    cases e with
    | int j => exact ⟨i, j, hx.int, hy.int, h.1, fin _ _ G H h.2 (.refl s) (.int _)⟩
    | _ => exact (show False from h).elim
  | _ => exact (show False from h).elim

/-! ### comparisons -/
def cmpI (p : Int → Int → Bool) : Op2
  | .int i, .int j, Q => Q (.bool (p i j))
  | _, _, _ => False
theorem od_cmpI {fn : Value → Value → Sem Value} {p : Int → Int → Bool} (ho : OpR X fn (rI0 fun i j => .bl (p i j))) : OpD X fn (cmpI p) := by
  refine OpD.or ho ?_
  rintro x y H Q ⟨G, d, e, k, s, hx, hy, h, fin⟩
  cases d with
  | int i =>
    cases e with
    | int j => exact ⟨i, j, hx.int, hy.int, fin _ _ G H h (.refl s) (.bl _)⟩
    | _ => exact (show False from h).elim
  | _ => exact (show False from h).elim
theorem od_lt : OpD X (compareOp .Lt) (cmpI fun i j => decide (i < j)) := od_cmpI op_lt
theorem od_le : OpD X (compareOp .LtE) (cmpI fun i j => decide (i ≤ j)) := od_cmpI op_le
theorem od_gt : OpD X (compareOp .Gt) (cmpI fun i j => decide (j < i)) := od_cmpI op_gt
theorem od_ge : OpD X (compareOp .GtE) (cmpI fun i j => decide (j ≤ i)) := od_cmpI op_ge
def eqD : Op2 := fun d e Q => dep 20 d = true ∧ dep 20 e = true ∧ Q (.bool (PyData.eqv d e))
def neD : Op2 := fun d e Q => dep 20 d = true ∧ dep 20 e = true ∧ Q (.bool (!PyData.eqv d e))
theorem od_eq (c : Cok k X Γ) : OpD X (compareOp .Eq) eqD := by
  refine OpD.or (op_eqD (by have := c.hu; omega)) ?_
  rintro x y H Q ⟨G, d, e, k, s, hx, hy, ⟨h1, h2, h⟩, fin⟩
  exact ⟨d, e, (hx.is s).dp (dep_depth _ _ h1).1, (hy.is s).dp (dep_depth _ _ h2).1, shaped_of h1 (by decide), shaped_of h2 (by decide), fin _ _ G H h (.refl s) (.bl _)⟩
theorem od_ne (c : Cok k X Γ) : OpD X (compareOp .NotEq) neD := by
  refine OpD.or (op_neD (by have := c.hu; omega)) ?_
  rintro x y H Q ⟨G, d, e, k, s, hx, hy, ⟨h1, h2, h⟩, fin⟩
  exact ⟨d, e, (hx.is s).dp (dep_depth _ _ h1).1, (hy.is s).dp (dep_depth _ _ h2).1, shaped_of h1 (by decide), shaped_of h2 (by decide), fin _ _ G H h (.refl s) (.bl _)⟩
def isNone : D → Bool
  | .none => true
  | _ => false
theorem IsX.isNone {K : PySem.W.Frag} {G H : Hp} {v : V} {d : D} (h : IsX K G H v d) : decide (v = .non) = Dn.isNone d := by
  rcases h with h | ⟨a, rfl, h⟩
  · cases h <;> rfl
  · rcases h with ⟨xs, es, rfl, h2, h3⟩ | ⟨_, _, _, rfl, _⟩ | ⟨_, _, _, rfl, _⟩ <;> rfl
/-- is: None on the right, or two truth values -/
def isD : Op2
  | d, .none, Q => Q (.bool (isNone d))
  | .bool i, .bool j, Q => Q (.bool (decide (i = j)))
  | _, _, _ => False
def isnD : Op2
  | d, .none, Q => Q (.bool (!isNone d))
  | .bool i, .bool j, Q => Q (.bool (!decide (i = j)))
  | _, _, _ => False
theorem od_is : OpD X (compareOp .Is) isD := by
  refine OpD.or (op_isN.or op_isBl) ?_
  rintro x y H Q ⟨G, d, e, k, s, hx, hy, h, fin⟩
  cases e with
  | none =>
    refine .inl ⟨hy.non, ?_⟩
    rw [hx.isNone]
    have h' : k (.bool (isNone d)) := by cases d <;> exact h
    exact fin _ _ G H h' (.refl s) (.bl _)
  | bool j =>
    cases d with
    | bool i => exact .inr ⟨i, j, hx.bl, hy.bl, fin _ _ G H h (.refl s) (.bl _)⟩
    | _ => exact (show False from h).elim
  | _ => cases d <;> exact (show False from h).elim
theorem od_isn : OpD X (compareOp .IsNot) isnD := by
  refine OpD.or (op_notN.or op_notBl) ?_
  rintro x y H Q ⟨G, d, e, k, s, hx, hy, h, fin⟩
  cases e with
  | none =>
    refine .inl ⟨hy.non, ?_⟩
    rw [hx.isNone]
    have h' : k (.bool (!isNone d)) := by cases d <;> exact h
    exact fin _ _ G H h' (.refl s) (.bl _)
  | bool j =>
    cases d with
    | bool i => exact .inr ⟨i, j, hx.bl, hy.bl, fin _ _ G H h (.refl s) (.bl _)⟩
    | _ => exact (show False from h).elim
  | _ => cases d <;> exact (show False from h).elim
end
end Dn
/-! Dn: tests, displays, subscripts, built-in calls. -/
namespace Dn
open PySem PySem.Spec PyProof.Rows L2

/-- one way or the other -/
def brn (b : Bool) (p q : Prop) : Prop := match b with
  | true => p
  | false => q
theorem brn.of {b : Bool} {p q : Prop} (h1 : b = true → p) (h2 : b = false → q) : brn b p q := by
  cases b with
  | true => exact h1 rfl
  | false => exact h2 rfl
theorem brn.tt {b : Bool} {p q : Prop} (h : b = true) (h1 : p) : brn b p q := by subst h; exact h1
theorem brn.ff {b : Bool} {p q : Prop} (h : b = false) (h1 : q) : brn b p q := by subst h; exact h1
def truD (d : D) (k : Bool → Prop) : Prop := match d with
  | .none => k false
  | .bool b => k b
  | .int i => k (i != 0)
  | .str x => x.length ≤ 16777216 ∧ k ((x.length : Int) != 0)
  | .list xs => k (!xs.isEmpty)
  | .tuple xs => k (!xs.isEmpty)
  | .dict _ => False
def asB (d : D) (k : Bool → Prop) : Prop := match d with
  | .bool b => k b
  | _ => False
def asI (d : D) (k : Int → Prop) : Prop := match d with
  | .int b => k b
  | _ => False
def optD {α : Type} (o : Option α) (k : α → Prop) : Prop := match o with
  | some d => k d
  | none => False
theorem optD.to {α : Type} {o : Option α} {k : α → Prop} (h : optD o k) : ∃ d, o = some d ∧ k d := by
  unfold optD at h
  split at h
  · exact ⟨_, rfl, h⟩
  · exact h.elim
theorem optD.of {α : Type} {o : Option α} {d : α} {k : α → Prop} (e : o = some d) (h : k d) : optD o k := by
  rw [e]; exact h
theorem asB.to {d : D} {k : Bool → Prop} (h : asB d k) : ∃ b, d = .bool b ∧ k b := by
  unfold asB at h
  split at h
  · exact ⟨_, rfl, h⟩
  · exact h.elim
theorem asI.to {d : D} {k : Int → Prop} (h : asI d k) : ∃ b, d = .int b ∧ k b := by
  unfold asI at h
  split at h
  · exact ⟨_, rfl, h⟩
  · exact h.elim
theorem isEmpty_eq {α β : Type} {xs : List α} {ys : List β} (h : xs.length = ys.length) : xs.isEmpty = ys.isEmpty := by
  cases xs <;> cases ys <;> simp_all
section
variable {X : Cx} {Γ : Gm} {k : Nat} {a b e : Expr} {es rest : List Expr} {pos : Pos}
/-! ### tests -/
def tTru (ta : TB) : TT' := fun ρ Q => ta ρ fun x ρ1 => withD ρ1 x fun d => truD d fun b => Q b ρ1
theorem dt_tru {ta : TB} (ha : DB X Γ a ta) (he : ∀ whole, isTrue a X.env whole = (do let v ← whole; standAt a.pos; holding [v] (truthy v)) := by intro _; rfl) : DT X Γ a (tTru ta) := by
  refine ⟨pt_imp (pt_truth ha.pe he) ?_⟩
  rintro σ H Q ⟨ρ, G, k, at_, h, fin⟩
  refine ⟨ρ, G, _, at_, h, fun x ρ1 v G1 H1 h1 a1 s1 r1 => ?_⟩
  obtain ⟨d, l, h1⟩ := h1.to
  have hx := a1.isx r1 l
  cases d with
  | none => exact ⟨false, by rw [hx.non]; rfl, fin _ _ _ _ h1 a1 s1⟩
  | bool c => exact ⟨c, by rw [hx.bl]; rfl, fin _ _ _ _ h1 a1 s1⟩
  | int i => exact ⟨_, by rw [hx.int]; rfl, fin _ _ _ _ h1 a1 s1⟩
  | str y => exact ⟨_, by rw [hx.str]; exact ⟨line_le h1.1, rfl⟩, fin _ _ _ _ h1.2 a1 s1⟩
  | list ds =>
    obtain ⟨p, xs, rfl, h2, h3⟩ := hx.list a1.sub
    exact ⟨_, .inl ⟨xs, .of h2, rfl⟩, by rw [isEmpty_eq h3.length]; exact fin _ _ _ _ h1 a1 s1⟩
  | tuple ds =>
    obtain ⟨p, xs, rfl, h2, h3⟩ := hx.tup
    exact ⟨_, .inr (.inl ⟨xs, Same.sqt a1.sub h2, rfl⟩), by rw [isEmpty_eq h3.length]; exact fin _ _ _ _ h1 a1 s1⟩
  | dict _ => exact (show False from h1).elim
def tCmpD (f : Op2) (ta tb : TB) : TT' := fun ρ Q => dBin f ta tb ρ fun d ρ' => asB d fun b => Q b ρ'
theorem dt_cmp {op : CmpOp} {f : Op2} {ta tb : TB} (ho : OpD X (compareOp op) f) (ha : DB X Γ a ta) (hb : DB X Γ b tb) (hm : behindInMarks op b = false := by first | exact nomark _ | with_unfolding_all rfl) : DT X Γ (.Compare a [op] [b] pos) (tCmpD f ta tb) := by
  refine ⟨pt_imp (pt_cmpR ho ha.pe hb.pe hm) ?_⟩
  rintro σ H Q ⟨ρ, G, k, at_, h, fin⟩
  refine bin_rd (fun _ _ _ _ h => h) ⟨ρ, G, _, at_, h, fun d ρ' v G' H' hk a' s' r => ?_⟩
  obtain ⟨c, rfl, hk⟩ := hk.to
  cases r
  exact ⟨c, rfl, fin _ _ _ _ hk a' s'⟩
/-- a test whose value is told by an expression of a truth value -/
def tOfE (t : TD) : TT' := fun ρ Q => t ρ fun d ρ' => asB d fun b => Q b ρ'
structure DW (X : Cx) (Γ : Gm) (e : Expr) (t : TT') : Prop where
  pw : PW X e (rdT X.K Γ t)
theorem pw_imp {X : Cx} {e : Expr} {t t' : TT} (h : PW X e t) (i : ∀ σ H Q, t' σ H Q → t σ H Q) : PW X e t' := ⟨fun wh pins s σ H Q I q => h.run wh pins s σ H Q I (i σ H Q q)⟩
def tAndD (t u : TT') : TT' := fun ρ Q => t ρ fun b ρ1 => brn b (u ρ1 Q) (Q false ρ1)
def tOrD (t u : TT') : TT' := fun ρ Q => t ρ fun b ρ1 => brn b (Q true ρ1) (u ρ1 Q)
def tNotD (t : TT') : TT' := fun ρ Q => t ρ fun b ρ1 => Q (!b) ρ1
theorem dw_and1 {t : TT'} (h : DT X Γ a t) : DW X Γ (.BoolOp .And [a] pos) t := ⟨pw_and1 h.pt⟩
theorem dw_or1 {t : TT'} (h : DT X Γ a t) : DW X Γ (.BoolOp .Or [a] pos) t := ⟨pw_or1 h.pt⟩
theorem dw_and {t u : TT'} (h : DT X Γ a t) (h2 : DW X Γ (.BoolOp .And (b :: rest) pos) u) : DW X Γ (.BoolOp .And (a :: b :: rest) pos) (tAndD t u) := by
  refine ⟨pw_imp (pw_and h.pt h2.pw) ?_⟩
  rintro σ H Q ⟨ρ, G, k, at_, h, fin⟩
  refine ⟨ρ, G, _, at_, h, fun c ρ1 G1 H1 h1 a1 s1 => ?_⟩
  cases c with
  | true =>
    show rdT _ _ _ _ _ _
    exact ⟨ρ1, G1, _, a1, h1, fun c ρ' G' H' hk a' s' => fin c ρ' G' H' hk a' (s1.trans s')⟩
  | false =>
    show Q false H1
    exact fin _ _ _ _ h1 a1 s1
theorem dw_or {t u : TT'} (h : DT X Γ a t) (h2 : DW X Γ (.BoolOp .Or (b :: rest) pos) u) : DW X Γ (.BoolOp .Or (a :: b :: rest) pos) (tOrD t u) := by
  refine ⟨pw_imp (pw_or h.pt h2.pw) ?_⟩
  rintro σ H Q ⟨ρ, G, k, at_, h, fin⟩
  refine ⟨ρ, G, _, at_, h, fun c ρ1 G1 H1 h1 a1 s1 => ?_⟩
  cases c with
  | true =>
    show Q true H1
    exact fin _ _ _ _ h1 a1 s1
  | false =>
    show rdT _ _ _ _ _ _
    exact ⟨ρ1, G1, _, a1, h1, fun c ρ' G' H' hk a' s' => fin c ρ' G' H' hk a' (s1.trans s')⟩
theorem DW.t {t : TT'} (h : DW X Γ e t) : DT X Γ e t := ⟨h.pw.pt⟩
theorem dt_not {t : TT'} (h : DT X Γ a t) : DT X Γ (.UnaryOp .Not a pos) (tNotD t) := by
  refine ⟨pt_imp (pt_not h.pt) ?_⟩
  rintro σ H Q ⟨ρ, G, k, at_, h, fin⟩
  exact ⟨ρ, G, _, at_, h, fun c ρ1 G1 H1 h1 a1 s1 => fin _ _ _ _ h1 a1 s1⟩
/-! ### truth values as values -/
def dAnd (t u : TD) : TD := fun ρ Q => t ρ fun d ρ1 => asB d fun b => brn b (u ρ1 Q) (Q (.bool false) ρ1)
def dOr (t u : TD) : TD := fun ρ Q => t ρ fun d ρ1 => asB d fun b => brn b (Q (.bool true) ρ1) (u ρ1 Q)
theorem de_one {op} {t : TD} (h : DE X Γ a t) : DE X Γ (.BoolOp op [a] pos) t := ⟨pe_one h.pe⟩
theorem de_and {t u : TD} (h : DE X Γ a t) (h2 : DE X Γ (.BoolOp .And (b :: rest) pos) u) : DE X Γ (.BoolOp .And (a :: b :: rest) pos) (dAnd t u) := by
  refine ⟨pe_imp (pe_and h.pe h2.pe) ?_⟩
  rintro σ H Q ⟨ρ, G, k, at_, h, fin⟩
  refine ⟨ρ, G, _, at_, h, fun d ρ1 v G1 H1 h1 a1 s1 r1 => ?_⟩
  obtain ⟨c, rfl, h1⟩ := h1.to
  cases r1
  refine ⟨c, rfl, ?_⟩
  cases c with
  | true =>
    show rdE _ _ _ _ _ _
    exact ⟨ρ1, G1, _, a1, h1, fun c ρ' v G' H' hk a' s' r => fin c ρ' v G' H' hk a' (s1.trans s') r⟩
  | false =>
    show Q (.bl false) H1
    exact fin _ _ _ _ _ h1 a1 s1 (.bl _)
theorem de_or {t u : TD} (h : DE X Γ a t) (h2 : DE X Γ (.BoolOp .Or (b :: rest) pos) u) : DE X Γ (.BoolOp .Or (a :: b :: rest) pos) (dOr t u) := by
  refine ⟨pe_imp (pe_or h.pe h2.pe) ?_⟩
  rintro σ H Q ⟨ρ, G, k, at_, h, fin⟩
  refine ⟨ρ, G, _, at_, h, fun d ρ1 v G1 H1 h1 a1 s1 r1 => ?_⟩
  obtain ⟨c, rfl, h1⟩ := h1.to
  cases r1
  refine ⟨c, rfl, ?_⟩
  cases c with
  | true =>
    show Q (.bl true) H1
    exact fin _ _ _ _ _ h1 a1 s1 (.bl _)
  | false =>
    show rdE _ _ _ _ _ _
    exact ⟨ρ1, G1, _, a1, h1, fun c ρ' v G' H' hk a' s' r => fin c ρ' v G' H' hk a' (s1.trans s') r⟩
def dNot (t : TD) : TD := fun ρ Q => t ρ fun d ρ1 => asB d fun b => Q (.bool (!b)) ρ1
theorem de_not {t : TD} (h : DE X Γ a t) : DE X Γ (.UnaryOp .Not a pos) (dNot t) := by
  refine ⟨pe_imp (pe_not h.pe) ?_⟩
  rintro σ H Q ⟨ρ, G, k, at_, h, fin⟩
  refine ⟨ρ, G, _, at_, h, fun d ρ1 v G1 H1 h1 a1 s1 r1 => ?_⟩
  obtain ⟨c, rfl, h1⟩ := h1.to
  cases r1
  exact ⟨c, rfl, fin _ _ _ _ _ h1 a1 s1 (.bl _)⟩
def dIf (t : TT') (ta tb : TD) : TD := fun ρ Q => t ρ fun b ρ1 => brn b (ta ρ1 Q) (tb ρ1 Q)
theorem de_if {c : Expr} {t : TT'} {ta tb : TD} (hc : DT X Γ c t) (ha : DE X Γ a ta) (hb : DE X Γ b tb) : DE X Γ (.IfExp c a b pos) (dIf t ta tb) := by
  refine ⟨pe_imp (pe_ifExp hc.pt ha.pe hb.pe) ?_⟩
  rintro σ H Q ⟨ρ, G, k, at_, h, fin⟩
  refine ⟨ρ, G, _, at_, h, fun c ρ1 G1 H1 h1 a1 s1 => ?_⟩
  cases c with
  | true =>
    show rdE _ _ _ _ _ _
    exact ⟨ρ1, G1, _, a1, h1, fun c ρ' v G' H' hk a' s' r => fin c ρ' v G' H' hk a' (s1.trans s') r⟩
  | false =>
    show rdE _ _ _ _ _ _
    exact ⟨ρ1, G1, _, a1, h1, fun c ρ' v G' H' hk a' s' r => fin c ρ' v G' H' hk a' (s1.trans s') r⟩
/-- two comparisons in a row: a op1 b op2 c -/
def dChain (f g : Op2) (ta tb tc : TB) : TD := fun ρ Q => ta ρ fun x ρ1 => tb ρ1 fun y ρ2 => withD ρ2 x fun d => withD ρ2 y fun e => f d e fun r => asB r fun b =>
  brn b (tc ρ2 fun z ρ3 => withD ρ3 y fun e' => withD ρ3 z fun w => g e' w fun r => Q r ρ3) (Q (.bool false) ρ2)
theorem chain_rd {f g : Op2} {ta tb tc : TB} {op op' : CmpOp} {σ : L2.St} {H : Hp} {Q : VK}
    (h : rdE X.K Γ (dChain f g ta tb tc) σ H Q) : tChain (fun x y H Q => ∃ G d e k, Same G H ∧ IsX X.K G H x d ∧ IsX X.K G H y e ∧ f d e k ∧ ∀ r v G' H', k r → Grow G H G' H' → Is X.K G' v r → Q v H') (fun x y H Q => ∃ G d e k, Same G H ∧ IsX X.K G H x d ∧ IsX X.K G H y e ∧ g d e k ∧ ∀ r v G' H', k r → Grow G H G' H' → Is X.K G' v r → Q v H') (rdB X.K Γ ta) (rdB X.K Γ tb) (rdB X.K Γ tc) σ H Q := by
  obtain ⟨ρ, G, k, at_, h, fin⟩ := h
  refine ⟨ρ, G, _, at_, h, fun x ρ1 v1 G1 H1 h1 a1 s1 r1 => ⟨ρ1, G1, _, a1, h1, fun y ρ2 v2 G2 H2 h2 a2 s2 r2 => ?_⟩⟩
  obtain ⟨d, l1, h2⟩ := h2.to
  obtain ⟨e, l2, h2⟩ := h2.to
  refine ⟨G2, d, e, _, a2.sub, a2.isx (r1.mono s2) l1, a2.isx r2 l2, h2, fun r v G3 H3 hk g' i => ?_⟩
  obtain ⟨c, rfl, hk⟩ := hk.to
  cases i
  have a3 := a2.grow g'
  refine ⟨c, rfl, ?_⟩
  cases c with
  | true =>
    show rdB _ _ _ _ _ _
    refine ⟨ρ2, G3, _, a3, hk, fun z ρ3 v4 G4 H4 h4 a4 s4 r4 => ?_⟩
    obtain ⟨e', l5, h4⟩ := h4.to
    obtain ⟨w, l6, h4⟩ := h4.to
    exact ⟨G4, e', w, _, a4.sub, a4.isx ((r2.mono g'.gg).mono s4) l5, a4.isx r4 l6, h4, fun r v G5 H5 hk g5 i5 => fin r ρ3 v G5 H5 hk (a4.grow g5) (((s1.trans s2).trans g'.gg).trans (s4.trans g5.gg)) i5⟩
  | false =>
    show Q (.bl false) H3
    exact fin _ _ _ _ _ hk a3 ((s1.trans s2).trans g'.gg) (.bl _)
theorem de_chain {op op' : CmpOp} {c : Expr} {f g : Op2} {ta tb tc : TB} (ho : OpD X (compareOp op) f) (ho' : OpD X (compareOp op') g) (ha : DB X Γ a ta) (hb : DB X Γ b tb) (hc : DB X Γ c tc)
    (hm : lastMarks [op, op'] [b, c] = false := by with_unfolding_all rfl) : DE X Γ (.Compare a [op, op'] [b, c] pos) (dChain f g ta tb tc) :=
  ⟨pe_imp (pe_chain ho ho' ha.pe hb.pe hc.pe hm) fun σ H Q h => chain_rd (op := op) (op' := op') h⟩
theorem dt_chain {op op' : CmpOp} {c : Expr} {f g : Op2} {ta tb tc : TB} (ho : OpD X (compareOp op) f) (ho' : OpD X (compareOp op') g) (ha : DB X Γ a ta) (hb : DB X Γ b tb) (hc : DB X Γ c tc)
    (hm : lastMarks [op, op'] [b, c] = false := by with_unfolding_all rfl) : DT X Γ (.Compare a [op, op'] [b, c] pos) (tOfE (dChain f g ta tb tc)) := by
  refine ⟨pt_imp (pt_chain ho ho' ha.pe hb.pe hc.pe hm) ?_⟩
  rintro σ H Q ⟨ρ, G, k, at_, h, fin⟩
  refine chain_rd (op := op) (op' := op') ⟨ρ, G, _, at_, h, fun d ρ' v G' H' hk a' s' r => ?_⟩
  obtain ⟨c, rfl, hk⟩ := hk.to
  cases r
  exact ⟨c, rfl, fin _ _ _ _ hk a' s'⟩

/-! ### one operand -/
def dNeg (ta : TB) : TD := fun ρ Q => ta ρ fun x ρ1 => withD ρ1 x fun d => asI d fun i => Q (.int (-i)) ρ1
theorem de_neg {ta : TB} (ha : DB X Γ a ta) : DE X Γ (.UnaryOp .USub a pos) (dNeg ta) := by
  refine ⟨pe_imp (pe_un un_neg ha.pe) ?_⟩
  rintro σ H Q ⟨ρ, G, k, at_, h, fin⟩
  refine ⟨ρ, G, _, at_, h, fun x ρ1 v G1 H1 h1 a1 s1 r1 => ?_⟩
  obtain ⟨d, l, h1⟩ := h1.to
  obtain ⟨i, rfl, h1⟩ := h1.to
  exact ⟨i, (a1.isx r1 l).int, fin _ _ _ _ _ h1 a1 s1 (.int _)⟩

/-! ### argument lists, displays -/
def dNil : TDs := fun ρ Q => Q [] ρ
def dCons (t : TD) (u : TDs) : TDs := fun ρ Q => t ρ fun d ρ1 => u ρ1 fun ds ρ2 => Q (d :: ds) ρ2
def rdAn (K : PySem.W.Frag) (Γ : Gm) (n : Nat) (t : TDs) : TA := fun σ H Q => ∃ ρ G k, At K Γ ρ σ G H ∧ t ρ k ∧ ∀ ds ρ' vs G' H', k ds ρ' → ds.length = n → At K Γ ρ' σ G' H' → Same G G' → IsAll K G' vs ds → Q vs H'
structure DL (X : Cx) (Γ : Gm) (es : List Expr) (t : TDs) : Prop where
  pa : PA X es (rdAn X.K Γ es.length t)
theorem da_nil : DL X Γ [] dNil := by
  refine ⟨pa_imp pa_nil ?_⟩
  rintro σ H Q ⟨ρ, G, k, at_, h, fin⟩
  exact fin [] ρ [] G H h rfl at_ (Same.refl _) .nil
theorem da_cons {t : TD} {u : TDs} (h : DE X Γ e t) (hr : DL X Γ es u) (hs : starEach (e :: es) X.env = (false, eval e X.env) :: starEach es X.env := by rfl) : DL X Γ (e :: es) (dCons t u) := by
  refine ⟨pa_imp (pa_cons h.pe hr.pa hs) ?_⟩
  rintro σ H Q ⟨ρ, G, k, at_, h, fin⟩
  exact ⟨ρ, G, _, at_, h, fun d ρ1 v G1 H1 h1 a1 s1 r1 => ⟨ρ1, G1, _, a1, h1, fun ds ρ2 vs G2 H2 h2 hl a2 s2 r2 => fin (d :: ds) ρ2 (v :: vs) G2 H2 h2 (by rw [List.length_cons, List.length_cons, hl]) a2 (s1.trans s2) (.cons (r1.mono s2) r2)⟩⟩
/-- a new thing, at a place that nobody knew -/
theorem At.fresh {K : PySem.W.Frag} {ρ : Ro} {σ : L2.St} {G H : Hp} {p : Addr} {o : HO} (a : At K Γ ρ σ G H) (hp : H p = none) : At K Γ ρ σ G (upd H p o) ∧ G p = none ∧ Γ.H0 p = none ∧ ∀ (j : Nat) dj, ρ[j]? = some (.own dj) → σ[j]? ≠ some (some (.ref p)) := by
  have ex : Same H (upd H p o) := fun b u q => by rw [upd_ne (ne_of_none q hp)]; exact q
  refine ⟨⟨a.len, fun j s u e1 e2 => ?_, a.sep, a.sub.trans ex, a.old, a.kept.trans ex, a.inh, a.bas⟩, a.sub.free hp, a.kept.free hp, fun j dj e1 e2 => ?_⟩
  · have q := a.sl j s u e1 e2
    cases s with
    | non => exact True.intro
    | val d' => exact q
    | seq ds => exact q
    | own d' =>
      obtain ⟨p', e, q1, q2, q3⟩ := q
      obtain ⟨w, hw⟩ := q3.some
      exact ⟨p', e, q1, q2, q3.mono (Same.refl _) (by rw [upd_ne (ne_of_none hw hp)])⟩
  · obtain ⟨p', e, _, _, q3⟩ := a.own e1
    rw [e2] at e
    cases e
    obtain ⟨w, hw⟩ := q3.some
    rw [hp] at hw
    cases hw
def dTup (t : TDs) : TD := fun ρ Q => t ρ fun ds ρ1 => Q (.tuple ds) ρ1
def dLst (t : TDs) : TD := fun ρ Q => t ρ fun ds ρ1 => Q (.list ds) ρ1
theorem de_tup {x1} {t : TDs} (h : DL X Γ es t) (hl : es.length ≤ 1000 := by decide) : DE X Γ (.Tuple es x1 pos) (dTup t) := by
  refine ⟨pe_imp (pe_tup h.pa) ?_⟩
  rintro σ H Q ⟨ρ, G, k, at_, h, fin⟩
  refine ⟨ρ, G, _, at_, h, fun ds ρ1 vs G1 H1 h1 hn a1 s1 r1 => ⟨line_le (by rw [r1.length]; omega), fun p hp => ?_⟩⟩
  have g := Grow.laid (o := .tup vs) a1.sub hp
  exact fin _ _ _ _ _ h1 (a1.grow g) (s1.trans g.gg) (.tup upd_same (r1.mono g.gg))
theorem df_lst {t : TDs} (h : DL X Γ es t) (hl : es.length ≤ 1000 := by decide) : DF X Γ (.List es pos) (dLst t) := by
  refine ⟨pe_imp (pe_lst h.pa) ?_⟩
  rintro σ H Q ⟨ρ, G, k, at_, h, fin⟩
  refine ⟨ρ, G, _, at_, h, fun ds ρ1 vs G1 H1 h1 hn a1 s1 r1 => ⟨line_le (by rw [r1.length]; omega), fun p hp => ?_⟩⟩
  obtain ⟨a2, g0, h0, hno⟩ := a1.fresh (o := .lst vs) hp
  exact fin _ _ p _ _ h1 a2 s1 g0 h0 (.inl ⟨vs, ds, rfl, upd_same, r1⟩) hno

/-! ### subscripts -/
def ixD : Op2
  | .list xs, .int i, Q => optD (atI xs i) Q
  | .tuple xs, .int i, Q => optD (atI xs i) Q
  | .str z, .int i, Q => z.length ≤ 16777216 ∧ optD (atI z.cps.toList i) fun c => Q (.str ⟨#[c]⟩)
  | _, _, _ => False
theorem IsAll.atI {K : PySem.W.Frag} {H : Hp} {vs : List V} {ds : List D} {i : Int} {d : D} (h : IsAll K H vs ds) (e : L2.atI ds i = some d) : ∃ v, L2.atI vs i = some v ∧ Is K H v d := by
  unfold L2.atI at e ⊢
  rw [← h.length] at e
  cases q : ixN vs.length i with
  | none => rw [q] at e; cases e
  | some j =>
    rw [q] at e
    exact h.get' e
theorem de_ix {ta tb : TB} (ha : DB X Γ a ta) (hb : DB X Γ b tb) (hs : PlainIx b := by intro _ _; rfl) : DE X Γ (.Subscript a b pos) (dBin ixD ta tb) := by
  refine ⟨pe_imp (pe_ix ix_seq ha.pe hb.pe hs) fun σ H Q h => bin_rd ?_ h⟩
  rintro x y H Q ⟨G, d, e, k, s, hx, hy, h, fin⟩
  cases d with
  | list ds =>
    cases e with
    | int i =>
      obtain ⟨r, h1, h2⟩ := optD.to h
      obtain ⟨p, xs, rfl, h3, h4⟩ := hx.list s
      obtain ⟨v, h5, h6⟩ := h4.atI h1
      exact .inl ⟨p, xs, i, v, rfl, hy.int, .of h3, h5, fin _ _ G H h2 (.refl s) h6⟩
    | _ => exact (show False from h).elim
  | tuple ds =>
    cases e with
    | int i =>
      obtain ⟨r, h1, h2⟩ := optD.to h
      obtain ⟨p, xs, rfl, h3, h4⟩ := hx.tup
      obtain ⟨v, h5, h6⟩ := h4.atI h1
      exact .inr (.inl ⟨p, xs, i, v, rfl, hy.int, Same.sqt s h3, h5, fin _ _ G H h2 (.refl s) h6⟩)
    | _ => exact (show False from h).elim
  | str z =>
    cases e with
    | int i =>
      obtain ⟨r, h1, h2⟩ := optD.to h.2
      exact .inr (.inr ⟨z, i, r, hx.str, hy.int, line_le h.1, h1, fin _ _ G H h2 (.refl s) (.str _)⟩)
    | _ => exact (show False from h).elim
  | _ => exact (show False from h).elim
abbrev TP' := Ro → (Option Int → Ro → Prop) → Prop
def rdP (K : PySem.W.Frag) (Γ : Gm) (t : TP') : L2.TO := fun σ H Q => ∃ ρ G k, At K Γ ρ σ G H ∧ t ρ k ∧ ∀ o ρ' G' H', k o ρ' → At K Γ ρ' σ G' H' → Same G G' → Q o H'
structure DP (X : Cx) (Γ : Gm) (e : Option Expr) (t : TP') : Prop where
  po : PO X e (rdP X.K Γ t)
theorem po_imp {X : Cx} {e : Option Expr} {t t' : L2.TO} (h : PO X e t) (i : ∀ σ H Q, t' σ H Q → t σ H Q) : PO X e t' := ⟨fun pins s σ H Q I q => h.run pins s σ H Q I (i σ H Q q)⟩
def pNone : TP' := fun ρ Q => Q none ρ
def pSome (t : TB) : TP' := fun ρ Q => t ρ fun x ρ1 => withD ρ1 x fun d => asI d fun i => Q (some i) ρ1
theorem dp_none : DP X Γ none pNone := by
  refine ⟨po_imp po_none ?_⟩
  rintro σ H Q ⟨ρ, G, k, at_, h, fin⟩
  exact fin _ _ _ _ h at_ (Same.refl _)
theorem dp_some {t : TB} (h : DB X Γ e t) : DP X Γ (some e) (pSome t) := by
  refine ⟨po_imp (po_some h.pe) ?_⟩
  rintro σ H Q ⟨ρ, G, k, at_, h, fin⟩
  refine ⟨ρ, G, _, at_, h, fun x ρ1 v G1 H1 h1 a1 s1 r1 => ?_⟩
  obtain ⟨d, l, h1⟩ := h1.to
  obtain ⟨i, rfl, h1⟩ := h1.to
  exact ⟨i, (a1.isx r1 l).int, fin _ _ _ _ h1 a1 s1⟩
def cutD {α : Type} (xs : List α) (lo hi : Option Int) : List α := (xs.drop (HT.sIx xs.length 0 lo)).take (HT.sIx xs.length xs.length hi - HT.sIx xs.length 0 lo)
theorem cutD_V (xs : List V) (lo hi : Option Int) : cutD xs lo hi = cutV xs lo hi := rfl
theorem IsAll.cut {K : PySem.W.Frag} {H : Hp} {vs : List V} {ds : List D} (h : IsAll K H vs ds) (lo hi : Option Int) : IsAll K H (cutV vs lo hi) (cutD ds lo hi) := by
  unfold cutV cutD
  rw [h.length]
  exact (h.drop _).take _
def slD (d : D) (lo hi : Option Int) (Q : D → Prop) : Prop := match d with
  | .list xs => Q (.list (cutD xs lo hi))
  | .tuple xs => Q (.tuple (cutD xs lo hi))
  | .str z => z.length ≤ 16777216 ∧ Q (.str (cutS z lo hi))
  | _ => False
def dSl (te : TB) (tl th : TP') : TD := fun ρ Q => te ρ fun x ρ1 => tl ρ1 fun lo ρ2 => th ρ2 fun hi ρ3 => withD ρ3 x fun d => slD d lo hi fun r => Q r ρ3
theorem cut_all {xs : List D} {lo hi : Option Int} (h : HT.sIx xs.length 0 lo = 0 ∧ HT.sIx xs.length xs.length hi = xs.length) : cutD xs lo hi = xs := by
  unfold cutD
  rw [h.1, h.2]
  simp
theorem de_slice {lo hi : Option Expr} {p2 : Pos} {te : TB} {tl th : TP'} (he : DB X Γ e te) (hl : DP X Γ lo tl) (hu : DP X Γ hi th) : DE X Γ (.Subscript e (.Slice lo hi none p2) pos) (dSl te tl th) := by
  refine ⟨pe_imp (pe_slice (sl_list.or (sl_tupA.or sl_str)) he.pe hl.po hu.po) ?_⟩
  rintro σ H Q ⟨ρ, G, k, at_, h, fin⟩
  refine ⟨ρ, G, _, at_, h, fun x ρ1 v G1 H1 h1 a1 s1 r1 => ⟨ρ1, G1, _, a1, h1, fun o ρ2 G2 H2 h2 a2 s2 => ⟨ρ2, G2, _, a2, h2, fun o' ρ3 G3 H3 h3 a3 s3 => ?_⟩⟩⟩
  obtain ⟨d, l, h3⟩ := h3.to
  have hx := a3.isx ((r1.mono s2).mono s3) l
  have ss := (s1.trans s2).trans s3
  cases d with
  | list ds =>
    obtain ⟨p, xs, rfl, h4, h5⟩ := hx.list a3.sub
    refine .inl ⟨p, xs, rfl, .of h4, fun q hq => ?_⟩
    have g := Grow.laid (o := .lst (cutV xs o o')) a3.sub hq
    exact fin _ _ _ _ _ h3 (a3.grow g) (ss.trans g.gg) (.lst upd_same ((h5.cut o o').mono g.gg))
  | tuple ds =>
    obtain ⟨p, xs, rfl, h4, h5⟩ := hx.tup
    refine .inr (.inl ⟨p, xs, rfl, Same.sqt a3.sub h4, fun hw => ?_, fun _ q hq => ?_⟩)
    · refine fin _ _ _ _ _ h3 a3 ss ?_
      rw [cut_all (by rw [← h5.length]; exact hw)]
      exact .tup h4 h5
    · have g := Grow.laid (o := .tup (cutV xs o o')) a3.sub hq
      exact fin _ _ _ _ _ h3 (a3.grow g) (ss.trans g.gg) (.tup upd_same ((h5.cut o o').mono g.gg))
  | str z => exact .inr (.inr ⟨z, hx.str, line_le h3.1, fin _ _ _ _ _ h3.2 a3 ss (.str _)⟩)
  | _ => exact (show False from h3).elim
end
end Dn
/-! Dn: statements, loops, comprehensions. -/
namespace Dn
open PySem PySem.Spec PyProof.Rows L2

structure DEnds where
  nx : Ro → Prop
  rt : D → Ro → Prop
  bk : Ro → Prop := fun _ => False
  ct : Ro → Prop := fun _ => False
abbrev TDS := DEnds → Ro → Prop
structure EOk (K : PySem.W.Frag) (Γ : Gm) (G : Hp) (R : DEnds) (E : Ends) : Prop where
  nx : ∀ ρ σ G' H, At K Γ ρ σ G' H → Same G G' → R.nx ρ → E.nx σ H
  rt : ∀ d v ρ σ G' H, At K Γ ρ σ G' H → Same G G' → Is K G' v d → R.rt d ρ → E.rt v H
  bk : ∀ ρ σ G' H, At K Γ ρ σ G' H → Same G G' → R.bk ρ → E.bk σ H
  ct : ∀ ρ σ G' H, At K Γ ρ σ G' H → Same G G' → R.ct ρ → E.ct σ H
theorem EOk.mono {K : PySem.W.Frag} {Γ : Gm} {G G1 : Hp} {R : DEnds} {E : Ends} (e : EOk K Γ G R E) (s : Same G G1) : EOk K Γ G1 R E :=
  ⟨fun ρ σ G' H a t => e.nx ρ σ G' H a (s.trans t), fun d v ρ σ G' H a t => e.rt d v ρ σ G' H a (s.trans t), fun ρ σ G' H a t => e.bk ρ σ G' H a (s.trans t), fun ρ σ G' H a t => e.ct ρ σ G' H a (s.trans t)⟩
def rdS (K : PySem.W.Frag) (Γ : Gm) (t : TDS) : TS := fun E σ H => ∃ ρ G R, At K Γ ρ σ G H ∧ EOk K Γ G R E ∧ t R ρ
structure DS (X : Cx) (Γ : Gm) (st : Stmt) (t : TDS) : Prop where
  ps : PS X st (rdS X.K Γ t)
structure DSs (X : Cx) (Γ : Gm) (st : List Stmt) (t : TDS) : Prop where
  ps : PSs X st (rdS X.K Γ t)
theorem ps_imp {X : Cx} {e : Stmt} {t t' : TS} (h : PS X e t) (i : ∀ D σ H, t' D σ H → t D σ H) : PS X e t' := ⟨fun pins s σ H D I q => h.run pins s σ H D I (i D σ H q)⟩
theorem pss_imp {X : Cx} {e : List Stmt} {t t' : TS} (h : PSs X e t) (i : ∀ D σ H, t' D σ H → t D σ H) : PSs X e t' := ⟨fun pins s σ H D I q => h.run pins s σ H D I (i D σ H q)⟩
theorem pg_imp {X : Cx} {e : Expr} {t t' : TG} (h : PG X e t) (i : ∀ v σ H Q, t' v σ H Q → t v σ H Q) : PG X e t' := ⟨fun pins s σ H v u Q I r q => h.run pins s σ H v u Q I r (i v σ H Q q)⟩

section
variable {X : Cx} {Γ : Gm} {k : Nat} {a b e : Expr} {es : List Expr} {st : Stmt} {rest body orelse : List Stmt} {pos : Pos} {t u : TDS}
def sSeq (t u : TDS) : TDS := fun R ρ => t { R with nx := u R } ρ
def sNext : TDS := fun R ρ => R.nx ρ
theorem dss_nil : DSs X Γ [] sNext := ⟨pss_imp pss_nil fun E σ H ⟨ρ, G, R, at_, ok, h⟩ => ok.nx _ _ _ _ at_ (Same.refl _) h⟩
theorem dss_one (h : DS X Γ st t) : DSs X Γ [st] t := ⟨pss_one h.ps⟩
theorem dss_cons (h : DS X Γ st t) (h2 : DSs X Γ rest u) : DSs X Γ (st :: rest) (sSeq t u) := by
  refine ⟨pss_imp (pss_cons h.ps h2.ps) ?_⟩
  rintro E σ H ⟨ρ, G, R, at_, ok, h⟩
  exact ⟨ρ, G, { R with nx := u R }, at_, ⟨fun ρ' σ' G' H' a' s' hu => ⟨ρ', G', R, a', ok.mono s', hu⟩, ok.rt, ok.bk, ok.ct⟩, h⟩
def sBrk : TDS := fun R ρ => R.bk ρ
def sCnt : TDS := fun R ρ => R.ct ρ
theorem ds_pass : DS X Γ (.Pass pos) sNext := ⟨ps_imp ps_pass fun E σ H ⟨ρ, G, R, at_, ok, h⟩ => ok.nx _ _ _ _ at_ (Same.refl _) h⟩
theorem ds_break : DS X Γ (.Break pos) sBrk := ⟨ps_imp ps_break fun E σ H ⟨ρ, G, R, at_, ok, h⟩ => ok.bk _ _ _ _ at_ (Same.refl _) h⟩
theorem ds_continue : DS X Γ (.Continue pos) sCnt := ⟨ps_imp ps_continue fun E σ H ⟨ρ, G, R, at_, ok, h⟩ => ok.ct _ _ _ _ at_ (Same.refl _) h⟩
theorem ds_doc {x j pos'} : DS X Γ (.Expr (.Constant (.str x) j pos) pos') sNext := ⟨ps_imp ps_doc fun E σ H ⟨ρ, G, R, at_, ok, h⟩ => ok.nx _ _ _ _ at_ (Same.refl _) h⟩
def sRet (t : TD) : TDS := fun R ρ => t ρ R.rt
theorem ds_ret {t : TD} (h : DE X Γ e t) : DS X Γ (.Return (some e) pos) (sRet t) := by
  refine ⟨ps_imp (ps_ret h.pe) ?_⟩
  rintro E σ H ⟨ρ, G, R, at_, ok, h⟩
  exact ⟨ρ, G, _, at_, h, fun d ρ' v G' H' hk a' s' r => ok.rt _ _ _ _ _ _ a' s' r hk⟩
def sRetN : TDS := fun R ρ => R.rt .none ρ
theorem ds_retN : DS X Γ (.Return none pos) sRetN := ⟨ps_imp ps_retN fun E σ H ⟨ρ, G, R, at_, ok, h⟩ => ok.rt _ _ _ _ _ _ at_ (Same.refl _) .non h⟩
def sDrop (t : TD) : TDS := fun R ρ => t ρ fun _ ρ' => R.nx ρ'
theorem ds_expr {t : TD} (h : DE X Γ e t) (hs : swapsWith e none pos.line X.env = pure false := by rfl) : DS X Γ (.Expr e pos) (sDrop t) := by
  refine ⟨ps_imp (ps_expr h.pe hs) ?_⟩
  rintro E σ H ⟨ρ, G, R, at_, ok, h⟩
  exact ⟨ρ, G, _, at_, h, fun d ρ' v G' H' hk a' s' r => ok.nx _ _ _ _ a' s' hk⟩
def sIf (c : TT') (t u : TDS) : TDS := fun R ρ => c ρ fun b ρ1 => brn b (t R ρ1) (u R ρ1)
/-- the two ways meet again where N holds -/
def sIfJ (c : TT') (t u : TDS) : TDS := fun R ρ => c ρ fun b ρ1 => ∃ N : Ro → Prop, (b = true → t { R with nx := N } ρ1) ∧ (b = false → u { R with nx := N } ρ1) ∧ ∀ ρ', N ρ' → R.nx ρ'
theorem ds_if {c : Expr} {tc : TT'} (hc : DT X Γ c tc) (ha : DSs X Γ body t) (hb : DSs X Γ orelse u) : DS X Γ (.If c body orelse pos) (sIf tc t u) := by
  refine ⟨ps_imp (ps_if hc.pt ha.ps hb.ps) ?_⟩
  rintro E σ H ⟨ρ, G, R, at_, ok, h⟩
  refine ⟨ρ, G, _, at_, h, fun b ρ1 G1 H1 h1 a1 s1 => ?_⟩
  cases b with
  | true => exact ⟨ρ1, G1, R, a1, ok.mono s1, h1⟩
  | false => exact ⟨ρ1, G1, R, a1, ok.mono s1, h1⟩
theorem ds_ifJ {c : Expr} {tc : TT'} (hc : DT X Γ c tc) (ha : DSs X Γ body t) (hb : DSs X Γ orelse u) : DS X Γ (.If c body orelse pos) (sIfJ tc t u) := by
  refine ⟨ps_imp (ps_if hc.pt ha.ps hb.ps) ?_⟩
  rintro E σ H ⟨ρ, G, R, at_, ok, h⟩
  refine ⟨ρ, G, _, at_, h, fun b ρ1 G1 H1 ⟨N, h1, h2, h3⟩ a1 s1 => ?_⟩
  have ok' : EOk X.K Γ G1 { R with nx := N } E := ⟨fun ρ' σ' G' H' a' s' q => ok.nx _ _ _ _ a' (s1.trans s') (h3 _ q), fun d v ρ' σ' G' H' a' s' => ok.rt d v ρ' σ' G' H' a' (s1.trans s'), fun ρ' σ' G' H' a' s' => ok.bk ρ' σ' G' H' a' (s1.trans s'), fun ρ' σ' G' H' a' s' => ok.ct ρ' σ' G' H' a' (s1.trans s')⟩
  cases b with
  | true => exact ⟨ρ1, G1, _, a1, ok', h1 rfl⟩
  | false => exact ⟨ρ1, G1, _, a1, ok', h2 rfl⟩
/-- name = e -/
def sSet (t : TD) (i : Nat) : TDS := fun R ρ => t ρ fun d ρ' => R.nx (ρ'.set i (.val d))
theorem ds_set {i : Nat} {x : Str} {t : TD} {pos' : Pos} (c : Cok k X Γ) (hi : X.N[i]? = some x) (hx : Loc X.env.scope x) (h : DE X Γ e t) (hI : Γ.I.contains i = false := by rfl) (hs : swapsWith e (some (.Name x pos')) pos.line X.env = pure false := by rfl) (hf : X.fn x = true ∨ X.env.scope.names.lookup x = some .local := by first | exact .inl rfl | exact .inr rfl | assumption) :
    DS X Γ (.Assign [.Name x pos'] e pos) (sSet t i) := by
  refine ⟨ps_imp (ps_set (i := i) c.nd hi hx h.pe hs hf) ?_⟩
  rintro E σ H ⟨ρ, G, R, at_, ok, h⟩
  exact ⟨ρ, G, _, at_, h, fun d ρ' v G' H' hk a' s' r => ok.nx _ _ _ _ (a'.set hI r) s' hk⟩
/-- name = a new list of its own -/
def sSetF (t : TD) (i : Nat) : TDS := fun R ρ => t ρ fun d ρ' => R.nx (ρ'.set i (.own d))
theorem ds_setF {i : Nat} {x : Str} {t : TD} {pos' : Pos} (c : Cok k X Γ) (hi : X.N[i]? = some x) (hx : Loc X.env.scope x) (h : DF X Γ e t) (hI : Γ.I.contains i = false := by rfl) (hs : swapsWith e (some (.Name x pos')) pos.line X.env = pure false := by rfl) (hf : X.fn x = true ∨ X.env.scope.names.lookup x = some .local := by first | exact .inl rfl | exact .inr rfl | assumption) :
    DS X Γ (.Assign [.Name x pos'] e pos) (sSetF t i) := by
  refine ⟨ps_imp (ps_set (i := i) c.nd hi hx h.pe hs hf) ?_⟩
  rintro E σ H ⟨ρ, G, R, at_, ok, h⟩
  exact ⟨ρ, G, _, at_, h, fun d ρ' p G' H' hk a' s' g0 h0 own hno => ok.nx _ _ _ _ (a'.setOwn hI g0 h0 own hno) s' hk⟩
/-! ### targets -/
abbrev TDG := D → Ro → (Ro → Prop) → Prop
def rdG (K : PySem.W.Frag) (Γ : Gm) (js : List Nat) (g : TDG) : TG := fun v σ H Q => ∃ ρ G d k, At K Γ ρ σ G H ∧ Is K G v d ∧ g d ρ k ∧ ∀ ρ' σ', k ρ' → At K Γ ρ' σ' G H → σ'.length = σ.length → (∀ i, i ∉ js → σ'[i]? = σ[i]?) → Q σ' H
structure DG (X : Cx) (Γ : Gm) (tg : Expr) (js : List Nat) (g : TDG) : Prop where
  pg : PG X tg (rdG X.K Γ js g)
def gNm (i : Nat) : TDG := fun d ρ Q => Q (ρ.set i (.val d))
theorem dg_name {i : Nat} {x : Str} (c : Cok k X Γ) (hi : X.N[i]? = some x) (hx : Loc X.env.scope x) (hI : Γ.I.contains i = false := by rfl) (hf : X.fn x = true ∨ X.env.scope.names.lookup x = some .local := by first | exact .inl rfl | exact .inr rfl | assumption) : DG X Γ (.Name x pos) [i] (gNm i) := by
  refine ⟨pg_imp (pg_name (i := i) c.nd hi hx hf) ?_⟩
  rintro v σ H Q ⟨ρ, G, d, k, at_, r, h, fin⟩
  exact fin _ _ h (at_.set hI r) (List.length_set ..) fun j hj => List.getElem?_set_ne (fun z => hj (by rw [z]; exact List.mem_cons_self))
abbrev TDGs := List D → Ro → (Ro → Prop) → Prop
def rdGs (K : PySem.W.Frag) (Γ : Gm) (js : List Nat) (g : TDGs) : TGs := fun vs σ H Q => ∃ ρ G ds k, At K Γ ρ σ G H ∧ IsAll K G vs ds ∧ g ds ρ k ∧ ∀ ρ' σ', k ρ' → At K Γ ρ' σ' G H → σ'.length = σ.length → (∀ i, i ∉ js → σ'[i]? = σ[i]?) → Q σ' H
structure DGs (X : Cx) (Γ : Gm) (ts : List Expr) (js : List Nat) (g : TDGs) : Prop where
  pg : PGs X ts (rdGs X.K Γ js g)
theorem pgs_imp {X : Cx} {e : List Expr} {t t' : TGs} (h : PGs X e t) (i : ∀ v σ H Q, t' v σ H Q → t v σ H Q) : PGs X e t' := ⟨fun pins s σ H v u Q I r q => h.run pins s σ H v u Q I r (i v σ H Q q)⟩
def gsNil : TDGs := fun ds ρ Q => ds = [] ∧ Q ρ
def gsCons (g : TDG) (gs : TDGs) : TDGs := fun ds ρ Q => match ds with
  | [] => False
  | d :: r => g d ρ fun ρ' => gs r ρ' Q
theorem dgs_nil : DGs X Γ [] [] gsNil := by
  refine ⟨pgs_imp pgs_nil ?_⟩
  rintro vs σ H Q ⟨ρ, G, ds, k, at_, r, ⟨rfl, h⟩, fin⟩
  cases r
  exact ⟨rfl, fin _ _ h at_ rfl fun _ _ => rfl⟩
theorem dgs_cons {js1 js2 : List Nat} {g : TDG} {gs : TDGs} (h1 : DG X Γ e js1 g) (h2 : DGs X Γ es js2 gs)
    (hs : (assignEach (e :: es) X.env).map (·.2) = assign e X.env :: (assignEach es X.env).map (·.2) := by rfl) : DGs X Γ (e :: es) (js1 ++ js2) (gsCons g gs) := by
  refine ⟨pgs_imp (pgs_cons h1.pg h2.pg hs) ?_⟩
  rintro vs σ H Q ⟨ρ, G, ds, k, at_, r, h, fin⟩
  cases r with
  | nil => exact h.elim
  | cons r1 r2 => exact ⟨_, _, rfl, ρ, G, _, _, at_, r1, h, fun ρ' σ' hk a' l1 f1 => ⟨ρ', G, _, _, a', r2, hk, fun ρ'' σ'' hk2 a'' l2 f2 => fin _ _ hk2 a'' (l2.trans l1) fun i hi => by
      rw [List.mem_append, not_or] at hi
      exact (f2 i hi.2).trans (f1 i hi.1)⟩⟩
def gTp (n : Nat) (gs : TDGs) : TDG := fun d ρ Q => match d with
  | .tuple ds => ds.length = n ∧ gs ds ρ Q
  | _ => False
theorem dg_tup {kk : Nat} {js : List Nat} {gs : TDGs} {n : Nat} (c : Cok k X Γ) (h : DGs X Γ es js gs) (hn : (assignEach es X.env).length = n := by rfl) (hst : (assignEach es X.env).findIdx? (·.1) = none := by rfl) : DG X Γ (.Tuple es kk pos) js (gTp n gs) := by
  refine ⟨pg_imp (pg_tup c.calm h.pg hn hst) ?_⟩
  rintro v σ H Q ⟨ρ, G, d, k, at_, r, h, fin⟩
  cases d with
  | tuple ds =>
    cases r with
    | tup h1 h2 => exact ⟨_, _, rfl, Same.sqt at_.sub h1, by rw [h2.length]; exact h.1, ρ, G, ds, k, at_, h2, h.2, fin⟩
  | _ => exact (show False from h).elim
def sAsg (t : TD) (g : TDG) : TDS := fun R ρ => t ρ fun d ρ' => g d ρ' R.nx
theorem ds_asg {tg : Expr} {t : TD} {js : List Nat} {g : TDG} (he : DE X Γ e t) (hg : DG X Γ tg js g) (hs : swapsWithSole [tg] e pos.line X.env = pure false := by rfl) (hw : swappedStores [tg] e X.env = pure none := by rfl)
    (h1 : (assignEach [tg] X.env).map (·.2) = [assign tg X.env] := by rfl) : DS X Γ (.Assign [tg] e pos) (sAsg t g) := by
  refine ⟨ps_imp (ps_asg he.pe hg.pg hs hw h1) ?_⟩
  rintro E σ H ⟨ρ, G, R, at_, ok, h⟩
  exact ⟨ρ, G, _, at_, h, fun d ρ' v G' H' hk a' s' r => ⟨ρ', G', d, _, a', r, hk, fun ρ'' σ'' hk2 a'' _ _ => ok.nx _ _ _ _ a'' s' hk2⟩⟩
/-- a, b = x, y -/
def sPar (i j : Nat) (t : TDs) : TDS := fun R ρ => t ρ fun ds ρ' => match ds with
  | [d, e] => R.nx ((ρ'.set i (.val d)).set j (.val e))
  | _ => False
theorem ds_par {i j : Nat} {x y : Str} {t : TDs} {px py pt : Pos} {kt k2 pt2} (c : Cok k X Γ) (hi : X.N[i]? = some x) (hj : X.N[j]? = some y) (hij : i ≠ j)
    (hx : X.env.scope.names.lookup x = some .local) (hy : X.env.scope.names.lookup y = some .local) (ha : DL X Γ [a, b] t) (hI : Γ.I.contains i = false := by rfl) (hJ : Γ.I.contains j = false := by rfl)
    (hw : swappedStores [.Tuple [.Name x px, .Name y py] kt pt] (.Tuple [a, b] k2 pt2) X.env = pure (some [x, y]) := by rfl)
    (hs : swapsWithSole [.Tuple [.Name x px, .Name y py] kt pt] (.Tuple [a, b] k2 pt2) pos.line X.env = pure false := by rfl) :
    DS X Γ (.Assign [.Tuple [.Name x px, .Name y py] kt pt] (.Tuple [a, b] k2 pt2) pos) (sPar i j t) := by
  refine ⟨ps_imp (ps_par c.calm c.nd hi hj hij hx hy ha.pa hw hs) ?_⟩
  rintro E σ H ⟨ρ, G, R, at_, ok, h⟩
  refine ⟨ρ, G, _, at_, h, fun ds ρ' vs G' H' hk hl a' s' r => ?_⟩
  cases r with
  | nil => exact hk.elim
  | cons r1 r =>
    cases r with
    | nil => exact hk.elim
    | cons r2 r =>
      cases r with
      | nil => exact ⟨_, _, rfl, ok.nx _ _ _ _ ((a'.set hI r1).set hJ r2) s' hk⟩
      | cons r3 r => exact hk.elim
/-- a, b, c = x, y, z -/
def sPar3 (i j l : Nat) (t : TDs) : TDS := fun R ρ => t ρ fun ds ρ' => match ds with
  | [d, e, f] => R.nx (((ρ'.set i (.val d)).set j (.val e)).set l (.val f))
  | _ => False
theorem ds_par3 {i j l : Nat} {x y z : Str} {c' : Expr} {t : TDs} {px py pz pt : Pos} {kt k2 pt2} (c : Cok k X Γ) (hi : X.N[i]? = some x) (hj : X.N[j]? = some y) (hl : X.N[l]? = some z) (hij : i ≠ j) (hil : i ≠ l) (hjl : j ≠ l)
    (hx : X.env.scope.names.lookup x = some .local) (hy : X.env.scope.names.lookup y = some .local) (hz : X.env.scope.names.lookup z = some .local) (ha : DL X Γ [a, b, c'] t) (hI : Γ.I.contains i = false := by rfl) (hJ : Γ.I.contains j = false := by rfl) (hL : Γ.I.contains l = false := by rfl)
    (hw : swappedStores [.Tuple [.Name x px, .Name y py, .Name z pz] kt pt] (.Tuple [a, b, c'] k2 pt2) X.env = pure (some [x, y, z]) := by rfl)
    (hs : swapsWithSole [.Tuple [.Name x px, .Name y py, .Name z pz] kt pt] (.Tuple [a, b, c'] k2 pt2) pos.line X.env = pure false := by rfl) :
    DS X Γ (.Assign [.Tuple [.Name x px, .Name y py, .Name z pz] kt pt] (.Tuple [a, b, c'] k2 pt2) pos) (sPar3 i j l t) := by
  refine ⟨ps_imp (ps_par3 c.calm c.nd hi hj hl hij hil hjl hx hy hz ha.pa hw hs) ?_⟩
  rintro E σ H ⟨ρ, G, R, at_, ok, h⟩
  refine ⟨ρ, G, _, at_, h, fun ds ρ' vs G' H' hk hl a' s' r => ?_⟩
  cases r with
  | nil => exact hk.elim
  | cons r1 r =>
    cases r with
    | nil => exact hk.elim
    | cons r2 r =>
      cases r with
      | nil => exact hk.elim
      | cons r3 r =>
        cases r with
        | nil => exact ⟨_, _, _, rfl, ok.nx _ _ _ _ (((a'.set hI r1).set hJ r2).set hL r3) s' hk⟩
        | cons r4 r => exact hk.elim
/-- name op= e -/
def sAug (i : Nat) (f : Op2) (t : TB) : TDS := fun R ρ => match ρ[i]? with
  | some (.val d) => t ρ fun x ρ' => withD ρ' x fun e => f d e fun r => R.nx (ρ'.set i (.val r))
  | _ => False
theorem ds_aug {i : Nat} {x : Str} {op : Operator} {f : Op2} {t : TB} {pos' : Pos} (c : Cok k X Γ) (hi : X.N[i]? = some x) (hx : Loc X.env.scope x) (ho : OpD X (inplaceOp op) f) (h : DB X Γ e t) (hI : Γ.I.contains i = false := by rfl) (hf : X.fn x = true ∨ X.env.scope.names.lookup x = some .local := by first | exact .inl rfl | exact .inr rfl | assumption) :
    DS X Γ (.AugAssign (.Name x pos') op e pos) (sAug i f t) := by
  refine ⟨ps_imp (ps_aug (i := i) c.nd hi hx h.pe (fun pins s σ H x y v u Q I r1 r2 q => ho pins s σ H x y v u Q I r1 r2 q) hf) ?_⟩
  rintro E σ H ⟨ρ, G, R, at_, ok, h⟩
  unfold sAug at h
  split at h
  · rename_i d q
    obtain ⟨v, e1, e2⟩ := at_.val q
    refine ⟨v, e1, ρ, G, _, at_, h, fun y ρ1 w G1 H1 h1 a1 s1 r1 => ?_⟩
    obtain ⟨e, l, h1⟩ := h1.to
    exact ⟨G1, d, e, _, a1.sub, .inl (e2.mono s1), a1.isx r1 l, h1, fun r z G2 H2 hk g i => ok.nx _ _ _ _ ((a1.grow g).set hI i) (s1.trans g.gg) hk⟩
  · exact h.elim
def iaddD : Op2
  | .int i, .int j, Q => Q (.int (i + j))
  | .str x, .str y, Q => x.length + y.length ≤ 16777216 ∧ Q (.str (x ++ y))
  | _, _, _ => False
theorem od_iadd : OpD X (inplaceOp .Add) iaddD := by
  refine OpD.or (iop_add.or iop_add_str) ?_
  rintro x y H Q ⟨G, d, e, k, s, hx, hy, h, fin⟩
  cases d with
  | int i =>
    cases e with
    | int j => exact .inl ⟨i, j, hx.int, hy.int, fin _ _ G H h (.refl s) (.int _)⟩
    | _ => exact (show False from h).elim
  | str i =>
    cases e with
    | str j => exact .inr ⟨i, j, hx.str, hy.str, line_le h.1, fin _ _ G H h.2 (.refl s) (.str _)⟩
    | _ => exact (show False from h).elim
  | _ => exact (show False from h).elim
theorem od_isub : OpD X (inplaceOp .Sub) subD := by
  refine OpD.or iop_sub ?_
  rintro x y H Q ⟨G, d, e, k, s, hx, hy, h, fin⟩
  cases d with
  | int i =>
    cases e with
    | int j => exact ⟨i, j, hx.int, hy.int, fin _ _ G H h (.refl s) (.int _)⟩
    | _ => exact (show False from h).elim
  | _ => exact (show False from h).elim
theorem iop_mulC : OpR X (inplaceOp .Mult) (rI CM fun i j => .int (i * j)) := opI fun _ _ _ _ _ _ _ hc q => imul_int q hc.ok
theorem od_imul : OpD X (inplaceOp .Mult) mulD := by
  refine OpD.or iop_mulC ?_
  rintro x y H Q ⟨G, d, e, k, s, hx, hy, h, fin⟩
  cases d with
  | int i =>
    cases e with
    | int j => exact ⟨i, j, hx.int, hy.int, h.1, fin _ _ G H h.2 (.refl s) (.int _)⟩
    | _ => exact (show False from h).elim
  | _ => exact (show False from h).elim
theorem iop_fdivC : OpR X (inplaceOp .FloorDiv) (rI (fun _ j => CDV j) fun i j => .int (i.fdiv j)) := opI fun i j _ _ _ _ _ hc q =>
  ifloordiv_int hc.1 q (.inl (PyProof.noPylong_of_log2 (PySem.Flt.log2_lt_of (by decide) hc.2)))
theorem od_ifdiv : OpD X (inplaceOp .FloorDiv) fdivD := by
  refine OpD.or iop_fdivC ?_
  rintro x y H Q ⟨G, d, e, k, s, hx, hy, h, fin⟩
  cases d with
  | int i =>
    cases e with
    | int j => exact ⟨i, j, hx.int, hy.int, h.1, fin _ _ G H h.2 (.refl s) (.int _)⟩
    | _ => exact (show False from h).elim
  | _ => exact (show False from h).elim

/-! ### while -/
def sWhile (c : TT') (t : TDS) : TDS := fun R ρ => ∃ W : Nat → Ro → Prop, (∃ m, W m ρ) ∧ ∀ m ρ, W m ρ → c ρ fun b ρ1 =>
  brn b (t { R with nx := fun ρ' => ∃ m', m' < m ∧ W m' ρ', ct := fun ρ' => ∃ m', m' < m ∧ W m' ρ', bk := R.nx } ρ1) (R.nx ρ1)
theorem ds_while {c' : Expr} {tc : TT'} (c : Cok k X Γ) (hc : DT X Γ c' tc) (hb : DSs X Γ body t) : DS X Γ (.While c' body [] pos) (sWhile tc t) := by
  refine ⟨ps_imp (ps_while c.po hc.pt hb.ps) ?_⟩
  rintro E σ H ⟨ρ, G, R, at_, ok, W, ⟨m, w⟩, turn⟩
  refine ⟨fun m σ' H' => ∃ ρ' G', At X.K Γ ρ' σ' G' H' ∧ Same G G' ∧ W m ρ', ⟨m, ρ, G, at_, Same.refl _, w⟩, ?_⟩
  rintro m σ' H' ⟨ρ', G', a', s', w'⟩
  refine ⟨ρ', G', _, a', turn m ρ' w', fun b ρ1 G1 H1 h1 a1 s1 => ?_⟩
  have s01 := s'.trans s1
  cases b with
  | true =>
    refine iteT ⟨fun σ2 H2 => ∃ m', m' < m ∧ ∃ ρ' G', At X.K Γ ρ' σ2 G' H2 ∧ Same G G' ∧ W m' ρ', fun σ2 H2 q => q, ρ1, G1, { R with nx := fun ρ' => ∃ m', m' < m ∧ W m' ρ', ct := fun ρ' => ∃ m', m' < m ∧ W m' ρ', bk := R.nx }, a1, ⟨fun ρ2 σ2 G2 H2 a2 s2 ⟨m', hm, w2⟩ => ⟨m', hm, ρ2, G2, a2, s01.trans s2, w2⟩,
      fun d v ρ2 σ2 G2 H2 a2 s2 => ok.rt d v ρ2 σ2 G2 H2 a2 (s01.trans s2), fun ρ2 σ2 G2 H2 a2 s2 => ok.nx ρ2 σ2 G2 H2 a2 (s01.trans s2), fun ρ2 σ2 G2 H2 a2 s2 ⟨m', hm, w2⟩ => ⟨m', hm, ρ2, G2, a2, s01.trans s2, w2⟩⟩, h1⟩
  | false =>
    exact iteF (ok.nx _ _ _ _ a1 s01 h1)

/-! ### what a loop walks -/
structure JOk (K : PySem.W.Frag) (J : It) (ds : List D) (G1 : Hp) : Prop where
  go : ∀ i H G, Same G1 G → Same G H → i < ds.length → J.go i H
  stop : ∀ H G, Same G1 G → Same G H → J.stop ds.length H
  yld : ∀ i H G x H', Same G1 G → Same G H → i < ds.length → J.yld i H x H' → ∃ d G', ds[i]? = some d ∧ Grow G H G' H' ∧ Is K G' x d
theorem JOk.walk {K : PySem.W.Frag} {J : It} {ds : List D} {G1 : Hp} {Gd : Hp → Prop} {Y : Nat → Hp → V → Hp → Prop} (w : L2.Walk J ds.length Gd Y) (hG : ∀ H, Same G1 H → Gd H)
    (hy : ∀ i H G x H', Same G1 G → Same G H → i < ds.length → Y i H x H' → ∃ d G', ds[i]? = some d ∧ Grow G H G' H' ∧ Is K G' x d) : JOk K J ds G1 :=
  ⟨fun i H G s1 s2 hi => w.goes i H hi (hG H (s1.trans s2)), fun H G s1 s2 => w.stops H (hG H (s1.trans s2)), fun i H G x H' s1 s2 hi y => hy i H G x H' s1 s2 hi (w.yields i H x H' hi (hG H (s1.trans s2)) y)⟩
theorem JOk.mono {K : PySem.W.Frag} {J : It} {ds : List D} {G1 G2 : Hp} (h : JOk K J ds G1) (s : Same G1 G2) : JOk K J ds G2 :=
  ⟨fun i H G s1 s2 => h.go i H G (s.trans s1) s2, fun H G s1 s2 => h.stop H G (s.trans s1) s2, fun i H G x H' s1 s2 => h.yld i H G x H' (s.trans s1) s2⟩
abbrev TI' := Ro → (List D → Ro → Prop) → Prop
def rdI (K : PySem.W.Frag) (Γ : Gm) (t : TI') : TI := fun σ H R => ∃ ρ G k, At K Γ ρ σ G H ∧ t ρ k ∧ ∀ ds ρ' J G' H', k ds ρ' → At K Γ ρ' σ G' H' → Same G G' → JOk K J ds G' → R J H'
structure DI (X : Cx) (Γ : Gm) (tg iter : Expr) (t : TI') : Prop where
  pi : PI X tg iter (rdI X.K Γ t)
theorem pi_imp {X : Cx} {tg iter : Expr} {t t' : TI} (h : PI X tg iter t) (i : ∀ σ H R, t' σ H R → t σ H R) : PI X tg iter t' := ⟨fun pins s σ H R I q => h.run pins s σ H R I (i σ H R q)⟩
/-- a list, a tuple, a text: whichever it is -/
theorem pi_seq {tg l : Expr} {tl : TE} (hl : PE X l tl) : PI X tg l (fun σ H R => tl σ H fun x H1 =>
    (∃ a xs, x = .ref a ∧ SqL X.K H1 a xs ∧ R (Itl X.K a) H1) ∨ (∃ a xs, x = .ref a ∧ SqT X.K H1 a xs ∧ R (Itt X.K a) H1) ∨ ∃ z, x = .str z ∧ R (Its z) H1) := by
  refine ⟨fun pins s σ H R I h => ?_⟩
  refine thn (hl.run pins s σ H _ I h) fun v s1 ⟨x, H1, I1, r1, q1⟩ => ?_
  have pl : ∀ {w : TI}, PI (X := X) tg l w → True := fun _ => trivial
  rcases q1 with ⟨a, xs, e, hq, q⟩ | ⟨a, xs, e, hq, q⟩ | ⟨z, e, q⟩
  · subst e
    cases r1
    obtain ⟨its, rv, p, hz⟩ := I1.list hq
    refine wpAny_pyIter_list p.isList ?_
    refine ⟨s1.heap.objs.size, [s1.heap.objs.size], _, _, H1, rfl, I1.kept (t' := s1.toks) fun b o e => Heap.get?_push_of_some _ e, turn_list a _, ⟨_, Heap.get?_push_size _ rfl, rfl, rfl⟩, fun b hb => ?_, q⟩
    have e : b = s1.heap.objs.size := by simpa using hb
    subst e
    exact I1.fpOk (Nat.le_refl _) (I1.hok.fresh (Nat.le_refl _))
  · subst e
    cases r1
    obtain ⟨its, rv, p, hz⟩ := I1.tuple hq
    refine wpAny_pyIter_tuple (show s1.heap.IsTuple a its.toArray from p) ?_
    refine ⟨s1.heap.objs.size, [s1.heap.objs.size], _, _, H1, rfl, I1.kept (t' := s1.toks) fun b o e => Heap.get?_push_of_some _ e, turn_tuple a _, ⟨_, Heap.get?_push_size _ rfl, rfl, rfl⟩, fun b hb => ?_, q⟩
    have e : b = s1.heap.objs.size := by simpa using hb
    subst e
    exact I1.fpOk (Nat.le_refl _) (I1.hok.fresh (Nat.le_refl _))
  · subst e
    obtain ⟨t, rfl⟩ := r1
    cases ha : z.cps.all (· < 128)
    · exact wpAny_pyIter_wide ha (pi_one (tk := s1.toks) I1 _ (turn_str _ z t "str_iterator" (.inr rfl)) ⟨_, Heap.get?_push_size _ rfl, rfl, rfl⟩ q)
    · exact wpAny_pyIter_ascii ha (pi_one (tk := s1.toks) I1 _ (turn_str _ z t "str_ascii_iterator" (.inl rfl)) ⟨_, Heap.get?_push_size _ rfl, rfl, rfl⟩ q)
/-- the signs of a text -/
def signs (z : Str) : List D := z.cps.toList.map fun c => .str ⟨#[c]⟩
def seqD (d : D) (k : List D → Prop) : Prop := match d with
  | .list xs => k xs
  | .tuple xs => k xs
  | .str z => k (signs z)
  | _ => False
def iSeq (t : TD) : TI' := fun ρ Q => t ρ fun d ρ1 => seqD d fun ds => Q ds ρ1
theorem jok_list {K : PySem.W.Frag} {a : Addr} {xs : List V} {ds : List D} {G1 : Hp} (h : SqL K G1 a xs) (r : IsAll K G1 xs ds) : JOk K (Itl K a) ds G1 := by
  have w : L2.Walk (Itl K a) xs.length (fun H => SqL K H a xs) (YAt xs) := walk_list
  rw [r.length] at w
  refine JOk.walk w (fun H s => s.seq h) fun i H G x H' s1 s2 hi ⟨e, y⟩ => ?_
  subst e
  obtain ⟨d, h1, h2⟩ := r.get y
  exact ⟨d, G, h1, .refl s2, h2.mono s1⟩
theorem jok_tup {K : PySem.W.Frag} {a : Addr} {xs : List V} {ds : List D} {G1 : Hp} (h : G1 a = some (.tup xs)) (r : IsAll K G1 xs ds) : JOk K (Itt K a) ds G1 := by
  have w : L2.Walk (Itt K a) xs.length (fun H => SqT K H a xs) (YAt xs) := walk_tup
  rw [r.length] at w
  refine JOk.walk w (fun H s => Same.sqt s h) fun i H G x H' s1 s2 hi ⟨e, y⟩ => ?_
  subst e
  obtain ⟨d, h1, h2⟩ := r.get y
  exact ⟨d, G, h1, .refl s2, h2.mono s1⟩
theorem jok_str {K : PySem.W.Frag} {z : Str} {G1 : Hp} : JOk K (Its z) (signs z) G1 := by
  have w : L2.Walk (Its z) z.cps.size (fun _ => True) (fun i H v H' => H' = H ∧ ∃ c, z.cps[i]? = some c ∧ v = .str ⟨#[c]⟩) := walk_str
  have e : z.cps.size = (signs z).length := by unfold signs; simp
  rw [e] at w
  refine JOk.walk w (fun _ _ => trivial) fun i H G x H' s1 s2 hi ⟨e, c, y, ev⟩ => ?_
  subst e ev
  exact ⟨.str ⟨#[c]⟩, G, by unfold signs; simp [y], .refl s2, .str _⟩
theorem di_seq {tg : Expr} {t : TD} (h : DE X Γ e t) : DI X Γ tg e (iSeq t) := by
  refine ⟨pi_imp (pi_seq h.pe) ?_⟩
  rintro σ H R ⟨ρ, G, k, at_, h, fin⟩
  refine ⟨ρ, G, _, at_, h, fun d ρ1 v G1 H1 h1 a1 s1 r1 => ?_⟩
  cases d with
  | list ds =>
    cases r1 with
    | lst h2 h3 => exact .inl ⟨_, _, rfl, .of (a1.sub _ _ h2), fin ds _ _ _ _ h1 a1 s1 (jok_list (.of h2) h3)⟩
  | tuple ds =>
    cases r1 with
    | tup h2 h3 => exact .inr (.inl ⟨_, _, rfl, Same.sqt a1.sub h2, fin ds _ _ _ _ h1 a1 s1 (jok_tup h2 h3)⟩)
  | str z =>
    cases r1 with
    | str _ => exact .inr (.inr ⟨z, rfl, fin _ _ _ _ _ h1 a1 s1 jok_str⟩)
  | _ => exact (show False from h1).elim
/-- lo, lo + c, .. -/
def rangeD (lo c : Int) (n : Nat) : List D := (List.range n).map fun (i : Nat) => PyData.int (lo + (i : Int) * c)
theorem jok_range {K : PySem.W.Frag} {lo : Int} {n : Nat} {G1 : Hp} : JOk K (Itr lo n) (rangeD lo 1 n) G1 := by
  have w : L2.Walk (Itr lo n) n (fun _ => True) (YFn fun i => .int (lo + i)) := walk_range
  have e : n = (rangeD lo 1 n).length := by unfold rangeD; simp
  rw [e] at w
  rw [← e] at w
  refine ⟨fun i H G s1 s2 hi => w.goes i H (by rw [e]; exact hi) trivial, fun H G s1 s2 => by rw [← e]; exact w.stops H trivial, fun i H G x H' s1 s2 hi y => ?_⟩
  have hi' : i < n := by rw [e]; exact hi
  obtain ⟨e1, e2⟩ := w.yields i H x H' hi' trivial y
  subst e1 e2
  exact ⟨.int (lo + i), G, by unfold rangeD; simp [hi'], .refl s2, .int _⟩
theorem jok_rangeC {K : PySem.W.Frag} {lo c : Int} {n : Nat} {G1 : Hp} : JOk K (Itc lo c n) (rangeD lo c n) G1 := by
  have w : L2.Walk (Itc lo c n) n (fun _ => True) (YFn fun i => .int (lo + (i : Nat) * c)) := walk_rangeC
  have e : n = (rangeD lo c n).length := by unfold rangeD; simp
  refine ⟨fun i H G s1 s2 hi => w.goes i H (by rw [e]; exact hi) trivial, fun H G s1 s2 => by rw [← e]; exact w.stops H trivial, fun i H G x H' s1 s2 hi y => ?_⟩
  have hi' : i < n := by rw [e]; exact hi
  obtain ⟨e1, e2⟩ := w.yields i H x H' hi' trivial y
  subst e1 e2
  exact ⟨.int (lo + i * c), G, by unfold rangeD; simp [hi'], .refl s2, .int _⟩
/-- arguments, borrowed -/
abbrev TBs := Ro → (List B → Ro → Prop) → Prop
inductive IsBs (K : PySem.W.Frag) (σ : L2.St) (G : Hp) : List V → List B → Prop
  | nil : IsBs K σ G [] []
  | cons {v : V} {vs : List V} {b : B} {bs : List B} : IsB K σ G v b → IsBs K σ G vs bs → IsBs K σ G (v :: vs) (b :: bs)
def rdBs (K : PySem.W.Frag) (Γ : Gm) (n : Nat) (t : TBs) : TA := fun σ H Q => ∃ ρ G k, At K Γ ρ σ G H ∧ t ρ k ∧ ∀ bs ρ' vs G' H', k bs ρ' → bs.length = n → At K Γ ρ' σ G' H' → Same G G' → IsBs K σ G' vs bs → Q vs H'
structure DBs (X : Cx) (Γ : Gm) (es : List Expr) (t : TBs) : Prop where
  pa : PA X es (rdBs X.K Γ es.length t)
def bNil : TBs := fun ρ Q => Q [] ρ
def bCons (t : TB) (u : TBs) : TBs := fun ρ Q => t ρ fun d ρ1 => u ρ1 fun ds ρ2 => Q (d :: ds) ρ2
theorem dbs_nil : DBs X Γ [] bNil := by
  refine ⟨pa_imp pa_nil ?_⟩
  rintro σ H Q ⟨ρ, G, k, at_, h, fin⟩
  exact fin [] ρ [] G H h rfl at_ (Same.refl _) .nil
theorem dbs_cons {t : TB} {u : TBs} (h : DB X Γ e t) (hr : DBs X Γ es u) (hs : starEach (e :: es) X.env = (false, eval e X.env) :: starEach es X.env := by rfl) : DBs X Γ (e :: es) (bCons t u) := by
  refine ⟨pa_imp (pa_cons h.pe hr.pa hs) ?_⟩
  rintro σ H Q ⟨ρ, G, k, at_, h, fin⟩
  exact ⟨ρ, G, _, at_, h, fun d ρ1 v G1 H1 h1 a1 s1 r1 => ⟨ρ1, G1, _, a1, h1, fun ds ρ2 vs G2 H2 h2 hl a2 s2 r2 => fin (d :: ds) ρ2 (v :: vs) G2 H2 h2 (by rw [List.length_cons, List.length_cons, hl]) a2 (s1.trans s2) (.cons (r1.mono s2) r2)⟩⟩
/-- what a call of values tells of data: FD -/
abbrev OpN := List D → (D → Prop) → Prop
def lookAll (ρ : Ro) : List B → Option (List D)
  | [] => some []
  | b :: bs => match look ρ b, lookAll ρ bs with
    | some d, some ds => some (d :: ds)
    | _, _ => none
inductive IsXs (K : PySem.W.Frag) (G H : Hp) : List V → List D → Prop
  | nil : IsXs K G H [] []
  | cons {v : V} {vs : List V} {d : D} {ds : List D} : IsX K G H v d → IsXs K G H vs ds → IsXs K G H (v :: vs) (d :: ds)
theorem At.isxs {K : PySem.W.Frag} {ρ : Ro} {σ : L2.St} {G H : Hp} (a : At K Γ ρ σ G H) : ∀ {vs : List V} {bs : List B} {ds : List D}, IsBs K σ G vs bs → lookAll ρ bs = some ds → IsXs K G H vs ds
  | _, _, _, .nil, e => by cases e; exact .nil
  | _, _, ds, .cons (b := b) (bs := bs) h t, e => by
    have e' : (match look ρ b, lookAll ρ bs with | some d, some ds => some (d :: ds) | _, _ => none) = some ds := e
    cases h1 : look ρ b with
    | none => rw [h1] at e'; cases e'
    | some d =>
      cases h2 : lookAll ρ bs with
      | none => rw [h1, h2] at e'; cases e'
      | some ds' =>
        rw [h1, h2] at e'
        cases e'
        exact .cons (a.isx h h1) (At.isxs a t h2)
def CallD (X : Cx) (f : Value) (g : OpN) : Prop :=
  CallR X f fun vs H Q => ∃ G ds k, Same G H ∧ IsXs X.K G H vs ds ∧ g ds k ∧ ∀ r v G' H', k r → Grow G H G' H' → Is X.K G' v r → Q v H'
theorem CallD.of {f : Value} {g : OpN} {r : List V → Hp → VK → Prop} (h : CallR X f r) (i : ∀ vs H Q, (∃ G ds k, Same G H ∧ IsXs X.K G H vs ds ∧ g ds k ∧ ∀ r v G' H', k r → Grow G H G' H' → Is X.K G' v r → Q v H') → r vs H Q) : CallD X f g := by
  intro pins s σ H xs us Q I r q
  exact h pins s σ H xs us Q I r (i _ _ _ q)
def dCB (g : OpN) (ta : TBs) : TD := fun ρ Q => ta ρ fun bs ρ1 => optD (lookAll ρ1 bs) fun ds => g ds fun r => Q r ρ1
theorem cb_rd {g : OpN} {ta : TBs} {K : PySem.W.Frag} {n : Nat} {σ : L2.St} {H : Hp} {Q : VK} (h : rdE K Γ (dCB g ta) σ H Q) : tCB (fun vs H Q => ∃ G ds k, Same G H ∧ IsXs K G H vs ds ∧ g ds k ∧ ∀ r v G' H', k r → Grow G H G' H' → Is K G' v r → Q v H') (rdBs K Γ n ta) σ H Q := by
  obtain ⟨ρ, G, k, at_, h, fin⟩ := h
  refine ⟨ρ, G, _, at_, h, fun bs ρ1 vs G1 H1 h1 _ a1 s1 r1 => ?_⟩
  obtain ⟨ds, l, h1⟩ := h1.to
  exact ⟨G1, ds, _, a1.sub, a1.isxs r1 l, h1, fun r v G2 H2 hk g i => fin r ρ1 v G2 H2 hk (a1.grow g) (s1.trans g.gg) i⟩
theorem de_callB {x : Str} {id : String} {g : OpN} {ta : TBs} {p : Pos} (hc : CallD X (.builtin id) g) (hm : X.mg x = none) (hv : bootBuiltins x = some (.builtin id)) (ha : DBs X Γ (e :: es) ta) (hg : Gl X x := by rfl) (hn : x ≠ "__name__" := by decide) (hdb : (x == ("__debug__" : Str)) = false := by decide)
    (he : starEach (e :: es) X.env = (false, eval e X.env) :: starEach es X.env := by rfl) (hpl : (backTo pos (starEach es X.env)).any (·.1) = false := by rfl) : DE X Γ (.Call (.Name x p) (e :: es) [] pos) (dCB g ta) :=
  ⟨pe_imp (pe_callB hc hg hm hv ha.pa hn hdb he hpl) fun σ H Q h => cb_rd h⟩
theorem de_callT {x : Str} {id : String} {g : OpN} {ta : TBs} {p : Pos} (hc : CallD X (.type id) g) (hm : X.mg x = none) (hv : bootBuiltins x = some (.type id)) (ha : DBs X Γ (e :: es) ta) (hg : Gl X x := by rfl) (hn : x ≠ "__name__" := by decide) (hdb : (x == ("__debug__" : Str)) = false := by decide)
    (he : starEach (e :: es) X.env = (false, eval e X.env) :: starEach es X.env := by rfl) (hpl : (backTo pos (starEach es X.env)).any (·.1) = false := by rfl) : DE X Γ (.Call (.Name x p) (e :: es) [] pos) (dCB g ta) :=
  ⟨pe_imp (pe_callTy hc hg hm hv ha.pa hn hdb he hpl) fun σ H Q h => cb_rd h⟩
end
end Dn
/-! Dn: for, ranges, comprehensions, mutation, calls of defs, defs. -/
namespace Dn
open PySem PySem.Spec PyProof.Rows L2
section
variable {X : Cx} {Γ : Gm} {k : Nat} {a b e : Expr} {es : List Expr} {st : Stmt} {rest body orelse : List Stmt} {pos : Pos} {t u : TDS}
/-! ### for -/
/-- I: what holds with these still to come -/
def sFor (ti : TI') (g : TDG) (tb : TDS) : TDS := fun R ρ => ti ρ fun ds ρ1 => ∃ I : List D → Ro → Prop, I ds ρ1 ∧
  (∀ x r ρ, I (x :: r) ρ → g x ρ fun ρ2 => tb { R with nx := I r, ct := I r, bk := R.nx } ρ2) ∧ ∀ ρ, I [] ρ → R.nx ρ
theorem ds_for {tg iter : Expr} {ti : TI'} {js : List Nat} {g : TDG} (c : Cok k X Γ) (hi : DI X Γ tg iter ti) (hg : DG X Γ tg js g) (hb : DSs X Γ body t)
    (hs : ∀ x, foldedSetIterable iter X.env x = pure x := by intro _; rfl) : DS X Γ (.For tg iter body [] pos) (sFor ti g t) := by
  refine ⟨ps_imp (ps_for c.po c.calm hi.pi hg.pg hb.ps hs) ?_⟩
  rintro E σ H ⟨ρ, G, R, at_, ok, h⟩
  refine ⟨ρ, G, _, at_, h, fun ds ρ1 J G1 H1 ⟨I, h1, h2, h3⟩ a1 s1 j => ?_⟩
  refine ⟨fun i m σ' H' => m = ds.length - i ∧ i ≤ ds.length ∧ ∃ ρ' G', At X.K Γ ρ' σ' G' H' ∧ Same G1 G' ∧ I (ds.drop i) ρ', ⟨ds.length, by simp, Nat.zero_le _, ρ1, G1, a1, Same.refl _, h1⟩, ?_⟩
  rintro i m σ' H' ⟨rfl, hi, ρ', G', a', s', hI⟩
  by_cases hlt : i < ds.length
  · refine .inr ⟨j.go i H' G' s' a'.sub hlt, fun σ2 H2 => ∃ ρ' G', At X.K Γ ρ' σ2 G' H2 ∧ Same G1 G' ∧ I (ds.drop (i + 1)) ρ', fun σ2 H2 ⟨ρ2, G2, a2, s2, i2⟩ => ⟨ds.length - (i + 1), by omega, rfl, hlt, ρ2, G2, a2, s2, i2⟩, fun x H2 y => ?_⟩
    obtain ⟨d, G2, hd, g2, r2⟩ := j.yld i H' G' x H2 s' a'.sub hlt y
    have e : ds.drop i = d :: ds.drop (i + 1) := by
      rw [List.drop_eq_getElem_cons hlt]
      rw [List.getElem?_eq_getElem hlt] at hd
      rw [Option.some.inj hd]
    rw [e] at hI
    have a2 := a'.grow g2
    have s2 := s'.trans g2.gg
    refine ⟨ρ', G2, d, _, a2, r2, h2 d _ ρ' hI, fun ρ3 σ3 h3' a3 _ _ => ⟨ρ3, G2, { R with nx := I (ds.drop (i + 1)), ct := I (ds.drop (i + 1)), bk := R.nx }, a3, ⟨fun ρ4 σ4 G4 H4 a4 s4 i4 => ⟨ρ4, G4, a4, s2.trans s4, i4⟩,
      fun d v ρ4 σ4 G4 H4 a4 s4 => ok.rt d v ρ4 σ4 G4 H4 a4 (s1.trans (s2.trans s4)), fun ρ4 σ4 G4 H4 a4 s4 => ok.nx ρ4 σ4 G4 H4 a4 (s1.trans (s2.trans s4)), fun ρ4 σ4 G4 H4 a4 s4 i4 => ⟨ρ4, G4, a4, s2.trans s4, i4⟩⟩, h3'⟩⟩
  · have e : i = ds.length := by omega
    subst e
    rw [List.drop_length] at hI
    exact .inl ⟨j.stop H' G' s' a'.sub, ok.nx _ _ _ _ a' (s1.trans s') (h3 _ hI)⟩
/-- the turns one by one -/
def forD (g : TDG) (tb : TDS) (R : DEnds) : List D → Ro → Prop
  | [], ρ => R.nx ρ
  | x :: r, ρ => g x ρ fun ρ2 => tb { R with nx := forD g tb R r, ct := forD g tb R r, bk := R.nx } ρ2
theorem sFor.of {g : TDG} {tb : TDS} {R : DEnds} {ds : List D} {ρ : Ro} (h : forD g tb R ds ρ) : ∃ I : List D → Ro → Prop, I ds ρ ∧
  (∀ x r ρ, I (x :: r) ρ → g x ρ fun ρ2 => tb { R with nx := I r, ct := I r, bk := R.nx } ρ2) ∧ ∀ ρ, I [] ρ → R.nx ρ :=
  ⟨forD g tb R, h, fun _ _ _ q => q, fun _ q => q⟩
/-! ### ranges -/
def iRg1 (ta : TBs) : TI' := fun ρ Q => ta ρ fun bs ρ1 => optD (lookAll ρ1 bs) fun ds => match ds with
  | [.int n] => (-(2 ^ 62) ≤ n ∧ n < 2 ^ 62) ∧ Q (rangeD 0 1 n.toNat) ρ1
  | _ => False
def iRg2 (ta : TBs) : TI' := fun ρ Q => ta ρ fun bs ρ1 => optD (lookAll ρ1 bs) fun ds => match ds with
  | [.int m, .int n] => (-(2 ^ 62) ≤ m ∧ m < 2 ^ 62 ∧ -(2 ^ 62) ≤ n ∧ n < 2 ^ 62) ∧ Q (rangeD m 1 (n - m).toNat) ρ1
  | _ => False
def iRg3 (ta : TBs) : TI' := fun ρ Q => ta ρ fun bs ρ1 => optD (lookAll ρ1 bs) fun ds => match ds with
  | [.int i, .int j, .int c] => ∃ n, RgC i j c n ∧ Q (rangeD i c n) ρ1
  | _ => False
theorem isxs_int1 {K : PySem.W.Frag} {G H : Hp} {vs : List V} {n : Int} (h : IsXs K G H vs [.int n]) : vs = [.int n] := by
  cases h with
  | cons h1 h2 => cases h2; rw [h1.int]
theorem isxs_int2 {K : PySem.W.Frag} {G H : Hp} {vs : List V} {n m : Int} (h : IsXs K G H vs [.int n, .int m]) : vs = [.int n, .int m] := by
  cases h with
  | cons h1 h2 => rw [h1.int, isxs_int1 h2]
theorem isxs_int3 {K : PySem.W.Frag} {G H : Hp} {vs : List V} {n m c : Int} (h : IsXs K G H vs [.int n, .int m, .int c]) : vs = [.int n, .int m, .int c] := by
  cases h with
  | cons h1 h2 => rw [h1.int, isxs_int2 h2]
theorem di_range1 {tg : Expr} {ta : TBs} {p : Pos} (hm : X.mg "range" = none) (ha : DBs X Γ [a] ta) (hg : Gl X "range" := by rfl) (hs : starEach [a] X.env = [(false, eval a X.env)] := by rfl) : DI X Γ tg (.Call (.Name "range" p) [a] [] pos) (iRg1 ta) := by
  refine ⟨pi_imp (pi_range1 hg hm ha.pa hs) ?_⟩
  rintro σ H R ⟨ρ, G, k, at_, h, fin⟩
  refine ⟨ρ, G, _, at_, h, fun bs ρ1 vs G1 H1 h1 _ a1 s1 r1 => ?_⟩
  obtain ⟨ds, l, h1⟩ := h1.to
  split at h1
  · rename_i n
    exact ⟨n, isxs_int1 (a1.isxs r1 l), h1.1.1, h1.1.2, fin _ _ _ _ _ h1.2 a1 s1 jok_range⟩
  · exact h1.elim
theorem di_range2 {tg : Expr} {ta : TBs} {p : Pos} (hm : X.mg "range" = none) (ha : DBs X Γ [a, b] ta) (hg : Gl X "range" := by rfl) (hs : starEach [a, b] X.env = [(false, eval a X.env), (false, eval b X.env)] := by rfl) (hs2 : starEach [b] X.env = [(false, eval b X.env)] := by rfl) : DI X Γ tg (.Call (.Name "range" p) [a, b] [] pos) (iRg2 ta) := by
  refine ⟨pi_imp (pi_range2 hg hm ha.pa hs hs2) ?_⟩
  rintro σ H R ⟨ρ, G, k, at_, h, fin⟩
  refine ⟨ρ, G, _, at_, h, fun bs ρ1 vs G1 H1 h1 _ a1 s1 r1 => ?_⟩
  obtain ⟨ds, l, h1⟩ := h1.to
  split at h1
  · rename_i m n
    exact ⟨m, n, isxs_int2 (a1.isxs r1 l), h1.1, fin _ _ _ _ _ h1.2 a1 s1 jok_range⟩
  · exact h1.elim
theorem di_range3 {tg c' : Expr} {ta : TBs} {p : Pos} (hm : X.mg "range" = none) (ha : DBs X Γ [a, b, c'] ta) (hg : Gl X "range" := by rfl) (hs : starEach [a, b, c'] X.env = (false, eval a X.env) :: starEach [b, c'] X.env := by rfl) (hpl : (backTo pos (starEach [b, c'] X.env)).any (·.1) = false := by rfl) : DI X Γ tg (.Call (.Name "range" p) [a, b, c'] [] pos) (iRg3 ta) := by
  refine ⟨pi_imp (pi_range3 hg hm ha.pa hs hpl) ?_⟩
  rintro σ H R ⟨ρ, G, k, at_, h, fin⟩
  refine ⟨ρ, G, _, at_, h, fun bs ρ1 vs G1 H1 h1 _ a1 s1 r1 => ?_⟩
  obtain ⟨ds, l, h1⟩ := h1.to
  split at h1
  · rename_i i j c
    obtain ⟨n, hc, h1⟩ := h1
    exact ⟨i, j, c, n, isxs_int3 (a1.isxs r1 l), hc, fin _ _ _ _ _ h1 a1 s1 jok_rangeC⟩
  · exact h1.elim

/-! ### comprehensions -/
def wipeR (ρ : Ro) : List Nat → Ro
  | [] => ρ
  | v :: vs => (wipeR ρ vs).set v .non
theorem wipeR_length (ρ : Ro) : ∀ vs : List Nat, (wipeR ρ vs).length = ρ.length
  | [] => rfl
  | v :: vs => by unfold wipeR; rw [List.length_set, wipeR_length ρ vs]
theorem wipeR_in {ρ : Ro} {i : Nat} {s : Sl} : ∀ {vs : List Nat}, (wipeR ρ vs)[i]? = some s → i ∈ vs → s = .non
  | [], _, h => by cases h
  | v :: vs, h, hi => by
    unfold wipeR at h
    by_cases hv : v = i
    · subst hv
      have l := (List.getElem?_eq_some_iff.mp h).1
      rw [List.length_set] at l
      rw [List.getElem?_set_self l] at h
      exact (Option.some.inj h).symm
    · rw [List.getElem?_set_ne hv] at h
      exact wipeR_in h ((List.mem_cons.mp hi).resolve_left fun z => hv z.symm)
theorem wipeR_out {ρ : Ro} {i : Nat} : ∀ {vs : List Nat}, i ∉ vs → (wipeR ρ vs)[i]? = ρ[i]?
  | [], _ => rfl
  | v :: vs, h => by
    rw [List.mem_cons, not_or] at h
    unfold wipeR
    rw [List.getElem?_set_ne (fun z => h.1 z.symm), wipeR_out h.2]
theorem wipe_out' {σ : L2.St} {i : Nat} : ∀ {vs : List Nat}, i ∉ vs → (wipe σ vs)[i]? = σ[i]?
  | [], _ => rfl
  | v :: vs, h => by
    rw [List.mem_cons, not_or] at h
    unfold wipe
    rw [List.getElem?_set_ne (fun z => h.1 z.symm), wipe_out' h.2]
theorem wipe_ext {σ σ' : L2.St} : ∀ {vs : List Nat}, σ'.length = σ.length → (∀ i, i ∉ vs → σ'[i]? = σ[i]?) → wipe σ' vs = wipe σ vs := by
  intro vs hl h
  apply List.ext_getElem?
  intro i
  by_cases hi : i ∈ vs
  · have f : ∀ (τ : L2.St) (us : List Nat), i ∈ us → (wipe τ us)[i]? = if i < τ.length then some none else none := by
      intro τ us
      induction us with
      | nil => intro z; cases z
      | cons v us ih =>
        intro z
        unfold wipe
        by_cases hv : v = i
        · subst hv
          by_cases hl : v < τ.length
          · rw [List.getElem?_set_self (by rw [wipe_length]; exact hl), if_pos hl]
          · rw [List.getElem?_eq_none (by rw [List.length_set, wipe_length]; omega), if_neg hl]
        · rw [List.getElem?_set_ne hv]
          exact ih ((List.mem_cons.mp z).resolve_left fun z => hv z.symm)
    rw [f _ _ hi, f _ _ hi, hl]
  · rw [wipe_out' hi, wipe_out' hi, h i hi]
/-- slots of some names forgotten, in the frame (τ told by σ but for these) -/
theorem At.wipe {K : PySem.W.Frag} {ρ : Ro} {σ τ : L2.St} {G H : Hp} {vs : List Nat} (a : At K Γ ρ σ G H) (hI : ∀ i ∈ Γ.I, i ∉ vs) (hl : τ.length = σ.length) (h : ∀ i, i ∉ vs → τ[i]? = σ[i]?) : At K Γ (wipeR ρ vs) τ G H where
  len := by rw [wipeR_length, hl, a.len]
  sl := fun i s o e1 e2 => by
    by_cases hi : i ∈ vs
    · rw [wipeR_in e1 hi]; exact True.intro
    · rw [wipeR_out hi] at e1
      rw [h i hi] at e2
      exact a.sl i s o e1 e2
  sep := fun i j di dj p e1 e2 e3 e4 => by
    have hi : i ∉ vs := fun z => by cases wipeR_in e1 z
    have hj : j ∉ vs := fun z => by cases wipeR_in e2 z
    rw [wipeR_out hi] at e1
    rw [wipeR_out hj] at e2
    rw [h i hi] at e3
    rw [h j hj] at e4
    exact a.sep i j di dj p e1 e2 e3 e4
  sub := a.sub
  old := a.old
  kept := a.kept
  inh := fun i hi => by rw [h i (hI i hi)]; exact a.inh i hi
  bas := a.bas
/-- the activation seen from a block within: what the block may lean on is G0, H0 -/
abbrev Gm.inn (Γ : Gm) (G0 H0 : Hp) : Gm := { Γ with G0 := G0, H0 := H0, W := fun _ _ => False }
theorem Cok.inn (c : Cok k X Γ) {s : Shared} {H : Hp} {scope : Scope} {cenv : Env} {fp : List Addr} {G0 H0 : Hp} (gh : Γ.Gh G0 H0) : Cok k (X.blk s H scope cenv fp) (Γ.inn G0 H0) :=
  ⟨c.calm, c.nd, c.room, gh, PassesOwn.never, c.bl, fun σ pins H s e s' I q => by
    obtain ⟨_, _, _, cls, d, _, _, _, _, _, _, _, z⟩ := q
    obtain ⟨_, _, _, _, _, z⟩ := z
    exact z.elim⟩
/-- a list at p is laid aside, kept as it is -/
theorem At.aside {K : PySem.W.Frag} {ρ : Ro} {σ : L2.St} {G H : Hp} {p : Addr} {o : HO} (a : At K Γ ρ σ G H) (hp : H p = some o) (g0 : G p = none) (gg : Γ.G0 p = none) (hno : ∀ (j : Nat) dj, ρ[j]? = some (.own dj) → σ[j]? ≠ some (some (.ref p))) :
    At K (Γ.inn Γ.G0 (upd Γ.H0 p o)) ρ σ G H where
  len := a.len
  sl := fun i s u e1 e2 => by
    have q := a.sl i s u e1 e2
    cases s with
    | non => exact True.intro
    | val d => exact q
    | seq ds => exact q
    | own d =>
      obtain ⟨p', e, q1, q2, q3⟩ := q
      have ne : p' ≠ p := fun z => by
        subst z
        subst e
        exact hno i d e1 e2
      exact ⟨p', e, q1, by show upd Γ.H0 p o p' = none; rw [upd_ne ne]; exact q2, q3⟩
  sep := a.sep
  sub := a.sub
  old := fun b hb => by
    by_cases e : b = p
    · subst e; rw [g0]; exact gg.symm
    · exact a.old b (by have hb : upd Γ.H0 p o b ≠ none := hb; rw [upd_ne e] at hb; exact hb)
  kept := fun b u q => by
    have q : upd Γ.H0 p o b = some u := q
    by_cases e : b = p
    · subst e; rw [upd_same] at q; rw [hp]; exact q
    · rw [upd_ne e] at q; exact a.kept b u q
  inh := a.inh
  bas := a.bas
theorem At.back {K : PySem.W.Frag} {ρ : Ro} {σ : L2.St} {G H : Hp} {p : Addr} {o : HO} (a : At K (Γ.inn Γ.G0 (upd Γ.H0 p o)) ρ σ G H) (h0 : Γ.H0 p = none) (gg : Γ.G0 p = none) : At K Γ ρ σ G H ∧ H p = some o ∧ G p = none ∧ ∀ (j : Nat) dj, ρ[j]? = some (.own dj) → σ[j]? ≠ some (some (.ref p)) := by
  refine ⟨⟨a.len, fun i s u e1 e2 => ?_, a.sep, a.sub, fun b hb => ?_, fun b u q => ?_, a.inh, a.bas⟩, a.kept p o upd_same, ?_, fun j dj e1 e2 => ?_⟩
  · have q := a.sl i s u e1 e2
    cases s with
    | non => exact True.intro
    | val d => exact q
    | seq ds => exact q
    | own d =>
      obtain ⟨p', e, q1, q2, q3⟩ := q
      have ne : p' ≠ p := fun z => by
        subst z
        have q2 : upd Γ.H0 p' o p' = none := q2
        rw [upd_same] at q2
        cases q2
      exact ⟨p', e, q1, by have q2 : upd Γ.H0 p o p' = none := q2; rw [upd_ne ne] at q2; exact q2, q3⟩
  · have ne : b ≠ p := fun z => by subst z; exact hb h0
    exact a.old b (by show upd Γ.H0 p o b ≠ none; rw [upd_ne ne]; exact hb)
  · have ne : b ≠ p := fun z => by subst z; rw [h0] at q; cases q
    exact a.kept b u (by show upd Γ.H0 p o b = some u; rw [upd_ne ne]; exact q)
  · rw [a.old p (by show upd Γ.H0 p o p ≠ none; rw [upd_same]; exact fun z => nomatch z)]
    exact gg
  · obtain ⟨p', e, q1, q2, _⟩ := a.own e1
    rw [e2] at e
    cases e
    have q2 : upd Γ.H0 p o p = none := q2
    rw [upd_same] at q2
    cases q2
/-- a thing at p, that no slot holds, is changed -/
theorem At.poke {K : PySem.W.Frag} {ρ : Ro} {σ : L2.St} {G H : Hp} {p : Addr} {o : HO} (a : At K Γ ρ σ G H) (g0 : G p = none) (h0 : Γ.H0 p = none) (hno : ∀ (j : Nat) dj, ρ[j]? = some (.own dj) → σ[j]? ≠ some (some (.ref p))) : At K Γ ρ σ G (upd H p o) where
  len := a.len
  sl := fun i s u e1 e2 => by
    have q := a.sl i s u e1 e2
    cases s with
    | non => exact True.intro
    | val d => exact q
    | seq ds => exact q
    | own d =>
      obtain ⟨p', e, q1, q2, q3⟩ := q
      have ne : p' ≠ p := fun z => by
        subst z
        subst e
        exact hno i d e1 e2
      exact ⟨p', e, q1, q2, q3.mono (Same.refl _) (upd_ne ne)⟩
  sep := a.sep
  sub := fun b u q => by rw [upd_ne (ne_of_none q g0)]; exact a.sub b u q
  old := a.old
  kept := fun b u q => by rw [upd_ne (ne_of_none q h0)]; exact a.kept b u q
  inh := a.inh
  bas := a.bas
structure DTs (X : Cx) (Γ : Gm) (ifs : List Expr) (t : TT') : Prop where
  pt : PTs X ifs (rdT X.K Γ t)
theorem pts_imp {X : Cx} {e : List Expr} {t t' : TT} (h : PTs X e t) (i : ∀ σ H Q, t' σ H Q → t σ H Q) : PTs X e t' := ⟨fun pins s σ H Q I q => h.run pins s σ H Q I (i σ H Q q)⟩
def tYesD : TT' := fun ρ Q => Q true ρ
theorem dts_nil : DTs X Γ [] tYesD := ⟨pts_imp pts_nil fun σ H Q ⟨ρ, G, k, at_, h, fin⟩ => fin _ _ _ _ h at_ (Same.refl _)⟩
theorem dts_one {c : Expr} {t : TT'} (h : DT X Γ c t) : DTs X Γ [c] t := ⟨pts_one h.pt⟩
/-- [e for tg in ..]: I, by what is still to come and what is made -/
def dLc (ti : TI') (g : Hp → Hp → TDG) (tt : Hp → Hp → TT') (te : Hp → Hp → TD) (vs : List Nat) : TD := fun ρ Q => ti ρ fun ds ρ1 => ∃ I : List D → List D → Ro → Prop, I ds [] (wipeR ρ1 vs) ∧
  (∀ x r acc ρ, I (x :: r) acc ρ → ∀ G0 H0, g G0 H0 x ρ fun ρ2 => tt G0 H0 ρ2 fun b ρ3 => brn b (te G0 H0 ρ3 fun y ρ4 => acc.length < 16777216 ∧ I r (acc ++ [y]) (wipeR ρ4 vs)) (I r acc (wipeR ρ3 vs))) ∧
  ∀ acc ρ, I [] acc ρ → Q (.list acc) ρ
theorem wipeR_wipeR {ρ : Ro} {vs : List Nat} : wipeR (wipeR ρ vs) vs = wipeR ρ vs := by
  apply List.ext_getElem?
  intro i
  by_cases hi : i ∈ vs
  · have l : (wipeR (wipeR ρ vs) vs).length = (wipeR ρ vs).length := wipeR_length _ _
    cases h : (wipeR (wipeR ρ vs) vs)[i]? with
    | none => rw [List.getElem?_eq_none_iff] at h; rw [List.getElem?_eq_none (by omega)]
    | some s =>
      rw [wipeR_in h hi]
      have l2 := (List.getElem?_eq_some_iff.mp h).1
      cases h2 : (wipeR ρ vs)[i]? with
      | none => rw [List.getElem?_eq_none_iff] at h2; omega
      | some s2 => rw [wipeR_in h2 hi]
  · rw [wipeR_out hi]
theorem lc_rd {ti : TI'} {g : Hp → Hp → TDG} {tt : Hp → Hp → TT'} {te : Hp → Hp → TD} {vs js : List Nat} {K : PySem.W.Frag} (hI : ∀ i ∈ Γ.I, i ∉ vs) (hj : ∀ i ∈ js, i ∈ vs) (g00' : Γ.Gh Γ.G0 Γ.H0)
    {wg : TG} {wt : TT} {we : TE} (hg : ∀ G0 H0, Γ.Gh G0 H0 → ∀ v σ H Q, rdG K (Γ.inn G0 H0) js (g G0 H0) v σ H Q → wg v σ H Q) (ht : ∀ G0 H0, Γ.Gh G0 H0 → ∀ σ H Q, rdT K (Γ.inn G0 H0) (tt G0 H0) σ H Q → wt σ H Q) (he : ∀ G0 H0, Γ.Gh G0 H0 → ∀ σ H Q, rdE K (Γ.inn G0 H0) (te G0 H0) σ H Q → we σ H Q)
    {σ : L2.St} {H : Hp} {Q : VK} (h : rdF K Γ (dLc ti g tt te vs) σ H Q) : tLc (rdI K Γ ti) wg wt we vs σ H Q := by
  have g00 := g00'.1
  obtain ⟨ρ, G, k, at_, h, fin⟩ := h
  refine ⟨ρ, G, _, at_, h, fun ds ρ1 J G1 H1 ⟨I, h1, h2, h3⟩ a1 s1 j => fun p hp => ?_⟩
  have h0 : Γ.H0 p = none := a1.kept.free hp
  have g0 : Γ.G0 p = none := g00.free h0
  have aw := a1.wipe (τ := σ) (vs := vs) hI rfl fun _ _ => rfl
  obtain ⟨a2, q1, q2, q3⟩ := aw.fresh (o := .lst []) hp
  have sg : ∀ o, Γ.Gh Γ.G0 (upd Γ.H0 p o) := fun o => ⟨fun b u q => by rw [upd_ne (ne_of_none q g0)]; exact g00 b u q, fun P hP => by rw [upd_ne (ne_of_none (g00'.2 P hP) h0)]; exact g00'.2 P hP⟩
  refine ⟨fun i m H' => m = ds.length - i ∧ i ≤ ds.length ∧ ∃ ρ' G' acc xs, At K Γ ρ' σ G' H' ∧ wipeR ρ' vs = ρ' ∧ Same G1 G' ∧ H' p = some (.lst xs) ∧ G' p = none ∧ IsAll K G' xs acc ∧ (∀ (j : Nat) dj, ρ'[j]? = some (.own dj) → σ[j]? ≠ some (some (.ref p))) ∧ I (ds.drop i) acc ρ',
    ⟨ds.length, by simp, Nat.zero_le _, _, G1, [], [], a2, wipeR_wipeR, Same.refl _, upd_same, q1, .nil, q3, h1⟩, ?_⟩
  rintro i m H' ⟨rfl, hi, ρ', G', acc, xs, a', hw, s', hp', gp', ra, hno, hI'⟩
  by_cases hlt : i < ds.length
  · refine .inr ⟨j.go i H' G' s' a'.sub hlt, fun H2 => ∃ ρ' G' acc xs, At K Γ ρ' σ G' H2 ∧ wipeR ρ' vs = ρ' ∧ Same G1 G' ∧ H2 p = some (.lst xs) ∧ G' p = none ∧ IsAll K G' xs acc ∧ (∀ (j : Nat) dj, ρ'[j]? = some (.own dj) → σ[j]? ≠ some (some (.ref p))) ∧ I (ds.drop (i + 1)) acc ρ',
      fun H2 ⟨ρ2, G2, acc2, xs2, r⟩ => ⟨ds.length - (i + 1), by omega, rfl, hlt, ρ2, G2, acc2, xs2, r⟩, fun x H2 y => ?_⟩
    obtain ⟨d, G2, hd, g2, r2⟩ := j.yld i H' G' x H2 s' a'.sub hlt y
    have e : ds.drop i = d :: ds.drop (i + 1) := by
      rw [List.drop_eq_getElem_cons hlt]
      rw [List.getElem?_eq_getElem hlt] at hd
      rw [Option.some.inj hd]
    rw [e] at hI'
    have a3 := a'.grow g2
    have s3 := s'.trans g2.gg
    have hp3 : H2 p = some (.lst xs) := g2.hh p _ hp'
    have gp3 : G2 p = none := by rw [g2.new p (some_ne hp')]; exact gp'
    have ra3 := ra.mono g2.gg
    -- inside: the new list laid aside
    have a4 := a3.aside hp3 gp3 g0 hno
    have a5 := a4.wipe (τ := wipe σ vs) (vs := vs) hI (wipe_length _ _) fun i hi => wipe_out' hi
    rw [hw] at a5
    refine hg Γ.G0 (upd Γ.H0 p (.lst xs)) (sg _) x (wipe σ vs) H2 _ ⟨ρ', G2, d, _, a5, r2, h2 d _ acc ρ' hI' _ _, fun ρ6 σ6 h6 a6 l6 f6 => ?_⟩
    have l6' : σ6.length = σ.length := l6.trans (wipe_length _ _)
    have f6' : ∀ i, i ∉ vs → σ6[i]? = σ[i]? := fun i hi => (f6 i fun z => hi (hj i z)).trans (wipe_out' hi)
    -- behind the turn
    have after : ∀ {ρ8 : Ro} {G8 H8 : Hp} {xs' : List V} {acc' : List D}, At K (Γ.inn Γ.G0 (upd Γ.H0 p (.lst xs))) ρ8 σ6 G8 H8 → Same G2 G8 → IsAll K G8 xs' acc' → I (ds.drop (i + 1)) acc' (wipeR ρ8 vs) →
        ∃ ρ' G' acc xs, At K Γ ρ' σ G' (upd H8 p (.lst xs')) ∧ wipeR ρ' vs = ρ' ∧ Same G1 G' ∧ (upd H8 p (.lst xs')) p = some (.lst xs) ∧ G' p = none ∧ IsAll K G' xs acc ∧ (∀ (j : Nat) dj, ρ'[j]? = some (.own dj) → σ[j]? ≠ some (some (.ref p))) ∧ I (ds.drop (i + 1)) acc ρ' := by
      intro ρ8 G8 H8 xs' acc' a8 s8 r8 i8
      obtain ⟨b8, e8, g8, n8⟩ := a8.back h0 g0
      have c8 := b8.wipe (τ := σ) (vs := vs) hI l6'.symm fun i hi => (f6' i hi).symm
      have n8' : ∀ (j : Nat) dj, (wipeR ρ8 vs)[j]? = some (.own dj) → σ[j]? ≠ some (some (.ref p)) := fun j dj z => by
        have hj : j ∉ vs := fun w => by cases wipeR_in z w
        rw [wipeR_out hj] at z
        rw [← f6' j hj]
        exact n8 j dj z
      exact ⟨_, G8, acc', xs', c8.poke g8 h0 n8', wipeR_wipeR, s3.trans s8, upd_same, g8, r8, n8', i8⟩
    refine ⟨wipe_ext l6' f6', ht Γ.G0 (upd Γ.H0 p (.lst xs)) (sg _) σ6 H2 _ ⟨ρ6, G2, _, a6, h6, fun b ρ7 G7 H7 hb1 a7 s7 => ?_⟩⟩
    cases b with
    | true =>
      refine iteT (he Γ.G0 (upd Γ.H0 p (.lst xs)) (sg _) σ6 H7 _ ⟨ρ7, G7, _, a7, hb1, fun y ρ8 yv G8 H8 ⟨hl, hI8⟩ a8 s8 r8 => ?_⟩)
      obtain ⟨_, e8, _, _⟩ := a8.back h0 g0
      exact ⟨xs, e8, line_lt (by rw [ra3.length]; exact hl), after a8 (s7.trans s8) ((ra3.mono (s7.trans s8)).append (.cons r8 .nil)) hI8⟩
    | false =>
      have q := after a7 s7 (ra3.mono s7) hb1
      obtain ⟨_, e7, _, _⟩ := a7.back h0 g0
      have eu : upd H7 p (.lst xs) = H7 := by
        funext b
        by_cases hb : b = p
        · subst hb; rw [upd_same, e7]
        · rw [upd_ne hb]
      rw [eu] at q
      exact iteF q
  · have e : i = ds.length := by omega
    subst e
    rw [List.drop_length] at hI'
    exact .inl ⟨j.stop H' G' s' a'.sub, fin _ _ _ _ _ (h3 _ _ hI') a' (s1.trans s') gp' h0 (.inl ⟨xs, acc, rfl, hp', ra⟩) hno⟩
end
end Dn
/-! Dn: comprehensions as terms, mutation, calls of defs, defs. -/
namespace Dn
open PySem PySem.Spec PyProof.Rows L2
section
variable {X : Cx} {Γ : Gm} {k : Nat} {a b e : Expr} {es : List Expr} {st : Stmt} {rest body orelse : List Stmt} {pos : Pos} {t u : TDS}
theorem pg_ex {ι : Type} {p : ι → Prop} {tg : Expr} {t : ι → TG} (h : ∀ i, p i → PG X tg (t i)) : PG X tg (fun v σ H Q => ∃ i, p i ∧ t i v σ H Q) := ⟨fun pins s σ H v u Q I r ⟨i, hp, q⟩ => (h i hp).run pins s σ H v u Q I r q⟩
theorem pts_ex {ι : Type} {p : ι → Prop} {es : List Expr} {t : ι → TT} (h : ∀ i, p i → PTs X es (t i)) : PTs X es (fun σ H Q => ∃ i, p i ∧ t i σ H Q) := ⟨fun pins s σ H Q I ⟨i, hp, q⟩ => (h i hp).run pins s σ H Q I q⟩
theorem pe_ex {ι : Type} {p : ι → Prop} {e : Expr} {t : ι → TE} (h : ∀ i, p i → PE X e (t i)) : PE X e (fun σ H Q => ∃ i, p i ∧ t i σ H Q) := ⟨fun pins s σ H Q I ⟨i, hp, q⟩ => (h i hp).run pins s σ H Q I q⟩
/-- the turns' contexts -/
abbrev InBlk (X : Cx) (Γ : Gm) (k : Nat) (scope : Scope) (P : Cx → Gm → Hp → Hp → Prop) : Prop := ∀ (G0 H0 : Hp) (s : Shared) (H : Hp) (C : Addr) (cl : List (Str × Addr)) (fp : List Addr), Cok k (X.blk s H scope (compEnvC scope cl C X.env) fp) (Γ.inn G0 H0) → P (X.blk s H scope (compEnvC scope cl C X.env) fp) (Γ.inn G0 H0) G0 H0
theorem df_lc {elt tg iter : Expr} {ifs : List Expr} {scope : Scope} {own : List (Str × Nat)} {ti : TI'} {js : List Nat} {g : Hp → Hp → TDG} {tt : Hp → Hp → TT'} {te : Hp → Hp → TD} (c : Cok k X Γ) (hi : DI X Γ tg iter ti) (ok : blkC X.N X.env.scope scope own = true)
    (hg : InBlk X Γ k scope fun X Γ G0 H0 => DG X Γ tg js (g G0 H0)) (ht : InBlk X Γ k scope fun X Γ G0 H0 => DTs X Γ ifs (tt G0 H0)) (he : InBlk X Γ k scope fun X Γ G0 H0 => DE X Γ elt (te G0 H0))
    (hI : ∀ i ∈ Γ.I, i ∉ own.map (·.2) := by first | exact fun i hi => absurd hi List.not_mem_nil | exact fun i hi => by cases List.mem_singleton.mp hi; decide) (hj : ∀ i ∈ js, i ∈ own.map (·.2) := by decide) (hs : ∀ x, foldedSetIterable iter X.env x = pure x := by intro _; rfl) :
    DF X Γ (.ListComp elt [⟨tg, iter, ifs, 0⟩] scope pos) (dLc ti g tt te (own.map (·.2))) := by
  refine ⟨pe_imp (pe_lc c.calm c.nd hi.pi (blkOk_by ok) (fun s H C cl fp => pg_ex (ι := Hp × Hp) (p := fun i => Γ.Gh i.1 i.2) (t := fun i => rdG X.K (Γ.inn i.1 i.2) js (g i.1 i.2)) fun i hp => (hg i.1 i.2 s H C cl fp (c.inn hp)).pg) (fun s H C cl fp => pts_ex (ι := Hp × Hp) (p := fun i => Γ.Gh i.1 i.2) (t := fun i => rdT X.K (Γ.inn i.1 i.2) (tt i.1 i.2)) fun i hp => (ht i.1 i.2 s H C cl fp (c.inn hp)).pt)
    (fun s H C cl fp => pe_ex (ι := Hp × Hp) (p := fun i => Γ.Gh i.1 i.2) (t := fun i => rdE X.K (Γ.inn i.1 i.2) (te i.1 i.2)) fun i hp => (he i.1 i.2 s H C cl fp (c.inn hp)).pe) hs) fun σ H Q h => ?_⟩
  exact lc_rd hI hj c.gh (fun G0 H0 hp v σ H Q q => ⟨(G0, H0), hp, q⟩) (fun G0 H0 hp σ H Q q => ⟨(G0, H0), hp, q⟩) (fun G0 H0 hp σ H Q q => ⟨(G0, H0), hp, q⟩) h
/-- name = [.. for ..], on one line, the name a local -/
theorem ds_setLcF {i : Nat} {y : Str} {py spos : Pos} {elt tg iter : Expr} {ifs : List Expr} {scope : Scope} {own : List (Str × Nat)} {ti : TI'} {js : List Nat} {g : Hp → Hp → TDG} {tt : Hp → Hp → TT'} {te : Hp → Hp → TD} (c : Cok k X Γ) (hy : X.N[i]? = some y) (hyl : X.env.scope.names.lookup y = some .local)
    (hsw : swapsWith (.ListComp elt [⟨tg, iter, ifs, 0⟩] scope pos) (some (.Name y py)) spos.line X.env = pure true) (hi : DI X Γ tg iter ti) (ok : blkC X.N X.env.scope scope own = true)
    (hg : InBlk X Γ k scope fun X Γ G0 H0 => DG X Γ tg js (g G0 H0)) (ht : InBlk X Γ k scope fun X Γ G0 H0 => DTs X Γ ifs (tt G0 H0)) (he : InBlk X Γ k scope fun X Γ G0 H0 => DE X Γ elt (te G0 H0))
    (hI : ∀ i ∈ Γ.I, i ∉ own.map (·.2) := by first | exact fun i hi => absurd hi List.not_mem_nil | exact fun i hi => by cases List.mem_singleton.mp hi; decide) (hj : ∀ i ∈ js, i ∈ own.map (·.2) := by decide) (hIi : Γ.I.contains i = false := by rfl) (hs : ∀ x, foldedSetIterable iter X.env x = pure x := by intro _; rfl) :
    DS X Γ (.Assign [.Name y py] (.ListComp elt [⟨tg, iter, ifs, 0⟩] scope pos) spos) (sSetF (dLc ti g tt te (own.map (·.2))) i) := by
  refine ⟨ps_imp (ps_setLc c.calm c.nd hy hyl hsw hi.pi (blkOk_by ok) (fun s H C cl fp => pg_ex (ι := Hp × Hp) (p := fun i => Γ.Gh i.1 i.2) (t := fun i => rdG X.K (Γ.inn i.1 i.2) js (g i.1 i.2)) fun i hp => (hg i.1 i.2 s H C cl fp (c.inn hp)).pg) (fun s H C cl fp => pts_ex (ι := Hp × Hp) (p := fun i => Γ.Gh i.1 i.2) (t := fun i => rdT X.K (Γ.inn i.1 i.2) (tt i.1 i.2)) fun i hp => (ht i.1 i.2 s H C cl fp (c.inn hp)).pt)
    (fun s H C cl fp => pe_ex (ι := Hp × Hp) (p := fun i => Γ.Gh i.1 i.2) (t := fun i => rdE X.K (Γ.inn i.1 i.2) (te i.1 i.2)) fun i hp => (he i.1 i.2 s H C cl fp (c.inn hp)).pe) hs) ?_⟩
  rintro E σ H ⟨ρ, G, R, at_, ok, h⟩
  refine lc_rd (K := X.K) (Γ := Γ) hI hj c.gh (fun G0 H0 hp v σ H Q q => ⟨(G0, H0), hp, q⟩) (fun G0 H0 hp σ H Q q => ⟨(G0, H0), hp, q⟩) (fun G0 H0 hp σ H Q q => ⟨(G0, H0), hp, q⟩) ⟨ρ, G, _, at_, h, fun d ρ' p G' H' hk a' s' g0 h0 own hno => ?_⟩
  exact ok.nx _ _ _ _ (a'.setOwn hIi g0 h0 own hno) s' hk
theorem ds_setLc {i : Nat} {y : Str} {py spos : Pos} {elt tg iter : Expr} {ifs : List Expr} {scope : Scope} {own : List (Str × Nat)} {ti : TI'} {js : List Nat} {g : Hp → Hp → TDG} {tt : Hp → Hp → TT'} {te : Hp → Hp → TD} (c : Cok k X Γ) (hy : X.N[i]? = some y) (hyl : X.env.scope.names.lookup y = some .local)
    (hsw : swapsWith (.ListComp elt [⟨tg, iter, ifs, 0⟩] scope pos) (some (.Name y py)) spos.line X.env = pure true) (hi : DI X Γ tg iter ti) (ok : blkC X.N X.env.scope scope own = true)
    (hg : InBlk X Γ k scope fun X Γ G0 H0 => DG X Γ tg js (g G0 H0)) (ht : InBlk X Γ k scope fun X Γ G0 H0 => DTs X Γ ifs (tt G0 H0)) (he : InBlk X Γ k scope fun X Γ G0 H0 => DE X Γ elt (te G0 H0))
    (hI : ∀ i ∈ Γ.I, i ∉ own.map (·.2) := by first | exact fun i hi => absurd hi List.not_mem_nil | exact fun i hi => by cases List.mem_singleton.mp hi; decide) (hj : ∀ i ∈ js, i ∈ own.map (·.2) := by decide) (hIi : Γ.I.contains i = false := by rfl) (hs : ∀ x, foldedSetIterable iter X.env x = pure x := by intro _; rfl) :
    DS X Γ (.Assign [.Name y py] (.ListComp elt [⟨tg, iter, ifs, 0⟩] scope pos) spos) (sSet (dLc ti g tt te (own.map (·.2))) i) := by
  refine ⟨ps_imp (ps_setLc c.calm c.nd hy hyl hsw hi.pi (blkOk_by ok) (fun s H C cl fp => pg_ex (ι := Hp × Hp) (p := fun i => Γ.Gh i.1 i.2) (t := fun i => rdG X.K (Γ.inn i.1 i.2) js (g i.1 i.2)) fun i hp => (hg i.1 i.2 s H C cl fp (c.inn hp)).pg) (fun s H C cl fp => pts_ex (ι := Hp × Hp) (p := fun i => Γ.Gh i.1 i.2) (t := fun i => rdT X.K (Γ.inn i.1 i.2) (tt i.1 i.2)) fun i hp => (ht i.1 i.2 s H C cl fp (c.inn hp)).pt)
    (fun s H C cl fp => pe_ex (ι := Hp × Hp) (p := fun i => Γ.Gh i.1 i.2) (t := fun i => rdE X.K (Γ.inn i.1 i.2) (te i.1 i.2)) fun i hp => (he i.1 i.2 s H C cl fp (c.inn hp)).pe) hs) ?_⟩
  rintro E σ H ⟨ρ, G, R, at_, ok, h⟩
  refine lc_rd (K := X.K) (Γ := Γ) hI hj c.gh (fun G0 H0 hp v σ H Q q => ⟨(G0, H0), hp, q⟩) (fun G0 H0 hp σ H Q q => ⟨(G0, H0), hp, q⟩) (fun G0 H0 hp σ H Q q => ⟨(G0, H0), hp, q⟩) ⟨ρ, G, _, at_, h, fun d ρ' p G' H' hk a' s' g0 h0 own hno => ?_⟩
  obtain ⟨G2, a2, s2, r2⟩ := a'.give g0 h0 own hno
  exact ok.nx _ _ _ _ (a2.set hIi r2) (s'.trans s2) hk
/-! ### things of one's own, changed -/
def ownL (ρ : Ro) (i : Nat) (k : List D → Prop) : Prop := match ρ[i]? with
  | some (.own (.list xs)) => k xs
  | _ => False
theorem ownL.to {ρ : Ro} {i : Nat} {k : List D → Prop} (h : ownL ρ i k) : ∃ xs, ρ[i]? = some (.own (.list xs)) ∧ k xs := by
  unfold ownL at h
  split at h
  · exact ⟨_, by assumption, h⟩
  · exact h.elim
theorem At.ownLst {K : PySem.W.Frag} {ρ : Ro} {σ : L2.St} {G H : Hp} {i : Nat} {ds : List D} (a : At K Γ ρ σ G H) (h : ρ[i]? = some (.own (.list ds))) : ∃ p xs, σ[i]? = some (some (.ref p)) ∧ H p = some (.lst xs) ∧ IsAll K G xs ds := by
  obtain ⟨p, e, _, _, q⟩ := a.own h
  rcases q with ⟨xs, es, h1, h2, h3⟩ | ⟨_, _, _, h1, _⟩ | ⟨_, _, _, h1, _⟩
  · cases h1
    exact ⟨p, xs, e, h2, h3⟩
  · cases h1
  · cases h1
/-- name[j] = e, a list -/
def sPut (t : TD) (i : Nat) (tj : TB) : TDS := fun R ρ => t ρ fun d ρ1 => ownL ρ1 i fun _ => tj ρ1 fun x ρ2 => withD ρ2 x fun z => asI z fun j => ownL ρ2 i fun xs => optD (ixN xs.length j) fun m => R.nx (ρ2.set i (.own (.list (xs.set m d))))
theorem ds_put {i : Nat} {x : Str} {j : Expr} {p1 p2 : Pos} {t : TD} {tj : TB} (he : DE X Γ e t) (hj : DB X Γ j tj) (hN : X.N[i]? = some x := by rfl) (hv : Vis X.env.scope x := by first | exact Or.inl rfl | exact Or.inr (Or.inl rfl) | exact Or.inr (Or.inr rfl)) (hd : (x == ("__debug__" : Str)) = false := by decide)
    (hcd : (x == ("__classdict__" : Str)) = false := by decide)
    (ha : ∀ v, assign (.Subscript (.Name x p1) j p2) X.env v = (do
      let ov ← holding [v] (eval (.Name x p1) X.env)
      let iv ← holding [v, ov] (eval j X.env)
      standAt p2
      holding [v, ov, iv] (setItem ov iv v)
      release [v, ov, iv] []) := by intro _; rfl)
    (hs : swapsWithSole [.Subscript (.Name x p1) j p2] e pos.line X.env = pure false := by rfl) (hw : swappedStores [.Subscript (.Name x p1) j p2] e X.env = pure none := by rfl)
    (h1 : (assignEach [.Subscript (.Name x p1) j p2] X.env).map (·.2) = [assign (.Subscript (.Name x p1) j p2) X.env] := by rfl) : DS X Γ (.Assign [.Subscript (.Name x p1) j p2] e pos) (sPut t i tj) := by
  refine ⟨ps_imp (ps_asg he.pe (pg_sub (pe_var (i := i) hN hv hd hcd) hj.pe set_list ha) hs hw h1) ?_⟩
  rintro E σ H ⟨ρ, G, R, at_, ok, h⟩
  refine ⟨ρ, G, _, at_, h, fun d ρ1 v G1 H1 h1 a1 s1 r1 => ?_⟩
  obtain ⟨ys, e0, h1⟩ := h1.to
  obtain ⟨p, xs0, hp, _, _⟩ := a1.ownLst e0
  refine ⟨_, hp, ρ1, G1, _, a1, h1, fun y ρ2 w G2 H2 h2 a2 s2 r2 => ?_⟩
  obtain ⟨z, l, h2⟩ := withD.to h2
  obtain ⟨jj, ez, h2⟩ := asI.to h2
  subst ez
  obtain ⟨ds, e3, h2⟩ := ownL.to h2
  obtain ⟨m, e4, h2⟩ := optD.to h2
  obtain ⟨p', xs, hp', hx, rx⟩ := a2.ownLst e3
  rw [hp] at hp'
  cases hp'
  refine ⟨p, xs, jj, m, rfl, (a2.isx r2 l).int, hx, by rw [rx.length]; exact e4, ?_⟩
  exact ok.nx _ _ _ _ (a2.write e3 hp (.inl ⟨_, _, rfl, upd_same, rx.set (r1.mono s2) m⟩)) (s1.trans s2) h2
/-- name.append(e) -/
def sApp (i : Nat) (t : TD) : TDS := fun R ρ => ownL ρ i fun _ => t ρ fun d ρ1 => ownL ρ1 i fun xs => xs.length < 16777216 ∧ R.nx (ρ1.set i (.own (.list (xs ++ [d]))))
theorem ds_app {i : Nat} {x : Str} {p1 apos cpos : Pos} {t : TD} (he : DE X Γ e t) (hN : X.N[i]? = some x := by rfl) (hv : Vis X.env.scope x := by first | exact Or.inl rfl | exact Or.inr (Or.inl rfl) | exact Or.inr (Or.inr rfl)) (hd : (x == ("__debug__" : Str)) = false := by decide)
    (hcd : (x == ("__classdict__" : Str)) = false := by decide)
    (hbase : attributeBase (.Name x p1) "append" X.env (eval (.Name x p1) X.env) = eval (.Name x p1) X.env := by rfl)
    (hfew : ((backTo cpos (starEach [e] X.env)).all (fun x => !x.1) && (backToKw cpos (keywordEach [] X.env)).all (fun x => x.1.isSome)
      && decide ([e].length + ([] : List Keyword).length + (if ([] : List Keyword).isEmpty then 0 else 1) < 30)) = true := by rfl)
    (hline : (apos.endLine == cpos.line) = true := by rfl) (hs : starEach [e] X.env = (false, eval e X.env) :: starEach [] X.env := by rfl) (hplain : (backTo cpos (starEach [] X.env)).any (·.1) = false := by rfl)
    (hsw : swapsWith (.Call (.Attribute (.Name x p1) "append" apos) [e] [] cpos) none pos.line X.env = pure false := by rfl) :
    DS X Γ (.Expr (.Call (.Attribute (.Name x p1) "append" apos) [e] [] cpos) pos) (sApp i t) := by
  have hm : MtR X "list.append" rAppend := fun pins s σ H x xs v us Q I r rs h => mt_append pins s σ H x xs v us Q I r rs h
  refine ⟨ps_imp (ps_expr (pe_bm PySem.F.plainAttrs_list PySem.F.slot_list_append PySem.F.type_list_append hm (pe_var (i := i) hN hv hd hcd) (pa_cons he.pe pa_nil hs) hbase hfew hline hs hplain) hsw) ?_⟩
  rintro E σ H ⟨ρ, G, R, at_, ok, h⟩
  obtain ⟨ys, e0, h⟩ := h.to
  obtain ⟨p, xs0, hp, hx0, _⟩ := at_.ownLst e0
  refine ⟨_, hp, .inl ⟨rfl, _, SqL.of hx0⟩, ρ, G, _, at_, h, fun d ρ1 v G1 H1 h1 a1 s1 r1 => ?_⟩
  obtain ⟨ds, e1, h1⟩ := h1.to
  obtain ⟨p', xs, hp', hx, rx⟩ := a1.ownLst e1
  rw [hp] at hp'
  cases hp'
  refine ⟨p, xs, v, rfl, rfl, hx, line_lt (by rw [rx.length]; exact h1.1), ?_⟩
  exact ok.nx _ _ _ _ (a1.write e1 hp (.inl ⟨_, _, rfl, upd_same, rx.append (.cons r1 .nil)⟩)) s1 h1.2
end
end Dn
/-! Dn: calls of defs, exceptions, defs. -/
namespace Dn
open PySem PySem.Spec PyProof.Rows L2
abbrev DC := List D → (D → Prop) → (Exn → Prop) → Prop
abbrev DCM := D → List D → (D → D → Prop) → Prop
def spOf (K : PySem.W.Frag) (T : List Addr) (c : DC) : Sp := fun vs H Q E => Tabs T H ∧ ∃ G ds kq ke, Same G H ∧ IsAll K G vs ds ∧ c ds kq ke ∧ (∀ d v G' H', kq d → Grow G H G' H' → Is K G' v d → Q v H') ∧
  ∀ ex cls dd G' H', ke ex → Grow G H G' H' → XIs K G' H' cls dd ex → E cls dd H'
/-- what stood grows, the thing at a is changed -/
structure GrowX (a : Addr) (G H G' H' : Hp) : Prop where
  gg : Same G G'
  hh : ∀ b o, b ≠ a → H b = some o → H' b = some o
  gh : Same G' H'
  new : ∀ b, H b ≠ none → G' b = G b
def spOfM (K : PySem.W.Frag) (T : List Addr) (c : DCM) : Sp := fun vs H Q E => Tabs T H ∧ ∃ G d ds a vs' kq, vs = .ref a :: vs' ∧ Same G H ∧ G a = none ∧ Own K G H a d ∧ IsAll K G vs' ds ∧ c d ds kq ∧
  ∀ r d' v G' H', kq r d' → GrowX a G H G' H' → Own K G' H' a d' → Is K G' v r → Q v H'
structure Pf (P : Program) (w : World) (K : PySem.W.Frag) (mg : Str → Option Value) (base : Heap) (T : List Addr) (k : Nat) (x : Str) (n : Nat) (c : DC) : Prop where
  ex : ∃ f fd ps, ps.length = n ∧ FnOk P w K mg base (L2.CX P w) k f fd ps (spOf K T c) ∧ mg x = some (.ref f) ∧ PySem.W.keepIn K (.ref f) = true ∧ Binds K fd ps []
structure PfM (P : Program) (w : World) (K : PySem.W.Frag) (mg : Str → Option Value) (base : Heap) (T : List Addr) (k : Nat) (x : Str) (n : Nat) (c : DCM) : Prop where
  ex : ∃ f fd ps, ps.length = n ∧ FnOk P w K mg base (L2.CX P w) k f fd ps (spOfM K T c) ∧ mg x = some (.ref f) ∧ PySem.W.keepIn K (.ref f) = true ∧ Binds K fd ps []
section
variable {X : Cx} {Γ : Gm} {k j n : Nat} {a b e : Expr} {es : List Expr} {st : Stmt} {rest body orelse : List Stmt} {pos : Pos} {t u : TDS}
def dCall (c : DC) (W : Exn → Ro → Prop) (ta : TDs) : TD := fun ρ Q => ta ρ fun ds ρ1 => c ds (fun d => Q d ρ1) fun ex => W ex ρ1
theorem de_call {x : Str} {c' : DC} {ta : TDs} {p : Pos} (f : Pf X.prog X.w X.K X.mg X.base Γ.T j x n c') (c : Cok k X Γ) (ha : DL X Γ (e :: es) ta) (hj : j ≤ k := by decide) (hg : Gl X x := by rfl) (hdb : (x == ("__debug__" : Str)) = false := by decide)
    (he : starEach (e :: es) X.env = (false, eval e X.env) :: starEach es X.env := by rfl) (hpl : (backTo pos (starEach es X.env)).any (·.1) = false := by rfl) : DE X Γ (.Call (.Name x p) (e :: es) [] pos) (dCall c' Γ.W ta) := by
  obtain ⟨f, fd, ps, _, F, hm, hk, hb⟩ := f.ex
  refine ⟨pe_imp (pe_callS F (c.room.mono hj) hg hm hk hb c.pa ha.pa hdb he hpl) ?_⟩
  rintro σ H Q ⟨ρ, G, k, at_, h, fin⟩
  exact ⟨ρ, G, _, at_, h, fun ds ρ1 vs G1 H1 h1 _ a1 s1 r1 => ⟨fun P hP => a1.kept P _ (c.gh.2 P hP), G1, ds, _, _, a1.sub, r1, h1, fun d v G' H' hk g i => fin d ρ1 v G' H' hk (a1.grow g) (s1.trans g.gg) i,
    fun ex cls dd G' H' hk g xi => ⟨ρ1, G', ex, a1.grow g, xi, hk⟩⟩⟩
theorem At.growX {K : PySem.W.Frag} {ρ : Ro} {σ : L2.St} {G H G' H' : Hp} {i : Nat} {d d' : D} {p : Addr} (a : At K Γ ρ σ G H) (h : ρ[i]? = some (.own d)) (hp : σ[i]? = some (some (.ref p))) (g : GrowX p G H G' H') (r : Own K G' H' p d') : At K Γ (ρ.set i (.own d')) σ G' H' := by
  obtain ⟨p', hp', h1, h2, h3⟩ := a.own h
  rw [hp] at hp'
  cases hp'
  obtain ⟨o0, ho0⟩ := h3.some
  have hl := (List.getElem?_eq_some_iff.mp h).1
  refine ⟨by rw [List.length_set]; exact a.len, fun j s u e1 e2 => ?_, fun j k dj dk q e1 e2 e3 e4 => ?_, g.gh, fun b hb => ?_, fun b u q => ?_, a.inh, a.bas.trans g.gg⟩
  · by_cases hj : i = j
    · subst hj
      rw [List.getElem?_set_self hl] at e1
      cases e1
      rw [hp] at e2
      cases e2
      exact ⟨_, rfl, by rw [g.new p (some_ne ho0)]; exact h1, h2, r⟩
    · rw [List.getElem?_set_ne hj] at e1
      have q := a.sl j s u e1 e2
      cases s with
      | non => exact True.intro
      | val d' => obtain ⟨v, e, q⟩ := q; exact ⟨v, e, q.mono g.gg⟩
      | seq ds => obtain ⟨p', xs, e, q1, q2⟩ := q; exact ⟨p', xs, e, g.gg.seq q1, q2.mono g.gg⟩
      | own d' =>
        obtain ⟨p', e, q1, q2, q3⟩ := q
        have ne : p' ≠ p := fun z => by
          subst z
          subst e
          exact hj (a.sep i j _ _ _ h e1 hp e2)
        obtain ⟨w, hw⟩ := q3.some
        exact ⟨p', e, by rw [g.new p' (some_ne hw)]; exact q1, q2, q3.mono g.gg (by rw [hw, g.hh p' w ne hw])⟩
  · have f : ∀ (k : Nat) dk, (ρ.set i (.own d'))[k]? = some (.own dk) → ∃ d2, ρ[k]? = some (.own d2) := fun k dk e => by
      by_cases hk : i = k
      · subst hk
        exact ⟨_, h⟩
      · rw [List.getElem?_set_ne hk] at e
        exact ⟨_, e⟩
    obtain ⟨d2, f1⟩ := f j dj e1
    obtain ⟨d3, f2⟩ := f k dk e2
    exact a.sep j k d2 d3 q f1 f2 e3 e4
  · obtain ⟨o, e⟩ := Option.ne_none_iff_exists'.mp hb
    rw [g.new b (some_ne (a.kept b o e)), a.old b hb]
  · have ne : b ≠ p := fun z => by subst z; rw [h2] at q; cases q
    exact g.hh b u ne (a.kept b u q)
def ownD (ρ : Ro) (i : Nat) (k : D → Prop) : Prop := match ρ[i]? with
  | some (.own d) => k d
  | _ => False
theorem ownD.to {ρ : Ro} {i : Nat} {k : D → Prop} (h : ownD ρ i k) : ∃ d, ρ[i]? = some (.own d) ∧ k d := by
  unfold ownD at h
  split at h
  · exact ⟨_, by assumption, h⟩
  · exact h.elim
def dCallM (c : DCM) (i : Nat) (ta : TDs) : TD := fun ρ Q => ownD ρ i fun _ => ta ρ fun ds ρ1 => ownD ρ1 i fun d => c d ds fun r d' => Q r (ρ1.set i (.own d'))
/-- f(name, ..), what stands under the name is changed by f -/
theorem de_callM {x y : Str} {i : Nat} {c' : DCM} {ta : TDs} {p py : Pos} (f : PfM X.prog X.w X.K X.mg X.base Γ.T j x n c') (c : Cok k X Γ) (ha : DL X Γ es ta) (hj : j ≤ k := by decide) (hN : X.N[i]? = some y := by rfl) (hv : Vis X.env.scope y := by first | exact Or.inl rfl | exact Or.inr (Or.inl rfl) | exact Or.inr (Or.inr rfl))
    (hd : (y == ("__debug__" : Str)) = false := by decide) (hcd : (y == ("__classdict__" : Str)) = false := by decide) (hg : Gl X x := by rfl) (hdb : (x == ("__debug__" : Str)) = false := by decide)
    (he : starEach (.Name y py :: es) X.env = (false, eval (.Name y py) X.env) :: starEach es X.env := by rfl) (hpl : (backTo pos (starEach es X.env)).any (·.1) = false := by rfl) : DE X Γ (.Call (.Name x p) (.Name y py :: es) [] pos) (dCallM c' i ta) := by
  obtain ⟨f, fd, ps, _, F, hm, hk, hb⟩ := f.ex
  refine ⟨pe_imp (pe_callS F (c.room.mono hj) hg hm hk hb c.pa (pa_cons (pe_var (i := i) hN hv hd hcd) ha.pa he) hdb he hpl) ?_⟩
  rintro σ H Q ⟨ρ, G, k, at_, h, fin⟩
  obtain ⟨d0, e0, h⟩ := h.to
  obtain ⟨q, hq, _⟩ := at_.own e0
  refine ⟨_, hq, ρ, G, _, at_, h, fun ds ρ1 vs G1 H1 h1 _ a1 s1 r1 => ?_⟩
  obtain ⟨d, e1, h1⟩ := h1.to
  obtain ⟨q', hq', g1, _, ow⟩ := a1.own e1
  rw [hq] at hq'
  cases hq'
  exact ⟨fun P hP => a1.kept P _ (c.gh.2 P hP), G1, d, ds, q, vs, _, rfl, a1.sub, g1, ow, r1, h1, fun r d' v G' H' hk g ow' i => fin r _ v G' H' hk (a1.growX e1 hq g ow') (s1.trans g.gg) i⟩

/-! ### exceptions -/
/-- an own class over ValueError, without __init__ -/
structure ExcF (K : PySem.W.Frag) (mg : Str → Option Value) (x : Str) (C : Addr) : Prop where
  g : mg x = some (.ref C)
  xc : PySem.W.excIn K C [.type "ValueError", .type "Exception", .type "BaseException", .type "object"] "ValueError.__new__" = true
  k : PySem.W.keepIn K (.ref C) = true
  sb : PySem.W.subIn K (.ref C) (.type "BaseException") = some true
  ty : PySem.W.typeIn K (.ref C) = some (.type "type")
  xm : PySem.W.exmOne K (.ref C) (.ref C) = some true
theorem pmk_own0 {x : Str} {C : Addr} {p pos : Pos} (f : ExcF X.K X.mg x C) (hg : Gl X x) (hdb : (x == ("__debug__" : Str)) = false := by decide) : PMk X (.Call (.Name x p) [] [] pos) (fun _ H Q => Q (.ref C) none H) := by
  intro pins s σ H Q I h
  refine wpAny_Call_Name_kw (ld_glob I hg f.g ?_ hdb)
  refine PySem.W.callWith_K0 I.kIn f.k ?_
  show wpAny _ _ (call (.ref C) []) _ _ _
  obtain ⟨bm, N, nm, qn, bs, hdct, sn, sub, ab, col, dd, k0, k1, k2, k3, k5, mN, hC, hN, hni, T⟩ := exc_obj I.kIn f.xc
  refine wpAny_call_exc_subT PySem.F.excBase_ValueError T hC hN hni (fun h' e hm => ?_) (by show 0 ≤ sizeLine; exact Nat.zero_le _)
  exact mk_of I hm (raises_own f.sb f.ty) h (I.hok.gone hm.new)
def sRaise (C : Addr) (W : Exn → Ro → Prop) : TDS := fun _ ρ => W (.plain C) ρ
theorem ds_raise {x : Str} {C : Addr} {p p2 : Pos} (f : ExcF X.K X.mg x C) (c : Cok k X Γ) (tk : Takes X (liftW X.K Γ)) (hg : Gl X x := by rfl) (hdb : (x == ("__debug__" : Str)) = false := by decide) : DS X Γ (.Raise (some (.Call (.Name x p) [] [] p2)) none pos) (sRaise C Γ.W) := by
  refine ⟨ps_imp (ps_raise c.calm tk (pmk_own0 f hg hdb)) ?_⟩
  rintro E σ H ⟨ρ, G, R, at_, ok, h⟩
  exact ⟨ρ, G, .plain C, at_, ⟨rfl, rfl⟩, h⟩
theorem ds_dead : DS X Γ st fun _ _ => False := ⟨ps_imp ps_never fun E σ H ⟨ρ, G, R, at_, ok, h⟩ => h⟩
def Exn.cls : Exn → Value
  | .plain C => .ref C
  | .low C _ _ => .ref C
abbrev Gm.wi (Γ : Gm) (B : Hp) (W : Exn → Ro → Prop) : Gm := { Γ with B := B, W := W }
theorem pss_ex {ι : Type} {p : ι → Prop} {st : List Stmt} {t : ι → TS} (h : ∀ i, p i → PSs X st (t i)) : PSs X st (fun D σ H => ∃ i, p i ∧ t i D σ H) := ⟨fun pins s σ H D I ⟨i, hp, q⟩ => (h i hp).run pins s σ H D I q⟩
theorem At.wi {K : PySem.W.Frag} {ρ : Ro} {σ : L2.St} {G H : Hp} (a : At K Γ ρ σ G H) {W : Exn → Ro → Prop} : At K (Γ.wi G W) ρ σ G H := ⟨a.len, a.sl, a.sep, a.sub, a.old, a.kept, a.inh, Same.refl _⟩
theorem At.uw {K : PySem.W.Frag} {ρ : Ro} {σ : L2.St} {G H B : Hp} {W : Exn → Ro → Prop} (a : At K (Γ.wi B W) ρ σ G H) (h : Same Γ.B B) : At K Γ ρ σ G H := ⟨a.len, a.sl, a.sep, a.sub, a.old, a.kept, a.inh, h.trans a.bas⟩
/-- try: body, except x: suite -/
def sTry (K : PySem.W.Frag) (C : Value) (W : Exn → Ro → Prop) (T : Hp → (Exn → Ro → Prop) → TDS) (Ts : TDS) : TDS := fun R ρ => ∀ B, T B (fun ex ρ' => ∃ b, PySem.W.exmOne K ex.cls C = some b ∧ (b = true → Ts R ρ') ∧ (b = false → W ex ρ')) R ρ
theorem XIs.cls {K : PySem.W.Frag} {G H : Hp} {cls : Value} {d : Option Addr} {ex : Exn} (h : XIs K G H cls d ex) : cls = ex.cls := by
  cases ex with
  | plain C => exact h.1
  | low C f x => exact h.1
theorem ds_try {x : Str} {C : Value} {body suite : List Stmt} {b₀ : Stmt} {np pos' : Pos} {T : Hp → (Exn → Ro → Prop) → TDS} {Ts : TDS} (c : Cok k X Γ) (tk : Takes X (liftW X.K Γ)) (hc : Names X x C) (hs : X.stack = X.env :: X.outer) (hf : X.env.frame = some X.env.locals)
    (hb : ∀ (B : Hp) (W : Exn → Ro → Prop) (pn : List (Addr × Obj)) (xe : Value → Shared → Prop), Cok k (X.tr pn xe) (Γ.wi B W) → Takes (X.tr pn xe) (liftW X.K (Γ.wi B W)) → DSs (X.tr pn xe) (Γ.wi B W) body (T B W))
    (hsu : ∀ (a : Addr) (pn : List (Addr × Obj)), DSs (X.suite a pn) Γ (b₀ :: suite) Ts) :
    DS X Γ (.Try body [.ExceptHandler (some (.Name x np)) none (b₀ :: suite) pos'] [] [] pos) (sTry X.K C Γ.W T Ts) := by
  refine ⟨ps_imp (ps_try_only hs hf hc tk (tb := fun W E σ H => ∃ i : Hp × (Exn → Ro → Prop), (∀ cls d σ H, liftW X.K (Γ.wi i.1 i.2) cls d σ H → W cls d σ H) ∧ rdS X.K (Γ.wi i.1 i.2) (T i.1 i.2) E σ H) (ts := fun _ _ _ => rdS X.K Γ Ts)
    (fun W pn xe tk' po' => pss_ex fun i hW => ?_) (fun a oe cls d pn _ _ => (hsu a ((a, oe) :: pn)).ps)) ?_⟩
  · have tk2 : Takes (X.tr pn xe) (liftW X.K (Γ.wi i.1 i.2)) := tk'.imp hW
    exact (hb i.1 i.2 pn xe ⟨c.calm, c.nd, c.room, c.gh, po', c.bl, fun σ => passAt tk2 σ⟩ tk2).ps
  · rintro E σ H ⟨ρ, G, R, at_, ok, h⟩
    refine ⟨(G, fun ex ρ' => ∃ b, PySem.W.exmOne X.K ex.cls C = some b ∧ (b = true → Ts R ρ') ∧ (b = false → Γ.W ex ρ')), ?_, ρ, G, R, at_.wi, ?_, h G⟩
    · rintro cls d σ' H' ⟨ρ', G', ex, a', xi, b, h1, h2, h3⟩
      have a2 := a'.uw at_.bas
      rw [xi.cls]
      exact ⟨b, h1, fun hb a _ => ⟨ρ', G', R, a2, ok.mono a'.bas, h2 hb⟩, fun hb => ⟨ρ', G', ex, a2, xi.cls ▸ xi, h3 hb⟩⟩
    · exact ⟨fun ρ' σ' G' H' a' s' q => ok.nx _ _ _ _ (a'.uw at_.bas) s' q, fun d v ρ' σ' G' H' a' s' r q => ok.rt _ _ _ _ _ _ (a'.uw at_.bas) s' r q, fun ρ' σ' G' H' a' s' q => ok.bk _ _ _ _ (a'.uw at_.bas) s' q, fun ρ' σ' G' H' a' s' q => ok.ct _ _ _ _ (a'.uw at_.bas) s' q⟩
end

/-! ### defs -/
section
variable {P : Program} {w : World} {K : PySem.W.Frag} {mg : Str → Option Value} {base : Heap} {T : List Addr}
def startR (n : Nat) (ds : List D) : Ro := ds.map .val ++ List.replicate (n - ds.length) .non
theorem at_start {N : List Str} {vs : List V} {ds : List D} {G H : Hp} {W : Exn → Ro → Prop} (s : Same G H) (r : IsAll K G vs ds) : At K ⟨G, G, H, [], fun _ => 0, W, T⟩ (startR N.length ds) (L2.start N vs) G H where
  len := by
    unfold startR L2.start
    rw [List.length_append, List.length_append, List.length_map, List.length_map, List.length_replicate, List.length_replicate, r.length]
  sl := fun i sl o e1 e2 => by
    have hl := r.length
    unfold startR at e1
    unfold L2.start at e2
    by_cases hi : i < ds.length
    · rw [List.getElem?_append_left (by simpa using hi), List.getElem?_map] at e1
      rw [List.getElem?_append_left (by rw [List.length_map, hl]; exact hi), List.getElem?_map] at e2
      cases h1 : vs[i]? with
      | none => rw [List.getElem?_eq_none_iff] at h1; omega
      | some v =>
        obtain ⟨d, h2, h3⟩ := r.get h1
        rw [h2] at e1
        rw [h1] at e2
        cases e1; cases e2
        exact ⟨v, rfl, h3⟩
    · rw [List.getElem?_append_right (by simpa using hi), List.getElem?_replicate] at e1
      split at e1
      · cases e1; exact True.intro
      · cases e1
  sep := fun i j di dj p e1 _ _ _ => by
    unfold startR at e1
    by_cases hi : i < ds.length
    · rw [List.getElem?_append_left (by simpa using hi), List.getElem?_map] at e1
      cases h : ds[i]? with
      | none => rw [h] at e1; cases e1
      | some d => rw [h] at e1; cases e1
    · rw [List.getElem?_append_right (by simpa using hi), List.getElem?_replicate] at e1
      split at e1 <;> cases e1
  sub := s
  old := fun _ _ => rfl
  kept := Same.refl _
  inh := fun i hi => nomatch hi
  bas := Same.refl _
theorem At.toGrow {Γ : Gm} {ρ : Ro} {σ : L2.St} {G H G' H' : Hp} (a : At K Γ ρ σ G' H') (h0 : Γ.H0 = H) (g0 : Γ.G0 = G) (s : Same G G') : Grow G H G' H' :=
  ⟨s, h0 ▸ a.kept, a.sub, fun b hb => by rw [← g0]; exact a.old b (by rw [h0]; exact hb)⟩
abbrev cxD (P : Program) (w : World) (K : PySem.W.Frag) (mg : Str → Option Value) (base : Heap) (N : List Str) (qual : Str) (st : Stmt) (f : Addr) (cdv : Value) (A : Around) (outer : List Env) (s : Shared) (H : Hp) (E : XK) : Cx := cxOf (L2.CX P w) P w K mg base N qual (defScope st) f cdv A outer s H E
theorem fun_okC {CX : CXT} {x qual : Str} {st : Stmt} {f : Addr} {fd : FuncData} {N ps : List Str} {k : Nat} {sp : Sp} (F : Fun K x qual st f fd) (S : FnScope N ps (defScope st)) (len : ∀ vs H Q E, sp vs H Q E → vs.length = ps.length)
    (hbody : ∀ (A : Around) (outer : List Env) (s : Shared) (H : Hp) (vs : List V) (Q : VK) (E : XK), Room k (A.deeper (envOfC qual (defScope st) s.heap.objs.size f fd.code)) → sp vs H Q E →
      ∃ t, PSs (cxOf CX P w K mg base N qual (defScope st) f fd.code A outer s H E) (defBody st) t ∧ t { nx := fun _ H' => Q .non H', rt := Q } (L2.start N vs) H) : FnOk P w K mg base CX (k + 1) f fd ps sp := by
  obtain ⟨oc, od, kV, doc, pm, an, cdv, ct, osl, rfl, lk, hcd⟩ := F.ex
  exact fn_of lk hcd S len hbody
/-- the def's code object, its table -/
def GenT (mg : Str → Option Value) (base : Heap) (T : List Addr) (fd : FuncData) : Prop := ∃ c P, fd.code = .ref c ∧ P ∈ T ∧ GxR.TabB base mg c P
/-- a def of data -/
theorem pf_of {x qual : Str} {st : Stmt} {f : Addr} {fd : FuncData} {N ps : List Str} {k n : Nat} {c : DC} (F : Fun K x qual st f fd) (S : FnScope N ps (defScope st)) (hn : ps.length = n) (hm : mg x = some (.ref f)) (hb : Binds K fd ps [])
    (bl : ∀ x : Str, bnames.contains x = true → mg x = none) (len : ∀ ds kq ke, c ds kq ke → ds.length = n)
    (body : ∀ (A : Around) (outer : List Env) (s : Shared) (H G : Hp) (E : XK) (ds : List D) (kq : D → Prop) (ke : Exn → Prop), c ds kq ke → Cok k (cxD P w K mg base N qual st f fd.code A outer s H E) ⟨G, G, H, [], fun _ => 0, fun ex _ => ke ex, T⟩ →
      Takes (cxD P w K mg base N qual st f fd.code A outer s H E) (liftW K ⟨G, G, H, [], fun _ => 0, fun ex _ => ke ex, T⟩) →
      ∃ t, DSs (cxD P w K mg base N qual st f fd.code A outer s H E) ⟨G, G, H, [], fun _ => 0, fun ex _ => ke ex, T⟩ (defBody st) t ∧ t { nx := fun _ => kq .none, rt := fun d _ => kq d } (startR N.length ds)) : Pf P w K mg base T (k + 1) x n c := by
  refine ⟨f, fd, ps, hn, fun_okC F S (fun vs H Q E ⟨_, G, ds, kq, ke, _, r, hc, _⟩ => by rw [r.length, len _ _ _ hc, hn]) (fun A outer s H vs Q E hr hsp => ?_), hm, F.kp, hb⟩
  obtain ⟨htab, G, ds, kq, ke, sGH, r, hc, hq, he⟩ := hsp
  have tk : Takes (cxD P w K mg base N qual st f fd.code A outer s H E) (liftW K ⟨G, G, H, [], fun _ => 0, fun ex _ => ke ex, T⟩) := by
    refine (takes_of (E := E) rfl rfl rfl rfl).imp ?_
    rintro cls d σ' H' ⟨ρ', G', ex, a', xi, hw⟩
    exact he ex cls d G' H' hw (a'.toGrow rfl rfl a'.bas) xi
  obtain ⟨t, h1, h2⟩ := body A outer s H G E ds kq ke hc ⟨rfl, S.nd, hr, ⟨sGH, htab⟩, PassesOwn.leaving, bl, fun σ => passAt tk σ⟩ tk
  refine ⟨_, h1.ps, startR N.length ds, G, _, at_start sGH r, ⟨?_, ?_, ?_, ?_⟩, h2⟩
  · intro ρ' σ' G' H' a' s' q
    exact hq .none .non G' H' q (a'.toGrow rfl rfl s') .non
  · intro d v ρ' σ' G' H' a' s' i q
    exact hq d v G' H' q (a'.toGrow rfl rfl s') i
  · intro ρ' σ' G' H' a' s' q
    exact q.elim
  · intro ρ' σ' G' H' a' s' q
    exact q.elim
def hide (H : Hp) (a : Addr) : Hp := fun b => if b = a then none else H b
theorem hide_same {H : Hp} {a : Addr} : hide H a a = none := if_pos rfl
theorem hide_ne {H : Hp} {a b : Addr} (h : b ≠ a) : hide H a b = H b := if_neg h
theorem at_startM {N : List Str} {vs : List V} {ds : List D} {d : D} {a : Addr} {G H : Hp} (s : Same G H) (g : G a = none) (o : Own K G H a d) (r : IsAll K G vs ds) : At K ⟨G, G, hide H a, [0], fun _ => a, fun _ _ => False, T⟩ (.own d :: startR (N.length - 1) ds) (L2.start N (.ref a :: vs)) G H where
  len := by
    unfold startR L2.start
    rw [List.length_append, List.length_map, List.length_replicate, List.length_cons, List.length_cons, List.length_append, List.length_map, List.length_replicate, r.length]
    omega
  sl := fun i sl u e1 e2 => by
    have hl := r.length
    unfold startR at e1
    unfold L2.start at e2
    cases i with
    | zero =>
      rw [List.getElem?_cons_zero] at e1
      rw [List.map_cons, List.cons_append, List.getElem?_cons_zero] at e2
      cases e1; cases e2
      exact ⟨a, rfl, g, hide_same, o⟩
    | succ i =>
      rw [List.getElem?_cons_succ] at e1
      rw [List.map_cons, List.cons_append, List.getElem?_cons_succ] at e2
      by_cases hi : i < ds.length
      · rw [List.getElem?_append_left (by simpa using hi), List.getElem?_map] at e1
        rw [List.getElem?_append_left (by rw [List.length_map, hl]; exact hi), List.getElem?_map] at e2
        cases h1 : vs[i]? with
        | none => rw [List.getElem?_eq_none_iff] at h1; omega
        | some v =>
          obtain ⟨d, h2, h3⟩ := r.get h1
          rw [h2] at e1
          rw [h1] at e2
          cases e1; cases e2
          exact ⟨v, rfl, h3⟩
      · rw [List.getElem?_append_right (by simpa using hi), List.getElem?_replicate] at e1
        split at e1
        · cases e1; exact True.intro
        · cases e1
  sep := fun i j di dj p e1 e2 _ _ => by
    have f : ∀ (i : Nat) dd, (Sl.own d :: startR (N.length - 1) ds)[i]? = some (.own dd) → i = 0 := fun i dd e => by
      cases i with
      | zero => rfl
      | succ i =>
        rw [List.getElem?_cons_succ] at e
        unfold startR at e
        by_cases hi : i < ds.length
        · rw [List.getElem?_append_left (by simpa using hi), List.getElem?_map] at e
          cases h : ds[i]? with
          | none => rw [h] at e; cases e
          | some d => rw [h] at e; cases e
        · rw [List.getElem?_append_right (by simpa using hi), List.getElem?_replicate] at e
          split at e <;> cases e
    rw [f i di e1, f j dj e2]
  sub := s
  old := fun _ _ => rfl
  kept := fun b u q => by
    have q : hide H a b = some u := q
    by_cases e : b = a
    · subst e; rw [hide_same] at q; cases q
    · rw [hide_ne e] at q; exact q
  inh := fun i hi => by
    have e : i = 0 := by simpa using hi
    subst e
    unfold L2.start
    rfl
  bas := Same.refl _
/-- a def whose first argument is its caller's own thing, which it changes -/
theorem pf_ofM {x qual : Str} {st : Stmt} {f : Addr} {fd : FuncData} {N ps : List Str} {k n : Nat} {c : DCM} (F : Fun K x qual st f fd) (S : FnScope N ps (defScope st)) (hn : ps.length = n + 1) (hm : mg x = some (.ref f)) (hb : Binds K fd ps [])
    (bl : ∀ x : Str, bnames.contains x = true → mg x = none) (len : ∀ d ds kq, c d ds kq → ds.length = n)
    (body : ∀ (A : Around) (outer : List Env) (s : Shared) (H G : Hp) (a : Addr) (E : XK) (d : D) (ds : List D) (kq : D → D → Prop), c d ds kq → Cok k (cxD P w K mg base N qual st f fd.code A outer s H E) ⟨G, G, hide H a, [0], fun _ => a, fun _ _ => False, T⟩ →
      Takes (cxD P w K mg base N qual st f fd.code A outer s H E) (liftW K ⟨G, G, hide H a, [0], fun _ => a, fun _ _ => False, T⟩) →
      ∃ t, DSs (cxD P w K mg base N qual st f fd.code A outer s H E) ⟨G, G, hide H a, [0], fun _ => a, fun _ _ => False, T⟩ (defBody st) t ∧ t { nx := fun ρ => ownD ρ 0 fun d' => kq .none d', rt := fun r ρ => ownD ρ 0 fun d' => kq r d' } (.own d :: startR (N.length - 1) ds)) : PfM P w K mg base T (k + 1) x (n + 1) c := by
  refine ⟨f, fd, ps, hn, fun_okC F S (fun vs H Q E ⟨_, G, d, ds, a, vs', kq, e, _, _, _, r, hc, _⟩ => by rw [e, List.length_cons, r.length, len _ _ _ hc, hn]) (fun A outer s H vs Q E hr hsp => ?_), hm, F.kp, hb⟩
  obtain ⟨htab, G, d, ds, a, vs', kq, rfl, sGH, ga, ow, r, hc, hq⟩ := hsp
  have tk : Takes (cxD P w K mg base N qual st f fd.code A outer s H E) (liftW K ⟨G, G, hide H a, [0], fun _ => a, fun _ _ => False, T⟩) := by
    refine (takes_of (E := E) rfl rfl rfl rfl).imp ?_
    rintro cls d σ' H' ⟨ρ', G', ex, a', xi, hw⟩
    exact hw.elim
  have gh : Same G (hide H a) := fun b u q => by rw [hide_ne (ne_of_none q ga)]; exact sGH b u q
  have htab' : Tabs T (hide H a) := fun P hP => by
    rw [hide_ne (fun z => ?_)]
    · exact htab P hP
    · have q := htab P hP
      rw [z] at q
      rcases ow with ⟨_, _, _, h, _⟩ | ⟨_, _, _, _, _, h, _⟩ | ⟨_, _, _, _, _, h, _⟩ <;> (rw [h] at q; cases q)
  obtain ⟨t, h1, h2⟩ := body A outer s H G a E d ds kq hc ⟨rfl, S.nd, hr, ⟨gh, htab'⟩, PassesOwn.leaving, bl, fun σ => passAt tk σ⟩ tk
  have fin : ∀ {v : V} {dr : D} {ρ' : Ro} {σ' : L2.St} {G' H' : Hp}, At K ⟨G, G, hide H a, [0], fun _ => a, fun _ _ => False, T⟩ ρ' σ' G' H' → Same G G' → Is K G' v dr → ownD ρ' 0 (fun d' => kq dr d') → Q v H' := by
    intro v dr ρ' σ' G' H' a' s' i q
    obtain ⟨d', e, q⟩ := q.to
    obtain ⟨p, e1, g1, _, ow'⟩ := a'.own e
    have e2 := a'.inh 0 (by simp)
    rw [e1] at e2
    cases e2
    refine hq dr d' v G' H' q ⟨s', fun b o hb e => a'.kept b o (by show hide H a b = some o; rw [hide_ne hb]; exact e), a'.sub, fun b hb => ?_⟩ ow' i
    by_cases eb : b = a
    · subst eb; rw [g1, ga]
    · exact a'.old b (by show hide H a b ≠ none; rw [hide_ne eb]; exact hb)
  refine ⟨_, h1.ps, _, G, _, at_startM sGH ga ow r, ⟨?_, ?_, ?_, ?_⟩, h2⟩
  · intro ρ' σ' G' H' a' s' q
    exact fin a' s' .non q
  · intro d v ρ' σ' G' H' a' s' i q
    exact fin a' s' i q
  · intro ρ' σ' G' H' a' s' q
    exact q.elim
  · intro ρ' σ' G' H' a' s' q
    exact q.elim
end
end Dn
/-! Dn: built-in calls. -/
namespace Dn
open PySem PySem.Spec PyProof.Rows L2

/-! ### list(reversed(a list)), at the machine -/
section
variable {prog : Program} {w : World} {A : Around} {E : Value → Shared → Prop} {s : Shared}
theorem ext_rev {R : Result → Shared → Prop} {it l S : Addr} {items : Array Value} {c₀ : Nat} (hh : A.in1.handled = none) (hit : s.heap.IsRevIter it l ((items.size : Int) - 1)) (hl : s.heap.IsList l items) (hne : l ≠ it) (hSi : S ≠ it) (hSl : S ≠ l) (hn : items.size ≤ sizeLine)
    (hS : s.heap.get? S = some { cls := .type "list", data := .seq #[] c₀ })
    (hR : ∀ h' tk acc' c', (∀ b o, b ≠ it → b ≠ S → s.heap.get? b = some o → h'.get? b = some o) → h'.get? S = some { cls := .type "list", dict := none, data := .seq acc' c', slots := #[] } → ItemsOf (fun i v => items[items.size - 1 - i]? = some v) acc' items.size → R (.ok (.ret .none)) { s with heap := h', toks := tk }) :
    wpAny (model prog w) A.in1 (Builtin.List.listExtendWith (.ref S) (.ref it) .none)
      (fun fin s' => match fin with | .done f => R (.ok f) s' | .again c' => c'.quiet = true ∧ codeAny (model prog w) A c' R s') (fun e s' => R (.error e) s') s := by
  have W := (Walks.listRev (prog := prog) (w := w) (A := A.in1) hh it l hne items).toS
  have hSf : S ∉ [it, l] := by simp only [List.mem_cons, List.not_mem_nil, or_false, not_or]; exact ⟨hSi, hSl⟩
  have hT : s.TypeIs (.ref it) "list_reverseiterator" := hit.typeIs
  have same0 : Builtin.List.listSameRef (.ref S) (.ref it) = false := by simp [Builtin.List.listSameRef, hSi]
  unfold Builtin.List.listExtendWith
  refine wpAny_bind (wpAny_typeOf hT ?_)
  rw [if_neg (by rw [same0]; decide)]
  refine wpAny_bind (wpAny_pyIter_revIter hit ?_)
  refine wpAny_bind (wpAny_holding ?_)
  unfold Builtin.List.listLengthHint
  refine wpAny_bind (wpAny_specialOf hT RT.nolen_lri ?_)
  show wpAny _ _ (specialOf (Value.ref it) (Str.ofString "__length_hint__") >>= _) _ _ _
  refine wpAny_bind (wpAny_specialOf hT RT.hint_lri ?_)
  generalize hid : ("list_reverseiterator.__length_hint__" : String) = id0
  wp_delta
  rw [show splitId id0 = some ("list_reverseiterator", "__length_hint__") from by subst hid; decide +kernel]
  subst hid
  refine wpAny_bind (wpAny_isInstance (b := true) hT (by rw [isSubtype_type]; kernel_rfl) ?_)
  refine wpAny_pure ?_
  rw [if_neg (by decide)]
  refine wpAny_pure ⟨plainId_quiet F.plain_extend_loop _, codeAny_extend_loopS W hn _ hSf _ items.size 0 _ _ _ rfl (Nat.zero_le _) ⟨Nat.zero_le _, by rw [Int.natCast_zero, Int.sub_zero]; exact hit, hl⟩ hS (ItemsOf.nil _) fun s' acc' c' hm hS' hacc => ?_⟩
  rw [Moved.eq_with hm]
  refine hR s'.heap s'.toks acc' c' (fun b o hb hb2 e => hm.heap b o (fun z => ?_) e) hS' hacc
  rcases List.mem_cons.mp z with z | z
  · exact hb2 z
  · exact hb (List.mem_singleton.mp z)
theorem list_of_rev {it l : Addr} {items : Array Value} {Q : Value → Shared → Prop} (hh : A.handled = none) (hit : s.heap.IsRevIter it l ((items.size : Int) - 1)) (hl : s.heap.IsList l items) (hne : l ≠ it) (hn : items.size ≤ sizeLine)
    (hQ : ∀ (h' : Heap) (tk : Nat) (acc : Array Value) (c' : Nat), (∀ b o, b ≠ it → s.heap.get? b = some o → h'.get? b = some o) → h'.get? s.heap.objs.size = some { cls := .type "list", dict := none, data := .seq acc c', slots := #[] } → ItemsOf (fun i v => items[items.size - 1 - i]? = some v) acc items.size →
      Q (.ref s.heap.objs.size) { s with heap := h', toks := tk }) :
    wpAny (model prog w) A (call (.type "list") [.ref it]) Q E s := by
  obtain ⟨oi, hoi, _⟩ := id hit
  obtain ⟨ol, hol, _⟩ := id hl
  refine callType_codes (Q₁ := fun obj s₁ => obj = .ref s.heap.objs.size ∧ s₁ = { s with heap := s.heap.push { cls := .type "list", data := .seq #[] } }) F.called_list (F.typeCall_list_1 _) F.entry_list_init
    (code_list_new _ ⟨rfl, rfl⟩) fun obj s₁ h₁ => ?_
  obtain ⟨rfl, rfl⟩ := h₁
  have hS : (s.heap.push { cls := .type "list", data := .seq #[] }).get? s.heap.objs.size = some { cls := .type "list", data := .seq #[] } := Heap.get?_push_size _ rfl
  refine ⟨⟨_, hS, rfl⟩, F.args_list_init_2 _ _, ?_⟩
  show wpAny _ _ (do let old ← Builtin.List.listItems (.ref s.heap.objs.size); Builtin.List.listUpdate (.ref s.heap.objs.size) (fun _ => #[]); letGo old.toList.reverse; Builtin.List.listExtendWith (.ref s.heap.objs.size) (.ref it) .none) _ _ _
  refine wpAny_bind ?_
  unfold Builtin.List.listItems
  refine wpAny_bind (wpAny_seqItems hS rfl (wpAny_pure ?_))
  show wpAny _ _ (updateSeq s.heap.objs.size (fun _ => #[]) >>= fun _ => letGo (#[] : Array Value).toList.reverse >>= fun _ => Builtin.List.listExtendWith (.ref s.heap.objs.size) (.ref it) .none) _ _ _
  refine wpAny_bind (wpAny_updateSeq hS rfl ?_)
  refine wpAny_bind (wpAny_letGo ?_)
  have nei : it ≠ s.heap.objs.size := Nat.ne_of_lt (Heap.lt_size hoi)
  have nel : l ≠ s.heap.objs.size := Nat.ne_of_lt (Heap.lt_size hol)
  have keep : ∀ b o, b ≠ s.heap.objs.size → s.heap.get? b = some o → ((s.heap.push { cls := .type "list", data := .seq #[] }).update s.heap.objs.size (Obj.mapSeq (fun _ => (#[] : Array Value)))).get? b = some o :=
    fun b o hb e => (Heap.get?_update_other _ _ (Ne.symm hb)).trans (Heap.get?_push_of_some _ e)
  refine ext_rev (s := { s with heap := _ }) (A := A.in1) hh (hit.at fun o e => keep _ o nei e) ?_ hne (Ne.symm nei) (Ne.symm nel) hn (Heap.get?_update_self (Obj.mapSeq (fun _ => (#[] : Array Value))) hS rfl) fun h' tk acc' c' hk hS' hacc => ?_
  · obtain ⟨o, e, r⟩ := id hl
    exact ⟨o, keep _ o nel e, r⟩
  · exact ⟨rfl, hQ h' tk acc' c' (fun b o hb e => hk b o hb (Nat.ne_of_lt (Heap.lt_size e)) (keep b o (Nat.ne_of_lt (Heap.lt_size e)) e)) hS' hacc⟩
end

section
variable {X : Cx} {Γ : Gm} {k j n : Nat} {a b e : Expr} {es : List Expr} {st : Stmt} {rest body orelse : List Stmt} {pos : Pos} {t u : TDS}
theorem nb (c : Cok k X Γ) {x : Str} (h : bnames.contains x = true := by decide +kernel) : X.mg x = none := c.bl x h
/-! ### len, abs, int, bool -/
def lenD : OpN
  | [.str x], Q => x.length ≤ 16777216 ∧ Q (.int x.length)
  | [.list xs], Q => Q (.int xs.length)
  | [.tuple xs], Q => Q (.int xs.length)
  | _, _ => False
theorem isxs_1 {K : PySem.W.Frag} {G H : Hp} {vs : List V} {d : D} (h : IsXs K G H vs [d]) : ∃ v, vs = [v] ∧ IsX K G H v d := by
  cases h with
  | cons h1 h2 => cases h2; exact ⟨_, rfl, h1⟩
theorem isxs_2 {K : PySem.W.Frag} {G H : Hp} {vs : List V} {d e : D} (h : IsXs K G H vs [d, e]) : ∃ v u, vs = [v, u] ∧ IsX K G H v d ∧ IsX K G H u e := by
  cases h with
  | cons h1 h2 =>
    obtain ⟨u, rfl, h3⟩ := isxs_1 h2
    exact ⟨_, _, rfl, h1, h3⟩
theorem cd_len : CallD X (.builtin "len") lenD := by
  refine CallD.of call_len ?_
  rintro vs H Q ⟨G, ds, k, s, hx, h, fin⟩
  unfold lenD at h
  split at h
  · rename_i x
    obtain ⟨v, rfl, hv⟩ := isxs_1 hx
    exact ⟨v, x.length, rfl, by rw [hv.str]; exact ⟨line_le h.1, rfl⟩, fin _ _ G H h.2 (.refl s) (.int _)⟩
  · rename_i xs
    obtain ⟨v, rfl, hv⟩ := isxs_1 hx
    obtain ⟨p, us, rfl, h1, h2⟩ := hv.list s
    exact ⟨_, xs.length, rfl, .inl ⟨us, .of h1, h2.length.symm⟩, fin _ _ G H h (.refl s) (.int _)⟩
  · rename_i xs
    obtain ⟨v, rfl, hv⟩ := isxs_1 hx
    obtain ⟨p, us, rfl, h1, h2⟩ := hv.tup
    exact ⟨_, xs.length, rfl, .inr ⟨us, Same.sqt s h1, h2.length.symm⟩, fin _ _ G H h (.refl s) (.int _)⟩
  · exact h.elim
def absD : OpN
  | [.int i], Q => Q (.int (if i < 0 then -i else i))
  | _, _ => False
theorem cd_abs : CallD X (.builtin "abs") absD := by
  refine CallD.of call_abs ?_
  rintro vs H Q ⟨G, ds, k, s, hx, h, fin⟩
  unfold absD at h
  split at h
  · rename_i i
    obtain ⟨v, rfl, hv⟩ := isxs_1 hx
    rw [hv.int]
    exact ⟨i, rfl, fin _ _ G H h (.refl s) (.int _)⟩
  · exact h.elim
def intD : OpN
  | [.int i], Q => Q (.int i)
  | [.bool b], Q => Q (.int (if b then 1 else 0))
  | [.str x], Q => x.length ≤ 640 ∧ optD (PySem.intText? x) fun n => Q (.int n)
  | _, _ => False
theorem cd_int : CallD X (.type "int") intD := by
  refine CallD.of (call_int1.or call_int_str) ?_
  rintro vs H Q ⟨G, ds, k, s, hx, h, fin⟩
  unfold intD at h
  split at h
  · rename_i i
    obtain ⟨v, rfl, hv⟩ := isxs_1 hx
    rw [hv.int]
    exact .inl (.inl ⟨i, rfl, fin _ _ G H h (.refl s) (.int _)⟩)
  · rename_i i
    obtain ⟨v, rfl, hv⟩ := isxs_1 hx
    rw [hv.bl]
    exact .inl (.inr ⟨i, rfl, fin _ _ G H h (.refl s) (.int _)⟩)
  · rename_i x
    obtain ⟨v, rfl, hv⟩ := isxs_1 hx
    rw [hv.str]
    obtain ⟨n, h1, h2⟩ := optD.to h.2
    exact .inr ⟨x, n, rfl, h1, h.1, fin _ _ G H h2 (.refl s) (.int _)⟩
  · exact h.elim
/-! ### isinstance -/
inductive TyN where
  | int | bool | str | tuple | list | dict
def TyN.name : TyN → String
  | .int => "int"
  | .bool => "bool"
  | .str => "str"
  | .tuple => "tuple"
  | .list => "list"
  | .dict => "dict"
def isT : TyN → D → Bool
  | .int, .int _ => true
  | .int, .bool _ => true
  | .bool, .bool _ => true
  | .str, .str _ => true
  | .tuple, .tuple _ => true
  | .list, .list _ => true
  | .dict, .dict _ => true
  | _, _ => false
def tyT : D → String
  | .none => "NoneType"
  | .bool _ => "bool"
  | .int _ => "int"
  | .str _ => "str"
  | .list _ => "list"
  | .tuple _ => "tuple"
  | .dict _ => "dict"
theorem isT_kit (T : TyN) (d : D) : kitB (tyT d) T.name = some (isT T d) := by
  cases T <;> cases d <;> simp only [tyT, TyN.name, isT] <;> decide +kernel
theorem IsX.tyx {K : PySem.W.Frag} {G H : Hp} {v : V} {d : D} (s : Same G H) (h : IsX K G H v d) : TyX K H v (.type (tyT d)) := by
  have dk : ∀ {p : Addr} {kvs : List (Key × V)}, Rd H p (.dK kvs) → TyX K H (.ref p) (.type "dict") := fun r => by
    rcases r with r | ⟨o, r⟩
    · exact .base (.dK r)
    · exact .fDict r
  rcases h with h | ⟨p, rfl, h⟩
  · cases h with
    | non => exact .base .non
    | bl b => exact .base (.bl b)
    | int i => exact .base (.int i)
    | str i => exact .base (.str i)
    | lst h _ => exact .base (.lst (s _ _ h))
    | tup h _ =>
      rcases Same.sqt s h with (h | ⟨o, h⟩) | ⟨o, its, n, h, hc, _⟩
      · exact .base (.tup h)
      · exact .fTuple h
      · exact .kTuple h hc
    | dk h _ _ => exact dk (.of (s _ _ h))
    | dt h _ _ => exact .base (.dT (s _ _ h))
  · rcases h with ⟨xs, es, rfl, h2, h3⟩ | ⟨_, _, _, rfl, _, h, _⟩ | ⟨_, _, _, rfl, _, h, _⟩
    · exact .base (.lst h2)
    · exact .base (.dK h)
    · exact .base (.dT h)
def dIsi (T : TyN) (ta : TB) : TD := fun ρ Q => ta ρ fun x ρ1 => withD ρ1 x fun d => Q (.bool (isT T d)) ρ1
theorem de_isi {T : TyN} {ta : TB} {p p2 : Pos} {nm : Str} (c : Cok k X Γ) (ha : DB X Γ a ta) (hn : bootBuiltins nm = some (.type T.name)) (hgT : Gl X nm := by rfl) (hb : bnames.contains nm = true := by decide +kernel) (hnn : nm ≠ "__name__" := by decide) (hdT : (nm == ("__debug__" : Str)) = false := by decide)
    (hg : Gl X "isinstance" := by rfl) (he : starEach [a, .Name nm p2] X.env = (false, eval a X.env) :: starEach [.Name nm p2] X.env := by rfl) (he2 : starEach [.Name nm p2] X.env = (false, eval (.Name nm p2) X.env) :: starEach [] X.env := by rfl)
    (hpl : (backTo pos (starEach [.Name nm p2] X.env)).any (·.1) = false := by rfl) : DE X Γ (.Call (.Name "isinstance" p) [a, .Name nm p2] [] pos) (dIsi T ta) := by
  refine ⟨pe_imp (pe_callB call_isi hg (nb c) boot_isinstance (pa_cons ha.pe (pa_cons (pe_bltn (v := .ty T.name) hgT (nb c hb) hn rfl hnn hdT) pa_nil he2) he) (by decide) (by decide) he hpl) ?_⟩
  rintro σ H Q ⟨ρ, G, k, at_, h, fin⟩
  refine ⟨ρ, G, _, at_, h, fun x ρ1 v G1 H1 h1 a1 s1 r1 => ?_⟩
  obtain ⟨d, l, h1⟩ := withD.to h1
  have hx := a1.isx r1 l
  exact ⟨v, .ty T.name, _, _, isT T d, rfl, .ty _, hx.tyx a1.sub, kit_ty (isT_kit T d), fin _ _ _ _ _ h1 a1 s1 (.bl _)⟩
/-! ### list, tuple -/
def seqL (d : D) (k : List D → Prop) : Prop := match d with
  | .list xs => k xs
  | .tuple xs => k xs
  | _ => False
def dList (ta : TB) : TD := fun ρ Q => ta ρ fun x ρ1 => withD ρ1 x fun d => seqL d fun xs => Q (.list xs) ρ1
theorem df_list {ta : TB} {p : Pos} (c : Cok k X Γ) (ha : DB X Γ a ta) (hg : Gl X "list" := by rfl) (he : starEach [a] X.env = (false, eval a X.env) :: starEach [] X.env := by rfl) (hpl : (backTo pos (starEach [] X.env)).any (·.1) = false := by rfl) : DF X Γ (.Call (.Name "list" p) [a] [] pos) (dList ta) := by
  refine ⟨pe_imp (pe_callTy call_list_of hg (nb c) boot_list (pa_cons ha.pe pa_nil he) (by decide) (by decide) he hpl) ?_⟩
  rintro σ H Q ⟨ρ, G, k, at_, h, fin⟩
  refine ⟨ρ, G, _, at_, h, fun x ρ1 v G1 H1 h1 a1 s1 r1 => ?_⟩
  obtain ⟨d, l, h1⟩ := withD.to h1
  have hx := a1.isx r1 l
  have go : ∀ {xs : List V} {ds : List D}, IsAll X.K G1 xs ds → k (.list ds) ρ1 → ∀ q, H1 q = none → Q (.ref q) (upd H1 q (.lst xs)) := by
    intro xs ds r hk q hq
    obtain ⟨a2, g0, h0, hno⟩ := a1.fresh (o := .lst xs) hq
    exact fin _ _ q _ _ hk a2 s1 g0 h0 (.inl ⟨xs, ds, rfl, upd_same, r⟩) hno
  cases d with
  | list ds =>
    obtain ⟨p, xs, rfl, h2, h3⟩ := hx.list a1.sub
    exact ⟨p, xs, rfl, .inl (.of h2), go h3 h1⟩
  | tuple ds =>
    obtain ⟨p, xs, rfl, h2, h3⟩ := hx.tup
    exact ⟨p, xs, rfl, .inr (Same.sqt a1.sub h2), go h3 h1⟩
  | _ => exact (show False from h1).elim
/-- list(script): a list that is only read -/
def dListS (i : Nat) : TD := fun ρ Q => match ρ[i]? with
  | some (.seq ds) => Q (.list ds) ρ
  | _ => False
theorem df_listS {i : Nat} {x : Str} {p p1 : Pos} (c : Cok k X Γ) (hN : X.N[i]? = some x := by rfl) (hv : Vis X.env.scope x := by first | exact Or.inl rfl | exact Or.inr (Or.inl rfl) | exact Or.inr (Or.inr rfl)) (hd : (x == ("__debug__" : Str)) = false := by decide)
    (hcd : (x == ("__classdict__" : Str)) = false := by decide) (hg : Gl X "list" := by rfl) (he : starEach [.Name x p1] X.env = (false, eval (.Name x p1) X.env) :: starEach [] X.env := by rfl) (hpl : (backTo pos (starEach [] X.env)).any (·.1) = false := by rfl) : DF X Γ (.Call (.Name "list" p) [.Name x p1] [] pos) (dListS i) := by
  refine ⟨pe_imp (pe_callTy call_list_of hg (nb c) boot_list (pa_cons (pe_var (i := i) hN hv hd hcd) pa_nil he) (by decide) (by decide) he hpl) ?_⟩
  rintro σ H Q ⟨ρ, G, k, at_, h, fin⟩
  unfold dListS at h
  split at h
  · rename_i ds q
    obtain ⟨o, e⟩ := at_.lt q
    obtain ⟨p, xs, e1, e2, e3⟩ := at_.sl i _ o q e
    refine ⟨_, by rw [e, e1], p, xs, rfl, .inl (at_.sub.seq e2), fun q hq => ?_⟩
    obtain ⟨a2, g0, h0, hno⟩ := at_.fresh (o := .lst xs) hq
    exact fin _ _ q _ _ h a2 (Same.refl _) g0 h0 (.inl ⟨xs, ds, rfl, upd_same, e3⟩) hno
  · exact h.elim
def tupD : OpN
  | [.list xs], Q => Q (.tuple xs)
  | [.tuple xs], Q => Q (.tuple xs)
  | _, _ => False
theorem cd_tuple : CallD X (.type "tuple") tupD := by
  refine CallD.of call_tuple_of ?_
  rintro vs H Q ⟨G, ds, k, s, hx, h, fin⟩
  unfold tupD at h
  split at h
  · rename_i xs
    obtain ⟨v, rfl, hv⟩ := isxs_1 hx
    obtain ⟨p, us, rfl, h1, h2⟩ := hv.list s
    refine ⟨p, us, rfl, .inl ⟨.of h1, fun q hq => ?_⟩⟩
    have g := Grow.laid (o := .tup us) s hq
    exact fin _ _ _ _ h g (.tup upd_same (h2.mono g.gg))
  · rename_i xs
    obtain ⟨v, rfl, hv⟩ := isxs_1 hx
    obtain ⟨p, us, rfl, h1, h2⟩ := hv.tup
    exact ⟨p, us, rfl, .inr ⟨Same.sqt s h1, fin _ _ G H h (.refl s) (.tup h1 h2)⟩⟩
  · exact h.elim
/-- list(reversed(a list)) -/
def dListR (ta : TB) : TD := fun ρ Q => ta ρ fun x ρ1 => withD ρ1 x fun d => match d with
  | .list xs => Q (.list xs.reverse) ρ1
  | _ => False
theorem df_listR {ta : TB} {p p2 pos2 : Pos} (c : Cok k X Γ) (ha : DB X Γ a ta) (hg : Gl X "list" := by rfl) (hg2 : Gl X "reversed" := by rfl) (hs : starEach [a] X.env = (false, eval a X.env) :: starEach [] X.env := by rfl)
    (hs2 : starEach [.Call (.Name "reversed" p2) [a] [] pos2] X.env = (false, eval (.Call (.Name "reversed" p2) [a] [] pos2) X.env) :: starEach [] X.env := by rfl) : DF X Γ (.Call (.Name "list" p) [.Call (.Name "reversed" p2) [a] [] pos2] [] pos) (dListR ta) := by
  refine ⟨⟨fun pins s σ H Q I h => ?_⟩⟩
  obtain ⟨ρ, G, k, at_, h, fin⟩ := h
  refine Call_ (ld_blt I hg (nb c) boot_list (PyProof.Rows.callWith_type1 (args_cons (Call_ (ld_blt I hg2 (nb c) PyProof.Rows.boot_reversed (PyProof.Rows.callWith_type1 (args_cons (thn (ha.pe.run pins s σ H (fun v H1 => ∃ ρ1 G1 ds, At X.K Γ ρ1 σ G1 H1 ∧ Same G G1 ∧ IsX X.K G1 H1 v (.list ds) ∧ k (.list ds.reverse) ρ1) I ⟨ρ, G, _, at_, h, fun x ρ1 v G1 H1 h1 a1 s1 r1 => ?_⟩)
    fun u s1 ⟨v, H1, I1, r1, q1⟩ => args_nil ?_) hs) hs rfl))) hs2) hs2 rfl))
  · obtain ⟨d, l, h1⟩ := withD.to h1
    cases d with
    | list ds => exact ⟨ρ1, G1, ds, a1, s1, a1.isx r1 l, h1⟩
    | _ => exact (show False from h1).elim
  · obtain ⟨ρ1, G1, ds, a1, s1', hx, hk⟩ := q1
    obtain ⟨p, xs, rfl, hp, rx⟩ := hx.list a1.sub
    obtain rfl : u = Value.ref p := r1
    obtain ⟨its, rv, p', hz⟩ := I1.list (SqL.of hp)
    refine call_reversed_list p'.isList (args_nil ?_)
    have hl := p'.isList
    obtain ⟨ol, hol, _⟩ := id hl
    have I2 : Inv X pins σ H1 { s1 with heap := s1.heap.push (revObj p ((its.toArray.size : Int) - 1)) } := I1.kept (t' := s1.toks) fun b o e => Heap.get?_push_of_some _ e
    obtain ⟨f0, f1, f2, f3, f4, f5⟩ := I1.fpOk (H' := H1) (b := s1.heap.objs.size) (Nat.le_refl _) (I1.hok.fresh (Nat.le_refl _))
    have hn : its.toArray.size ≤ sizeLine := by rw [List.size_toArray, ← rv.length]; exact hz
    refine list_of_rev (s := { s1 with heap := s1.heap.push (revObj p ((its.toArray.size : Int) - 1)) }) (I1.ok.hd c.calm) ⟨_, Heap.get?_push_size _ rfl, rfl, rfl⟩ (hl.push _) (Nat.ne_of_lt (Heap.lt_size hol)) hn fun h' tk acc c' hkp hnew hi => ?_
    have hq : H1 (s1.heap.push (revObj p ((its.toArray.size : Int) - 1))).objs.size = none := I2.hok.fresh (Nat.le_refl _)
    obtain ⟨a2, g0, h0, hno⟩ := a1.fresh (o := .lst xs.reverse) hq
    have lz : xs.reverse.length ≤ sizeLine := by rw [List.length_reverse]; exact hz
    have I3 := I2.turnedNew (t' := tk) (h' := h') (ch := [s1.heap.objs.size]) (T := (s1.heap.push (revObj p ((its.toArray.size : Int) - 1))).objs.size) (ob := .lst xs.reverse) (fun b o hb e => hkp b o (fun z => hb (by rw [z]; exact List.mem_cons_self)) e)
      (fun b hb => by
        have e : b = s1.heap.objs.size := by simpa using hb
        subst e
        exact I1.fpOk (Nat.le_refl _) (I1.hok.fresh (Nat.le_refl _))) (Nat.le_refl _) ⟨lz, acc.toList, c', RT.vals_rev rv hi, by rw [Array.toArray_toList]; exact hnew⟩
    exact ⟨.ref (s1.heap.push (revObj p ((its.toArray.size : Int) - 1))).objs.size, _, I3, rfl, fin _ _ _ _ _ hk a2 s1' g0 h0 (.inl ⟨xs.reverse, ds.reverse, rfl, upd_same, rx.reverse⟩) hno⟩

/-! ### any, all, sum, in -/
def boolsOf : List D → Option (List Bool)
  | [] => some []
  | .bool b :: r => (boolsOf r).map (b :: ·)
  | _ :: _ => none
theorem boolsOf_eq : ∀ {ds : List D} {bs : List Bool}, boolsOf ds = some bs → ds = bs.map PyData.bool
  | [], bs, h => by cases h; rfl
  | d :: r, bs, h => by
    cases d with
    | bool b =>
      have h : (boolsOf r).map (b :: ·) = some bs := h
      cases e : boolsOf r with
      | none => rw [e] at h; cases h
      | some cs =>
        rw [e] at h
        cases h
        rw [boolsOf_eq e]; rfl
    | _ => cases h
theorem boolsOf_map {α : Type} (p : α → Bool) : ∀ xs : List α, boolsOf (xs.map fun x => PyData.bool (p x)) = some (xs.map p)
  | [] => rfl
  | x :: xs => by
    show (boolsOf (xs.map fun x => PyData.bool (p x))).map (p x :: ·) = _
    rw [boolsOf_map p xs]; rfl
def anyD : OpN
  | [.list xs], Q => optD (boolsOf xs) fun bs => Q (.bool (bs.any id))
  | _, _ => False
def allD : OpN
  | [.list xs], Q => optD (boolsOf xs) fun bs => Q (.bool (bs.all id))
  | _, _ => False
theorem cd_any (c : Cok k X Γ) : CallD X (.builtin "any") anyD := by
  refine CallD.of (cr_any c.calm) ?_
  rintro vs H Q ⟨G, ds, k, s, hx, h, fin⟩
  unfold anyD at h
  split at h
  · rename_i xs
    obtain ⟨bs, e, h⟩ := optD.to h
    obtain ⟨v, rfl, hv⟩ := isxs_1 hx
    obtain ⟨p, us, rfl, h1, h2⟩ := hv.list s
    rw [boolsOf_eq e] at h2
    rw [IsAll.bls h2] at h1
    exact ⟨p, bs, rfl, .of h1, fin _ _ G H h (.refl s) (.bl _)⟩
  · exact h.elim
theorem cd_all (c : Cok k X Γ) : CallD X (.builtin "all") allD := by
  refine CallD.of (cr_all c.calm) ?_
  rintro vs H Q ⟨G, ds, k, s, hx, h, fin⟩
  unfold allD at h
  split at h
  · rename_i xs
    obtain ⟨bs, e, h⟩ := optD.to h
    obtain ⟨v, rfl, hv⟩ := isxs_1 hx
    obtain ⟨p, us, rfl, h1, h2⟩ := hv.list s
    rw [boolsOf_eq e] at h2
    rw [IsAll.bls h2] at h1
    exact ⟨p, bs, rfl, .of h1, fin _ _ G H h (.refl s) (.bl _)⟩
  · exact h.elim
/-- x in a list, a tuple of data; in a text -/
def inD : Op2
  | d, .list xs, Q => dep 20 d = true ∧ xs.all (dep 19) = true ∧ Q (.bool (xs.any fun z => PyData.eqv z d))
  | d, .tuple xs, Q => dep 20 d = true ∧ xs.all (dep 19) = true ∧ Q (.bool (xs.any fun z => PyData.eqv z d))
  | .str x, .str y, Q => Q (.bool (!(Builtin.Str.occurrences y x 0 y.length 1).isEmpty))
  | _, _, _ => False
def ninD : Op2
  | d, .list xs, Q => dep 20 d = true ∧ xs.all (dep 19) = true ∧ Q (.bool (!xs.any fun z => PyData.eqv z d))
  | d, .tuple xs, Q => dep 20 d = true ∧ xs.all (dep 19) = true ∧ Q (.bool (!xs.any fun z => PyData.eqv z d))
  | .str x, .str y, Q => Q (.bool (!(!(Builtin.Str.occurrences y x 0 y.length 1).isEmpty)))
  | _, _, _ => False
def rInT (K : PySem.W.Frag) : R2 := fun x y H Q => ∃ d ds, Dp K H x d ∧ Dp K H y (.tuple ds) ∧ SeqAt.shaped d = true ∧ SeqAt.shaped (.tuple ds) = true ∧ Q (.bl (ds.any fun z => PyData.eqv z d)) H
def rNotInT (K : PySem.W.Frag) : R2 := fun x y H Q => ∃ d ds, Dp K H x d ∧ Dp K H y (.tuple ds) ∧ SeqAt.shaped d = true ∧ SeqAt.shaped (.tuple ds) = true ∧ Q (.bl (!ds.any fun z => PyData.eqv z d)) H
theorem op_inT (hu : X.A.units + 65 < cLine) : OpR X (compareOp .In) (rInT X.K) := by
  intro pins s σ H x y v u Q I rx ry h
  obtain ⟨d, ds, hd, he, sd, se, q⟩ := h
  obtain ⟨as, r1⟩ := Dp.reads I d x v hd rx
  obtain ⟨bs, r2⟩ := Dp.reads I (.tuple ds) y u he ry
  exact SeqAt.in_tuple_reads r2 r1 (SeqAt.canLay_of_shaped se) (SeqAt.canLay_of_shaped sd) (room_in_shaped sd hu) ⟨.bl _, H, I, rfl, q⟩
theorem op_notInT (hu : X.A.units + 65 < cLine) : OpR X (compareOp .NotIn) (rNotInT X.K) := by
  intro pins s σ H x y v u Q I rx ry h
  obtain ⟨d, ds, hd, he, sd, se, q⟩ := h
  obtain ⟨as, r1⟩ := Dp.reads I d x v hd rx
  obtain ⟨bs, r2⟩ := Dp.reads I (.tuple ds) y u he ry
  exact SeqAt.notIn_tuple_reads r2 r1 (SeqAt.canLay_of_shaped se) (SeqAt.canLay_of_shaped sd) (room_in_shaped sd hu) ⟨.bl _, H, I, rfl, q⟩
theorem od_in (c : Cok k X Γ) : OpD X (compareOp .In) inD := by
  refine OpD.or ((op_inD c.hu).or ((op_inT c.hu).or op_in_str)) ?_
  rintro x y H Q ⟨G, d, e, k, s, hx, hy, h, fin⟩
  unfold inD at h
  split at h
  · have h2 : dep 20 (.list _) = true := h.2.1
    exact .inl ⟨_, _, (hx.is s).dp (dep_depth _ _ h.1).1, (hy.is s).dp (dep_depth _ _ h2).1, shaped_of h.1 (by decide), shaped_of h2 (by decide), fin _ _ G H h.2.2 (.refl s) (.bl _)⟩
  · have h2 : dep 20 (.tuple _) = true := h.2.1
    exact .inr (.inl ⟨_, _, (hx.is s).dp (dep_depth _ _ h.1).1, (hy.is s).dp (dep_depth _ _ h2).1, shaped_of h.1 (by decide), shaped_of h2 (by decide), fin _ _ G H h.2.2 (.refl s) (.bl _)⟩)
  · exact .inr (.inr ⟨_, _, hx.str, hy.str, fin _ _ G H h (.refl s) (.bl _)⟩)
  · exact h.elim
theorem od_notin (c : Cok k X Γ) : OpD X (compareOp .NotIn) ninD := by
  refine OpD.or ((op_notInD c.hu).or ((op_notInT c.hu).or op_notin_str)) ?_
  rintro x y H Q ⟨G, d, e, k, s, hx, hy, h, fin⟩
  unfold ninD at h
  split at h
  · have h2 : dep 20 (.list _) = true := h.2.1
    exact .inl ⟨_, _, (hx.is s).dp (dep_depth _ _ h.1).1, (hy.is s).dp (dep_depth _ _ h2).1, shaped_of h.1 (by decide), shaped_of h2 (by decide), fin _ _ G H h.2.2 (.refl s) (.bl _)⟩
  · have h2 : dep 20 (.tuple _) = true := h.2.1
    exact .inr (.inl ⟨_, _, (hx.is s).dp (dep_depth _ _ h.1).1, (hy.is s).dp (dep_depth _ _ h2).1, shaped_of h.1 (by decide), shaped_of h2 (by decide), fin _ _ G H h.2.2 (.refl s) (.bl _)⟩)
  · exact .inr (.inr ⟨_, _, hx.str, hy.str, fin _ _ G H h (.refl s) (.bl _)⟩)
  · exact h.elim
/-! ### new lists by + and * -/
theorem df_bin {op : Operator} {r : R2} {f : Op2} {ta tb : TB} (ho : OpR X (binaryOp op) r) (ha : DB X Γ a ta) (hb : DB X Γ b tb)
    (i : ∀ x y H Q, (∃ G d e k, Same G H ∧ IsX X.K G H x d ∧ IsX X.K G H y e ∧ f d e k ∧ ∀ ds xs, k (.list ds) → IsAll X.K G xs ds → ∀ p, H p = none → Q (.ref p) (upd H p (.lst xs))) → r x y H Q) : DF X Γ (.BinOp a op b pos) (dBin f ta tb) := by
  refine ⟨pe_imp (pe_op ho ha.pe hb.pe) ?_⟩
  rintro σ H Q ⟨ρ, G, k, at_, h, fin⟩
  refine ⟨ρ, G, _, at_, h, fun x ρ1 v1 G1 H1 h1 a1 s1 r1 => ⟨ρ1, G1, _, a1, h1, fun y ρ2 v2 G2 H2 h2 a2 s2 r2 => ?_⟩⟩
  obtain ⟨d, l1, h2⟩ := withD.to h2
  obtain ⟨e, l2, h2⟩ := withD.to h2
  refine i _ _ _ _ ⟨G2, d, e, _, a2.sub, a2.isx (r1.mono s2) l1, a2.isx r2 l2, h2, fun ds xs hk r p hp => ?_⟩
  obtain ⟨a3, g0, h0, hno⟩ := a2.fresh (o := .lst xs) hp
  exact fin _ _ p _ _ hk a3 (s1.trans s2) g0 h0 (.inl ⟨xs, ds, rfl, upd_same, r⟩) hno
theorem df_cat {ta tb : TB} (ha : DB X Γ a ta) (hb : DB X Γ b tb) : DF X Γ (.BinOp a .Add b pos) (dBin addL ta tb) := by
  refine df_bin op_cat ha hb ?_
  rintro x y H Q ⟨G, d, e, k, s, hx, hy, h, fin⟩
  cases d with
  | list xs =>
    cases e with
    | list ys =>
      obtain ⟨p, us, rfl, h1, h2⟩ := hx.list s
      obtain ⟨q, ws, rfl, h3, h4⟩ := hy.list s
      exact ⟨p, q, us, ws, rfl, rfl, h1, h3, line_le (by rw [h2.length, h4.length]; exact h.1), fun p hp => fin _ _ h.2 (h2.append h4) p hp⟩
    | _ => exact (show False from h).elim
  | _ => exact (show False from h).elim
def repL : Op2
  | .list xs, .int n, Q => (-(2 ^ 63) ≤ n ∧ n < 2 ^ 63 ∧ xs.length * n.toNat ≤ 16777216) ∧ Q (.list (List.replicate n.toNat xs).flatten)
  | _, _, _ => False
theorem IsAll.rep {K : PySem.W.Frag} {G : Hp} {xs : List V} {ds : List D} (h : IsAll K G xs ds) : ∀ n : Nat, IsAll K G (List.replicate n xs).flatten (List.replicate n ds).flatten
  | 0 => .nil
  | n + 1 => by
    rw [List.replicate_succ, List.replicate_succ, List.flatten_cons, List.flatten_cons]
    exact h.append (IsAll.rep h n)
theorem df_rep {ta tb : TB} (ha : DB X Γ a ta) (hb : DB X Γ b tb) : DF X Γ (.BinOp a .Mult b pos) (dBin repL ta tb) := by
  refine df_bin op_rep ha hb ?_
  rintro x y H Q ⟨G, d, e, k, s, hx, hy, h, fin⟩
  cases d with
  | list xs =>
    cases e with
    | int n =>
      obtain ⟨p, us, rfl, h1, h2⟩ := hx.list s
      exact ⟨p, n, us, rfl, hy.int, h1, h.1.1, h.1.2.1, line_le (by rw [h2.length]; exact h.1.2.2), fun p hp => fin _ _ h.2 (h2.rep _) p hp⟩
    | _ => exact (show False from h).elim
  | _ => exact (show False from h).elim
end
theorem cdv_lt {j : Int} {a : Nat} (h : j ≠ 0) (hj : j.natAbs < 2 ^ a) (ha : a ≤ 9000 := by decide) : CDV j := ⟨h, Nat.lt_of_lt_of_le hj (Nat.pow_le_pow_right (by decide) ha)⟩
theorem cm_lt {i j : Int} {a b : Nat} (h : i.natAbs < 2 ^ a) (hj : j.natAbs < 2 ^ b) (hab : a + b ≤ 1000000 := by decide) : CM i j := .inl ⟨_, _, h, hj, hab⟩
theorem cm_r {i j : Int} (h : -(2 ^ 64) < j ∧ j < 2 ^ 64 := by decide) : CM i j := .inr (.inr h)
theorem cm_l {i j : Int} (h : -(2 ^ 64) < i ∧ i < 2 ^ 64 := by decide) : CM i j := .inr (.inl h)
theorem cut_from {α : Type} (xs : List α) (i : Nat) : cutD xs (some (i : Int)) none = xs.drop i := by
  unfold cutD
  rw [HT.sIx_nat, HT.sIx_none]
  apply List.ext_getElem?
  intro j
  rw [List.getElem?_take, List.getElem?_drop, List.getElem?_drop]
  split
  · rw [Nat.min_def]; split
    · rfl
    · rw [List.getElem?_eq_none (by omega), List.getElem?_eq_none (by omega)]
  · rw [List.getElem?_eq_none (by omega)]
theorem cut_to {α : Type} (xs : List α) (i : Nat) : cutD xs none (some (i : Int)) = xs.take i := by
  unfold cutD
  rw [HT.sIx_nat, HT.sIx_none, List.drop_zero, Nat.sub_zero]
  apply List.ext_getElem?
  intro j
  rw [List.getElem?_take, List.getElem?_take]
  split <;> split
  · rfl
  · omega
  · rw [List.getElem?_eq_none (by omega)]
  · rfl
theorem cut_mid {α : Type} (xs : List α) (i k : Nat) : cutD xs (some (i : Int)) (some (k : Int)) = (xs.take k).drop i := by
  unfold cutD
  rw [HT.sIx_nat, HT.sIx_nat]
  apply List.ext_getElem?
  intro j
  rw [List.getElem?_take, List.getElem?_drop, List.getElem?_drop, List.getElem?_take]
  split <;> split
  · rw [show min i xs.length + j = i + j by omega]
  · rw [List.getElem?_eq_none (by omega)]
  · rw [List.getElem?_eq_none (by omega)]
  · rfl
theorem cut_tail {α : Type} (x : α) (xs : List α) : cutD (x :: xs) (some 1) none = xs := cut_from (x :: xs) 1
theorem at_nat {α : Type} (xs : List α) (i : Nat) : L2.atI xs (i : Int) = xs[i]? := by
  unfold L2.atI ixN
  rw [if_pos (by omega)]
  by_cases h : (i : Int) < xs.length
  · rw [if_pos h]; rfl
  · rw [if_neg h, List.getElem?_eq_none (by omega)]; rfl
theorem at_neg {α : Type} (xs : List α) (i : Nat) (h : i < xs.length) : L2.atI xs (-((i + 1 : Nat) : Int)) = xs[xs.length - (i + 1)]? := by
  unfold L2.atI ixN
  rw [if_neg (by omega), if_pos (by omega)]
  show xs[((-((i + 1 : Nat) : Int)) + (xs.length : Int)).toNat]? = _
  rw [show ((-((i + 1 : Nat) : Int)) + (xs.length : Int)).toNat = xs.length - (i + 1) by omega]
theorem at_0 {α : Type} (x : α) (xs : List α) : L2.atI (x :: xs) 0 = some x := at_nat (x :: xs) 0
theorem at_1 {α : Type} (x y : α) (xs : List α) : L2.atI (x :: y :: xs) 1 = some y := at_nat (x :: y :: xs) 1
end Dn
/-! Dn: the law itself, and what the end asks. -/
namespace Dn
open PySem PySem.Spec PyProof.Rows L2
section
variable {P : Program} {w : World} {K : PySem.W.Frag} {mg : Str → Option Value} {base : Heap} {T : List Addr}
def spLawD (K : PySem.W.Frag) (T : List Addr) : Sp := fun vs H Q _ => Tabs T H ∧ ∃ (a : Addr) (ns : List Int), vs = [.ref a] ∧ SqL K H a (ns.map V.int) ∧ ns.length ≤ 63 ∧ ∀ H', Tabs T H' → Q (.bl true) H'
abbrev cxL (P : Program) (w : World) (K : PySem.W.Frag) (mg : Str → Option Value) (base : Heap) (N : List Str) (qual : Str) (st : Stmt) (f : Addr) (cdv : Value) (A : Around) (outer : List Env) (s : Shared) (H : Hp) (E : XK) : Cx := (cxOf CX0 P w K mg base N qual (defScope st) f cdv A outer s H E).nox
def lawR (n : Nat) (ns : List Int) : Ro := .seq (ns.map .int) :: List.replicate (n - 1) .non
theorem at_law {N : List Str} {ns : List Int} {a : Addr} {H : Hp} (h : SqL K H a (ns.map V.int)) : At K ⟨H, H, H, [], fun _ => 0, fun _ _ => False, T⟩ (lawR N.length ns) (L2.start N [.ref a]) H H where
  len := by
    unfold lawR L2.start
    rw [List.length_append, List.length_map, List.length_replicate, List.length_cons, List.length_cons, List.length_replicate]
    simp; omega
  sl := fun i sl o e1 e2 => by
    unfold lawR at e1
    unfold L2.start at e2
    cases i with
    | zero =>
      rw [List.getElem?_cons_zero] at e1
      rw [List.map_cons, List.cons_append, List.getElem?_cons_zero] at e2
      cases e1; cases e2
      exact ⟨a, _, rfl, h, IsAll.of_ints ns⟩
    | succ i =>
      rw [List.getElem?_cons_succ, List.getElem?_replicate] at e1
      split at e1
      · cases e1; exact True.intro
      · cases e1
  sep := fun i j di dj p e1 _ _ _ => by
    unfold lawR at e1
    cases i with
    | zero => cases e1
    | succ i =>
      rw [List.getElem?_cons_succ, List.getElem?_replicate] at e1
      split at e1 <;> cases e1
  sub := Same.refl _
  old := fun _ _ => rfl
  kept := Same.refl _
  inh := fun i hi => nomatch hi
  bas := Same.refl _
theorem law_ok {x qual : Str} {st : Stmt} {f : Addr} {fd : FuncData} {N : List Str} {k : Nat} (F : Fun K x qual st f fd) (S : FnScope N ["script"] (defScope st)) (bl : ∀ x : Str, bnames.contains x = true → mg x = none)
    (body : ∀ (cdv : Value) (A : Around) (outer : List Env) (s : Shared) (H : Hp) (E : XK) (ns : List Int), ns.length ≤ 63 → Cok k (cxL P w K mg base N qual st f cdv A outer s H E) ⟨H, H, H, [], fun _ => 0, fun _ _ => False, T⟩ →
      Takes (cxL P w K mg base N qual st f cdv A outer s H E) (liftW K ⟨H, H, H, [], fun _ => 0, fun _ _ => False, T⟩) →
      ∃ t, DSs (cxL P w K mg base N qual st f cdv A outer s H E) ⟨H, H, H, [], fun _ => 0, fun _ _ => False, T⟩ (defBody st) t ∧ t { nx := fun _ => False, rt := fun d _ => d = .bool true } (lawR N.length ns)) : FnOk P w K mg base CX0 (k + 1) f fd ["script"] (spLawD K T) := by
  refine F.ok S (fun vs H Q E ⟨_, a, ns, e, _⟩ => by rw [e]; rfl) (fun cdv A outer s H vs Q E hr hsp => ?_)
  obtain ⟨htab, a, ns, rfl, hS, hl, hq⟩ := hsp
  have tk : Takes (cxL P w K mg base N qual st f cdv A outer s H E) (liftW K ⟨H, H, H, [], fun _ => 0, fun _ _ => False, T⟩) := by
    refine takes0.imp ?_
    rintro cls d σ' H' ⟨ρ', G', ex, a', xi, hw⟩
    exact hw
  obtain ⟨t, h1, h2⟩ := body cdv A outer s H E ns hl ⟨rfl, S.nd, hr, ⟨Same.refl _, htab⟩, PassesOwn.never, bl, fun σ => passAt tk σ⟩ tk
  refine ⟨_, h1.ps, _, H, _, at_law hS, ⟨?_, ?_, ?_, ?_⟩, h2⟩
  · intro ρ' σ' G' H' a' s' q
    exact q.elim
  · intro d v ρ' σ' G' H' a' s' i q
    cases q
    cases i
    exact hq _ fun P hP => a'.kept P _ (htab P hP)
  · intro ρ' σ' G' H' a' s' q
    exact q.elim
  · intro ρ' σ' G' H' a' s' q
    exact q.elim
end
/-- does «except C» take one of the class at S? -/
theorem exm_by {K : PySem.W.Frag} {S C : Addr} {b : Bool} (h1 : PySem.W.subIn K (.ref C) (.type "BaseException") = some true) (h2 : PySem.W.isClsIn K C = true) (h3 : PySem.W.typeIn K (.ref C) = some (.type "type")) (h4 : PySem.W.subIn K (.ref S) (.ref C) = some b) :
    PySem.W.exmOne K (.ref S) (.ref C) = some b := by
  unfold PySem.W.exmOne PySem.W.kitCls
  have h2' : (PySem.W.clsIn K C).isSome = true := h2
  simp [h1, h2', h3, h4]
/-- a place to rest: N holds behind the statement -/
def sCut (t : TDS) : TDS := fun R ρ => ∃ N : Ro → Prop, t { R with nx := N } ρ ∧ ∀ ρ', N ρ' → R.nx ρ'
theorem ds_cut {X : Cx} {Γ : Gm} {st : Stmt} {t : TDS} (h : DS X Γ st t) : DS X Γ st (sCut t) := by
  refine ⟨ps_imp h.ps ?_⟩
  rintro E σ H ⟨ρ, G, R, at_, ok, N, h1, h2⟩
  exact ⟨ρ, G, { R with nx := N }, at_, ⟨fun ρ' σ' G' H' a' s' q => ok.nx _ _ _ _ a' s' (h2 _ q), ok.rt, ok.bk, ok.ct⟩, h1⟩
/-- the tables, seen as open things -/
def exT (T : List Addr) (H : Hp) : Hp := fun b => if b ∈ T then some (.ext (GxB.tabF b)) else H b
def spLawT (K : PySem.W.Frag) (T : List Addr) : Sp := fun vs H Q _ => (∀ P ∈ T, H P = some (.tbl #[])) ∧ ∃ (a : Addr) (ns : List Int), vs = [.ref a] ∧ SqL K H a (ns.map V.int) ∧ ns.length ≤ 63 ∧ ∀ H', Q (.bl true) H'
theorem fnok_tab {P : Program} {w : World} {K : PySem.W.Frag} {mg : Str → Option Value} {base : Heap} {T : List Addr} {k : Nat} {f : Addr} {fd : FuncData} {ps : List Str} (F : FnOk P w K mg base CX0 k f fd ps (spLawD K T)) : FnOk P w K mg base CX0 k f fd ps (spLawT K T) := by
  have conv : ∀ (vs : List V) (H : Hp) (Q : VK) (E : XK), spLawT K T vs H Q E → spLawD K T vs (exT T H) (fun v H' => Q v H' ∧ Tabs T H' ∧ ∀ H'', Q v H'') E := by
    rintro vs H Q E ⟨ht, a, ns, e, hS, hl, hq⟩
    refine ⟨fun P hP => if_pos hP, a, ns, e, ?_, hl, fun H' t => ⟨hq H', t, hq⟩⟩
    have na : ∀ u, H a = some u → (∀ q, u ≠ .tbl q) → exT T H a = some u := fun u q n => by
      unfold exT
      by_cases hb : a ∈ T
      · rw [ht a hb] at q
        exact absurd (Option.some.inj q).symm (n _)
      · rw [if_neg hb]; exact q
    rcases hS with (h | ⟨o, h⟩) | h
    · exact .inl (.inl (na _ h fun _ z => by cases z))
    · exact .inl (.inr ⟨o, na _ h fun _ z => by cases z⟩)
    · exact .inr h
  refine ⟨fun vs H Q E q => F.len vs _ _ _ (conv vs H Q E q), fun A outer s H args us vs Q E hr e0 hb hv hs => ?_⟩
  have hT := hs.1
  have hne : ∀ b ∈ T, ∀ u, H b = some u → u = .tbl #[] := fun b hb u e => by rw [hT b hb] at e; exact (Option.some.inj e).symm
  have out : ∀ b u, H b = some u → (∀ q, u ≠ .tbl q) → b ∉ T := fun b u e n hb => n _ (hne b hb u e)
  have noT : ∀ b, H b = none → b ∉ T := fun b e hb => by rw [hT b hb] at e; cases e
  have ex1 : ∀ b, b ∉ T → exT T H b = H b := fun b hb => if_neg hb
  have hok1 : HOk P w (exT T H) s.heap := fun b u e => by
    by_cases hb : b ∈ T
    · have e' : exT T H b = some (.ext (GxB.tabF b)) := if_pos hb
      rw [e'] at e
      cases e
      have q : s.heap.get? b = some { cls := .none, data := .fields #[] } := e0.hok b _ (hT b hb)
      exact GxB.tab_ok q (by first | trivial | exact .nil | simp [TriplesOk])
    · rw [ex1 b hb] at e
      refine (e0.hok b u e).stay (fun c v _ q => q) (fun c q => ?_) fun c xs q => ?_
      · rw [ex1 c (out c _ q fun _ z => by cases z)]; exact q
      · rw [ex1 c (out c _ q fun _ z => by cases z)]; exact q
  have e1 : Env0 P w K mg base A outer s (exT T H) := ⟨e0.frames, e0.mod, fun b o e => ⟨(e0.bs b o e).1, by rw [ex1 b (noT b (e0.bs b o e).2)]; exact (e0.bs b o e).2⟩, e0.bsz, e0.funs, fun b hb => by rw [ex1 b (noT b (e0.frf b hb))]; exact e0.frf b hb, hok1, e0.bare⟩
  refine codeAny_mono (F.run A outer s _ args us vs _ E hr e1 hb hv (conv vs H Q E hs)) fun r s' h => ?_
  cases r with
  | error e => exact h
  | ok fl =>
    cases fl with
    | next => exact h
    | brk => exact h
    | cont => exact h
    | ret u =>
      obtain ⟨v, H', os, bare, un, hok', r', q1, q2, q3⟩ := h
      have tb : ∀ b, b ∈ T → ∃ ps : Array Value, s'.heap.get? b = some { cls := .none, data := .fields ps } := fun b hb => by
        obtain ⟨⟨ps, e, _⟩, _⟩ := hok' b _ (q2 b hb)
        exact ⟨ps, e⟩
      let H2 : Hp := fun b => if hb : b ∈ T then some (.tbl (Classical.choose (tb b hb))) else H' b
      have h2T : ∀ b (hb : b ∈ T), H2 b = some (.tbl (Classical.choose (tb b hb))) := fun b hb => dif_pos hb
      have h2N : ∀ b, b ∉ T → H2 b = H' b := fun b hb => dif_neg hb
      have nT' : ∀ b u, H' b = some u → (∀ q, u ≠ .ext q) → b ∉ T := fun b u e n hb => by
        rw [q2 b hb] at e
        exact n _ (Option.some.inj e).symm
      refine ⟨v, H2, os, bare, ⟨fun b o e n hb hx => un.keep b o e (by rw [ex1 b (noT b n)]; exact n) hb hx, fun b o e n hb hx => un.slot b o e (by rw [ex1 b (noT b n)]; exact n) hb hx, fun b o e n hx => by rw [h2N b (noT b n)]; exact un.free b o e (by rw [ex1 b (noT b n)]; exact n) hx,
        un.there, fun b xs e => ?_, fun b o u e => ?_, fun b ps e => ?_⟩, fun b u e => ?_, r', q3 H2⟩
      · have hb := out b _ e fun _ z => by cases z
        rw [h2N b hb]
        exact un.tups b xs (by rw [ex1 b hb]; exact e)
      · have hb := out b _ e fun _ z => by cases z
        rw [h2N b hb]
        exact un.frzs b o u (by rw [ex1 b hb]; exact e)
      · by_cases hb : b ∈ T
        · have := hne b hb _ e
          cases this
          exact ⟨_, by rw [h2T b hb, Array.empty_append]⟩
        · rw [h2N b hb]
          exact un.tbls b ps (by rw [ex1 b hb]; exact e)
      · by_cases hb : b ∈ T
        · rw [h2T b hb] at e
          cases e
          exact Classical.choose_spec (tb b hb)
        · rw [h2N b hb] at e
          refine (hok' b u e).stay (fun c v _ q => q) (fun c q => ?_) fun c xs q => ?_
          · rw [h2N c (nT' c _ q fun _ z => by cases z)]; exact q
          · rw [h2N c (nT' c _ q fun _ z => by cases z)]; exact q
theorem fun_ofD {K : PySem.W.Frag} {x qual : Str} {st : Stmt} {f : Addr} {fd : FuncData} (F : FunD K x qual (defArgs st) (defBody st) (defScope st) [] [] f fd) : Fun K x qual st f fd := by
  obtain ⟨oc, od, dV, kV, doc, pm, an, cdv, ct, osl, rfl, lk, hcd, hD, hK⟩ := F.ex
  rcases hD with ⟨_, rfl⟩ | ⟨e, _⟩
  · exact ⟨⟨oc, od, kV, doc, pm, an, cdv, ct, osl, rfl, lk, hcd⟩, F.kp⟩
  · exact absurd rfl e
theorem names_free {mg : Str → Option Value} (h : ∀ x ∈ bnames, mg x = none) : ∀ x : Str, bnames.contains x = true → mg x = none := fun x hx => h x (List.contains_iff_mem.mp hx)
end Dn
/-! Dn: enumerate of tuples and texts, zip, extend, slices backwards. -/
namespace Dn
open PySem PySem.Spec PyProof.Rows L2
/-! ### enumerate -/
def EnT (K : PySem.W.Frag) (a : Addr) : It where
  go i H := ∃ (xs : List V) (x : V), SqT K H a xs ∧ xs[i]? = some x
  yld i H v H' := ∃ T x, v = .ref T ∧ H T = none ∧ H' = upd H T (.tup [.int (i : Nat), x]) ∧ ∀ xs, SqT K H a xs → xs[i]? = some x
  stop i H := ∃ xs : List V, SqT K H a xs ∧ xs.length = i
def EnS (z : Str) : It where
  go i _ := i < z.cps.size
  yld i H v H' := ∃ T c, v = .ref T ∧ H T = none ∧ H' = upd H T (.tup [.int (i : Nat), .str ⟨#[c]⟩]) ∧ z.cps[i]? = some c
  stop i _ := z.cps.size = i
section
variable {P : Program} {w : World} {K : PySem.W.Frag}
/-- one turn of an enumerate, the source told by what it draws -/
theorem en_item {X : Cx} {pins : List (Addr × Obj)} {σ : L2.St} {H : Hp} {s : Shared} {E : Value → Shared → Prop} {elts : List Expr} {kk : Nat} {tpos : Pos} {e it : Addr} {i n : Nat} {fp : List Addr} {Pr : Nat → Value → Prop} {St : Nat → Heap → Prop} {old : Value} {Y : V → Prop}
    (I : Inv X pins σ H s) (D : Draws X.prog X.w X.A.in1 it fp n Pr St) (he : IsEnum s.heap e it ((i : Nat) : Int) old) (st : St i s.heap) (hi : i < n) (hne : e ≠ it) (hef : e ∉ fp) (hf : ∀ b ∈ [e, it], FpOk X pins H b)
    (hY : ∀ u, Pr i u → ∃ x, RelV x u ∧ Y x) (hit : it < s.heap.objs.size) :
    wpAny (model X.prog X.w) X.A (pyNext (.ref e)) (fun r s1 => ∃ u, r = some u ∧ wpAny (model X.prog X.w) X.A (letOwnedTupleGo (.Tuple elts kk tpos) (.ref e) u) (fun _ s2 => ∃ v H', Inv X pins σ H' s2 ∧ RelV v u ∧
      (∃ T x, v = .ref T ∧ H T = none ∧ H' = upd H T (.tup [.int (i : Nat), x]) ∧ Y x) ∧ ((∃ old, IsEnum s2.heap e it ((i + 1 : Nat) : Int) old) ∧ St (i + 1) s2.heap) ∧ ∀ b ∈ [e, it], H' b = none) E s1) E s := by
  have le : e < s.heap.objs.size := Heap.lt_size he
  refine wpAny_pyNext_enum_itemD D he st hi hne hef fun u h1 tk hp ho st' hT hz hk => ?_
  obtain ⟨x, ru, hy⟩ := hY u hp
  refine ⟨_, rfl, wpAny_letOwnedTupleGo_enum (s := { s with heap := h1, toks := tk + 1 }) ho fun h2 he' sb => ?_⟩
  have gT : h2.get? s.heap.objs.size = some { cls := .type "tuple", data := .seq #[.int i tk, u] } := (sb.2 _ (Nat.ne_of_gt le)).trans hT
  have ok : ObjOk X.prog X.w (upd H s.heap.objs.size (.tup [.int (i : Nat), x])) h2 s.heap.objs.size (.tup [.int (i : Nat), x]) :=
    ⟨by show 2 ≤ sizeLine; decide, [.int i tk, u], .cons ⟨_, rfl⟩ (.cons ru .nil), ⟨_, gT, rfl, _, rfl⟩⟩
  have I1 : Inv X pins σ (upd H s.heap.objs.size (.tup [.int (i : Nat), x])) { s with heap := h2, toks := tk + 1 } :=
    L2.Inv.turnedNew I (ch := [e, it]) (fun b ob hb q => (sb.2 b (fun z => hb (by simp [z]))).trans (hk b ob (fun z => hb (by simp [z])) (fun z => hb (by simp [z])) q)) hf (Nat.le_refl _) ok
  refine ⟨.ref s.heap.objs.size, _, I1, rfl, ⟨_, x, rfl, I.hok.fresh (Nat.le_refl _), rfl, hy⟩, ⟨⟨u, ?_⟩, D.frame _ _ _ st' fun b hb o q => (sb.2 b (fun z => hef (z ▸ hb))).trans q⟩, fun b hb => ?_⟩
  · rw [show ((i + 1 : Nat) : Int) = (i : Int) + 1 by omega]; exact he'
  · have hb' : b < s.heap.objs.size := by
      rcases List.mem_cons.mp hb with z | z
      · rw [z]; exact le
      · rw [List.mem_singleton.mp z]; exact hit
    rw [upd_ne (Nat.ne_of_lt hb')]
    exact (hf b hb).1
theorem turn_enT {elts : List Expr} {kk : Nat} {tpos : Pos} (a e it : Addr) :
    Turn P w K (.Tuple elts kk tpos) (EnT K a) [e, it] e (fun i h => (∃ old, IsEnum h e it ((i : Nat) : Int) old) ∧ h.IsTupleIter it a i ∧ e ≠ it) where
  mem := List.mem_cons_self ..
  obj := fun i h ⟨⟨old, he⟩, ⟨o, ho, hc, hd⟩, _⟩ b hb => by
    rcases List.mem_cons.mp hb with z | z
    · rw [z]; exact ⟨_, he, fun v q => nomatch q⟩
    · rw [List.mem_singleton.mp z]; exact ⟨o, ho, fun v q => by rw [hd] at q; cases q⟩
  keep := fun i h h' ⟨⟨old, he⟩, hi, hne⟩ k => ⟨⟨old, k e (List.mem_cons_self ..) _ he⟩, hi.at fun o q => k it (by simp) o q, hne⟩
  item := by
    rintro X rfl rfl rfl hc i pins s σ H E I hf ⟨⟨old, he⟩, hit, hne⟩ ⟨xs, x, hq, hx⟩
    obtain ⟨its, rv, p, hz⟩ := I.tuple hq
    have p' : s.heap.IsTuple a its.toArray := p
    have hil : it < s.heap.objs.size := by obtain ⟨_, q, _⟩ := hit; exact Heap.lt_size q
    have hea : e ≠ a := fun z => by
      subst z
      obtain ⟨o, ho, hcl, _⟩ := p
      rw [he] at ho
      cases ho
      exact absurd (show Value.type "enumerate" = Value.type "tuple" from hcl) (by decide)
    have hia : a ≠ it := fun z => by
      subst z
      obtain ⟨o, ho, hcl, _⟩ := p
      obtain ⟨o2, ho2, hc2, _⟩ := hit
      rw [ho2] at ho
      cases ho
      rw [hc2] at hcl
      exact absurd hcl (by decide)
    have hlt : i < its.toArray.size := by
      have := (List.getElem?_eq_some_iff.mp hx).1
      have := rv.length
      simp; omega
    refine wpAny_mono (en_item (elts := elts) (kk := kk) (tpos := tpos) (St := fun i h => h.IsTupleIter it a i ∧ h.IsTuple a its.toArray) (Y := fun y => ∀ ys, SqT X.K H a ys → ys[i]? = some y) I (Draws.tuple (A := X.A.in1) (show X.A.in1.handled = none from I.ok.hd hc) it a hia its.toArray) he ⟨hit, p'⟩ hlt hne (by simp [hne, hea]) hf (fun u hu => ?_) hil) ?_ fun _ _ z => z
    · obtain ⟨u2, h1, h2⟩ := rv.get hx
      have h3 : its[i]? = some u := by simpa using hu
      rw [h1] at h3
      cases h3
      exact ⟨x, h2, fun ys h => by rw [I.tuple_inj h hq]; exact hx⟩
    · rintro r s1 ⟨u, e1, h1⟩
      refine ⟨u, e1, wpAny_mono h1 ?_ fun _ _ z => z⟩
      rintro _ s2 ⟨v, H', I2, r2, y, ⟨h3, h4⟩, h5⟩
      exact ⟨v, H', I2, r2, y, ⟨h3, h4.1, hne⟩, h5⟩
  done := by
    rintro X rfl rfl rfl hc i pins s σ H E I hf ⟨⟨old, he⟩, hit, hne⟩ ⟨xs, hq, hx⟩
    obtain ⟨its, rv, p, hz⟩ := I.tuple hq
    have p' : s.heap.IsTuple a its.toArray := p
    obtain ⟨f0, f1, f2, f3, f4, f5⟩ := hf it (by simp)
    have hia : a ≠ it := fun z => by
      subst z
      obtain ⟨o, ho, hcl, _⟩ := p
      obtain ⟨o2, ho2, hc2, _⟩ := hit
      rw [ho2] at ho
      cases ho
      rw [hc2] at hcl
      exact absurd hcl (by decide)
    have hl := rv.length
    have D := Draws.tuple (prog := X.prog) (w := X.w) (A := X.A.in1) (show X.A.in1.handled = none from I.ok.hd hc) it a hia its.toArray
    have hn : i = its.toArray.size := by simp; omega
    subst hn
    exact wpAny_pyNext_enum_endD D he ⟨hit, p'⟩ fun h' eb => ⟨rfl, L2.Inv.turned I (t' := s.toks) (fun b o hb q => eb b o hb q) f0 f1 f3 f4 f5⟩
  self := fun A i s Q E ⟨⟨_, he⟩, _⟩ h => wpAny_pyIter_enum he h
theorem turn_enS {elts : List Expr} {kk : Nat} {tpos : Pos} (z : Str) (t : Tok) (e it : Addr) :
    Turn P w K (.Tuple elts kk tpos) (EnS z) [e, it] e (fun i h => (∃ old, IsEnum h e it ((i : Nat) : Int) old) ∧ h.IsStrIter it (strIterType z) z t i ∧ e ≠ it) where
  mem := List.mem_cons_self ..
  obj := fun i h ⟨⟨old, he⟩, ⟨o, ho, hc, hd⟩, _⟩ b hb => by
    rcases List.mem_cons.mp hb with q | q
    · rw [q]; exact ⟨_, he, fun v q => nomatch q⟩
    · rw [List.mem_singleton.mp q]; exact ⟨o, ho, fun v q => by rw [hd] at q; cases q⟩
  keep := fun i h h' ⟨⟨old, he⟩, ⟨o, ho, hi⟩, hne⟩ k => ⟨⟨old, k e (List.mem_cons_self ..) _ he⟩, ⟨o, k it (by simp) o ho, hi⟩, hne⟩
  item := by
    rintro X rfl rfl rfl hc i pins s σ H E I hf ⟨⟨old, he⟩, hit, hne⟩ hx
    have hil : it < s.heap.objs.size := by obtain ⟨_, q, _⟩ := hit; exact Heap.lt_size q
    have D := Draws.text (prog := X.prog) (w := X.w) (A := X.A.in1) (show X.A.in1.handled = none from I.ok.hd hc) it z t
    refine wpAny_mono (en_item (elts := elts) (kk := kk) (tpos := tpos) (Y := fun y => ∃ c, z.cps[i]? = some c ∧ y = .str ⟨#[c]⟩) I D he hit hx hne (by simp [hne]) hf (fun u hu => ?_) hil) ?_ fun _ _ z => z
    · obtain ⟨c, t', h1, h2⟩ := hu
      exact ⟨.str ⟨#[c]⟩, ⟨t', h2⟩, c, h1, rfl⟩
    · rintro r s1 ⟨u, e1, h1⟩
      refine ⟨u, e1, wpAny_mono h1 ?_ fun _ _ z => z⟩
      rintro _ s2 ⟨v, H', I2, r2, ⟨T, y, y1, y2, y3, c, y4, rfl⟩, ⟨h3, h4⟩, h5⟩
      exact ⟨v, H', I2, r2, ⟨T, c, y1, y2, y3, y4⟩, ⟨h3, h4, hne⟩, h5⟩
  done := by
    rintro X rfl rfl rfl hc i pins s σ H E I hf ⟨⟨old, he⟩, hit, hne⟩ hx
    obtain ⟨f0, f1, f2, f3, f4, f5⟩ := hf it (by simp)
    have D := Draws.text (prog := X.prog) (w := X.w) (A := X.A.in1) (show X.A.in1.handled = none from I.ok.hd hc) it z t
    have hx : z.cps.size = i := hx
    subst hx
    exact wpAny_pyNext_enum_endD D he hit fun h' eb => ⟨rfl, L2.Inv.turned I (t' := s.toks) (fun b o hb q => eb b o hb q) f0 f1 f3 f4 f5⟩
  self := fun A i s Q E ⟨⟨_, he⟩, _⟩ h => wpAny_pyIter_enum he h
end
section
variable {X : Cx} {Γ : Gm} {k : Nat} {a b e : Expr} {es : List Expr} {st : Stmt} {rest body orelse : List Stmt} {pos : Pos} {t u : TDS}
theorem meets_en1 {v : Value} {o : Obj} {H : Heap → Prop} (B : Begins v o H) :
    Meets (Builtin.«enumerate.__new__» ⟨[.type "enumerate", v], []⟩) (fun _ R s => H s.heap ∧
      R (.ok (.ret (.ref (s.heap.push o).objs.size))) { s with heap := (s.heap.push o).push { cls := .type "enumerate", data := .fields #[.none, .bool false, .ref s.heap.objs.size, rawInt 0, .none, .none] } }) :=
  .of_wp fun prog w A R s h => by
    obtain ⟨hp, g, d, tk, os⟩ := s; obtain ⟨h1, h⟩ := h
    have hsub := sub_enumerate
    have q1 : ∀ {A' : Around} {E : Value → Shared → Prop} {Q : Value → Shared → Prop}, Q (.ref hp.objs.size) ⟨hp.push o, g, d, tk, os⟩ → wpAny (model prog w) A' (pyIter v) Q E ⟨hp, g, d, tk, os⟩ := fun q => B.iter prog w _ _ ⟨hp, g, d, tk, os⟩ _ h1 q
    wp_walk using q1
    refine wpAny_stack_any fun st => wpAny_pure ?_
    split
    · rename_i c _ _ _ _ _
      cases (c == Value.type "enumerate")
      all_goals (wp_walk using q1; exact ⟨_, rfl, h⟩)
    · wp_walk using q1
      exact ⟨_, rfl, h⟩
theorem en_begins {prog : Program} {w : World} {A : Around} {E : Value → Shared → Prop} {s : Shared} {v : Value} {o : Obj} {H : Heap → Prop} {Q : Value → Shared → Prop} (B : Begins v o H) (h1 : H s.heap)
    (h : ∀ h', IsEnum h' (s.heap.objs.size + 1) s.heap.objs.size 0 .none → h'.get? s.heap.objs.size = some o → (∀ b o, s.heap.get? b = some o → h'.get? b = some o) → Q (.ref (s.heap.objs.size + 1)) { s with heap := h' }) :
    wpAny (model prog w) A (call (.type "enumerate") [v]) Q E s := by
  refine callType_new F.called_enumerate (by decide) (F.typeCall_enumerate_1 _) (F.newCall_enumerate_1 _) (fun obj => F.args_object_init_2 obj _) F.entry_enumerate_new (meets_en1 B) ⟨h1, ?_⟩
  have hz : (s.heap.push o).objs.size = s.heap.objs.size + 1 := Heap.size_push ..
  show _ ∧ _
  rw [hz]
  have he : IsEnum ((s.heap.push o).push { cls := .type "enumerate", data := .fields #[.none, .bool false, .ref s.heap.objs.size, rawInt 0, .none, .none] }) (s.heap.objs.size + 1) s.heap.objs.size 0 .none := by
    have := Heap.get?_push_size (s.heap.push o) (o := { cls := .type "enumerate", data := .fields #[.none, .bool false, .ref s.heap.objs.size, rawInt 0, .none, .none] }) rfl
    rw [hz] at this
    exact this
  exact ⟨⟨_, he, rfl⟩, h _ he (Heap.get?_push_of_some _ (Heap.get?_push_size _ B.free)) fun b o x => Heap.get?_push_of_some _ (Heap.get?_push_of_some _ x)⟩
def kEn (K : PySem.W.Frag) (R : It → Hp → Prop) (vs : List V) (H : Hp) : Prop := match vs with
  | [x] => (∃ a xs, x = .ref a ∧ SqL K H a xs ∧ R (Ite K a) H) ∨ (∃ a xs, x = .ref a ∧ SqT K H a xs ∧ R (EnT K a) H) ∨ ∃ z, x = .str z ∧ R (EnS z) H
  | _ => False
theorem pi_en {elts : List Expr} {kk : Nat} {tpos p : Pos} {te : TE} (hg : Gl X "enumerate") (hm : X.mg "enumerate" = none) (he : PE X e te) (hs : starEach [e] X.env = [(false, eval e X.env)] := by rfl) :
    PI X (.Tuple elts kk tpos) (.Call (.Name "enumerate" p) [e] [] pos) (fun σ H R => te σ H fun x H1 => kEn X.K R [x] H1) := by
  refine ⟨fun pins s σ H R I h => ?_⟩
  refine Call_ (ld_blt I hg hm boot_enumerate (PyProof.Rows.callWith_type1 (thn ((pa_cons he pa_nil hs).run pos pins s σ H (kEn X.K R) I h) fun us s1 ⟨vs, H1, I1, r1, q1⟩ => ?_) hs rfl))
  cases r1 with
  | nil => exact q1.elim
  | cons r rr =>
    cases rr with
    | cons _ _ => exact q1.elim
    | nil =>
      have fo : ∀ b ∈ [s1.heap.objs.size + 1, s1.heap.objs.size], FpOk X pins H1 b := fun b hb => by
        have hle : s1.heap.objs.size ≤ b := by
          rcases List.mem_cons.mp hb with z | z
          · rw [z]; exact Nat.le_add_right _ _
          · rw [List.mem_singleton.mp z]; exact Nat.le_refl _
        exact I1.fpOk hle (I1.hok.fresh hle)
      rcases q1 with ⟨a, xs, rfl, hq, q⟩ | ⟨a, xs, rfl, hq, q⟩ | ⟨z, rfl, q⟩
      · cases r
        obtain ⟨its, rv, p', hz⟩ := I1.list hq
        refine call_enumerate_list p'.isList fun h' he' hit hsz hk => wpAny_pyIter_enum he' ?_
        exact ⟨s1.heap.objs.size + 1, [s1.heap.objs.size + 1, s1.heap.objs.size], _, _, H1, rfl, I1.kept (t' := s1.toks) hk, turn_enum a (s1.heap.objs.size + 1) s1.heap.objs.size, ⟨⟨.none, he'⟩, hit, Nat.succ_ne_self _⟩, fo, q⟩
      · cases r
        obtain ⟨its, rv, p', hz⟩ := I1.tuple hq
        refine en_begins (begins_tuple a its.toArray) p' fun h' he' hit hk => wpAny_pyIter_enum he' ?_
        exact ⟨s1.heap.objs.size + 1, [s1.heap.objs.size + 1, s1.heap.objs.size], _, _, H1, rfl, I1.kept (t' := s1.toks) hk, turn_enT a (s1.heap.objs.size + 1) s1.heap.objs.size, ⟨⟨.none, he'⟩, ⟨_, hit, rfl, rfl⟩, Nat.succ_ne_self _⟩, fo, q⟩
      · obtain ⟨t, rfl⟩ := r
        refine en_begins (begins_text z t) trivial fun h' he' hit hk => wpAny_pyIter_enum he' ?_
        exact ⟨s1.heap.objs.size + 1, [s1.heap.objs.size + 1, s1.heap.objs.size], _, _, H1, rfl, I1.kept (t' := s1.toks) hk, turn_enS z t (s1.heap.objs.size + 1) s1.heap.objs.size, ⟨⟨.none, he'⟩, ⟨_, hit, rfl, rfl⟩, Nat.succ_ne_self _⟩, fo, q⟩
/-- what enumerate tells -/
def enumFrom (n : Nat) : List D → List D
  | [] => []
  | d :: ds => .tuple [.int n, d] :: enumFrom (n + 1) ds
theorem enumFrom_len : ∀ (n : Nat) (ds : List D), (enumFrom n ds).length = ds.length
  | _, [] => rfl
  | n, d :: ds => congrArg Nat.succ (enumFrom_len (n + 1) ds)
theorem enumFrom_get : ∀ (n : Nat) (ds : List D) (i : Nat) (d : D), ds[i]? = some d → (enumFrom n ds)[i]? = some (.tuple [.int ((n + i : Nat) : Int), d])
  | _, [], i, d, h => by cases i <;> cases h
  | n, x :: ds, 0, d, h => by cases h; rfl
  | n, x :: ds, i + 1, d, h => by
    have q := enumFrom_get (n + 1) ds i d h
    rw [show n + (i + 1) = n + 1 + i by omega]
    exact q
theorem jok_en {K : PySem.W.Frag} {J : It} {ds : List D} {G1 : Hp} (hgo : ∀ i H, Same G1 H → i < ds.length → J.go i H) (hst : ∀ H, Same G1 H → J.stop ds.length H)
    (hy : ∀ i H v H', Same G1 H → J.yld i H v H' → ∃ T x, v = .ref T ∧ H T = none ∧ H' = upd H T (.tup [.int (i : Nat), x]) ∧ ∃ d, ds[i]? = some d ∧ Is K G1 x d) : JOk K J (enumFrom 0 ds) G1 := by
  have l := enumFrom_len 0 ds
  refine ⟨fun i H G s1 s2 hi => hgo i H (s1.trans s2) (by rw [← l]; exact hi), fun H G s1 s2 => by rw [l]; exact hst H (s1.trans s2), fun i H G v H' s1 s2 hi y => ?_⟩
  obtain ⟨T, x, rfl, hT, rfl, d, h1, h2⟩ := hy i H v H' (s1.trans s2) y
  have q := enumFrom_get 0 ds i d h1
  rw [Nat.zero_add] at q
  refine ⟨_, upd G T (.tup [.int (i : Nat), x]), q, Grow.laid s2 hT, ?_⟩
  have sg : Same G (upd G T (.tup [.int (i : Nat), x])) := fun b u e => by rw [upd_ne (ne_of_none e (s2.free hT))]; exact e
  exact .tup upd_same (.cons (.int _) (.cons ((h2.mono s1).mono sg) .nil))
def iEn (t : TD) : TI' := fun ρ Q => t ρ fun d ρ1 => seqD d fun ds => Q (enumFrom 0 ds) ρ1
theorem di_en {elts : List Expr} {kk : Nat} {tpos p : Pos} {t : TD} (c : Cok k X Γ) (h : DE X Γ e t) (hg : Gl X "enumerate" := by rfl) (hs : starEach [e] X.env = [(false, eval e X.env)] := by rfl) :
    DI X Γ (.Tuple elts kk tpos) (.Call (.Name "enumerate" p) [e] [] pos) (iEn t) := by
  refine ⟨pi_imp (pi_en hg (c.bl _ rfl) h.pe hs) ?_⟩
  rintro σ H R ⟨ρ, G, k, at_, h, fin⟩
  refine ⟨ρ, G, _, at_, h, fun d ρ1 v G1 H1 h1 a1 s1 r1 => ?_⟩
  cases d with
  | list ds =>
    cases r1 with
    | lst h2 h3 =>
      refine .inl ⟨_, _, rfl, .of (a1.sub _ _ h2), fin _ _ _ _ _ h1 a1 s1 (jok_en (fun i H s hi => ?_) (fun H s => ?_) fun i H v H' s y => ?_)⟩
      · rw [← h3.length] at hi
        exact ⟨_, _, s.seq (.of h2), List.getElem?_eq_getElem hi⟩
      · exact ⟨_, s.seq (.of h2), Nat.le_of_eq h3.length⟩
      · obtain ⟨T, x, e1, e2, e3, e4⟩ := y
        obtain ⟨d, h4, h5⟩ := h3.get (e4 _ (s.seq (.of h2)))
        exact ⟨T, x, e1, e2, e3, d, h4, h5⟩
  | tuple ds =>
    cases r1 with
    | tup h2 h3 =>
      refine .inr (.inl ⟨_, _, rfl, Same.sqt a1.sub h2, fin _ _ _ _ _ h1 a1 s1 (jok_en (fun i H s hi => ?_) (fun H s => ?_) fun i H v H' s y => ?_)⟩)
      · rw [← h3.length] at hi
        exact ⟨_, _, Same.sqt s h2, List.getElem?_eq_getElem hi⟩
      · exact ⟨_, Same.sqt s h2, h3.length⟩
      · obtain ⟨T, x, e1, e2, e3, e4⟩ := y
        obtain ⟨d, h4, h5⟩ := h3.get (e4 _ (Same.sqt s h2))
        exact ⟨T, x, e1, e2, e3, d, h4, h5⟩
  | str z =>
    cases r1 with
    | str _ =>
      have l : (signs z).length = z.cps.size := by unfold signs; simp
      refine .inr (.inr ⟨z, rfl, fin _ _ _ _ _ h1 a1 s1 (jok_en (fun i H s hi => ?_) (fun H s => ?_) fun i H v H' s y => ?_)⟩)
      · rw [l] at hi; exact hi
      · exact l.symm
      · obtain ⟨T, c, e1, e2, e3, e4⟩ := y
        exact ⟨T, _, e1, e2, e3, .str ⟨#[c]⟩, by unfold signs; simp [e4], .str _⟩
  | _ => exact (show False from h1).elim
end
end Dn
/-! Dn: tuple * int, order of tuples, slices backwards, extend, zip. -/
namespace Dn
open PySem PySem.Spec PyProof.Rows L2
theorem tm_same (l : Addr) (items : Array Value) (n : Nat) (dd : Option Addr) (sl : Array (Option Value)) (x : Int) (u : Tok) (c0 : (decide (x < -(2 ^ 63)) || decide (x ≥ 2 ^ 63)) = false) (c1 : (items.isEmpty || x == 1) = true) :
    Meets (Builtin.«tuple.__mul__» ⟨[.ref l, .int x u], []⟩) (fun _ R s => s.heap.get? l = some { cls := .type "tuple", dict := dd, data := .seq items n, slots := sl } ∧ R (.ok (.ret (Value.ref l))) s) :=
  .of_wp fun prog w A R s h => by
    obtain ⟨hp, g, d, tk, os⟩ := s
    obtain ⟨hl, h⟩ := h
    have f1 := AutoSeq1.idx_int
    wp_walk using wpAny_loadPart' hl
    refine wpAny_ite_false (decide_eq_false (by rw [c0]; exact Bool.false_ne_true)) ?_
    wp_walk using wpAny_loadPart' hl
    exact ⟨_, rfl, h⟩
theorem tm_none (l : Addr) (items : Array Value) (n : Nat) (dd : Option Addr) (sl : Array (Option Value)) (x : Int) (u : Tok) (c0 : (decide (x < -(2 ^ 63)) || decide (x ≥ 2 ^ 63)) = false) (c1 : (items.isEmpty || x == 1) = false) (c2 : (decide (x ≤ 0) || items.isEmpty) = true) :
    Meets (Builtin.«tuple.__mul__» ⟨[.ref l, .int x u], []⟩) (fun _ R s => s.heap.get? l = some { cls := .type "tuple", dict := dd, data := .seq items n, slots := sl } ∧
      R (.ok (.ret (Value.ref s.heap.objs.size))) { s with heap := s.heap.push { cls := Value.type "tuple", data := Data.seq #[] }, toks := s.toks }) :=
  .of_wp fun prog w A R s h => by
    obtain ⟨hp, g, d, tk, os⟩ := s
    obtain ⟨hl, h⟩ := h
    have f1 := AutoSeq1.idx_int
    wp_walk using wpAny_loadPart' hl
    refine wpAny_ite_false (decide_eq_false (by rw [c0]; exact Bool.false_ne_true)) ?_
    wp_walk using wpAny_loadPart' hl
    exact ⟨_, rfl, h⟩
section
variable {X : Cx}
/-- t * k: k = 1 (or an empty t) gives t itself -/
def rRepB (K : PySem.W.Frag) : R2 := fun x y H Q => ∃ l k xs, x = .ref l ∧ y = .int k ∧ SqT K H l xs ∧ -(2 ^ 62) ≤ k ∧ k ≤ 1000 ∧ xs.length ≤ 1000 ∧
  (xs = [] ∨ k = 1 → Q (.ref l) H) ∧ (xs ≠ [] → k ≠ 1 → ∀ p, H p = none → Q (.ref p) (upd H p (.tup (List.replicate k.toNat xs).flatten)))
theorem op_repB : OpR X (binaryOp .Mult) (rRepB X.K) := by
  intro pins s σ H x y v u Q I rx ry h
  obtain ⟨l, k, xs, rfl, rfl, hT, h1, h2, hz, q1, q2⟩ := h
  by_cases hk : xs ≠ [] ∧ 2 ≤ k
  · exact op_repT pins s σ H _ _ v u Q I rx ry ⟨l, k, xs, rfl, rfl, hT, hk.1, hk.2, h2, hz, q2 hk.1 (by omega)⟩
  cases rx
  obtain ⟨t, rfl⟩ := ry
  obtain ⟨its, r, ⟨⟨cls, dd, data, sl⟩, ho, hc, n, hd⟩, hs⟩ := I.tuple hT
  simp only at hc hd
  subst hc hd
  have c0 : (decide (k < -(2 ^ 63)) || decide (k ≥ 2 ^ 63)) = false := by rw [decide_eq_false (by omega), decide_eq_false (by omega)]; rfl
  have he : its.toArray.isEmpty = xs.isEmpty := by cases r <;> rfl
  by_cases hs1 : xs = [] ∨ k = 1
  · have c1 : (its.toArray.isEmpty || k == 1) = true := by
      rw [he]
      rcases hs1 with z | z
      · rw [z]; rfl
      · rw [z]; simp
    refine wpAny_binaryOp_repeat_ref (T := "tuple") (U := "int") (by decide) ⟨_, ho, rfl⟩ (fun s' => typeIs_int s' k t) noFill_tuple_mul F.fills_int_mul F.slot_int_rmul repeat_tuple F.slot_int_index.lookup
      (call_meets F.slot_int_rmul (typeIs_int s k t) F.entry_int_rmul (F.args_int_rmul_2 _ _) (int_rmul_tuple k t l its.toArray n dd sl)
        ⟨ho, rfl, ⟨_, ho, rfl⟩, call_meets F.slot_tuple_mul ⟨_, ho, rfl⟩ F.entry_tuple_mul (F.args_tuple_mul_2 _ _) (tm_same l its.toArray n dd sl k t c0 c1) ⟨ho, ?_⟩⟩)
    exact ⟨.ref l, H, I, rfl, q1 hs1⟩
  · have hne : xs ≠ [] := fun z => hs1 (.inl z)
    have hk1 : k ≠ 1 := fun z => hs1 (.inr z)
    have hk0 : k ≤ 0 := by
      by_cases h2 : 2 ≤ k
      · exact absurd ⟨hne, h2⟩ hk
      · omega
    have hie : its.toArray.isEmpty = false := by
      rw [he]
      cases xs with
      | nil => exact absurd rfl hne
      | cons _ _ => rfl
    have c1 : (its.toArray.isEmpty || k == 1) = false := by rw [hie, Bool.false_or]; exact beq_eq_false_iff_ne.mpr hk1
    have c2 : (decide (k ≤ 0) || its.toArray.isEmpty) = true := by rw [decide_eq_true hk0]; rfl
    refine wpAny_binaryOp_repeat_ref (T := "tuple") (U := "int") (by decide) ⟨_, ho, rfl⟩ (fun s' => typeIs_int s' k t) noFill_tuple_mul F.fills_int_mul F.slot_int_rmul repeat_tuple F.slot_int_index.lookup
      (call_meets F.slot_int_rmul (typeIs_int s k t) F.entry_int_rmul (F.args_int_rmul_2 _ _) (int_rmul_tuple k t l its.toArray n dd sl)
        ⟨ho, rfl, ⟨_, ho, rfl⟩, call_meets F.slot_tuple_mul ⟨_, ho, rfl⟩ F.entry_tuple_mul (F.args_tuple_mul_2 _ _) (tm_none l its.toArray n dd sl k t c0 c1 c2) ⟨ho, ?_⟩⟩)
    have q := q2 hne hk1
    rw [show k.toNat = 0 by omega] at q
    exact ⟨.ref s.heap.objs.size, _, I.laid (t' := s.toks) (o := .tup []) (fun b ob q => Heap.get?_push_of_some _ q) (Nat.le_refl _) ⟨Nat.zero_le _, [], .nil, IsTup.new _ _⟩, rfl, q _ (I.hok.fresh (Nat.le_refl _))⟩
end
section
variable {X : Cx} {Γ : Gm} {k j n : Nat} {a b e : Expr} {es : List Expr} {st : Stmt} {rest body orelse : List Stmt} {pos : Pos} {t u : TDS}
theorem OpR.or' {fn : Value → Value → Sem Value} {r r' : R2} (h : OpR X fn r) (h' : OpR X fn r') : OpR X fn (fun x y H Q => r x y H Q ∨ r' x y H Q) := by
  intro pins s σ H x y v u Q I rx ry q
  rcases q with q | q
  · exact h pins s σ H x y v u Q I rx ry q
  · exact h' pins s σ H x y v u Q I rx ry q
theorem rep_one {α : Type} (xs : List α) : (List.replicate 1 xs).flatten = xs := by simp
theorem rep_nil {α : Type} (n : Nat) : (List.replicate n ([] : List α)).flatten = [] := by simp
/-- int * int, list * int, tuple * int -/
def mulA : Op2
  | .int i, .int j, Q => CM i j ∧ Q (.int (i * j))
  | .list xs, .int n, Q => (-(2 ^ 63) ≤ n ∧ n < 2 ^ 63 ∧ xs.length * n.toNat ≤ 16777216) ∧ Q (.list (List.replicate n.toNat xs).flatten)
  | .tuple xs, .int n, Q => (-(2 ^ 62) ≤ n ∧ n ≤ 1000 ∧ xs.length ≤ 1000) ∧ Q (.tuple (List.replicate n.toNat xs).flatten)
  | _, _, _ => False
theorem od_mulA : OpD X (binaryOp .Mult) mulA := by
  refine OpD.or (OpR.or' op_mulC (OpR.or' op_rep op_repB)) ?_
  rintro x y H Q ⟨G, d, e, k, s, hx, hy, h, fin⟩
  cases d with
  | int i =>
    cases e with
    | int j => exact .inl ⟨i, j, hx.int, hy.int, h.1, fin _ _ G H h.2 (.refl s) (.int _)⟩
    | _ => exact (show False from h).elim
  | list xs =>
    cases e with
    | int n =>
      obtain ⟨p, us, rfl, h1, h2⟩ := hx.list s
      refine .inr (.inl ⟨p, n, us, rfl, hy.int, h1, h.1.1, h.1.2.1, line_le (by rw [h2.length]; exact h.1.2.2), fun r hr => ?_⟩)
      have g := Grow.laid (o := .lst (List.replicate n.toNat us).flatten) s hr
      exact fin _ _ _ _ h.2 g (.lst upd_same ((h2.mono g.gg).rep _))
    | _ => exact (show False from h).elim
  | tuple xs =>
    cases e with
    | int n =>
      obtain ⟨p, us, rfl, h1, h2⟩ := hx.tup
      have hl := h2.length
      refine .inr (.inr ⟨p, n, us, rfl, hy.int, Same.sqt s h1, h.1.1, h.1.2.1, by rw [hl]; exact h.1.2.2, fun z => ?_, fun _ _ r hr => ?_⟩)
      · have e : (List.replicate n.toNat xs).flatten = xs := by
          rcases z with z | z
          · subst z
            have : xs = [] := List.eq_nil_of_length_eq_zero (by rw [← hl]; rfl)
            subst this
            exact rep_nil _
          · subst z
            exact rep_one xs
        exact fin _ _ G H (e ▸ h.2) (.refl s) (.tup h1 h2)
      · have g := Grow.laid (o := .tup (List.replicate n.toNat us).flatten) s hr
        exact fin _ _ _ _ h.2 g (.tup upd_same ((h2.mono g.gg).rep _))
    | _ => exact (show False from h).elim
  | _ => exact (show False from h).elim
def intsOf : List D → Option (List Int)
  | [] => some []
  | .int i :: r => (intsOf r).map (i :: ·)
  | _ :: _ => none
theorem intsOf_eq : ∀ {ds : List D} {ns : List Int}, intsOf ds = some ns → ds = ns.map PyData.int
  | [], _, h => by cases h; rfl
  | d :: r, _, h => by
    cases d with
    | int i =>
      have h : (intsOf r).map (i :: ·) = some _ := h
      cases e : intsOf r with
      | none => rw [e] at h; cases h
      | some cs =>
        rw [e] at h
        cases h
        rw [intsOf_eq e]; rfl
    | _ => cases h
theorem intsOf_map : ∀ ns : List Int, intsOf (ns.map PyData.int) = some ns
  | [] => rfl
  | n :: ns => by
    show (intsOf (ns.map PyData.int)).map (n :: ·) = _
    rw [intsOf_map ns]; rfl
/-- order: of ints, of texts, of tuples of ints -/
def ltA : Op2
  | .int i, .int j, Q => Q (.bool (decide (i < j)))
  | .str x, .str y, Q => Q (.bool (decide (x.cps.toList < y.cps.toList)))
  | .tuple xs, .tuple ys, Q => optD (intsOf xs) fun ns => optD (intsOf ys) fun ms => Q (.bool (HT.lexLt ns ms))
  | _, _, _ => False
theorem od_ltA (c : Cok k X Γ) : OpD X (compareOp .Lt) ltA := by
  refine OpD.or (OpR.or' op_lt (OpR.or' op_lt_str (op_ltT (by have := c.hu; omega)))) ?_
  rintro x y H Q ⟨G, d, e, k, s, hx, hy, h, fin⟩
  cases d with
  | int i =>
    cases e with
    | int j => exact .inl ⟨i, j, hx.int, hy.int, fin _ _ G H h (.refl s) (.bl _)⟩
    | _ => exact (show False from h).elim
  | str i =>
    cases e with
    | str j => exact .inr (.inl ⟨i, j, hx.str, hy.str, fin _ _ G H h (.refl s) (.bl _)⟩)
    | _ => exact (show False from h).elim
  | tuple xs =>
    cases e with
    | tuple ys =>
      have h : optD (intsOf xs) _ := h
      obtain ⟨ns, e1, h⟩ := optD.to h
      obtain ⟨ms, e2, h⟩ := optD.to h
      obtain ⟨p, us, rfl, h1, h2⟩ := hx.tup
      obtain ⟨q, ws, rfl, h3, h4⟩ := hy.tup
      rw [intsOf_eq e1] at h2
      rw [intsOf_eq e2] at h4
      rw [h2.ints] at h1
      rw [h4.ints] at h3
      exact .inr (.inr ⟨p, q, ns, ms, rfl, rfl, Same.sqt s h1, Same.sqt s h3, fin _ _ G H h (.refl s) (.bl _)⟩)
    | _ => exact (show False from h).elim
  | _ => exact (show False from h).elim
/-- name.extend(e), e a list -/
def sExt (i : Nat) (t : TD) : TDS := fun R ρ => ownL ρ i fun _ => t ρ fun d ρ1 => ownL ρ1 i fun xs => match d with
  | .list ys => xs.length + ys.length ≤ 16777216 ∧ R.nx (ρ1.set i (.own (.list (xs ++ ys))))
  | _ => False
theorem ds_ext {i : Nat} {x : Str} {p1 apos cpos : Pos} {t : TD} (he : DE X Γ e t) (hN : X.N[i]? = some x := by rfl) (hv : Vis X.env.scope x := by first | exact Or.inl rfl | exact Or.inr (Or.inl rfl) | exact Or.inr (Or.inr rfl)) (hd : (x == ("__debug__" : Str)) = false := by decide)
    (hcd : (x == ("__classdict__" : Str)) = false := by decide)
    (hbase : attributeBase (.Name x p1) "extend" X.env (eval (.Name x p1) X.env) = eval (.Name x p1) X.env := by rfl)
    (hfew : ((backTo cpos (starEach [e] X.env)).all (fun x => !x.1) && (backToKw cpos (keywordEach [] X.env)).all (fun x => x.1.isSome)
      && decide ([e].length + ([] : List Keyword).length + (if ([] : List Keyword).isEmpty then 0 else 1) < 30)) = true := by rfl)
    (hline : (apos.endLine == cpos.line) = true := by rfl) (hs : starEach [e] X.env = (false, eval e X.env) :: starEach [] X.env := by rfl) (hplain : (backTo cpos (starEach [] X.env)).any (·.1) = false := by rfl)
    (hsw : swapsWith (.Call (.Attribute (.Name x p1) "extend" apos) [e] [] cpos) none pos.line X.env = pure false := by rfl) :
    DS X Γ (.Expr (.Call (.Attribute (.Name x p1) "extend" apos) [e] [] cpos) pos) (sExt i t) := by
  refine ⟨ps_imp (ps_expr (pe_bm PySem.F.plainAttrs_list PySem.F.slot_list_extend PySem.F.type_list_extend mt_extend (pe_var (i := i) hN hv hd hcd) (pa_cons he.pe pa_nil hs) hbase hfew hline hs hplain) hsw) ?_⟩
  rintro E σ H ⟨ρ, G, R, at_, ok, h⟩
  obtain ⟨ys, e0, h⟩ := h.to
  obtain ⟨p, xs0, hp, hx0, _⟩ := at_.ownLst e0
  refine ⟨_, hp, .inl ⟨rfl, _, SqL.of hx0⟩, ρ, G, _, at_, h, fun d ρ1 v G1 H1 h1 a1 s1 r1 => ?_⟩
  obtain ⟨ds, e1, h1⟩ := h1.to
  obtain ⟨p', xs, hp', hx, rx⟩ := a1.ownLst e1
  rw [hp] at hp'
  cases hp'
  cases d with
  | list zs =>
    cases r1 with
    | lst h2 h3 =>
      refine ⟨p, _, xs, _, rfl, rfl, hx, a1.sub _ _ h2, line_le (by rw [rx.length, h3.length]; exact h1.1), ?_⟩
      exact ok.nx _ _ _ _ (a1.write e1 hp (.inl ⟨_, _, rfl, upd_same, rx.append h3⟩)) s1 h1.2
  | _ => exact h1.elim
end
end Dn
/-! Dn: xs[::-1], zip, two names at once, ranges as values. -/
namespace Dn
open PySem PySem.Spec PyProof.Rows L2
section
variable {prog : Program} {w : World} {A : Around} {E : Value → Shared → Prop} {s : Shared}
theorem adj_rev (n : Nat) : Builtin.Slice.sliceAdjust none none (-1) (n : Int) = ((n : Int) - 1, -1) := by
  unfold Builtin.Slice.sliceAdjust
  rfl
theorem places_rev (n : Nat) : Builtin.Slice.slicePlaces ((n : Int) - 1) (-1) (-1) = n := by
  unfold Builtin.Slice.slicePlaces
  have h1 : ¬ ((-1 : Int) > 0) := by omega
  simp only [h1, if_false, show (- -1 : Int) = 1 from rfl, Int.ediv_one]
  split <;> omega
theorem applied_rev {sl : Addr} {vs : Value} {n : Nat} {Q : Int × Int × Nat → Shared → Prop} (hs : s.heap.IsSliceOf sl .none .none vs) (ps : IsPart vs (some (-1))) (h : Q ((n : Int) - 1, -1, n) s) :
    wpAny (model prog w) A (Builtin.Slice.sliceApplied (.ref sl) (pure (n : Int))) Q E s := by
  obtain ⟨os, hos, hcs, hds⟩ := id hs
  unfold Builtin.Slice.sliceApplied Builtin.Slice.sliceFields
  refine wpAny_bind (wpAny_bind (wpAny_field hos hds (x := .none) rfl (wpAny_bind (wpAny_field hos hds (x := .none) rfl (wpAny_bind (wpAny_field hos hds (x := vs) rfl (wpAny_pure ?_)))))))
  refine wpAny_bind (HT.slicePart_ ps ?_)
  show wpAny _ _ (if ((-1 : Int) == 0) = true then _ else _) _ _ s
  rw [if_neg (by decide)]
  refine wpAny_bind (HT.slicePart_ .none (wpAny_bind (HT.slicePart_ .none (wpAny_bind (wpAny_pure ?_)))))
  show wpAny _ _ (match Builtin.Slice.sliceAdjust none none (-1) (n : Int) with | (lo, hi) => pure (lo, (-1 : Int), Builtin.Slice.slicePlaces lo hi (-1))) _ _ s
  rw [adj_rev n]
  show wpAny _ _ (pure ((n : Int) - 1, (-1 : Int), Builtin.Slice.slicePlaces ((n : Int) - 1) (-1) (-1))) _ _ s
  rw [places_rev]
  exact wpAny_pure h
theorem pick_rev (xs : Array Value) : ((List.range xs.size).filterMap fun (m : Nat) => xs[((xs.size : Int) - 1 + (m : Int) * (-1)).toNat]?).toArray = xs.toList.reverse.toArray := by
  have e : ∀ n, (List.range n).filterMap (fun (m : Nat) => xs[((n : Int) - 1 + (m : Int) * (-1)).toNat]?) = ((List.range n).map fun k => n - 1 - k).filterMap (xs[·]?) := fun n => by
    rw [List.filterMap_map]
    congr 1
    funext m
    have : ((n : Int) - 1 + (m : Int) * (-1)).toNat = n - 1 - m := by omega
    rw [this]
    rfl
  rw [e, PySem.W.krv_range, List.filterMap_reverse, PySem.W.krv_all]
theorem item_tuple_rev {t sl : Addr} {items : Array Value} {vs : Value} {Q : Value → Shared → Prop} (ht : IsTup s.heap t items) (hs : s.heap.IsSliceOf sl .none .none vs) (ps : IsPart vs (some (-1)))
    (h : Q (.ref s.heap.objs.size) { s with heap := s.heap.push { cls := .type "tuple", data := .seq items.toList.reverse.toArray } }) (hsz : items.size ≤ sizeLine) : wpAny (model prog w) A (getItem (.ref t) (.ref sl)) Q E s := by
  have hok : sizeOk (.seq items.toList.reverse.toArray) := by
    show items.toList.reverse.toArray.size ≤ sizeLine
    rw [List.size_toArray, List.length_reverse, Array.length_toList]
    exact hsz
  obtain ⟨os, hos, hcs, hds⟩ := id hs
  have hTs : s.TypeIs (.ref sl) "slice" := ⟨os, hos, hcs⟩
  unfold getItem
  try with_reducible refine wpAny_holding ?_
  first | refine wpAny_bind (wpAny_pure ?_) | skip
  refine wpAny_bind (wpAny_sequenceKey ht.typeIs (by decide) ?_)
  refine wpAny_bind (wpAny_callSpecial?_slot (name := Str.ofString "__getitem__") ht.typeIs PyProof.Rows.slot_tuple_getitem (wpAny_call_entry PyProof.Rows.slot_tuple_getitem ht.typeIs PyProof.Rows.entry_tuple_getitem ?_ (PyProof.Rows.args_tuple_getitem _ _)))
  show wpAny _ _ (Builtin.Tuple.tupleItemsOf (.ref t) >>= _) _ _ s
  refine wpAny_bind (PyProof.Rows.tupleItemsOf_ ht (wpAny_bind (wpAny_typeOf hTs ?_)))
  rw [if_pos (by decide)]
  refine wpAny_bind (applied_rev hs ps ?_)
  have hno : ¬ (((items.size : Int) - 1 == 0 && (-1 : Int) == 1 && items.size == items.size) = true) := by simp
  show wpAny _ _ (if ((items.size : Int) - 1 == 0 && (-1 : Int) == 1 && items.size == items.size) = true then _ else _) _ _ s
  rw [if_neg hno, pick_rev]
  first
    | exact wpAny_bind (m := Builtin.Tuple.tupleExact _) (wpAny_newObj_type (wpAny_pure ⟨_, rfl, wpAny_pure h⟩) hok)
    | exact wpAny_bind (m := Builtin.Tuple.tupleExact _) (wpAny_newObj_type (wpAny_bind (wpAny_pure (wpAny_pure ⟨_, rfl, wpAny_pure h⟩))) hok)
    | exact wpAny_bind (wpAny_bind (m := Builtin.Tuple.tupleExact _) (wpAny_newObj_type (wpAny_pure (wpAny_pure ⟨_, rfl, wpAny_pure h⟩)) hok))
    | exact wpAny_bind (wpAny_bind (m := Builtin.Tuple.tupleExact _) (wpAny_newObj_type (wpAny_pure ⟨_, rfl, wpAny_pure h⟩) hok))
end
section
variable {X : Cx} {Γ : Gm} {k j n : Nat} {a b e : Expr} {es : List Expr} {st : Stmt} {rest body orelse : List Stmt} {pos : Pos} {t u : TDS}
def tRevT (K : PySem.W.Frag) (te : TE) : TE := fun σ H Q => te σ H fun x H1 => ∃ a xs, x = .ref a ∧ ((SqL K H1 a xs ∧ ∀ p, H1 p = none → Q (.ref p) (upd H1 p (.lst xs.reverse))) ∨ (SqT K H1 a xs ∧ ∀ p, H1 p = none → Q (.ref p) (upd H1 p (.tup xs.reverse))))
theorem pe_rev {te : TE} {kk : Nat} {p1 p2 p3 : Pos} (he : PE X e te) : PE X (.Subscript e (.Slice none none (some (.UnaryOp .USub (.Constant (.int 1) kk p1) p2)) p3) pos) (tRevT X.K te) := by
  refine ⟨fun pins s σ H Q I h => ?_⟩
  refine Subscript_ (thn (he.run pins s σ H _ I h) fun v s1 ⟨x, H1, I1, r1, q1⟩ => ?_)
  obtain ⟨a, xs, rfl, q⟩ := q1
  cases r1
  have hst : PO X (some (.UnaryOp .USub (.Constant (.int 1) kk p1) p2)) (tPart (tUn (rU fun i => .int (-i)) (tC (.int 1)))) := po_some (pe_un un_neg pe_int)
  refine wpAny_Slice ?_
  rw [evalPart_none]
  refine wpAny_pure (wpAny_pure ?_)
  refine thn (hst.run pins s1 σ H1 (fun o H4 => o = some (-1) ∧ H4 = H1) I1 ⟨1, rfl, -1, rfl, rfl, rfl⟩) fun vs s4 ⟨o, H4, I4, ps, eo, e4⟩ => ?_
  subst eo e4
  have I5 : Inv X pins σ H4 { s4 with heap := s4.heap.push { cls := .type "slice", data := .fields #[.none, .none, vs] } } := I4.kept (t' := s4.toks) fun b ob q => Heap.get?_push_of_some _ q
  show wpAny (model X.prog X.w) X.A (subscriptTail e (.Slice none none (some (.UnaryOp .USub (.Constant (.int 1) kk p1) p2)) p3) (.ref a) (.ref s4.heap.objs.size)) (EP X pins σ Q) X.xe { s4 with heap := s4.heap.push { cls := .type "slice", data := .fields #[.none, .none, vs] } }
  rcases q with ⟨hx, q⟩ | ⟨hx, q⟩
  · obtain ⟨its, r, ht, hz⟩ := I5.list hx
    have hlen := r.length
    refine tail_any (ops := [.ref a, .ref s4.heap.objs.size]) ht.isList.typeIs (PySem.slot_list_getitem.lookup) ?_ (by with_unfolding_all rfl)
    refine wpAny_getItem_list_slice ht.isList (Heap.IsSliceOf.new _ .none .none vs) .none .none ps (by decide) ?_ (by rw [List.size_toArray]; omega)
    rw [PySem.W.krv_pick]
    exact ⟨.ref _, _, I5.laid (t' := s4.toks) (o := .lst xs.reverse) (fun b ob q => Heap.get?_push_of_some _ q) (Nat.le_refl _) ⟨by rw [List.length_reverse]; exact hz, _, 0, r.reverse, Heap.get?_push_size _ rfl⟩, rfl, q _ (I5.hok.fresh (Nat.le_refl _))⟩
  · obtain ⟨its, r, ht, hz⟩ := I5.tuple hx
    have hlen := r.length
    refine tail_any (ops := [.ref a, .ref s4.heap.objs.size]) ht.typeIs (PyProof.Rows.slot_tuple_getitem.lookup) ?_ (by with_unfolding_all rfl)
    refine item_tuple_rev ht (Heap.IsSliceOf.new _ .none .none vs) ps ?_ (by rw [List.size_toArray]; omega)
    exact ⟨.ref _, _, I5.laid (t' := s4.toks) (o := .tup xs.reverse) (fun b ob q => Heap.get?_push_of_some _ q) (Nat.le_refl _) ⟨by rw [List.length_reverse]; exact hz, _, r.reverse, IsTup.new _ _⟩, rfl, q _ (I5.hok.fresh (Nat.le_refl _))⟩
def revD (d : D) (k : D → Prop) : Prop := match d with
  | .list xs => k (.list xs.reverse)
  | .tuple xs => k (.tuple xs.reverse)
  | _ => False
def dRev (ta : TB) : TD := fun ρ Q => ta ρ fun x ρ1 => withD ρ1 x fun d => revD d fun r => Q r ρ1
theorem de_rev {ta : TB} {kk : Nat} {p1 p2 p3 : Pos} (ha : DB X Γ a ta) : DE X Γ (.Subscript a (.Slice none none (some (.UnaryOp .USub (.Constant (.int 1) kk p1) p2)) p3) pos) (dRev ta) := by
  refine ⟨pe_imp (pe_rev ha.pe) ?_⟩
  rintro σ H Q ⟨ρ, G, k, at_, h, fin⟩
  refine ⟨ρ, G, _, at_, h, fun x ρ1 v G1 H1 h1 a1 s1 r1 => ?_⟩
  obtain ⟨d, l, h1⟩ := h1.to
  have r2 := a1.isx r1 l
  cases d with
  | list ds =>
    obtain ⟨p, us, rfl, h2, h3⟩ := r2.list a1.sub
    refine ⟨p, us, rfl, .inl ⟨.of h2, fun q hq => ?_⟩⟩
    have g := Grow.laid (o := .lst us.reverse) a1.sub hq
    exact fin _ _ _ _ _ h1 (a1.grow g) (s1.trans g.gg) (.lst upd_same (h3.mono g.gg).reverse)
  | tuple ds =>
    obtain ⟨p, us, rfl, h2, h3⟩ := r2.tup
    refine ⟨p, us, rfl, .inr ⟨Same.sqt a1.sub h2, fun q hq => ?_⟩⟩
    have g := Grow.laid (o := .tup us.reverse) a1.sub hq
    exact fin _ _ _ _ _ h1 (a1.grow g) (s1.trans g.gg) (.tup upd_same (h3.mono g.gg).reverse)
  | _ => exact (show False from h1).elim
/-- zip of two lists, two tuples -/
def zipL (xs ys : List D) : List D := (xs.zip ys).map fun p => .tuple [p.1, p.2]
def zipD (d e : D) (k : List D → Prop) : Prop := match d, e with
  | .list xs, .list ys => k (zipL xs ys)
  | .tuple xs, .tuple ys => k (zipL xs ys)
  | _, _ => False
def iZp (ta tb : TD) : TI' := fun ρ Q => ta ρ fun d ρ1 => tb ρ1 fun e ρ2 => zipD d e fun ds => Q ds ρ2
theorem zipL_get {xs ys : List D} {i : Nat} {x y : D} (h1 : xs[i]? = some x) (h2 : ys[i]? = some y) : (zipL xs ys)[i]? = some (.tuple [x, y]) := by
  unfold zipL
  rw [List.getElem?_map, (List.getElem?_zip_eq_some (z := (x, y))).mpr ⟨h1, h2⟩]; rfl
theorem zipL_len (xs ys : List D) : (zipL xs ys).length = min xs.length ys.length := by unfold zipL; rw [List.length_map, List.length_zip]
theorem jok_zip {K : PySem.W.Frag} {J : It} {xs ys : List D} {us ws : List V} {G1 : Hp} (rx : IsAll K G1 us xs) (ry : IsAll K G1 ws ys) (hgo : ∀ i H u w, Same G1 H → us[i]? = some u → ws[i]? = some w → J.go i H) (hst : ∀ i H, Same G1 H → us.length ≤ i ∨ ws.length ≤ i → J.stop i H)
    (hy : ∀ i H v H', Same G1 H → J.yld i H v H' → ∃ T u w, v = .ref T ∧ H T = none ∧ H' = upd H T (.tup [u, w]) ∧ us[i]? = some u ∧ ws[i]? = some w) : JOk K J (zipL xs ys) G1 := by
  have l := zipL_len xs ys
  have l1 := rx.length
  have l2 := ry.length
  refine ⟨fun i H G s1 s2 hi => ?_, fun H G s1 s2 => ?_, fun i H G v H' s1 s2 hi y => ?_⟩
  · exact hgo i H _ _ (s1.trans s2) (List.getElem?_eq_getElem (by omega)) (List.getElem?_eq_getElem (by omega))
  · exact hst _ H (s1.trans s2) (by omega)
  · obtain ⟨T, u, w, rfl, hT, rfl, h1, h2⟩ := hy i H v H' (s1.trans s2) y
    obtain ⟨d, h3, h4⟩ := rx.get h1
    obtain ⟨e, h5, h6⟩ := ry.get h2
    refine ⟨_, upd G T (.tup [u, w]), zipL_get h3 h5, Grow.laid s2 hT, ?_⟩
    have sg : Same G (upd G T (.tup [u, w])) := fun b o e => by rw [upd_ne (ne_of_none e (s2.free hT))]; exact e
    exact .tup upd_same (.cons ((h4.mono s1).mono sg) (.cons ((h6.mono s1).mono sg) .nil))
theorem di_zip {elts : List Expr} {kk : Nat} {tpos p : Pos} {ta tb : TD} (c : Cok k X Γ) (ha : DE X Γ a ta) (hb : DE X Γ b tb) (hg : Gl X "zip" := by rfl) (hs : starEach [a, b] X.env = (false, eval a X.env) :: starEach [b] X.env := by rfl)
    (hs2 : starEach [b] X.env = (false, eval b X.env) :: starEach [] X.env := by rfl) (hpl : (backTo pos (starEach [b] X.env)).any (·.1) = false := by rfl) : DI X Γ (.Tuple elts kk tpos) (.Call (.Name "zip" p) [a, b] [] pos) (iZp ta tb) := by
  refine ⟨pi_imp (RZ.pi_zipA hg (c.bl _ rfl) (pa_cons ha.pe (pa_cons hb.pe pa_nil hs2) hs) hs hpl) ?_⟩
  rintro σ H R ⟨ρ, G, k, at_, h, fin⟩
  refine ⟨ρ, G, _, at_, h, fun d ρ1 v G1 H1 h1 a1 s1 r1 => ⟨ρ1, G1, _, a1, h1, fun e ρ2 v2 G2 H2 h2 a2 s2 r2 => ?_⟩⟩
  have r1 := r1.mono s2
  cases d with
  | list xs =>
    cases e with
    | list ys =>
      cases r1 with
      | lst g1 g2 =>
        cases r2 with
        | lst g3 g4 =>
          refine ⟨_, _, _, _, rfl, .inl ⟨.of (a2.sub _ _ g1), .of (a2.sub _ _ g3), fin _ _ _ _ _ h2 a2 (s1.trans s2) (jok_zip g2 g4 (fun i H u w s e1 e2 => ⟨_, _, u, w, s.seq (.of g1), s.seq (.of g3), e1, e2⟩) (fun i H s e => ⟨_, _, s.seq (.of g1), s.seq (.of g3), e⟩) fun i H v H' s ⟨T, u, w, e1, e2, e3, e4, e5⟩ => ?_)⟩⟩
          exact ⟨T, u, w, e1, e2, e3, e4 _ (s.seq (.of g1)), e5 _ (s.seq (.of g3))⟩
    | _ => exact (show False from h2).elim
  | tuple xs =>
    cases e with
    | tuple ys =>
      cases r1 with
      | tup g1 g2 =>
        cases r2 with
        | tup g3 g4 =>
          refine ⟨_, _, _, _, rfl, .inr ⟨Same.sqt a2.sub g1, Same.sqt a2.sub g3, fin _ _ _ _ _ h2 a2 (s1.trans s2) (jok_zip g2 g4 (fun i H u w s e1 e2 => ⟨_, _, u, w, Same.sqt s g1, Same.sqt s g3, e1, e2⟩) (fun i H s e => ⟨_, _, Same.sqt s g1, Same.sqt s g3, e⟩) fun i H v H' s ⟨T, u, w, e1, e2, e3, e4, e5⟩ => ?_)⟩⟩
          exact ⟨T, u, w, e1, e2, e3, e4 _ (Same.sqt s g1), e5 _ (Same.sqt s g3)⟩
    | _ => exact (show False from h2).elim
  | _ => exact (show False from h2).elim
end
end Dn
/-! Dn: two names at once, one of them a new list; a = b = e; ranges as values; comprehensions of two clauses. -/
namespace Dn
open PySem PySem.Spec PyProof.Rows L2
section
variable {X : Cx} {Γ : Gm} {k j n : Nat} {a b e : Expr} {es : List Expr} {st : Stmt} {rest body orelse : List Stmt} {pos : Pos} {t u : TDS}
/-- a constant -/
structure DK (X : Cx) (e : Expr) (d : D) (v : V) : Prop where
  pe : PE X e (tC v)
  is : ∀ (K : PySem.W.Frag) (H : Hp), Is K H v d
theorem dk_int {i : Int} {kk : Nat} {p : Pos} : DK X (.Constant (.int i) kk p) (.int i) (.int i) := ⟨pe_int, fun _ _ => .int i⟩
theorem dk_non {kk : Nat} {p : Pos} : DK X (.Constant .none kk p) .none .non := ⟨pe_non, fun _ _ => .non⟩
theorem dk_str {z : Str} {kk : Nat} {p : Pos} : DK X (.Constant (.str z) kk p) (.str z) (.str z) := ⟨pe_str, fun _ _ => .str _⟩
theorem dk_bl {z : Bool} {kk : Nat} {p : Pos} : DK X (.Constant (.bool z) kk p) (.bool z) (.bl z) := ⟨pe_bl, fun _ _ => .bl _⟩
/-- a, b = a new list, a constant -/
def sParF (i j : Nat) (t : TD) (c : D) : TDS := fun R ρ => t ρ fun d ρ' => R.nx ((ρ'.set i (.own d)).set j (.val c))
theorem ds_parF {i j : Nat} {x y : Str} {t : TD} {d : D} {v : V} {px py pt : Pos} {kt k2 pt2} (c : Cok k X Γ) (hi : X.N[i]? = some x) (hj : X.N[j]? = some y) (hij : i ≠ j)
    (hx : X.env.scope.names.lookup x = some .local) (hy : X.env.scope.names.lookup y = some .local) (ha : DF X Γ a t) (hb : DK X b d v) (hI : Γ.I.contains i = false := by rfl) (hJ : Γ.I.contains j = false := by rfl)
    (hn : starEach [a, b] X.env = (false, eval a X.env) :: starEach [b] X.env := by rfl) (hn2 : starEach [b] X.env = (false, eval b X.env) :: starEach [] X.env := by rfl)
    (hw : swappedStores [.Tuple [.Name x px, .Name y py] kt pt] (.Tuple [a, b] k2 pt2) X.env = pure (some [x, y]) := by rfl)
    (hs : swapsWithSole [.Tuple [.Name x px, .Name y py] kt pt] (.Tuple [a, b] k2 pt2) pos.line X.env = pure false := by rfl) :
    DS X Γ (.Assign [.Tuple [.Name x px, .Name y py] kt pt] (.Tuple [a, b] k2 pt2) pos) (sParF i j t d) := by
  refine ⟨ps_imp (ps_par c.calm c.nd hi hj hij hx hy (pa_cons ha.pe (pa_cons hb.pe pa_nil hn2) hn) hw hs) ?_⟩
  rintro E σ H ⟨ρ, G, R, at_, ok, h⟩
  refine ⟨ρ, G, _, at_, h, fun d' ρ' p G' H' hk a' s' g0 h0 own hno => ?_⟩
  exact ⟨_, _, rfl, ok.nx _ _ _ _ ((a'.setOwn hI g0 h0 own hno).set hJ (hb.is _ _)) s' hk⟩
/-- a, b = e, a new list -/
def sParE (i j : Nat) (t u : TD) : TDS := fun R ρ => t ρ fun d ρ1 => u ρ1 fun d' ρ2 => R.nx ((ρ2.set i (.val d)).set j (.own d'))
theorem ds_parE {i j : Nat} {x y : Str} {t u : TD} {px py pt : Pos} {kt k2 pt2} (c : Cok k X Γ) (hi : X.N[i]? = some x) (hj : X.N[j]? = some y) (hij : i ≠ j)
    (hx : X.env.scope.names.lookup x = some .local) (hy : X.env.scope.names.lookup y = some .local) (ha : DE X Γ a t) (hb : DF X Γ b u) (hI : Γ.I.contains i = false := by rfl) (hJ : Γ.I.contains j = false := by rfl)
    (hn : starEach [a, b] X.env = (false, eval a X.env) :: starEach [b] X.env := by rfl) (hn2 : starEach [b] X.env = (false, eval b X.env) :: starEach [] X.env := by rfl)
    (hw : swappedStores [.Tuple [.Name x px, .Name y py] kt pt] (.Tuple [a, b] k2 pt2) X.env = pure (some [x, y]) := by rfl)
    (hs : swapsWithSole [.Tuple [.Name x px, .Name y py] kt pt] (.Tuple [a, b] k2 pt2) pos.line X.env = pure false := by rfl) :
    DS X Γ (.Assign [.Tuple [.Name x px, .Name y py] kt pt] (.Tuple [a, b] k2 pt2) pos) (sParE i j t u) := by
  refine ⟨ps_imp (ps_par c.calm c.nd hi hj hij hx hy (pa_cons ha.pe (pa_cons hb.pe pa_nil hn2) hn) hw hs) ?_⟩
  rintro E σ H ⟨ρ, G, R, at_, ok, h⟩
  refine ⟨ρ, G, _, at_, h, fun d1 ρ1 v1 G1 H1 h1 a1 s1 r1 => ⟨ρ1, G1, _, a1, h1, fun d' ρ' p G' H' hk a' s' g0 h0 own hno => ?_⟩⟩
  have a2 := a'.set (i := i) hI (r1.mono s')
  refine ⟨_, _, rfl, ok.nx _ _ _ _ (a2.setOwn hJ g0 h0 own fun j' dj q1 q2 => ?_) (s1.trans s') hk⟩
  by_cases hj' : i = j'
  · subst hj'
    have hl : i < ρ'.length := by
      rcases Nat.lt_or_ge i ρ'.length with z | z
      · exact z
      · rw [List.getElem?_eq_none (by rw [List.length_set]; exact z)] at q1; cases q1
    rw [List.getElem?_set_self hl] at q1
    cases q1
  · rw [List.getElem?_set_ne hj'] at q1 q2
    exact hno j' dj q1 q2
/-- a, b, c = a new list, two constants -/
def sPar3F (i j l : Nat) (t : TD) (c c' : D) : TDS := fun R ρ => t ρ fun d ρ' => R.nx (((ρ'.set i (.own d)).set j (.val c)).set l (.val c'))
theorem ds_par3F {i j l : Nat} {x y z : Str} {c' : Expr} {t : TD} {d d' : D} {v v' : V} {px py pz pt : Pos} {kt k2 pt2} (c : Cok k X Γ) (hi : X.N[i]? = some x) (hj : X.N[j]? = some y) (hl : X.N[l]? = some z) (hij : i ≠ j) (hil : i ≠ l) (hjl : j ≠ l)
    (hx : X.env.scope.names.lookup x = some .local) (hy : X.env.scope.names.lookup y = some .local) (hz : X.env.scope.names.lookup z = some .local) (ha : DF X Γ a t) (hb : DK X b d v) (hc : DK X c' d' v') (hI : Γ.I.contains i = false := by rfl) (hJ : Γ.I.contains j = false := by rfl) (hL : Γ.I.contains l = false := by rfl)
    (hn : starEach [a, b, c'] X.env = (false, eval a X.env) :: starEach [b, c'] X.env := by rfl) (hn2 : starEach [b, c'] X.env = (false, eval b X.env) :: starEach [c'] X.env := by rfl) (hn3 : starEach [c'] X.env = (false, eval c' X.env) :: starEach [] X.env := by rfl)
    (hw : swappedStores [.Tuple [.Name x px, .Name y py, .Name z pz] kt pt] (.Tuple [a, b, c'] k2 pt2) X.env = pure (some [x, y, z]) := by rfl)
    (hs : swapsWithSole [.Tuple [.Name x px, .Name y py, .Name z pz] kt pt] (.Tuple [a, b, c'] k2 pt2) pos.line X.env = pure false := by rfl) :
    DS X Γ (.Assign [.Tuple [.Name x px, .Name y py, .Name z pz] kt pt] (.Tuple [a, b, c'] k2 pt2) pos) (sPar3F i j l t d d') := by
  refine ⟨ps_imp (ps_par3 c.calm c.nd hi hj hl hij hil hjl hx hy hz (pa_cons ha.pe (pa_cons hb.pe (pa_cons hc.pe pa_nil hn3) hn2) hn) hw hs) ?_⟩
  rintro E σ H ⟨ρ, G, R, at_, ok, h⟩
  refine ⟨ρ, G, _, at_, h, fun d1 ρ' p G' H' hk a' s' g0 h0 own hno => ?_⟩
  exact ⟨_, _, _, rfl, ok.nx _ _ _ _ (((a'.setOwn hI g0 h0 own hno).set hJ (hb.is _ _)).set hL (hc.is _ _)) s' hk⟩
/-- a = b = e -/
def sAsg2 (t : TD) (g h : TDG) : TDS := fun R ρ => t ρ fun d ρ' => g d ρ' fun ρ2 => h d ρ2 R.nx
theorem ds_asg2 {t1 t2 : Expr} {t : TD} {js js2 : List Nat} {g h : TDG} (he : DE X Γ e t) (hg : DG X Γ t1 js g) (hh : DG X Γ t2 js2 h) (ha : (assignEach [t1, t2] X.env).map (·.2) = [assign t1 X.env, assign t2 X.env] := by rfl) (hw : swappedStores [t1, t2] e X.env = pure none := by rfl) :
    DS X Γ (.Assign [t1, t2] e pos) (sAsg2 t g h) := by
  refine ⟨ps_imp (ps_asg2 he.pe hg.pg hh.pg ha hw) ?_⟩
  rintro E σ H ⟨ρ, G, R, at_, ok, h⟩
  exact ⟨ρ, G, _, at_, h, fun d ρ' v G' H' hk a' s' r => ⟨ρ', G', d, _, a', r, hk, fun ρ2 σ2 hk2 a2 _ _ => ⟨ρ2, G', d, _, a2, r, hk2, fun ρ3 σ3 hk3 a3 _ _ => ok.nx _ _ _ _ a3 s' hk3⟩⟩⟩
/-! ### ranges as values -/
theorem isall_rg {K : PySem.W.Frag} {H : Hp} (a b : Int) : IsAll K H (rgV a b) (rangeD a 1 (b - a).toNat) := by
  have e : rangeD a 1 (b - a).toNat = (List.map (fun i : Nat => a + (i : Int)) (List.range (b - a).toNat)).map PyData.int := by
    unfold rangeD
    rw [List.map_map]
    apply List.map_congr_left
    intro i _
    show PyData.int (a + (i : Int) * 1) = .int (a + i)
    rw [Int.mul_one]
  have e2 : rgV a b = (List.map (fun i : Nat => a + (i : Int)) (List.range (b - a).toNat)).map V.int := by
    unfold rgV
    rw [List.map_map]; rfl
  rw [e, e2]
  exact IsAll.of_ints _
def dRg1 (mk : List D → D) (ta : TB) : TD := fun ρ Q => ta ρ fun x ρ1 => withD ρ1 x fun d => asI d fun i => (-(2 ^ 62) ≤ i ∧ i ≤ 16777216) ∧ Q (mk (rangeD 0 1 i.toNat)) ρ1
def dRg2 (mk : List D → D) (ta tb : TB) : TD := fun ρ Q => ta ρ fun x ρ1 => tb ρ1 fun y ρ2 => withD ρ2 x fun d => withD ρ2 y fun e => asI d fun i => asI e fun j => RgOk i j ∧ Q (mk (rangeD i 1 (j - i).toNat)) ρ2
theorem rg1_rd {mk : List D → D} {ta : TB} {K : PySem.W.Frag} {σ : L2.St} {H : Hp} {k : D → Ro → Prop} {ρ : Ro} {G : Hp} (at_ : At K Γ ρ σ G H) (h : dRg1 mk ta ρ k) {R : Int → Int → Hp → Prop}
    (hR : ∀ i ρ1 G1 H1, At K Γ ρ1 σ G1 H1 → Same G G1 → RgOk 0 i → k (mk (rangeD 0 1 i.toNat)) ρ1 → R 0 i H1) : tRg1 (rdB K Γ ta) σ H R := by
  refine ⟨ρ, G, _, at_, h, fun x ρ1 v1 G1 H1 h1 a1 s1 r1 => ?_⟩
  obtain ⟨d, l1, h1⟩ := h1.to
  have r2 := a1.isx r1 l1
  obtain ⟨i, rfl, hi, h1⟩ := h1.to
  exact ⟨i, r2.int, hR i ρ1 G1 H1 a1 s1 ⟨by omega, by omega, by omega, by omega, by omega⟩ h1⟩
theorem rg2_rd {mk : List D → D} {ta tb : TB} {K : PySem.W.Frag} {σ : L2.St} {H : Hp} {k : D → Ro → Prop} {ρ : Ro} {G : Hp} (at_ : At K Γ ρ σ G H) (h : dRg2 mk ta tb ρ k) {R : Int → Int → Hp → Prop}
    (hR : ∀ i j ρ1 G1 H1, At K Γ ρ1 σ G1 H1 → Same G G1 → RgOk i j → k (mk (rangeD i 1 (j - i).toNat)) ρ1 → R i j H1) : tRg2 (rdB K Γ ta) (rdB K Γ tb) σ H R := by
  refine ⟨ρ, G, _, at_, h, fun x ρ1 v1 G1 H1 h1 a1 s1 r1 => ⟨ρ1, G1, _, a1, h1, fun y ρ2 v2 G2 H2 h2 a2 s2 r2 => ?_⟩⟩
  obtain ⟨d, l1, h3⟩ := withD.to h2
  obtain ⟨e', l2, h4⟩ := withD.to h3
  have q1 := a2.isx (r1.mono s2) l1
  have q2 := a2.isx r2 l2
  obtain ⟨i, e1, h5⟩ := asI.to h4
  obtain ⟨j, e2, ok, h6⟩ := asI.to h5
  rw [e1] at q1
  rw [e2] at q2
  exact ⟨i, j, q1.int, q2.int, hR i j ρ2 G2 H2 a2 (s1.trans s2) ok h6⟩
theorem df_listRg1 {ta : TB} {p q : Pos} (c : Cok k X Γ) (ha : DB X Γ a ta) (hg : Gl X "list" := by rfl) (hg2 : Gl X "range" := by rfl) (hs : starEach [a] X.env = (false, eval a X.env) :: starEach [] X.env := by rfl) {pos2 : Pos}
    (hs2 : starEach [.Call (.Name "range" q) [a] [] pos2] X.env = (false, eval (.Call (.Name "range" q) [a] [] pos2) X.env) :: starEach [] X.env := by rfl) : DF X Γ (.Call (.Name "list" p) [.Call (.Name "range" q) [a] [] pos2] [] pos) (dRg1 .list ta) := by
  refine ⟨pe_imp (pe_listRg c.calm hg (c.bl _ rfl) (prg_1 hg2 (c.bl _ rfl) ha.pe hs) hs2) ?_⟩
  rintro σ H Q ⟨ρ, G, k, at_, h, fin⟩
  refine rg1_rd at_ h fun i ρ1 G1 H1 a1 s1 ok hk => ⟨ok, fun q hq => ?_⟩
  obtain ⟨a2, g0, h0, hno⟩ := a1.fresh (o := .lst (rgV 0 i)) hq
  exact fin _ _ q _ _ hk a2 s1 g0 h0 (.inl ⟨_, _, rfl, upd_same, by have := isall_rg (K := X.K) (H := G1) 0 i; rw [Int.sub_zero] at this; exact this⟩) hno
theorem df_listRg2 {ta tb : TB} {p q : Pos} (c : Cok k X Γ) (ha : DB X Γ a ta) (hb : DB X Γ b tb) (hg : Gl X "list" := by rfl) (hg2 : Gl X "range" := by rfl) (hs : starEach [a, b] X.env = (false, eval a X.env) :: starEach [b] X.env := by rfl)
    (hsb : starEach [b] X.env = (false, eval b X.env) :: starEach [] X.env := by rfl) {pos2 : Pos} (hp2 : (backTo pos2 (starEach [b] X.env)).any (·.1) = false := by rfl)
    (hs2 : starEach [.Call (.Name "range" q) [a, b] [] pos2] X.env = (false, eval (.Call (.Name "range" q) [a, b] [] pos2) X.env) :: starEach [] X.env := by rfl) : DF X Γ (.Call (.Name "list" p) [.Call (.Name "range" q) [a, b] [] pos2] [] pos) (dRg2 .list ta tb) := by
  refine ⟨pe_imp (pe_listRg c.calm hg (c.bl _ rfl) (prg_2 hg2 (c.bl _ rfl) ha.pe hb.pe hs hsb hp2) hs2) ?_⟩
  rintro σ H Q ⟨ρ, G, k, at_, h, fin⟩
  refine rg2_rd at_ h fun i j ρ1 G1 H1 a1 s1 ok hk => ⟨ok, fun q hq => ?_⟩
  obtain ⟨a2, g0, h0, hno⟩ := a1.fresh (o := .lst (rgV i j)) hq
  exact fin _ _ q _ _ hk a2 s1 g0 h0 (.inl ⟨_, _, rfl, upd_same, isall_rg i j⟩) hno
theorem de_tupRg1 {ta : TB} {p q : Pos} (c : Cok k X Γ) (ha : DB X Γ a ta) (hg : Gl X "tuple" := by rfl) (hg2 : Gl X "range" := by rfl) (hs : starEach [a] X.env = (false, eval a X.env) :: starEach [] X.env := by rfl) {pos2 : Pos}
    (hs2 : starEach [.Call (.Name "range" q) [a] [] pos2] X.env = (false, eval (.Call (.Name "range" q) [a] [] pos2) X.env) :: starEach [] X.env := by rfl) : DE X Γ (.Call (.Name "tuple" p) [.Call (.Name "range" q) [a] [] pos2] [] pos) (dRg1 .tuple ta) := by
  refine ⟨pe_imp (pe_tupRg c.calm hg (c.bl _ rfl) (prg_1 hg2 (c.bl _ rfl) ha.pe hs) hs2) ?_⟩
  rintro σ H Q ⟨ρ, G, k, at_, h, fin⟩
  refine rg1_rd at_ h fun i ρ1 G1 H1 a1 s1 ok hk => ⟨ok, fun q hq => ?_⟩
  have g := Grow.laid (o := .tup (rgV 0 i)) a1.sub hq
  exact fin _ _ _ _ _ hk (a1.grow g) (s1.trans g.gg) (.tup upd_same (by have := isall_rg (K := X.K) (H := upd G1 q (.tup (rgV 0 i))) 0 i; rw [Int.sub_zero] at this; exact this))
theorem de_tupRg2 {ta tb : TB} {p q : Pos} (c : Cok k X Γ) (ha : DB X Γ a ta) (hb : DB X Γ b tb) (hg : Gl X "tuple" := by rfl) (hg2 : Gl X "range" := by rfl) (hs : starEach [a, b] X.env = (false, eval a X.env) :: starEach [b] X.env := by rfl)
    (hsb : starEach [b] X.env = (false, eval b X.env) :: starEach [] X.env := by rfl) {pos2 : Pos} (hp2 : (backTo pos2 (starEach [b] X.env)).any (·.1) = false := by rfl)
    (hs2 : starEach [.Call (.Name "range" q) [a, b] [] pos2] X.env = (false, eval (.Call (.Name "range" q) [a, b] [] pos2) X.env) :: starEach [] X.env := by rfl) : DE X Γ (.Call (.Name "tuple" p) [.Call (.Name "range" q) [a, b] [] pos2] [] pos) (dRg2 .tuple ta tb) := by
  refine ⟨pe_imp (pe_tupRg c.calm hg (c.bl _ rfl) (prg_2 hg2 (c.bl _ rfl) ha.pe hb.pe hs hsb hp2) hs2) ?_⟩
  rintro σ H Q ⟨ρ, G, k, at_, h, fin⟩
  refine rg2_rd at_ h fun i j ρ1 G1 H1 a1 s1 ok hk => ⟨ok, fun q hq => ?_⟩
  have g := Grow.laid (o := .tup (rgV i j)) a1.sub hq
  exact fin _ _ _ _ _ hk (a1.grow g) (s1.trans g.gg) (.tup upd_same (isall_rg i j))
end
end Dn
/-! Dn: comprehensions of two clauses. -/
namespace Dn
open PySem PySem.Spec PyProof.Rows L2
section
variable {X : Cx} {Γ : Gm} {k j n : Nat} {a b e : Expr} {es : List Expr} {st : Stmt} {rest body orelse : List Stmt} {pos : Pos} {t u : TDS}
def dLc2 (ti : TI') (g : Hp → Hp → TDG) (tt : Hp → Hp → TT') (ti1 : Hp → Hp → TI') (g1 : Hp → Hp → TDG) (tt1 : Hp → Hp → TT') (te : Hp → Hp → TD) (vs vs1 : List Nat) : TD := fun ρ Q => ti ρ fun ds ρ1 => ∃ I : List D → List D → Ro → Prop, I ds [] (wipeR ρ1 vs) ∧
  (∀ x r acc ρ, I (x :: r) acc ρ → ∀ G0 H0, g G0 H0 x ρ fun ρ2 => tt G0 H0 ρ2 fun b ρ3 => brn b
    (ti1 G0 H0 ρ3 fun es ρ4 => ∃ J : List D → List D → Ro → Prop, J es acc (wipeR ρ4 vs1) ∧
      (∀ y q acc ρ, J (y :: q) acc ρ → ∀ G0 H0, g1 G0 H0 y ρ fun ρ5 => tt1 G0 H0 ρ5 fun b ρ6 => brn b (te G0 H0 ρ6 fun z ρ7 => acc.length < 16777216 ∧ J q (acc ++ [z]) (wipeR ρ7 vs1)) (J q acc (wipeR ρ6 vs1))) ∧
      ∀ acc ρ, J [] acc ρ → I r acc (wipeR ρ vs))
    (I r acc (wipeR ρ3 vs))) ∧
  ∀ acc ρ, I [] acc ρ → Q (.list acc) ρ
theorem lc2_rd {ti : TI'} {g g1 : Hp → Hp → TDG} {tt tt1 : Hp → Hp → TT'} {ti1 : Hp → Hp → TI'} {te : Hp → Hp → TD} {vs js vs1 js1 : List Nat} {K : PySem.W.Frag} (hI : ∀ i ∈ Γ.I, i ∉ vs) (hj : ∀ i ∈ js, i ∈ vs) (hv1 : ∀ i ∈ vs1, i ∈ vs) (hj1 : ∀ i ∈ js1, i ∈ vs1) (g00' : Γ.Gh Γ.G0 Γ.H0)
    {wg wg1 : TG} {wt wt1 : TT} {we : TE} {wi1 : TI} (hg : ∀ G0 H0, Γ.Gh G0 H0 → ∀ v σ H Q, rdG K (Γ.inn G0 H0) js (g G0 H0) v σ H Q → wg v σ H Q) (ht : ∀ G0 H0, Γ.Gh G0 H0 → ∀ σ H Q, rdT K (Γ.inn G0 H0) (tt G0 H0) σ H Q → wt σ H Q)
    (hi1 : ∀ G0 H0, Γ.Gh G0 H0 → ∀ σ H R, rdI K (Γ.inn G0 H0) (ti1 G0 H0) σ H R → wi1 σ H R)
    (hg1 : ∀ G0 H0, Γ.Gh G0 H0 → ∀ v σ H Q, rdG K (Γ.inn G0 H0) js1 (g1 G0 H0) v σ H Q → wg1 v σ H Q) (ht1 : ∀ G0 H0, Γ.Gh G0 H0 → ∀ σ H Q, rdT K (Γ.inn G0 H0) (tt1 G0 H0) σ H Q → wt1 σ H Q)
    (he : ∀ G0 H0, Γ.Gh G0 H0 → ∀ σ H Q, rdE K (Γ.inn G0 H0) (te G0 H0) σ H Q → we σ H Q)
    {σ : L2.St} {H : Hp} {Q : VK} (h : rdF K Γ (dLc2 ti g tt ti1 g1 tt1 te vs vs1) σ H Q) : tLc2 (rdI K Γ ti) wg wt wi1 wg1 wt1 we vs vs1 σ H Q := by
  have g00 := g00'.1
  obtain ⟨ρ, G, k, at_, h, fin⟩ := h
  refine ⟨ρ, G, _, at_, h, fun ds ρ1 J G1 H1 ⟨I, h1, h2, h3⟩ a1 s1 j => fun p hp => ?_⟩
  have h0 : Γ.H0 p = none := a1.kept.free hp
  have g0 : Γ.G0 p = none := g00.free h0
  have aw := a1.wipe (τ := σ) (vs := vs) hI rfl fun _ _ => rfl
  obtain ⟨a2, q1, q2, q3⟩ := aw.fresh (o := .lst []) hp
  have sg : ∀ o, Γ.Gh Γ.G0 (upd Γ.H0 p o) := fun o => ⟨fun b u q => by rw [upd_ne (ne_of_none q g0)]; exact g00 b u q, fun P hP => by rw [upd_ne (ne_of_none (g00'.2 P hP) h0)]; exact g00'.2 P hP⟩
  have hI1 : ∀ i ∈ Γ.I, i ∉ vs1 := fun i hi z => hI i hi (hv1 i z)
  refine ⟨fun i m H' => m = ds.length - i ∧ i ≤ ds.length ∧ ∃ ρ' G' acc xs, At K Γ ρ' σ G' H' ∧ wipeR ρ' vs = ρ' ∧ Same G1 G' ∧ H' p = some (.lst xs) ∧ G' p = none ∧ IsAll K G' xs acc ∧ (∀ (j : Nat) dj, ρ'[j]? = some (.own dj) → σ[j]? ≠ some (some (.ref p))) ∧ I (ds.drop i) acc ρ',
    ⟨ds.length, by simp, Nat.zero_le _, _, G1, [], [], a2, wipeR_wipeR, Same.refl _, upd_same, q1, .nil, q3, h1⟩, ?_⟩
  rintro i m H' ⟨rfl, hi, ρ', G', acc, xs, a', hw, s', hp', gp', ra, hno, hI'⟩
  by_cases hlt : i < ds.length
  · refine .inr ⟨j.go i H' G' s' a'.sub hlt, fun H2 => ∃ ρ' G' acc xs, At K Γ ρ' σ G' H2 ∧ wipeR ρ' vs = ρ' ∧ Same G1 G' ∧ H2 p = some (.lst xs) ∧ G' p = none ∧ IsAll K G' xs acc ∧ (∀ (j : Nat) dj, ρ'[j]? = some (.own dj) → σ[j]? ≠ some (some (.ref p))) ∧ I (ds.drop (i + 1)) acc ρ',
      fun H2 ⟨ρ2, G2, acc2, xs2, r⟩ => ⟨ds.length - (i + 1), by omega, rfl, hlt, ρ2, G2, acc2, xs2, r⟩, fun x H2 y => ?_⟩
    obtain ⟨d, G2, hd, g2, r2⟩ := j.yld i H' G' x H2 s' a'.sub hlt y
    have e : ds.drop i = d :: ds.drop (i + 1) := by
      rw [List.drop_eq_getElem_cons hlt]
      rw [List.getElem?_eq_getElem hlt] at hd
      rw [Option.some.inj hd]
    rw [e] at hI'
    have a3 := a'.grow g2
    have s3 := s'.trans g2.gg
    have hp3 : H2 p = some (.lst xs) := g2.hh p _ hp'
    have gp3 : G2 p = none := by rw [g2.new p (some_ne hp')]; exact gp'
    have ra3 := ra.mono g2.gg
    have a4 := a3.aside hp3 gp3 g0 hno
    have a5 := a4.wipe (τ := wipe σ vs) (vs := vs) hI (wipe_length _ _) fun i hi => wipe_out' hi
    rw [hw] at a5
    refine hg Γ.G0 (upd Γ.H0 p (.lst xs)) (sg _) x (wipe σ vs) H2 _ ⟨ρ', G2, d, _, a5, r2, h2 d _ acc ρ' hI' _ _, fun ρ6 σ6 h6 a6 l6 f6 => ?_⟩
    have l6' : σ6.length = σ.length := l6.trans (wipe_length _ _)
    have f6' : ∀ i, i ∉ vs → σ6[i]? = σ[i]? := fun i hi => (f6 i fun z => hi (hj i z)).trans (wipe_out' hi)
    -- behind the outer turn
    have after : ∀ {ρ8 : Ro} {τ : L2.St} {G8 H8 : Hp} {xs' : List V} {acc' : List D}, τ.length = σ.length → (∀ i, i ∉ vs → τ[i]? = σ[i]?) → At K Γ ρ8 τ G8 H8 → H8 p = some (.lst xs') → G8 p = none → (∀ (j : Nat) dj, ρ8[j]? = some (.own dj) → τ[j]? ≠ some (some (.ref p))) →
        Same G2 G8 → IsAll K G8 xs' acc' → I (ds.drop (i + 1)) acc' (wipeR ρ8 vs) →
        ∃ ρ' G' acc xs, At K Γ ρ' σ G' H8 ∧ wipeR ρ' vs = ρ' ∧ Same G1 G' ∧ H8 p = some (.lst xs) ∧ G' p = none ∧ IsAll K G' xs acc ∧ (∀ (j : Nat) dj, ρ'[j]? = some (.own dj) → σ[j]? ≠ some (some (.ref p))) ∧ I (ds.drop (i + 1)) acc ρ' := by
      intro ρ8 τ G8 H8 xs' acc' lt ft b8 e8 g8 n8 s8 r8 i8
      have c8 := b8.wipe (τ := σ) (vs := vs) hI lt.symm fun i hi => (ft i hi).symm
      have n8' : ∀ (j : Nat) dj, (wipeR ρ8 vs)[j]? = some (.own dj) → σ[j]? ≠ some (some (.ref p)) := fun j dj z => by
        have hj : j ∉ vs := fun w => by cases wipeR_in z w
        rw [wipeR_out hj] at z
        rw [← ft j hj]
        exact n8 j dj z
      exact ⟨_, G8, acc', xs', c8, wipeR_wipeR, s3.trans s8, e8, g8, r8, n8', i8⟩
    refine ⟨wipe_ext l6' f6', ht Γ.G0 (upd Γ.H0 p (.lst xs)) (sg _) σ6 H2 _ ⟨ρ6, G2, _, a6, h6, fun b ρ7 G7 H7 hb1 a7 s7 => ?_⟩⟩
    cases b with
    | false =>
      obtain ⟨b7, e7, g7, n7⟩ := a7.back h0 g0
      exact iteF (after l6' f6' b7 e7 g7 n7 s7 (ra3.mono s7) hb1)
    | true =>
      refine iteT (hi1 Γ.G0 (upd Γ.H0 p (.lst xs)) (sg _) σ6 H7 _ ⟨ρ7, G7, _, a7, hb1, fun es ρ8 J1 G8 H8 ⟨Ij, k1, k2, k3⟩ a8 s8 jk => ?_⟩)
      obtain ⟨b8, e8, g8, n8⟩ := a8.back h0 g0
      have aw8 := b8.wipe (τ := σ6) (vs := vs1) hI1 rfl fun _ _ => rfl
      have nw8 : ∀ (j : Nat) dj, (wipeR ρ8 vs1)[j]? = some (.own dj) → σ6[j]? ≠ some (some (.ref p)) := fun j dj z => by
        have hj : j ∉ vs1 := fun w => by cases wipeR_in z w
        rw [wipeR_out hj] at z
        exact n8 j dj z
      refine ⟨fun j m H' => m = es.length - j ∧ j ≤ es.length ∧ ∃ ρ' G' acc xs, At K Γ ρ' σ6 G' H' ∧ wipeR ρ' vs1 = ρ' ∧ Same G8 G' ∧ H' p = some (.lst xs) ∧ G' p = none ∧ IsAll K G' xs acc ∧ (∀ (j : Nat) dj, ρ'[j]? = some (.own dj) → σ6[j]? ≠ some (some (.ref p))) ∧ Ij (es.drop j) acc ρ',
        ⟨es.length, by simp, Nat.zero_le _, _, G8, acc, xs, aw8, wipeR_wipeR, Same.refl _, e8, g8, ra3.mono (s7.trans s8), nw8, k1⟩, ?_⟩
      rintro jj mm H9 ⟨rfl, hjj, ρ9, G9, acc9, xs9, a9, hw9, s9, hp9, gp9, ra9, hno9, hI9⟩
      by_cases hlt9 : jj < es.length
      · refine .inr ⟨jk.go jj H9 G9 s9 a9.sub hlt9, fun H2 => ∃ ρ' G' acc xs, At K Γ ρ' σ6 G' H2 ∧ wipeR ρ' vs1 = ρ' ∧ Same G8 G' ∧ H2 p = some (.lst xs) ∧ G' p = none ∧ IsAll K G' xs acc ∧ (∀ (j : Nat) dj, ρ'[j]? = some (.own dj) → σ6[j]? ≠ some (some (.ref p))) ∧ Ij (es.drop (jj + 1)) acc ρ',
          fun H2 ⟨ρ2, G2, acc2, xs2, r⟩ => ⟨es.length - (jj + 1), by omega, rfl, hlt9, ρ2, G2, acc2, xs2, r⟩, fun x1 HA y1 => ?_⟩
        obtain ⟨d1, GA, hd1, gA, rA⟩ := jk.yld jj H9 G9 x1 HA s9 a9.sub hlt9 y1
        have e1 : es.drop jj = d1 :: es.drop (jj + 1) := by
          rw [List.drop_eq_getElem_cons hlt9]
          rw [List.getElem?_eq_getElem hlt9] at hd1
          rw [Option.some.inj hd1]
        rw [e1] at hI9
        have aA := a9.grow gA
        have sA := s9.trans gA.gg
        have hpA : HA p = some (.lst xs9) := gA.hh p _ hp9
        have gpA : GA p = none := by rw [gA.new p (some_ne hp9)]; exact gp9
        have raA := ra9.mono gA.gg
        have aB := aA.aside hpA gpA g0 hno9
        have aC := aB.wipe (τ := wipe σ6 vs1) (vs := vs1) hI1 (wipe_length _ _) fun i hi => wipe_out' hi
        rw [hw9] at aC
        refine hg1 Γ.G0 (upd Γ.H0 p (.lst xs9)) (sg _) x1 (wipe σ6 vs1) HA _ ⟨ρ9, GA, d1, _, aC, rA, k2 d1 _ acc9 ρ9 hI9 _ _, fun ρB σB hB aD lB fB => ?_⟩
        have lB' : σB.length = σ6.length := lB.trans (wipe_length _ _)
        have fB' : ∀ i, i ∉ vs1 → σB[i]? = σ6[i]? := fun i hi => (fB i fun z => hi (hj1 i z)).trans (wipe_out' hi)
        have afterI : ∀ {ρE : Ro} {GE HE : Hp} {xs' : List V} {acc' : List D}, At K (Γ.inn Γ.G0 (upd Γ.H0 p (.lst xs9))) ρE σB GE HE → Same GA GE → IsAll K GE xs' acc' → Ij (es.drop (jj + 1)) acc' (wipeR ρE vs1) →
            ∃ ρ' G' acc xs, At K Γ ρ' σ6 G' (upd HE p (.lst xs')) ∧ wipeR ρ' vs1 = ρ' ∧ Same G8 G' ∧ (upd HE p (.lst xs')) p = some (.lst xs) ∧ G' p = none ∧ IsAll K G' xs acc ∧ (∀ (j : Nat) dj, ρ'[j]? = some (.own dj) → σ6[j]? ≠ some (some (.ref p))) ∧ Ij (es.drop (jj + 1)) acc ρ' := by
          intro ρE GE HE xs' acc' aE sE rE iE
          obtain ⟨bE, eE, gE, nE⟩ := aE.back h0 g0
          have cE := bE.wipe (τ := σ6) (vs := vs1) hI1 lB'.symm fun i hi => (fB' i hi).symm
          have nE' : ∀ (j : Nat) dj, (wipeR ρE vs1)[j]? = some (.own dj) → σ6[j]? ≠ some (some (.ref p)) := fun j dj z => by
            have hj : j ∉ vs1 := fun w => by cases wipeR_in z w
            rw [wipeR_out hj] at z
            rw [← fB' j hj]
            exact nE j dj z
          exact ⟨_, GE, acc', xs', cE.poke gE h0 nE', wipeR_wipeR, sA.trans sE, upd_same, gE, rE, nE', iE⟩
        refine ⟨wipe_ext lB' fB', ht1 Γ.G0 (upd Γ.H0 p (.lst xs9)) (sg _) σB HA _ ⟨ρB, GA, _, aD, hB, fun b ρF GF HF hbF aF sF => ?_⟩⟩
        cases b with
        | true =>
          refine iteT (he Γ.G0 (upd Γ.H0 p (.lst xs9)) (sg _) σB HF _ ⟨ρF, GF, _, aF, hbF, fun yv ρH yH GH HH ⟨hl, hIH⟩ aH sH rH => ?_⟩)
          obtain ⟨_, eH, _, _⟩ := aH.back h0 g0
          exact ⟨xs9, eH, line_lt (by rw [raA.length]; exact hl), afterI aH (sF.trans sH) ((raA.mono (sF.trans sH)).append (.cons rH .nil)) hIH⟩
        | false =>
          have q := afterI aF sF (raA.mono sF) hbF
          obtain ⟨_, eF, _, _⟩ := aF.back h0 g0
          have eu : upd HF p (.lst xs9) = HF := by
            funext b
            by_cases hb : b = p
            · subst hb; rw [upd_same, eF]
            · rw [upd_ne hb]
          rw [eu] at q
          exact iteF q
      · have ee : jj = es.length := by omega
        subst ee
        rw [List.drop_length] at hI9
        exact .inl ⟨jk.stop H9 G9 s9 a9.sub, after l6' f6' a9 hp9 gp9 hno9 ((s7.trans s8).trans s9) ra9 (k3 _ _ hI9)⟩
  · have e : i = ds.length := by omega
    subst e
    rw [List.drop_length] at hI'
    exact .inl ⟨j.stop H' G' s' a'.sub, fin _ _ _ _ _ (h3 _ _ hI') a' (s1.trans s') gp' h0 (.inl ⟨xs, acc, rfl, hp', ra⟩) hno⟩
theorem pi_ex {ι : Type} {p : ι → Prop} {tg iter : Expr} {t : ι → TI} (h : ∀ i, p i → PI X tg iter (t i)) : PI X tg iter (fun σ H R => ∃ i, p i ∧ t i σ H R) := ⟨fun pins s σ H R I ⟨i, hp, q⟩ => (h i hp).run pins s σ H R I q⟩
theorem df_lc2 {elt tg iter tg1 iter1 : Expr} {ifs ifs1 : List Expr} {scope : Scope} {own : List (Str × Nat)} {vs1 : List Nat} {ti : TI'} {js js1 : List Nat} {g g1 : Hp → Hp → TDG} {tt tt1 : Hp → Hp → TT'} {ti1 : Hp → Hp → TI'} {te : Hp → Hp → TD} (c : Cok k X Γ) (hi : DI X Γ tg iter ti) (ok : blkC X.N X.env.scope scope own = true)
    (hg : InBlk X Γ k scope fun X Γ G0 H0 => DG X Γ tg js (g G0 H0)) (ht : InBlk X Γ k scope fun X Γ G0 H0 => DTs X Γ ifs (tt G0 H0)) (hi1 : InBlk X Γ k scope fun X Γ G0 H0 => DI X Γ tg1 iter1 (ti1 G0 H0)) (hg1 : InBlk X Γ k scope fun X Γ G0 H0 => DG X Γ tg1 js1 (g1 G0 H0)) (ht1 : InBlk X Γ k scope fun X Γ G0 H0 => DTs X Γ ifs1 (tt1 G0 H0))
    (he : InBlk X Γ k scope fun X Γ G0 H0 => DE X Γ elt (te G0 H0))
    (hI : ∀ i ∈ Γ.I, i ∉ own.map (·.2) := by first | exact fun i hi => absurd hi List.not_mem_nil | exact fun i hi => by cases List.mem_singleton.mp hi; decide) (hj : ∀ i ∈ js, i ∈ own.map (·.2) := by decide) (hv1 : ∀ i ∈ vs1, i ∈ own.map (·.2) := by decide) (hj1 : ∀ i ∈ js1, i ∈ vs1 := by decide) (hs : ∀ x, foldedSetIterable iter X.env x = pure x := by intro _; rfl) (hs1 : ∀ env x, foldedSetIterable iter1 env x = pure x := by intro _ _; rfl) :
    DF X Γ (.ListComp elt [⟨tg, iter, ifs, 0⟩, ⟨tg1, iter1, ifs1, 0⟩] scope pos) (dLc2 ti g tt ti1 g1 tt1 te (own.map (·.2)) vs1) := by
  refine ⟨pe_imp (pe_lc2 c.calm c.nd hi.pi (blkOk_by ok) hv1 (fun s H C cl fp => pg_ex (ι := Hp × Hp) (p := fun i => Γ.Gh i.1 i.2) (t := fun i => rdG X.K (Γ.inn i.1 i.2) js (g i.1 i.2)) fun i hp => (hg i.1 i.2 s H C cl fp (c.inn hp)).pg) (fun s H C cl fp => pts_ex (ι := Hp × Hp) (p := fun i => Γ.Gh i.1 i.2) (t := fun i => rdT X.K (Γ.inn i.1 i.2) (tt i.1 i.2)) fun i hp => (ht i.1 i.2 s H C cl fp (c.inn hp)).pt)
    (fun s H C cl fp => pi_ex (ι := Hp × Hp) (p := fun i => Γ.Gh i.1 i.2) (t := fun i => rdI X.K (Γ.inn i.1 i.2) (ti1 i.1 i.2)) fun i hp => (hi1 i.1 i.2 s H C cl fp (c.inn hp)).pi)
    (fun s H C cl fp => pg_ex (ι := Hp × Hp) (p := fun i => Γ.Gh i.1 i.2) (t := fun i => rdG X.K (Γ.inn i.1 i.2) js1 (g1 i.1 i.2)) fun i hp => (hg1 i.1 i.2 s H C cl fp (c.inn hp)).pg) (fun s H C cl fp => pts_ex (ι := Hp × Hp) (p := fun i => Γ.Gh i.1 i.2) (t := fun i => rdT X.K (Γ.inn i.1 i.2) (tt1 i.1 i.2)) fun i hp => (ht1 i.1 i.2 s H C cl fp (c.inn hp)).pt)
    (fun s H C cl fp => pe_ex (ι := Hp × Hp) (p := fun i => Γ.Gh i.1 i.2) (t := fun i => rdE X.K (Γ.inn i.1 i.2) (te i.1 i.2)) fun i hp => (he i.1 i.2 s H C cl fp (c.inn hp)).pe) hs hs1) fun σ H Q h => ?_⟩
  exact lc2_rd hI hj hv1 hj1 c.gh (fun G0 H0 hp v σ H Q q => ⟨(G0, H0), hp, q⟩) (fun G0 H0 hp σ H Q q => ⟨(G0, H0), hp, q⟩) (fun G0 H0 hp σ H R q => ⟨(G0, H0), hp, q⟩) (fun G0 H0 hp v σ H Q q => ⟨(G0, H0), hp, q⟩) (fun G0 H0 hp σ H Q q => ⟨(G0, H0), hp, q⟩) (fun G0 H0 hp σ H Q q => ⟨(G0, H0), hp, q⟩) h
end
end Dn
/-! Dn: comprehensions that change nothing; ranges turn by turn. -/
namespace Dn
open PySem PySem.Spec PyProof.Rows L2
theorem rangeD_zero (lo c : Int) : rangeD lo c 0 = [] := rfl
theorem rangeD_succ (lo c : Int) (n : Nat) : rangeD lo c (n + 1) = .int lo :: rangeD (lo + c) c n := by
  unfold rangeD
  rw [List.range_succ_eq_map, List.map_cons, List.map_map]
  congr 1
  · show PyData.int (lo + ((0 : Nat) : Int) * c) = .int lo
    rw [show ((0 : Nat) : Int) * c = 0 by simp, Int.add_zero]
  · apply List.map_congr_left
    intro i _
    show PyData.int (lo + ((i + 1 : Nat) : Int) * c) = .int (lo + c + (i : Int) * c)
    congr 1
    rw [show ((i + 1 : Nat) : Int) = (i : Int) + 1 by omega, Int.add_mul, Int.one_mul]
    omega
theorem rangeD_len (lo c : Int) (n : Nat) : (rangeD lo c n).length = n := by unfold rangeD; simp
theorem rangeD_map (lo c : Int) (n : Nat) : rangeD lo c n = ((List.range n).map fun (i : Nat) => lo + (i : Int) * c).map PyData.int := by unfold rangeD; rw [List.map_map]; rfl
theorem rangeD_cons {lo c : Int} {n : Nat} {x : D} {r : List D} (h : x :: r = rangeD lo c n) : ∃ m, n = m + 1 ∧ x = .int lo ∧ r = rangeD (lo + c) c m := by
  cases n with
  | zero => cases h
  | succ m => rw [rangeD_succ] at h; cases h; exact ⟨m, rfl, rfl, rfl⟩
theorem rangeD_nil {lo c : Int} {n : Nat} (h : [] = rangeD lo c n) : n = 0 := by
  cases n with
  | zero => rfl
  | succ m => rw [rangeD_succ] at h; cases h
theorem map_cons' {α β : Type} {f : α → β} {x : β} {r : List β} {ps : List α} (h : x :: r = ps.map f) : ∃ p ps', ps = p :: ps' ∧ x = f p ∧ r = ps'.map f := by
  cases ps with
  | nil => cases h
  | cons p ps => cases h; exact ⟨p, ps, rfl, rfl, rfl⟩
theorem map_nil' {α β : Type} {f : α → β} {ps : List α} (h : [] = ps.map f) : ps = [] := by
  cases ps with
  | nil => rfl
  | cons p ps => cases h
/-- a comprehension that tells f of each and leaves all as it is -/
theorem lc_map {g : Hp → Hp → TDG} {te : Hp → Hp → TD} {vs : List Nat} {Q : List D → Ro → Prop} {ρ : Ro} (ρ0 : Ro) (hρ : wipeR ρ vs = ρ0) {α : Type} (xs : List α) (enc : α → D) (f : α → D) {ds : List D} (hds : ds = xs.map enc) (hl : xs.length ≤ 16777216)
    (h : ∀ x ∈ xs, ∀ (G0 H0 : Hp) (k : D → Ro → Prop), (∀ ρ4, wipeR ρ4 vs = ρ0 → k (f x) ρ4) → g G0 H0 (enc x) ρ0 fun ρ2 => te G0 H0 ρ2 k) (hQ : Q (xs.map f) ρ0) :
    ∃ I : List D → List D → Ro → Prop, I ds [] (wipeR ρ vs) ∧
      (∀ x r acc ρ, I (x :: r) acc ρ → ∀ G0 H0, g G0 H0 x ρ fun ρ2 => tYesD ρ2 fun b ρ3 => brn b (te G0 H0 ρ3 fun y ρ4 => acc.length < 16777216 ∧ I r (acc ++ [y]) (wipeR ρ4 vs)) (I r acc (wipeR ρ3 vs))) ∧ ∀ acc ρ, I [] acc ρ → Q acc ρ := by
  refine ⟨fun r acc ρ => ρ = ρ0 ∧ ∃ done rest, xs = done ++ rest ∧ r = rest.map enc ∧ acc = done.map f, ⟨hρ, [], xs, rfl, hds, rfl⟩, ?_, ?_⟩
  · rintro x r acc ρ ⟨rfl, done, rest, e, h1, rfl⟩ G0 H0
    obtain ⟨p, rest, rfl, rfl, rfl⟩ := map_cons' h1
    refine h p (by rw [e]; simp) G0 H0 _ fun ρ4 h4 => ⟨?_, h4, done ++ [p], rest, by rw [e]; simp, rfl, by simp⟩
    rw [e] at hl
    simp at hl ⊢
    omega
  · rintro acc ρ ⟨rfl, done, rest, e, h1, rfl⟩
    cases map_nil' h1
    rw [List.append_nil] at e
    rw [← e]
    exact hQ
/-- the same with a test: f tells none where nothing is taken -/
theorem lc_fm {g : Hp → Hp → TDG} {tt : Hp → Hp → TT'} {te : Hp → Hp → TD} {vs : List Nat} {Q : List D → Ro → Prop} {ρ : Ro} (ρ0 : Ro) (hρ : wipeR ρ vs = ρ0) {α : Type} (xs : List α) (enc : α → D) (f : α → Option D) {ds : List D} (hds : ds = xs.map enc) (hl : xs.length ≤ 16777216)
    (h : ∀ x ∈ xs, ∀ (G0 H0 : Hp) (k : D → Ro → Prop) (k0 : Ro → Prop), (∀ y ρ4, f x = some y → wipeR ρ4 vs = ρ0 → k y ρ4) → (∀ ρ4, f x = none → wipeR ρ4 vs = ρ0 → k0 ρ4) → g G0 H0 (enc x) ρ0 fun ρ2 => tt G0 H0 ρ2 fun b ρ3 => brn b (te G0 H0 ρ3 k) (k0 ρ3))
    (hQ : Q (xs.filterMap f) ρ0) :
    ∃ I : List D → List D → Ro → Prop, I ds [] (wipeR ρ vs) ∧
      (∀ x r acc ρ, I (x :: r) acc ρ → ∀ G0 H0, g G0 H0 x ρ fun ρ2 => tt G0 H0 ρ2 fun b ρ3 => brn b (te G0 H0 ρ3 fun y ρ4 => acc.length < 16777216 ∧ I r (acc ++ [y]) (wipeR ρ4 vs)) (I r acc (wipeR ρ3 vs))) ∧ ∀ acc ρ, I [] acc ρ → Q acc ρ := by
  refine ⟨fun r acc ρ => ρ = ρ0 ∧ ∃ done rest, xs = done ++ rest ∧ r = rest.map enc ∧ acc = done.filterMap f, ⟨hρ, [], xs, rfl, hds, rfl⟩, ?_, ?_⟩
  · rintro x r acc ρ ⟨rfl, done, rest, e, h1, rfl⟩ G0 H0
    obtain ⟨p, rest, rfl, rfl, rfl⟩ := map_cons' h1
    refine h p (by rw [e]; simp) G0 H0 _ _ (fun y ρ4 h3 h4 => ⟨?_, h4, done ++ [p], rest, by rw [e]; simp, rfl, by simp [h3]⟩) fun ρ4 h3 h4 => ⟨h4, done ++ [p], rest, by rw [e]; simp, rfl, by simp [h3]⟩
    have := List.length_filterMap_le f done
    rw [e] at hl
    simp at hl
    omega
  · rintro acc ρ ⟨rfl, done, rest, e, h1, rfl⟩
    cases map_nil' h1
    rw [List.append_nil] at e
    rw [← e]
    exact hQ
/-- two clauses that change nothing -/
theorem lc2_map {g g1 : Hp → Hp → TDG} {ti1 : Hp → Hp → TI'} {te : Hp → Hp → TD} {vs vs1 : List Nat} {Q : List D → Ro → Prop} {ρ : Ro} (ρ0 : Ro) (hρ : wipeR ρ vs = ρ0) {α β : Type} (xs : List α) (enc : α → D) (ys : α → List β) (enc1 : α → β → D) (f : α → β → D) {ds : List D} (hds : ds = xs.map enc)
    (hl : (xs.flatMap ys).length ≤ 16777216) (ρ1 : α → Ro) (hρ1 : ∀ x, wipeR (ρ1 x) vs = ρ0)
    (h : ∀ x ∈ xs, ∀ (G0 H0 : Hp) (k : List D → Ro → Prop), (∀ ρ4, wipeR ρ4 vs1 = ρ1 x → k ((ys x).map (enc1 x)) ρ4) → g G0 H0 (enc x) ρ0 fun ρ2 => ti1 G0 H0 ρ2 k)
    (h1 : ∀ x ∈ xs, ∀ y ∈ ys x, ∀ (G0 H0 : Hp) (k : D → Ro → Prop), (∀ ρ4, wipeR ρ4 vs1 = ρ1 x → k (f x y) ρ4) → g1 G0 H0 (enc1 x y) (ρ1 x) fun ρ2 => te G0 H0 ρ2 k)
    (hQ : Q (xs.flatMap fun x => (ys x).map (f x)) ρ0) :
    ∃ I : List D → List D → Ro → Prop, I ds [] (wipeR ρ vs) ∧
      (∀ x r acc ρ, I (x :: r) acc ρ → ∀ G0 H0, g G0 H0 x ρ fun ρ2 => tYesD ρ2 fun b ρ3 => brn b
        (ti1 G0 H0 ρ3 fun es ρ4 => ∃ J : List D → List D → Ro → Prop, J es acc (wipeR ρ4 vs1) ∧
          (∀ y q acc ρ, J (y :: q) acc ρ → ∀ G0 H0, g1 G0 H0 y ρ fun ρ5 => tYesD ρ5 fun b ρ6 => brn b (te G0 H0 ρ6 fun z ρ7 => acc.length < 16777216 ∧ J q (acc ++ [z]) (wipeR ρ7 vs1)) (J q acc (wipeR ρ6 vs1))) ∧
          ∀ acc ρ, J [] acc ρ → I r acc (wipeR ρ vs))
        (I r acc (wipeR ρ3 vs))) ∧ ∀ acc ρ, I [] acc ρ → Q acc ρ := by
  have len : ∀ zs : List α, (zs.flatMap fun x => (ys x).map (f x)).length = (zs.flatMap ys).length := fun zs => by simp [List.length_flatMap]
  refine ⟨fun r acc ρ => ρ = ρ0 ∧ ∃ done rest, xs = done ++ rest ∧ r = rest.map enc ∧ acc = done.flatMap fun x => (ys x).map (f x), ⟨hρ, [], xs, rfl, hds, rfl⟩, ?_, ?_⟩
  · rintro x r acc ρ ⟨rfl, done, rest, e, h2, rfl⟩ G0 H0
    obtain ⟨p, rest, rfl, rfl, rfl⟩ := map_cons' h2
    have hp : p ∈ xs := by rw [e]; simp
    refine h p hp G0 H0 _ fun ρ4 h4 => ?_
    refine ⟨fun q acc ρ => ρ = ρ1 p ∧ ∃ d2 r2, ys p = d2 ++ r2 ∧ q = r2.map (enc1 p) ∧ acc = (done.flatMap fun x => (ys x).map (f x)) ++ d2.map (f p), ⟨h4, [], ys p, rfl, rfl, by simp⟩, ?_, ?_⟩
    · rintro y q acc ρ ⟨rfl, d2, r2, e2, h5, rfl⟩ G0 H0
      obtain ⟨b, r2, rfl, rfl, rfl⟩ := map_cons' h5
      refine h1 p hp b (by rw [e2]; simp) G0 H0 _ fun ρ5 h6 => ⟨?_, h6, d2 ++ [b], r2, by rw [e2]; simp, rfl, by simp⟩
      rw [e, List.flatMap_append, List.flatMap_cons, e2] at hl
      rw [List.length_append, len]
      simp at hl ⊢
      omega
    · rintro acc ρ ⟨rfl, d2, r2, e2, h5, rfl⟩
      cases map_nil' h5
      rw [List.append_nil] at e2
      exact ⟨hρ1 p, done ++ [p], rest, by rw [e]; simp, rfl, by simp [e2]⟩
  · rintro acc ρ ⟨rfl, done, rest, e, h2, rfl⟩
    cases map_nil' h2
    rw [List.append_nil] at e
    rw [← e]
    exact hQ
end Dn
/-! Dn: max, min, sum, sorted. -/
namespace Dn
open PySem PySem.Spec PyProof.Rows L2
section
variable {X : Cx} {Γ : Gm} {k j n : Nat} {a b e : Expr} {es : List Expr} {st : Stmt} {rest body orelse : List Stmt} {pos : Pos} {t u : TDS}
def maxD : OpN
  | [.int i, .int j], Q => Q (.int (if j > i then j else i))
  | [.list xs], Q => optD (intsOf xs) fun ns => 0 < ns.length ∧ ∀ m, m ∈ ns → (∀ y, y ∈ ns → y ≤ m) → Q (.int m)
  | _, _ => False
def minD : OpN
  | [.int i, .int j], Q => Q (.int (if j < i then j else i))
  | [.list xs], Q => optD (intsOf xs) fun ns => 0 < ns.length ∧ ∀ m, m ∈ ns → (∀ y, y ∈ ns → m ≤ y) → Q (.int m)
  | _, _ => False
def sumD : OpN
  | [.list xs], Q => optD (intsOf xs) fun ns => Q (.int ns.sum)
  | _, _ => False
def sortD : OpN
  | [.list xs], Q => optD (intsOf xs) fun ns => ∀ ns' : List Int, ns'.Perm ns → ns'.Pairwise (· ≤ ·) → Q (.list (ns'.map .int))
  | _, _ => False
theorem isx_ints {K : PySem.W.Frag} {G H : Hp} {v : V} {xs : List D} {ns : List Int} (s : Same G H) (h : IsX K G H v (.list xs)) (e : intsOf xs = some ns) : ∃ p, v = .ref p ∧ H p = some (.lst (ns.map V.int)) := by
  obtain ⟨p, us, rfl, h1, h2⟩ := h.list s
  rw [intsOf_eq e] at h2
  rw [h2.ints] at h1
  exact ⟨p, rfl, h1⟩
theorem cd_max (c : Cok k X Γ) : CallD X (.builtin "max") maxD := by
  refine CallD.of ((call_max2 c.calm).or (cr_max c.calm)) ?_
  rintro vs H Q ⟨G, ds, k, s, hx, h, fin⟩
  unfold maxD at h
  split at h
  · rename_i i j
    obtain ⟨v, u, rfl, h1, h2⟩ := isxs_2 hx
    rw [h1.int, h2.int]
    exact .inl ⟨i, j, rfl, fin _ _ G H h (.refl s) (.int _)⟩
  · rename_i xs
    obtain ⟨v, rfl, hv⟩ := isxs_1 hx
    obtain ⟨ns, e, hn, h⟩ := optD.to h
    obtain ⟨p, rfl, hp⟩ := isx_ints s hv e
    exact .inr ⟨p, ns, rfl, .of hp, hn, fun m m1 m2 => fin _ _ G H (h m m1 m2) (.refl s) (.int _)⟩
  · exact h.elim
theorem cd_min (c : Cok k X Γ) : CallD X (.builtin "min") minD := by
  refine CallD.of ((call_min2 c.calm).or (cr_min c.calm)) ?_
  rintro vs H Q ⟨G, ds, k, s, hx, h, fin⟩
  unfold minD at h
  split at h
  · rename_i i j
    obtain ⟨v, u, rfl, h1, h2⟩ := isxs_2 hx
    rw [h1.int, h2.int]
    exact .inl ⟨i, j, rfl, fin _ _ G H h (.refl s) (.int _)⟩
  · rename_i xs
    obtain ⟨v, rfl, hv⟩ := isxs_1 hx
    obtain ⟨ns, e, hn, h⟩ := optD.to h
    obtain ⟨p, rfl, hp⟩ := isx_ints s hv e
    exact .inr ⟨p, ns, rfl, .of hp, hn, fun m m1 m2 => fin _ _ G H (h m m1 m2) (.refl s) (.int _)⟩
  · exact h.elim
theorem cd_sum (c : Cok k X Γ) : CallD X (.builtin "sum") sumD := by
  refine CallD.of (cr_sum c.calm) ?_
  rintro vs H Q ⟨G, ds, k, s, hx, h, fin⟩
  unfold sumD at h
  split at h
  · rename_i xs
    obtain ⟨v, rfl, hv⟩ := isxs_1 hx
    obtain ⟨ns, e, h⟩ := optD.to h
    obtain ⟨p, rfl, hp⟩ := isx_ints s hv e
    exact ⟨p, ns, rfl, .of hp, fin _ _ G H h (.refl s) (.int _)⟩
  · exact h.elim
theorem cd_sorted (c : Cok k X Γ) : CallD X (.builtin "sorted") sortD := by
  refine CallD.of L2.cr_sortedI ?_
  rintro vs H Q ⟨G, ds, k, s, hx, h, fin⟩
  unfold sortD at h
  split at h
  · rename_i xs
    obtain ⟨v, rfl, hv⟩ := isxs_1 hx
    obtain ⟨ns, e, h⟩ := optD.to h
    obtain ⟨p, rfl, hp⟩ := isx_ints s hv e
    refine ⟨p, ns, rfl, .of hp, fun ns' q h1 h2 hq => ?_⟩
    have g := Grow.laid (o := .lst (ns'.map V.int)) s hq
    exact fin _ _ _ _ (h ns' h1 h2) g (.lst upd_same (IsAll.of_ints ns'))
  · exact h.elim
/-- a, b = a new list, a constant; one of the names is a cell -/
theorem ds_asgF {i j : Nat} {x y : Str} {t : TD} {d : D} {v : V} {px py pt pt2 : Pos} {kt : Nat} {k2 : Nat} (c : Cok k X Γ) (hi : X.N[i]? = some x) (hj : X.N[j]? = some y) (hx : Loc X.env.scope x) (hy : Loc X.env.scope y) (ha : DF X Γ a t) (hb : DK X b d v) (hI : Γ.I.contains i = false := by rfl) (hJ : Γ.I.contains j = false := by rfl)
    (hn : starEach [a, b] X.env = (false, eval a X.env) :: starEach [b] X.env := by rfl) (hn2 : starEach [b] X.env = (false, eval b X.env) :: starEach [] X.env := by rfl)
    (hs : swapsWithSole [.Tuple [.Name x px, .Name y py] kt pt] (.Tuple [a, b] k2 pt2) pos.line X.env = pure false := by rfl) (hw : swappedStores [.Tuple [.Name x px, .Name y py] kt pt] (.Tuple [a, b] k2 pt2) X.env = pure none := by rfl)
    (h1 : (assignEach [.Tuple [.Name x px, .Name y py] kt pt] X.env).map (·.2) = [assign (.Tuple [.Name x px, .Name y py] kt pt) X.env] := by rfl)
    (hc1 : (assignEach [.Name x px, .Name y py] X.env).map (·.2) = assign (.Name x px) X.env :: (assignEach [.Name y py] X.env).map (·.2) := by rfl) (hc2 : (assignEach [.Name y py] X.env).map (·.2) = assign (.Name y py) X.env :: (assignEach [] X.env).map (·.2) := by rfl)
    (hl : (assignEach [.Name x px, .Name y py] X.env).length = 2 := by rfl) (hst : (assignEach [.Name x px, .Name y py] X.env).findIdx? (·.1) = none := by rfl)
    (hf1 : X.fn x = true ∨ X.env.scope.names.lookup x = some .local := by first | exact .inl rfl | exact .inr rfl | assumption) (hf2 : X.fn y = true ∨ X.env.scope.names.lookup y = some .local := by first | exact .inl rfl | exact .inr rfl | assumption) :
    DS X Γ (.Assign [.Tuple [.Name x px, .Name y py] kt pt] (.Tuple [a, b] k2 pt2) pos) (sParF i j t d) := by
  refine ⟨ps_imp (ps_asg (pe_tup (pa_cons ha.pe (pa_cons hb.pe pa_nil hn2) hn)) (pg_tup c.calm (pgs_cons (pg_name (i := i) c.nd hi hx hf1) (pgs_cons (pg_name (i := j) c.nd hj hy hf2) pgs_nil hc2) hc1) hl hst) hs hw h1) ?_⟩
  rintro E σ H ⟨ρ, G, R, at_, ok, h⟩
  refine ⟨ρ, G, _, at_, h, fun d' ρ' p G' H' hk a' s' g0 h0 own hno => ⟨(by show 2 ≤ sizeLine; decide), fun q hq => ?_⟩⟩
  obtain ⟨a2, _, _, _⟩ := a'.fresh (o := .tup [.ref p, v]) hq
  have hpq : p ≠ q := fun z => by
    obtain ⟨w, hw⟩ := own.some
    rw [z, hq] at hw
    cases hw
  have own2 : Own X.K G' (upd H' q (.tup [.ref p, v])) p d' := own.mono (Same.refl _) (upd_ne hpq)
  refine ⟨q, _, rfl, .inl (.inl upd_same), rfl, _, _, rfl, _, _, rfl, rfl, ?_⟩
  exact ok.nx _ _ _ _ ((a2.setOwn hI g0 h0 own2 hno).set hJ (hb.is _ _)) s' hk
end
def idx {α : Type} : Nat → List α → List (Nat × α)
  | _, [] => []
  | n, x :: xs => (n, x) :: idx (n + 1) xs
theorem idx_len {α : Type} : ∀ (n : Nat) (xs : List α), (idx n xs).length = xs.length
  | _, [] => rfl
  | n, x :: xs => congrArg Nat.succ (idx_len (n + 1) xs)
theorem enum_idx {α : Type} (f : α → D) : ∀ (n : Nat) (xs : List α), enumFrom n (xs.map f) = (idx n xs).map fun p => .tuple [.int (p.1 : Nat), f p.2]
  | _, [] => rfl
  | n, x :: xs => congrArg (List.cons _) (enum_idx f (n + 1) xs)
theorem rgc_up {i j c : Int} {n : Nat} (hi : -(2 ^ 40) ≤ i ∧ i < 2 ^ 40) (hj : -(2 ^ 40) ≤ j ∧ j < 2 ^ 40) (hc : 1 ≤ c) (hc2 : c < 2 ^ 29) (hn : (n : Int) = if i < j then (j - i - 1) / c + 1 else 0) : RgC i j c n := by
  have hs : Builtin.Range.rangeSize i j c = n := by
    unfold Builtin.Range.rangeSize
    rw [if_pos (by omega), hn]
  refine ⟨by omega, by omega, ?_, hs⟩
  have h1 : i < j → (j - i - 1) / c ≤ j - i - 1 := fun h => by
    exact Int.ediv_le_self c (by omega)
  have h0 : i < j → 0 ≤ (j - i - 1) / c := fun h => Int.ediv_nonneg (by omega) (by omega)
  have hm : i < j → ((j - i - 1) / c) * c ≤ j - i - 1 := fun h => Int.ediv_mul_le _ (by omega)
  unfold Builtin.Range.small
  rw [hs]
  simp only [Builtin.Range.rangeFitsLong, Bool.and_eq_true, Bool.or_eq_true, decide_eq_true_eq, beq_iff_eq]
  have hb : (n : Int) ≤ 2 ^ 42 := by rw [hn]; split <;> omega
  refine ⟨⟨⟨⟨by omega, by omega⟩, by omega⟩, by omega⟩, .inr ?_⟩
  rw [if_pos (by omega), decide_eq_true (by omega), decide_eq_true (by omega)]
  rfl
end Dn
/-! Dn: any, all of generator expressions; constants of the module. -/
namespace Dn
open PySem PySem.Spec PyProof.Rows L2
def stp : Bool → Bool → Prop → Prop → Prop
  | false, b, go, fin => brn b go fin
  | true, b, go, fin => brn b fin go
/-- any / all (st: the value that stops it) -/
def dAA (st : Bool) (ti : TI') (g : TDG) (te : TD) (vs : List Nat) : TD := fun ρ Q => ti ρ fun ds ρ1 => ∃ I : List D → Ro → Prop, I ds (wipeR ρ1 vs) ∧
  (∀ x r ρ, I (x :: r) ρ → g x ρ fun ρ2 => te ρ2 fun y ρ3 => asB y fun b => stp st b (I r (wipeR ρ3 vs)) (Q (.bool st) (wipeR ρ3 vs))) ∧ ∀ ρ, I [] ρ → Q (.bool (!st)) ρ
section
variable {X : Cx} {Γ : Gm} {k : Nat} {pos : Pos}
theorem At.re {K : PySem.W.Frag} {Γ Γ' : Gm} {ρ : Ro} {σ : L2.St} {G H : Hp} (a : At K Γ ρ σ G H) (h1 : Γ'.B = Γ.B := by rfl) (h2 : Γ'.G0 = Γ.G0 := by rfl) (h3 : Γ'.H0 = Γ.H0 := by rfl) (h4 : Γ'.I = Γ.I := by rfl) (h5 : Γ'.ad = Γ.ad := by rfl) : At K Γ' ρ σ G H :=
  ⟨a.len, fun i s o e1 e2 => by rw [h3]; exact a.sl i s o e1 e2, a.sep, a.sub, fun b => by rw [h2, h3]; exact a.old b, by rw [h3]; exact a.kept, by rw [h4, h5]; exact a.inh, by rw [h1]; exact a.bas⟩
theorem aa_rd {st : Bool} {P : Addr} {ti : TI'} {g : TDG} {te : TD} {vs js : List Nat} {K : PySem.W.Frag} (hI : ∀ i ∈ Γ.I, i ∉ vs) (hj : ∀ i ∈ js, i ∈ vs) (hP : Γ.H0 P = some (.ext (GxB.tabF P)))
    {σ : L2.St} {H : Hp} {Q : VK} (h : rdE K Γ (dAA st ti g te vs) σ H Q) : GxB.tAA P st (rdI K Γ ti) (rdG K Γ.nx js g) (rdE K Γ.nx te) vs σ H Q := by
  obtain ⟨ρ, G, k, at_, h, fin⟩ := h
  refine ⟨ρ, G, _, at_, h, fun ds ρ1 J G1 H1 ⟨I, h1, h2, h3⟩ a1 s1 j => ⟨a1.kept P _ hP, ?_⟩⟩
  have aw := a1.wipe (τ := σ) (vs := vs) hI rfl fun _ _ => rfl
  refine ⟨fun i m H' => m = ds.length - i ∧ i ≤ ds.length ∧ ∃ ρ' G', At K Γ ρ' σ G' H' ∧ wipeR ρ' vs = ρ' ∧ Same G1 G' ∧ I (ds.drop i) ρ',
    ⟨ds.length, by simp, Nat.zero_le _, _, G1, aw, wipeR_wipeR, Same.refl _, h1⟩, ?_⟩
  rintro i m H' ⟨rfl, hi, ρ', G', a', hw, s', hI'⟩
  by_cases hlt : i < ds.length
  · refine .inr ⟨j.go i H' G' s' a'.sub hlt, fun H2 => ∃ ρ' G', At K Γ ρ' σ G' H2 ∧ wipeR ρ' vs = ρ' ∧ Same G1 G' ∧ I (ds.drop (i + 1)) ρ',
      fun H2 ⟨ρ2, G2, r⟩ => ⟨ds.length - (i + 1), by omega, rfl, hlt, ρ2, G2, r⟩, fun x H2 y => ?_⟩
    obtain ⟨d, G2, hd, g2, r2⟩ := j.yld i H' G' x H2 s' a'.sub hlt y
    have e : ds.drop i = d :: ds.drop (i + 1) := by
      rw [List.drop_eq_getElem_cons hlt]
      rw [List.getElem?_eq_getElem hlt] at hd
      rw [Option.some.inj hd]
    rw [e] at hI'
    have a4 : At K Γ.nx ρ' σ G2 H2 := (a'.grow g2).re
    have a5 := a4.wipe (τ := wipe σ vs) (vs := vs) hI (wipe_length _ _) fun i hi => wipe_out' hi
    rw [hw] at a5
    refine ⟨ρ', G2, d, _, a5, r2, h2 d _ ρ' hI', fun ρ6 σ6 h6 a6 l6 f6 => ?_⟩
    have l6' : σ6.length = σ.length := l6.trans (wipe_length _ _)
    have f6' : ∀ i, i ∉ vs → σ6[i]? = σ[i]? := fun i hi => (f6 i fun z => hi (hj i z)).trans (wipe_out' hi)
    refine ⟨wipe_ext l6' f6', ρ6, G2, _, a6, h6, fun yd ρ8 yv G8 H8 hk a8 s8 r8 => ?_⟩
    obtain ⟨b, rfl, hk⟩ := hk.to
    cases r8
    have c8 : At K Γ (wipeR ρ8 vs) σ G8 H8 := (a8.re (Γ' := Γ)).wipe (τ := σ) (vs := vs) hI l6'.symm fun i hi => (f6' i hi).symm
    refine ⟨b, rfl, fun e => ⟨_, G8, c8, wipeR_wipeR, s'.trans (g2.gg.trans s8), ?_⟩, fun e => fin (.bool st) _ (.bl st) G8 H8 ?_ c8 (s1.trans (s'.trans (g2.gg.trans s8))) (.bl _)⟩
    · cases st <;> subst e <;> exact hk
    · cases st <;> subst e <;> exact hk
  · have e : i = ds.length := by omega
    subst e
    rw [List.drop_length] at hI'
    exact .inl ⟨j.stop H' G' s' a'.sub, fin _ _ _ _ _ (h3 _ hI') a' (s1.trans s') (.bl _)⟩
/-- the element's context -/
abbrev InGen (X : Cx) (Γ : Gm) (k : Nat) (scope : Scope) (P : Cx → Gm → Prop) : Prop := ∀ (s : Shared) (H : Hp) (C : Addr) (code : Value) (A : Around) (fp : List Addr), Cok k (X.gen s H (GxB.gEnv X scope C code) A fp) Γ.nx → P (X.gen s H (GxB.gEnv X scope C code) A fp) Γ.nx
theorem Cok.gen (c : Cok (k + 1) X Γ) {s : Shared} {H : Hp} {env : Env} {A : Around} {fp : List Addr} (hr : Room k A) : Cok k (X.gen s H env A fp) Γ.nx :=
  ⟨c.calm, c.nd, hr, c.gh, PassesOwn.never, c.bl, fun σ pins H s e s' I q => by
    obtain ⟨_, _, _, cls, d, _, _, _, _, _, _, _, z⟩ := q
    exact (liftW_nx z).elim⟩
theorem genC_by {scope : Scope} (h : (!scope.isCoroutine && scope.names.all (fun y => match y.2 with | .cell => false | _ => true) && (match scope.names.lookup (".0" : Str) with | some .local => true | _ => false)) = true) : GxB.GenC scope := by
  simp only [Bool.and_eq_true, Bool.not_eq_true', List.all_eq_true] at h
  obtain ⟨⟨h1, h2⟩, h3⟩ := h
  refine ⟨h1, fun y hy e => ?_, ?_⟩
  · have := h2 y hy
    rw [e] at this
    cases this
  · split at h3
    · assumption
    · cases h3
theorem de_all {elt tg iter : Expr} {scope : Scope} {own : List (Str × Nat)} {ti : TI'} {js : List Nat} {g : TDG} {te : TD} {cd P : Addr} {p gpos : Pos} (c : Cok (k + 1) X Γ) (TB : GxR.TabB X.base X.mg cd P) (hcode : X.env.code = .ref cd) (hP : P ∈ Γ.T) (hi : DI X Γ tg iter ti) (ok : blkC X.N X.env.scope scope own = true)
    (hg : InGen X Γ k scope fun X Γ => DG X Γ tg js g) (he : InGen X Γ k scope fun X Γ => DE X Γ elt te) (S : GxB.GenC scope := by exact genC_by (by decide +kernel)) (hgl : Gl X "all" := by rfl)
    (hI : ∀ i ∈ Γ.I, i ∉ own.map (·.2) := by first | exact fun i hi => absurd hi List.not_mem_nil | exact fun i hi => by cases List.mem_singleton.mp hi; decide) (hj : ∀ i ∈ js, i ∈ own.map (·.2) := by decide) (hs : ∀ v, genFold iter X.env v = pure v := by intro _; rfl)
    (hst : starEach [.GeneratorExp elt [⟨tg, iter, [], 0⟩] scope gpos] X.env = (false, eval (.GeneratorExp elt [⟨tg, iter, [], 0⟩] scope gpos) X.env) :: starEach [] X.env := by rfl) :
    DE X Γ (.Call (.Name "all" p) [.GeneratorExp elt [⟨tg, iter, [], 0⟩] scope gpos] [] pos) (dAA false ti g te (own.map (·.2))) :=
  ⟨pe_imp (GxB.pe_allG c.calm c.nd c.room hgl (nb c) boot_all TB hcode S hi.pi (blkOk_by ok) (fun s H C code A fp r => (hg s H C code A fp (c.gen r)).pg) (fun s H C code A fp r => (he s H C code A fp (c.gen r)).pe) hs hst) fun σ H Q h => aa_rd hI hj (c.gh.2 P hP) h⟩
theorem de_any {elt tg iter : Expr} {scope : Scope} {own : List (Str × Nat)} {ti : TI'} {js : List Nat} {g : TDG} {te : TD} {cd P : Addr} {p gpos : Pos} (c : Cok (k + 1) X Γ) (TB : GxR.TabB X.base X.mg cd P) (hcode : X.env.code = .ref cd) (hP : P ∈ Γ.T) (hi : DI X Γ tg iter ti) (ok : blkC X.N X.env.scope scope own = true)
    (hg : InGen X Γ k scope fun X Γ => DG X Γ tg js g) (he : InGen X Γ k scope fun X Γ => DE X Γ elt te) (S : GxB.GenC scope := by exact genC_by (by decide +kernel)) (hgl : Gl X "any" := by rfl)
    (hI : ∀ i ∈ Γ.I, i ∉ own.map (·.2) := by first | exact fun i hi => absurd hi List.not_mem_nil | exact fun i hi => by cases List.mem_singleton.mp hi; decide) (hj : ∀ i ∈ js, i ∈ own.map (·.2) := by decide) (hs : ∀ v, genFold iter X.env v = pure v := by intro _; rfl)
    (hst : starEach [.GeneratorExp elt [⟨tg, iter, [], 0⟩] scope gpos] X.env = (false, eval (.GeneratorExp elt [⟨tg, iter, [], 0⟩] scope gpos) X.env) :: starEach [] X.env := by rfl) :
    DE X Γ (.Call (.Name "any" p) [.GeneratorExp elt [⟨tg, iter, [], 0⟩] scope gpos] [] pos) (dAA true ti g te (own.map (·.2))) :=
  ⟨pe_imp (GxB.pe_anyG c.calm c.nd c.room hgl (nb c) TB hcode S hi.pi (blkOk_by ok) (fun s H C code A fp r => (hg s H C code A fp (c.gen r)).pg) (fun s H C code A fp r => (he s H C code A fp (c.gen r)).pe) hs hst) fun σ H Q h => aa_rd hI hj (c.gh.2 P hP) h⟩
/-- a comprehension in all(..) whose test is told by f -/
theorem all_map {g : TDG} {te : TD} {vs : List Nat} {Q : D → Ro → Prop} {ρ : Ro} (ρ0 : Ro) (hρ : wipeR ρ vs = ρ0) {α : Type} (xs : List α) (enc : α → D) (f : α → Bool) {ds : List D} (hds : ds = xs.map enc)
    (h : ∀ x ∈ xs, ∀ (k : D → Ro → Prop), (∀ ρ4, wipeR ρ4 vs = ρ0 → k (.bool (f x)) ρ4) → g (enc x) ρ0 fun ρ2 => te ρ2 k) (hQ : Q (.bool (xs.all f)) ρ0) :
    ∃ I : List D → Ro → Prop, I ds (wipeR ρ vs) ∧ (∀ x r ρ, I (x :: r) ρ → g x ρ fun ρ2 => te ρ2 fun y ρ3 => asB y fun b => stp false b (I r (wipeR ρ3 vs)) (Q (.bool false) (wipeR ρ3 vs))) ∧ ∀ ρ, I [] ρ → Q (.bool (!false)) ρ := by
  subst hds
  refine ⟨fun r ρ => ∃ done rest, xs = done ++ rest ∧ r = rest.map enc ∧ ρ = ρ0 ∧ done.all f = true, ⟨[], xs, rfl, rfl, hρ, rfl⟩, ?_, ?_⟩
  · rintro x r ρ ⟨done, rest, e1, e2, rfl, e4⟩
    cases rest with
    | nil => cases e2
    | cons y rest =>
      cases e2
      refine h y (by rw [e1]; simp) _ fun ρ4 e5 => ?_
      show stp false (f y) _ _
      cases hf : f y with
      | true => exact ⟨done ++ [y], rest, by rw [e1]; simp, rfl, e5, by rw [List.all_append, e4]; simp [hf]⟩
      | false =>
        show Q (.bool false) _
        rw [e5]
        have e6 : xs.all f = false := by rw [e1, List.all_append, List.all_cons, hf]; simp
        rw [e6] at hQ
        exact hQ
  · rintro ρ ⟨done, rest, e1, e2, rfl, e4⟩
    cases rest with
    | nil =>
      rw [List.append_nil] at e1
      rw [e1, e4] at hQ
      exact hQ
    | cons y rest => cases e2
theorem any_map {g : TDG} {te : TD} {vs : List Nat} {Q : D → Ro → Prop} {ρ : Ro} (ρ0 : Ro) (hρ : wipeR ρ vs = ρ0) {α : Type} (xs : List α) (enc : α → D) (f : α → Bool) {ds : List D} (hds : ds = xs.map enc)
    (h : ∀ x ∈ xs, ∀ (k : D → Ro → Prop), (∀ ρ4, wipeR ρ4 vs = ρ0 → k (.bool (f x)) ρ4) → g (enc x) ρ0 fun ρ2 => te ρ2 k) (hQ : Q (.bool (xs.any f)) ρ0) :
    ∃ I : List D → Ro → Prop, I ds (wipeR ρ vs) ∧ (∀ x r ρ, I (x :: r) ρ → g x ρ fun ρ2 => te ρ2 fun y ρ3 => asB y fun b => stp true b (I r (wipeR ρ3 vs)) (Q (.bool true) (wipeR ρ3 vs))) ∧ ∀ ρ, I [] ρ → Q (.bool (!true)) ρ := by
  subst hds
  refine ⟨fun r ρ => ∃ done rest, xs = done ++ rest ∧ r = rest.map enc ∧ ρ = ρ0 ∧ done.any f = false, ⟨[], xs, rfl, rfl, hρ, rfl⟩, ?_, ?_⟩
  · rintro x r ρ ⟨done, rest, e1, e2, rfl, e4⟩
    cases rest with
    | nil => cases e2
    | cons y rest =>
      cases e2
      refine h y (by rw [e1]; simp) _ fun ρ4 e5 => ?_
      show stp true (f y) _ _
      cases hf : f y with
      | false => exact ⟨done ++ [y], rest, by rw [e1]; simp, rfl, e5, by rw [List.any_append, e4]; simp [hf]⟩
      | true =>
        show Q (.bool true) _
        rw [e5]
        have e6 : xs.any f = true := by rw [e1, List.any_append, List.any_cons, hf]; simp
        rw [e6] at hQ
        exact hQ
  · rintro ρ ⟨done, rest, e1, e2, rfl, e4⟩
    cases rest with
    | nil =>
      rw [List.append_nil] at e1
      rw [e1, e4] at hQ
      exact hQ
    | cons y rest => cases e2
/-- constants of the module -/
structure ConI (mg : Str → Option Value) (x : Str) (i : Int) : Prop where
  ex : ∃ t, mg x = some (.int i t)
structure ConS (mg : Str → Option Value) (x : Str) (z : Str) : Prop where
  ex : ∃ t, mg x = some (.str z t)
theorem de_conI {x : Str} {i : Int} (f : ConI X.mg x i) (hg : Gl X x := by rfl) (hd : (x == ("__debug__" : Str)) = false := by decide) : DE X Γ (.Name x pos) (dC (.int i)) := by
  obtain ⟨t, e⟩ := f.ex
  exact de_glob (v := .int i) hg e ⟨t, rfl⟩ (fun _ => .int i) hd
theorem de_conS {x z : Str} (f : ConS X.mg x z) (hg : Gl X x := by rfl) (hd : (x == ("__debug__" : Str)) = false := by decide) : DE X Γ (.Name x pos) (dC (.str z)) := by
  obtain ⟨t, e⟩ := f.ex
  exact de_glob (v := .str z) hg e ⟨t, rfl⟩ (fun _ => .str z) hd
end
end Dn
/-! Dn: dicts. -/
namespace Dn
open PySem PySem.Spec PyProof.Rows L2

/-! ### keys as data -/
abbrev DKey := Sum Key (List Key)
def kOf : D → Option Key
  | .int i => some (.inl i)
  | .str x => some (.inr x)
  | _ => none
def ksOf : List D → Option (List Key)
  | [] => some []
  | d :: r => match kOf d, ksOf r with
    | some k, some ks => some (k :: ks)
    | _, _ => none
def dkOf : D → Option DKey
  | .tuple xs => (ksOf xs).map .inr
  | d => (kOf d).map .inl
def tupK (k : List Key) : D := .tuple (k.map keyD)
theorem kOf_keyD (k : Key) : kOf (keyD k) = some k := by cases k <;> rfl
theorem kOf_eq {d : D} {k : Key} (h : kOf d = some k) : d = keyD k := by
  cases d <;> cases h <;> rfl
theorem ksOf_map : ∀ ks : List Key, ksOf (ks.map keyD) = some ks
  | [] => rfl
  | k :: ks => by
    show (match kOf (keyD k), ksOf (ks.map keyD) with | some k, some ks => some (k :: ks) | _, _ => none) = _
    rw [kOf_keyD, ksOf_map ks]
theorem ksOf_eq : ∀ {ds : List D} {ks : List Key}, ksOf ds = some ks → ds = ks.map keyD
  | [], ks, h => by cases h; rfl
  | d :: r, ks, h => by
    have h' : (match kOf d, ksOf r with | some k, some ks => some (k :: ks) | _, _ => none) = some ks := h
    cases e1 : kOf d with
    | none => rw [e1] at h'; cases h'
    | some k =>
      cases e2 : ksOf r with
      | none => rw [e1, e2] at h'; cases h'
      | some ks' =>
        rw [e1, e2] at h'
        cases h'
        rw [kOf_eq e1, ksOf_eq e2]; rfl
theorem dkOf_keyD (k : Key) : dkOf (keyD k) = some (.inl k) := by cases k <;> rfl
theorem dkOf_tupK (k : List Key) : dkOf (tupK k) = some (.inr k) := by
  show (ksOf (k.map keyD)).map Sum.inr = _
  rw [ksOf_map]; rfl
theorem dkOf_inl {d : D} {k : Key} (h : dkOf d = some (.inl k)) : d = keyD k := by
  cases d with
  | int i => cases h; rfl
  | str i => cases h; rfl
  | tuple xs =>
    have h' : (ksOf xs).map Sum.inr = some (Sum.inl k) := h
    cases e : ksOf xs with
    | none => rw [e] at h'; cases h'
    | some ks => rw [e] at h'; cases h'
  | _ => exact nomatch h
theorem dkOf_inr {d : D} {k : List Key} (h : dkOf d = some (.inr k)) : d = tupK k := by
  cases d with
  | tuple xs =>
    have h' : (ksOf xs).map Sum.inr = some (Sum.inr k) := h
    cases e : ksOf xs with
    | none => rw [e] at h'; cases h'
    | some ks => rw [e] at h'; cases h'; rw [ksOf_eq e]; rfl
  | _ => exact nomatch h
/-- what stands at a key -/
def dget (ps : List (D × D)) (k : D) : Option D := (ps.find? fun p => decide (dkOf p.1 = dkOf k)).map (·.2)
def dput (ps : List (D × D)) (k v : D) : List (D × D) :=
  if (ps.any fun p => decide (dkOf p.1 = dkOf k)) = true then ps.map (fun p => if dkOf p.1 = dkOf k then (p.1, v) else p) else ps ++ [(k, v)]
def isTK : D → Bool
  | .tuple _ => true
  | _ => false
/-- k is a key, of the keys' kind -/
def dkOk (ps : List (D × D)) (k : D) : Bool := (dkOf k).isSome && ps.all fun p => isTK p.1 == isTK k
section
variable {κ : Type} [DecidableEq κ] {enc : κ → D} (hinj : ∀ a b, dkOf (enc a) = dkOf (enc b) ↔ a = b)
def OIs (K : PySem.W.Frag) (H : Hp) : Option V → Option D → Prop
  | none, none => True
  | some v, some d => Is K H v d
  | _, _ => False
theorem OIs.isSome {K : PySem.W.Frag} {H : Hp} {o : Option V} {u : Option D} (h : OIs K H o u) : o.isSome = u.isSome := by
  cases o <;> cases u <;> first | rfl | exact h.elim
include hinj in
theorem dget_zip {K : PySem.W.Frag} {H : Hp} (k : κ) : ∀ (ks : List κ) (vs : List V) (ds : List D), ks.length = vs.length → IsAll K H vs ds → OIs K H (valV (ks.zip vs) k) (dget ((ks.map enc).zip ds) (enc k))
  | [], _, _, _, _ => True.intro
  | _ :: _, [], _, h, _ => nomatch h
  | a :: ks, v :: vs, _, h, .cons (d := d) (ds := ds) h1 h2 => by
    have ih := dget_zip k ks vs ds (by simpa using h) h2
    by_cases e : a = k
    · have e1 : valV ((a :: ks).zip (v :: vs)) k = some v := valV_pos (p := (a, v)) e
      have e2 : dget (((a :: ks).map enc).zip (d :: ds)) (enc k) = some d := by
        show ((((enc a, d) :: (ks.map enc).zip ds).find? fun p => decide (dkOf p.1 = dkOf (enc k))).map (·.2)) = _
        rw [List.find?_cons]
        simp [(hinj a k).mpr e]
      rw [e1, e2]
      exact h1
    · have e1 : valV ((a :: ks).zip (v :: vs)) k = valV (ks.zip vs) k := valV_neg (p := (a, v)) e
      have e2 : dget (((a :: ks).map enc).zip (d :: ds)) (enc k) = dget ((ks.map enc).zip ds) (enc k) := by
        show ((((enc a, d) :: (ks.map enc).zip ds).find? fun p => decide (dkOf p.1 = dkOf (enc k))).map (·.2)) = _
        rw [List.find?_cons]
        simp [(hinj a k), e]
        rfl
      rw [e1, e2]
      exact ih
include hinj in
theorem any_zip {vs : List V} (k : κ) : ∀ (ks : List κ) (vs : List V) (ds : List D), ks.length = vs.length → vs.length = ds.length → ((ks.zip vs).any fun kv => decide (kv.1 = k)) = (((ks.map enc).zip ds).any fun p => decide (dkOf p.1 = dkOf (enc k)))
  | [], _, _, _, _ => rfl
  | _ :: _, [], _, h, _ => nomatch h
  | _ :: _, _ :: _, [], _, h => nomatch h
  | a :: ks, v :: vs, d :: ds, h, h2 => by
    have ih := any_zip (vs := vs) k ks vs ds (by simpa using h) (by simpa using h2)
    show (decide (a = k) || ((ks.zip vs).any fun kv => decide (kv.1 = k))) = (decide (dkOf (enc a) = dkOf (enc k)) || (((ks.map enc).zip ds).any fun p => decide (dkOf p.1 = dkOf (enc k))))
    rw [ih]
    congr 1
    by_cases e : a = k
    · rw [decide_eq_true e, decide_eq_true ((hinj a k).mpr e)]
    · rw [decide_eq_false e, decide_eq_false fun z => e ((hinj a k).mp z)]
include hinj in
theorem map_zip {K : PySem.W.Frag} {H : Hp} (k : κ) {v : V} {d : D} (r : Is K H v d) : ∀ (ks : List κ) (vs : List V) (ds : List D), ks.length = vs.length → IsAll K H vs ds →
    ∃ vs' ds', (ks.zip vs).map (fun kv => if kv.1 = k then (kv.1, v) else kv) = ks.zip vs' ∧ ((ks.map enc).zip ds).map (fun p => if dkOf p.1 = dkOf (enc k) then (p.1, d) else p) = (ks.map enc).zip ds' ∧ ks.length = vs'.length ∧ IsAll K H vs' ds'
  | [], _, _, _, _ => ⟨[], [], rfl, rfl, rfl, .nil⟩
  | _ :: _, [], _, h, _ => nomatch h
  | a :: ks, u :: vs, _, h, .cons (d := e) (ds := ds) h1 h2 => by
    obtain ⟨vs', ds', e1, e2, e3, e4⟩ := map_zip k r ks vs ds (by simpa using h) h2
    by_cases q : a = k
    · refine ⟨v :: vs', d :: ds', ?_, ?_, by simp [e3], .cons r e4⟩
      · show (if a = k then (a, v) else (a, u)) :: (ks.zip vs).map _ = _
        rw [if_pos q, e1]; rfl
      · show (if dkOf (enc a) = dkOf (enc k) then (enc a, d) else (enc a, e)) :: ((ks.map enc).zip ds).map _ = _
        rw [if_pos ((hinj a k).mpr q), e2]; rfl
    · refine ⟨u :: vs', e :: ds', ?_, ?_, by simp [e3], .cons h1 e4⟩
      · show (if a = k then (a, v) else (a, u)) :: (ks.zip vs).map _ = _
        rw [if_neg q, e1]; rfl
      · show (if dkOf (enc a) = dkOf (enc k) then (enc a, d) else (enc a, e)) :: ((ks.map enc).zip ds).map _ = _
        rw [if_neg fun z => q ((hinj a k).mp z), e2]; rfl
include hinj in
theorem dput_zip {K : PySem.W.Frag} {H : Hp} (k : κ) {v : V} {d : D} (r : Is K H v d) {ks : List κ} {vs : List V} {ds : List D} (h : ks.length = vs.length) (h2 : IsAll K H vs ds) :
    ∃ (ks' : List κ) (vs' : List V) (ds' : List D), putK (ks.zip vs) k v = ks'.zip vs' ∧ dput ((ks.map enc).zip ds) (enc k) d = (ks'.map enc).zip ds' ∧ ks'.length = vs'.length ∧ IsAll K H vs' ds' := by
  have ha := any_zip (enc := enc) hinj (vs := vs) k ks vs ds h h2.length
  unfold putK dput
  by_cases q : ((ks.zip vs).any fun kv => decide (kv.1 = k)) = true
  · rw [if_pos q, if_pos (ha ▸ q)]
    obtain ⟨vs', ds', e1, e2, e3, e4⟩ := map_zip hinj k r ks vs ds h h2
    exact ⟨ks, vs', ds', e1, e2, e3, e4⟩
  · rw [if_neg q, if_neg (ha ▸ q)]
    refine ⟨ks ++ [k], vs ++ [v], ds ++ [d], ?_, ?_, by simp [h], h2.append (.cons r .nil)⟩
    · rw [List.zip_append h]; rfl
    · rw [List.map_append, List.zip_append (by rw [List.length_map, h, h2.length])]; rfl
end
theorem injK (a b : Key) : dkOf (keyD a) = dkOf (keyD b) ↔ a = b := by
  rw [dkOf_keyD, dkOf_keyD]
  exact ⟨fun h => by cases h; rfl, fun h => by rw [h]⟩
theorem injT (a b : List Key) : dkOf (tupK a) = dkOf (tupK b) ↔ a = b := by
  rw [dkOf_tupK, dkOf_tupK]
  exact ⟨fun h => by cases h; rfl, fun h => by rw [h]⟩

/-! ### dicts in the heap -/
/-- a dict at a of the data ps -/
def DAt (K : PySem.W.Frag) (G H : Hp) (a : Addr) (ps : List (D × D)) : Prop :=
  (∃ (ks : List Key) (vs : List V) (ds : List D), ps = (ks.map keyD).zip ds ∧ ks.length = vs.length ∧ H a = some (.dK (ks.zip vs)) ∧ IsAll K G vs ds) ∨
  ∃ (ks : List (List Key)) (vs : List V) (ds : List D), ps = (ks.map tupK).zip ds ∧ ks.length = vs.length ∧ H a = some (.dT (ks.zip vs)) ∧ IsAll K G vs ds
theorem IsX.dict {K : PySem.W.Frag} {G H : Hp} {v : V} {ps : List (D × D)} (s : Same G H) (h : IsX K G H v (.dict ps)) : ∃ a, v = .ref a ∧ DAt K G H a ps := by
  rcases h with h | ⟨a, rfl, h⟩
  · cases h with
    | dk h1 h2 h3 => exact ⟨_, rfl, .inl ⟨_, _, _, rfl, h2, s _ _ h1, h3⟩⟩
    | dt h1 h2 h3 => exact ⟨_, rfl, .inr ⟨_, _, _, rfl, h2, s _ _ h1, h3⟩⟩
  · refine ⟨a, rfl, ?_⟩
    rcases h with ⟨_, _, h1, _⟩ | ⟨ks, vs, ds, h1, h2, h3, h4⟩ | ⟨ks, vs, ds, h1, h2, h3, h4⟩
    · cases h1
    · cases h1; exact .inl ⟨ks, vs, ds, rfl, h2, h3, h4⟩
    · cases h1; exact .inr ⟨ks, vs, ds, rfl, h2, h3, h4⟩
theorem DAt.own {K : PySem.W.Frag} {G H : Hp} {a : Addr} {ps : List (D × D)} (h : DAt K G H a ps) : Own K G H a (.dict ps) := by
  rcases h with ⟨ks, vs, ds, rfl, h2, h3, h4⟩ | ⟨ks, vs, ds, rfl, h2, h3, h4⟩
  · exact .inr (.inl ⟨ks, vs, ds, rfl, h2, h3, h4⟩)
  · exact .inr (.inr ⟨ks, vs, ds, rfl, h2, h3, h4⟩)
theorem Own.dict {K : PySem.W.Frag} {G H : Hp} {a : Addr} {ps : List (D × D)} (h : Own K G H a (.dict ps)) : DAt K G H a ps := by
  rcases h with ⟨_, _, h1, _⟩ | ⟨ks, vs, ds, h1, h2, h3, h4⟩ | ⟨ks, vs, ds, h1, h2, h3, h4⟩
  · cases h1
  · cases h1; exact .inl ⟨ks, vs, ds, rfl, h2, h3, h4⟩
  · cases h1; exact .inr ⟨ks, vs, ds, rfl, h2, h3, h4⟩
theorem keys_K {ks : List Key} {ds : List D} {k : D} (hl : ks.length = ds.length) (ok : dkOk ((ks.map keyD).zip ds) k = true) : ks = [] ∨ ∃ j, k = keyD j := by
  cases ks with
  | nil => exact .inl rfl
  | cons a ks =>
    cases ds with
    | nil => cases hl
    | cons d ds =>
      right
      simp only [dkOk, Bool.and_eq_true] at ok
      obtain ⟨o1, o2⟩ := ok
      have o3 : (isTK (keyD a) == isTK k) = true := (Bool.and_eq_true _ _ ▸ (show (isTK (keyD a) == isTK k && _) = true from o2)).1
      have o4 : isTK (keyD a) = false := by cases a <;> rfl
      rw [o4] at o3
      obtain ⟨q, hq⟩ := Option.isSome_iff_exists.mp o1
      cases q with
      | inl j => exact ⟨j, dkOf_inl hq⟩
      | inr j => rw [dkOf_inr hq] at o3; cases o3
theorem keys_T {ks : List (List Key)} {ds : List D} {k : D} (hl : ks.length = ds.length) (ok : dkOk ((ks.map tupK).zip ds) k = true) : ks = [] ∨ ∃ j, k = tupK j := by
  cases ks with
  | nil => exact .inl rfl
  | cons a ks =>
    cases ds with
    | nil => cases hl
    | cons d ds =>
      right
      simp only [dkOk, Bool.and_eq_true] at ok
      obtain ⟨o1, o2⟩ := ok
      have o3 : (isTK (tupK a) == isTK k) = true := (Bool.and_eq_true _ _ ▸ (show (isTK (tupK a) == isTK k && _) = true from o2)).1
      obtain ⟨q, hq⟩ := Option.isSome_iff_exists.mp o1
      cases q with
      | inl j => rw [dkOf_inl hq] at o3; cases j <;> cases o3
      | inr j => exact ⟨j, dkOf_inr hq⟩
theorem Is.key {K : PySem.W.Frag} {H : Hp} {v : V} {k : Key} (h : Is K H v (keyD k)) : v = kV k := by
  cases k with
  | inl i => exact IsX.int (G := H) (H := H) (.inl h)
  | inr x => exact IsX.str (G := H) (H := H) (.inl h)
theorem IsAll.keys {K : PySem.W.Frag} {H : Hp} : ∀ {vs : List V} {ks : List Key}, IsAll K H vs (ks.map keyD) → vs = ks.map kV
  | _, [], h => by cases h; rfl
  | _, k :: ks, h => by
    cases h with
    | cons h1 h2 => rw [h1.key, IsAll.keys h2]; rfl
theorem IsX.tupK {K : PySem.W.Frag} {G H : Hp} {v : V} {k : List Key} (h : IsX K G H v (tupK k)) : ∃ b, v = .ref b ∧ G b = some (.tup (k.map kV)) := by
  obtain ⟨b, xs, rfl, h1, h2⟩ := h.tup
  rw [h2.keys] at h1
  exact ⟨b, rfl, h1⟩
theorem IsX.key {K : PySem.W.Frag} {G H : Hp} {v : V} {k : Key} (h : IsX K G H v (keyD k)) : v = kV k := by
  cases k with
  | inl i => exact h.int
  | inr x => exact h.str
section
variable {X : Cx} {pins : List (Addr × Obj)} {σ : L2.St} {H : Hp} {s : Shared} {a : Addr}
theorem inv_kt (I : Inv X pins σ H s) (e : H a = some (.dK [])) : Inv X pins σ (upd H a (.dT [])) s := by
  obtain ⟨z, hd, vs, r, o, es, ep, h1, h2, h3, h4, h5, h6⟩ := dk_of I.hok e
  cases r
  have e0 : es.toList = [] := by cases h : es.toList with | nil => rfl | cons x r => rw [h] at h5; cases h5
  exact d_write (t' := s.toks) I (by rw [e]; exact True.intro) ⟨rfl, fun _ _ => rfl⟩ ⟨o, h1⟩ ⟨z, hd, [], .nil, o, es, ep, h1, h2, h3, e0, List.nodup_nil⟩
theorem inv_tk (I : Inv X pins σ H s) (e : H a = some (.dT [])) : Inv X pins σ (upd H a (.dK [])) s := by
  obtain ⟨z, hd, xs, r, o, es, ep, h1, h2, h3, h4, h5⟩ := (show ObjOk X.prog X.w H s.heap a (.dT []) from I.hok a _ e)
  cases r
  have e0 : es.toList = [] := h4
  have e1 : es = #[] := by cases es; cases e0; rfl
  subst e1
  exact d_write (t' := s.toks) I (by rw [e]; exact True.intro) ⟨rfl, fun _ _ => rfl⟩ ⟨o, h1⟩ ⟨z, hd, [], .nil, o, #[], ep, h1, h2, h3, fun _ he => by simp at he, Pairs.nil, List.nodup_nil⟩
theorem upd_back {o u : HO} (e : H a = some o) : upd (upd H a u) a o = H := by
  funext b
  by_cases h : b = a
  · subst h; rw [upd_same, e]
  · rw [upd_ne h, upd_ne h]
end
/-- what the dict at a holds at the key y; an empty one holds nothing, whatever its kind -/
def DGE (H : Hp) (a : Addr) (y : V) (o : Option V) : Prop :=
  DGet H a y o ∨ (o = none ∧ ((H a = some (.dK []) ∧ ∃ (b : Addr) (k : List Key), y = .ref b ∧ H b = some (.tup (k.map kV))) ∨ (H a = some (.dT []) ∧ ∃ k, y = kV k)))
/-- the road over an empty dict of the other kind -/
theorem dge_walk {X : Cx} {pins : List (Addr × Obj)} {σ : L2.St} {H : Hp} {s : Shared} {a : Addr} {y : V} {o : Option V} {P : Shared → Prop} (I : Inv X pins σ H s) (g : DGE H a y o)
    (h : ∀ H', Inv X pins σ H' s → DGet H' a y o → (∀ s', Inv X pins σ H' s' → Inv X pins σ H s') → P s) : P s := by
  rcases g with g | ⟨rfl, ⟨e, b, k, rfl, eb⟩ | ⟨e, k, rfl⟩⟩
  · exact h H I g fun _ i => i
  · refine h _ (inv_kt I e) ?_ fun s' i => ?_
    · refine .inr ⟨[], k, b, .inl upd_same, rfl, ?_, rfl⟩
      rw [upd_ne fun z => by subst z; rw [e] at eb; cases eb]; exact eb
    · have q := inv_tk i (a := a) upd_same
      rw [upd_back e] at q
      exact q
  · refine h _ (inv_tk I e) (.inl ⟨[], k, .inl upd_same, rfl, rfl⟩) fun s' i => ?_
    have q := inv_kt i (a := a) upd_same
    rw [upd_back e] at q
    exact q
theorem dge_of {K : PySem.W.Frag} {G H : Hp} {v y : V} {ps : List (D × D)} {k : D} (s : Same G H) (hx : IsX K G H v (.dict ps)) (hy : IsX K G H y k) (ok : dkOk ps k = true) : ∃ a o, v = .ref a ∧ DGE H a y o ∧ OIs K G o (dget ps k) := by
  obtain ⟨a, rfl, h⟩ := hx.dict s
  have okk := ok
  simp only [dkOk, Bool.and_eq_true] at okk
  obtain ⟨q, hq⟩ := Option.isSome_iff_exists.mp okk.1
  rcases h with ⟨ks, vs, ds, rfl, h1, h2, h3⟩ | ⟨ks, vs, ds, rfl, h1, h2, h3⟩
  · cases q with
    | inl j =>
      obtain rfl := dkOf_inl hq
      rw [hy.key]
      exact ⟨a, _, rfl, .inl (.k h2), dget_zip injK j ks vs ds h1 h3⟩
    | inr j =>
      obtain rfl := dkOf_inr hq
      obtain ⟨b, rfl, hb⟩ := hy.tupK
      rcases keys_K (h1.trans h3.length) ok with e | ⟨j', e⟩
      · subst e
        exact ⟨a, none, rfl, .inr ⟨rfl, .inl ⟨h2, b, j, rfl, s _ _ hb⟩⟩, True.intro⟩
      · cases j' <;> cases e
  · cases q with
    | inl j =>
      obtain rfl := dkOf_inl hq
      rw [hy.key]
      rcases keys_T (h1.trans h3.length) ok with e | ⟨j', e⟩
      · subst e
        exact ⟨a, none, rfl, .inr ⟨rfl, .inr ⟨h2, j, rfl⟩⟩, True.intro⟩
      · cases j <;> cases e
    | inr j =>
      obtain rfl := dkOf_inr hq
      obtain ⟨b, rfl, hb⟩ := hy.tupK
      exact ⟨a, _, rfl, .inl (.t h2 (s _ _ hb)), dget_zip injT j ks vs ds h1 h3⟩

/-! ### in, [], get -/
def rDIn : R2 := fun x y H Q => ∃ a o, y = .ref a ∧ DGE H a x o ∧ Q (.bl o.isSome) H
def rDNi : R2 := fun x y H Q => ∃ a o, y = .ref a ∧ DGE H a x o ∧ Q (.bl (!o.isSome)) H
section
variable {X : Cx}
theorem op_dIn (hu : X.A.units + 65 < cLine) : OpR X (compareOp .In) rDIn := by
  intro pins s σ H x y v u Q I rx ry ⟨a, o, ey, g, q⟩
  subst ey
  obtain rfl : u = Value.ref a := ry
  exact dge_walk (P := fun s => wpAny (model X.prog X.w) X.A (compareOp .In v (.ref a)) (EP X pins σ Q) X.xe s) I g fun H' I' g' bk => d_in (by omega) I' g' rx fun s' I2 => ⟨.bl o.isSome, H, bk s' I2, rfl, q⟩
theorem op_dNi (hu : X.A.units + 65 < cLine) : OpR X (compareOp .NotIn) rDNi := by
  intro pins s σ H x y v u Q I rx ry ⟨a, o, ey, g, q⟩
  subst ey
  obtain rfl : u = Value.ref a := ry
  exact dge_walk (P := fun s => wpAny (model X.prog X.w) X.A (compareOp .NotIn v (.ref a)) (EP X pins σ Q) X.xe s) I g fun H' I' g' bk => d_notIn (by omega) I' g' rx fun s' I2 => ⟨.bl (!o.isSome), H, bk s' I2, rfl, q⟩
def rDIx : R2 := fun x y H Q => ∃ a v, x = .ref a ∧ DGet H a y (some v) ∧ Q v H
theorem ix_dict (hu : X.A.units + 65 < cLine) : IxR X rDIx := by
  intro value slice pins s σ H x y v u Q I rx ry ⟨a, z, ex, g, q⟩ hs
  subst ex
  obtain rfl : v = Value.ref a := rx
  have hT := dict_typeIs I g
  unfold subscriptTail
  refine wpAny_bind ?_
  rw [getitemInPython_of_ne hT.not_modules]
  refine wpAny_bind (wpAny_specialOf hT PySem.F.slot_dict_getitem.lookup ?_)
  have fin : wpAny (model X.prog X.w) X.A (subscripted slice false (.ref a) u) (fun r s₃ => wpAny (model X.prog X.w) X.A (letTemporaryGo value (.ref a) r >>= fun _ => pure r) (EP X pins σ Q) X.xe s₃) X.xe s := by
    rw [hs]
    exact wpAny_operating (d_getItem (by omega) I g ry fun w' s3 I3 rw' => wpAny_bind (wpAny_letTemporaryGo (wpAny_pure ⟨z, H, I3, rw', q⟩)))
  first
    | exact wpAny_pure (wpAny_bind fin)
    | exact wpAny_bind (wpAny_pure (wpAny_bind fin))
    | exact wpAny_bind fin
end
def ixA : Op2
  | .dict ps, k, Q => dkOk ps k = true ∧ optD (dget ps k) Q
  | d, e, Q => ixD d e Q
def inA : Op2
  | d, .dict ps, Q => dkOk ps d = true ∧ Q (.bool (dget ps d).isSome)
  | d, e, Q => inD d e Q
def ninA : Op2
  | d, .dict ps, Q => dkOk ps d = true ∧ Q (.bool (!(dget ps d).isSome))
  | d, e, Q => ninD d e Q
section
variable {X : Cx} {Γ : Gm} {k j n : Nat} {a b e : Expr} {es : List Expr} {st : Stmt} {rest body orelse : List Stmt} {pos : Pos} {t u : TDS}
theorem ix_rd {K : PySem.W.Frag} {x y : V} {H : Hp} {Q : VK} (h : ∃ G d e k, Same G H ∧ IsX K G H x d ∧ IsX K G H y e ∧ ixD d e k ∧ ∀ r v G' H', k r → Grow G H G' H' → Is K G' v r → Q v H') :
    rIxL K x y H Q ∨ (rIxT K x y H Q ∨ rIxS x y H Q) := by
  obtain ⟨G, d, e, k, s, hx, hy, h, fin⟩ := h
  cases d with
  | list ds =>
    cases e with
    | int i =>
      obtain ⟨r, h1, h2⟩ := optD.to h
      obtain ⟨p, xs, rfl, h3, h4⟩ := hx.list s
      obtain ⟨v, h5, h6⟩ := h4.atI h1
      exact .inl ⟨p, xs, i, v, rfl, hy.int, .of h3, h5, fin _ _ G H h2 (.refl s) h6⟩
    | _ => exact (show False from h).elim
  | tuple ds =>
    cases e with
    | int i =>
      obtain ⟨r, h1, h2⟩ := optD.to h
      obtain ⟨p, xs, rfl, h3, h4⟩ := hx.tup
      obtain ⟨v, h5, h6⟩ := h4.atI h1
      exact .inr (.inl ⟨p, xs, i, v, rfl, hy.int, Same.sqt s h3, h5, fin _ _ G H h2 (.refl s) h6⟩)
    | _ => exact (show False from h).elim
  | str z =>
    cases e with
    | int i =>
      obtain ⟨hz, h⟩ := h
      obtain ⟨r, h1, h2⟩ := optD.to h
      exact .inr (.inr ⟨z, i, r, hx.str, hy.int, line_le hz, h1, fin _ _ G H h2 (.refl s) (.str _)⟩)
    | _ => exact (show False from h).elim
  | _ => exact (show False from h).elim
theorem de_ixA {ta tb : TB} (c : Cok k X Γ) (ha : DB X Γ a ta) (hb : DB X Γ b tb) (hs : PlainIx b := by intro _ _; rfl) : DE X Γ (.Subscript a b pos) (dBin ixA ta tb) := by
  refine ⟨pe_imp (pe_ix (ix_seq.or (ix_dict c.hu)) ha.pe hb.pe hs) fun σ H Q h => bin_rd ?_ h⟩
  rintro x y H Q ⟨G, d, e, k, s, hx, hy, h, fin⟩
  unfold ixA at h
  split at h
  · rename_i ps kk Q'
    obtain ⟨ok, h⟩ := h
    obtain ⟨r, h1, h2⟩ := optD.to h
    obtain ⟨a, o, rfl, g, r1⟩ := dge_of s hx hy ok
    rw [h1] at r1
    cases o with
    | none => exact r1.elim
    | some v =>
      rcases g with g | ⟨z, _⟩
      · exact .inr ⟨a, v, rfl, g, fin _ _ G H h2 (.refl s) r1⟩
      · cases z
  · exact .inl (ix_rd ⟨G, _, _, _, s, hx, hy, h, fin⟩)
theorem od_inA (c : Cok k X Γ) : OpD X (compareOp .In) inA := by
  intro pins s σ H x y v u Q I rx ry ⟨G, d, e, k, sm, hx, hy, h, fin⟩
  unfold inA at h
  split at h
  · obtain ⟨ok, h⟩ := h
    obtain ⟨a, o, rfl, g, r1⟩ := dge_of sm hy hx ok
    exact op_dIn c.hu pins s σ H x _ v u Q I rx ry ⟨a, o, rfl, g, fin _ _ G H (by rw [r1.isSome]; exact h) (.refl sm) (.bl _)⟩
  · exact od_in c pins s σ H x y v u Q I rx ry ⟨G, _, _, _, sm, hx, hy, h, fin⟩
theorem od_notinA (c : Cok k X Γ) : OpD X (compareOp .NotIn) ninA := by
  intro pins s σ H x y v u Q I rx ry ⟨G, d, e, k, sm, hx, hy, h, fin⟩
  unfold ninA at h
  split at h
  · obtain ⟨ok, h⟩ := h
    obtain ⟨a, o, rfl, g, r1⟩ := dge_of sm hy hx ok
    exact op_dNi c.hu pins s σ H x _ v u Q I rx ry ⟨a, o, rfl, g, fin _ _ G H (by rw [r1.isSome]; exact h) (.refl sm) (.bl _)⟩
  · exact od_notin c pins s σ H x y v u Q I rx ry ⟨G, _, _, _, sm, hx, hy, h, fin⟩
end
end Dn
/-! Dn: dicts changed; pop. -/
namespace Dn
open PySem PySem.Spec PyProof.Rows L2
theorem IsAll.eraseIdx {K : PySem.W.Frag} {H : Hp} : ∀ {vs : List V} {ds : List D} (i : Nat), IsAll K H vs ds → IsAll K H (vs.eraseIdx i) (ds.eraseIdx i)
  | _, _, _, .nil => .nil
  | _, _, 0, .cons _ t => t
  | _, _, i + 1, .cons h t => .cons h (IsAll.eraseIdx i t)
section
variable {X : Cx} {Γ : Gm} {k j n : Nat} {a b e : Expr} {es : List Expr} {st : Stmt} {rest body orelse : List Stmt} {pos apos cpos : Pos} {t u : TDS}
/-! ### name.pop(), name.pop(i) -/
def dPop (i : Nat) : TD := fun ρ Q => ownL ρ i fun xs => optD (xs[xs.length - 1]?) fun d => Q d (ρ.set i (.own (.list xs.dropLast)))
theorem de_pop (i : Nat) {x : Str} {p1 : Pos} (hN : X.N[i]? = some x := by rfl) (hv : Vis X.env.scope x := by first | exact Or.inl rfl | exact Or.inr (Or.inl rfl) | exact Or.inr (Or.inr rfl)) (hd : (x == ("__debug__" : Str)) = false := by decide)
    (hcd : (x == ("__classdict__" : Str)) = false := by decide) (hbase : attributeBase (.Name x p1) "pop" X.env (eval (.Name x p1) X.env) = eval (.Name x p1) X.env := by rfl) (hline : (apos.endLine == cpos.line) = true := by rfl) :
    DE X Γ (.Call (.Attribute (.Name x p1) "pop" apos) [] [] cpos) (dPop i) := by
  have hm : MtR X "list.pop" rPop := fun pins s σ H x xs v us Q I r rs h => mt_pop pins s σ H x xs v us Q I r rs h
  refine ⟨pe_imp (pe_bm0 PySem.F.plainAttrs_list PySem.F.slot_list_pop PySem.F.type_list_pop hm (pe_var (i := i) hN hv hd hcd) hbase hline) ?_⟩
  rintro σ H Q ⟨ρ, G, k, at_, h, fin⟩
  obtain ⟨ds, e0, h⟩ := h.to
  obtain ⟨d, e1, h⟩ := optD.to h
  obtain ⟨p, xs, hp, hx, rx⟩ := at_.ownLst e0
  obtain ⟨v, e2, r⟩ := rx.get' e1
  rw [← rx.length] at e2
  refine ⟨_, hp, .inl ⟨rfl, _, SqL.of hx⟩, p, xs, v, rfl, rfl, hx, e2, ?_⟩
  exact fin d _ v _ _ h (at_.write e0 hp (.inl ⟨_, _, rfl, upd_same, rx.dropLast⟩)) (Same.refl _) r
def dPopAt (i : Nat) (tj : TD) : TD := fun ρ Q => ownL ρ i fun _ => tj ρ fun z ρ1 => asI z fun j => (-(2 ^ 62) ≤ j ∧ j < 2 ^ 62) ∧ ownL ρ1 i fun xs => optD (ixN xs.length j) fun m => optD (xs[m]?) fun d => Q d (ρ1.set i (.own (.list (xs.eraseIdx m))))
theorem de_popAt (i : Nat) {x : Str} {p1 : Pos} {tj : TD} (hj : DE X Γ e tj) (hN : X.N[i]? = some x := by rfl) (hv : Vis X.env.scope x := by first | exact Or.inl rfl | exact Or.inr (Or.inl rfl) | exact Or.inr (Or.inr rfl)) (hd : (x == ("__debug__" : Str)) = false := by decide)
    (hcd : (x == ("__classdict__" : Str)) = false := by decide)
    (hbase : attributeBase (.Name x p1) "pop" X.env (eval (.Name x p1) X.env) = eval (.Name x p1) X.env := by rfl)
    (hfew : ((backTo cpos (starEach [e] X.env)).all (fun x => !x.1) && (backToKw cpos (keywordEach [] X.env)).all (fun x => x.1.isSome)
      && decide ([e].length + ([] : List Keyword).length + (if ([] : List Keyword).isEmpty then 0 else 1) < 30)) = true := by rfl)
    (hline : (apos.endLine == cpos.line) = true := by rfl) (hs : starEach [e] X.env = (false, eval e X.env) :: starEach [] X.env := by rfl) (hplain : (backTo cpos (starEach [] X.env)).any (·.1) = false := by rfl) :
    DE X Γ (.Call (.Attribute (.Name x p1) "pop" apos) [e] [] cpos) (dPopAt i tj) := by
  have hm : MtR X "list.pop" rPopAt := fun pins s σ H x xs v us Q I r rs h => mt_popAt pins s σ H x xs v us Q I r rs h
  refine ⟨pe_imp (pe_bm PySem.F.plainAttrs_list PySem.F.slot_list_pop PySem.F.type_list_pop hm (pe_var (i := i) hN hv hd hcd) (pa_cons hj.pe pa_nil hs) hbase hfew hline hs hplain) ?_⟩
  rintro σ H Q ⟨ρ, G, k, at_, h, fin⟩
  obtain ⟨ds0, e0, h⟩ := h.to
  obtain ⟨p, xs0, hp, hx0, _⟩ := at_.ownLst e0
  refine ⟨_, hp, .inl ⟨rfl, _, SqL.of hx0⟩, ρ, G, _, at_, h, fun z ρ1 v G1 H1 h1 a1 s1 r1 => ?_⟩
  obtain ⟨jj, ez, h1⟩ := asI.to h1
  subst ez
  obtain ⟨⟨b1, b2⟩, h1⟩ := h1
  obtain ⟨ds, e3, h1⟩ := ownL.to h1
  obtain ⟨m, e4, h1⟩ := optD.to h1
  obtain ⟨d, e5, h1⟩ := optD.to h1
  obtain ⟨p', xs, hp', hx, rx⟩ := a1.ownLst e3
  rw [hp] at hp'
  cases hp'
  obtain ⟨y, e6, r⟩ := rx.get' e5
  obtain ⟨q1, q2, q3, q4⟩ := ixN_seq e4
  cases r1
  rw [← rx.length] at q1
  refine ⟨p, xs, jj, m, y, rfl, rfl, hx, by omega, by omega, q1, e6, ?_⟩
  exact fin d _ y _ _ h1 (a1.write e3 hp (.inl ⟨_, _, rfl, upd_same, rx.eraseIdx m⟩)) s1 r

/-! ### a new dict, d[k] = v -/
def dNewD : TD := fun ρ Q => Q (.dict []) ρ
theorem df_dnew : DF X Γ (.Dict [] [] pos) dNewD := by
  refine ⟨pe_imp pe_dnewK ?_⟩
  rintro σ H Q ⟨ρ, G, k, at_, h, fin⟩ p hp
  obtain ⟨a2, g0, h0, hno⟩ := at_.fresh (o := .dK []) hp
  exact fin _ _ p _ _ h a2 (Same.refl _) g0 h0 (.inr (.inl ⟨[], [], [], rfl, rfl, upd_same, .nil⟩)) hno
def DPE (H : Hp) (a : Addr) (y v : V) (H' : Hp) : Prop :=
  DPut H a y v H' ∨ (∃ (b : Addr) (k : List Key), H a = some (.dK []) ∧ y = .ref b ∧ H b = some (.tup (k.map kV)) ∧ H' = upd H a (.dT [(k, v)])) ∨ (∃ k : Key, H a = some (.dT []) ∧ y = kV k ∧ H' = upd H a (.dK [(k, v)]))
theorem upd_upd {H : Hp} {a : Addr} {o u : HO} : upd (upd H a o) a u = upd H a u := by
  funext b
  by_cases h : b = a
  · subst h; rw [upd_same, upd_same]
  · rw [upd_ne h, upd_ne h, upd_ne h]
theorem d_setItemE {X : Cx} {pins : List (Addr × Obj)} {σ : L2.St} {H H' : Hp} {s : Shared} {a : Addr} {y v : V} {u r : Value} {A : Around} {E : Value → Shared → Prop} {Q : Unit → Shared → Prop} (hu : A.units + 1 < cLine) (I : Inv X pins σ H s) (g : DPE H a y v H') (ry : RelV y u) (rv : RelV v r) (h : ∀ s', Inv X pins σ H' s' → Q () s') :
    wpAny (model X.prog X.w) A (setItem (.ref a) u r) Q E s := by
  have hl := line63
  rcases g with g | ⟨b, k, e, rfl, eb, rfl⟩ | ⟨k, e, rfl, rfl⟩
  · exact d_setItem hu I g ry rv h
  · have I' := inv_kt I e
    refine d_setItem hu I' (.inr ⟨[], k, b, upd_same, rfl, ?_, by rw [sizeLine_eq]; decide, rfl⟩) ry rv fun s' i => h s' ?_
    · rw [upd_ne fun z => by subst z; rw [e] at eb; cases eb]; exact eb
    · rw [upd_upd] at i; exact i
  · have I' := inv_tk I e
    refine d_setItem hu I' (.inl ⟨[], k, upd_same, rfl, by rw [sizeLine_eq]; decide, rfl⟩) ry rv fun s' i => h s' ?_
    rw [upd_upd] at i; exact i
def rSetD : V → V → V → Hp → (Hp → Prop) → Prop := fun o i v H Q => ∃ a H', o = .ref a ∧ DPE H a i v H' ∧ Q H'
theorem set_dict (hu : X.A.units + 65 < cLine) : PSet X rSetD := by
  intro pins s σ H o i v ov iv u Q I ro ri rv ⟨a, H', eo, g, q⟩
  subst eo
  obtain rfl : ov = Value.ref a := ro
  exact d_setItemE (by omega) I g ri rv fun s' I' => ⟨H', I', q⟩
theorem PSet.or {t t' : TSet} (h : PSet X t) (h' : PSet X t') : PSet X fun o i v H Q => t o i v H Q ∨ t' o i v H Q := by
  intro pins s σ H o i v ov iv u Q I ro ri rv q
  rcases q with q | q
  · exact h pins s σ H o i v ov iv u Q I ro ri rv q
  · exact h' pins s σ H o i v ov iv u Q I ro ri rv q
/-- what comes of d[k] = v, at a dict of one's own -/
theorem dpe_of {K : PySem.W.Frag} {G H : Hp} {a : Addr} {y v : V} {ps : List (D × D)} {k d : D} (s : Same G H) (ga : G a = none) (hx : DAt K G H a ps) (hy : Is K G y k) (hv : Is K G v d) (ok : dkOk ps k = true) (hl : ps.length < 16777216) :
    ∃ o, DPE H a y v (upd H a o) ∧ Own K G (upd H a o) a (.dict (dput ps k d)) := by
  have okk := ok
  simp only [dkOk, Bool.and_eq_true] at okk
  obtain ⟨q, hq⟩ := Option.isSome_iff_exists.mp okk.1
  have e1 : ∀ (k : D), dput [] k d = [(k, d)] := fun _ => rfl
  rcases hx with ⟨ks, vs, ds, rfl, h1, h2, h3⟩ | ⟨ks, vs, ds, rfl, h1, h2, h3⟩
  · have hz : (ks.zip vs).length < sizeLine := by
      rw [sizeLine_eq, List.length_zip]
      rw [List.length_zip, List.length_map] at hl
      rw [h3.length]; omega
    cases q with
    | inl j =>
      obtain rfl := dkOf_inl hq
      obtain rfl := hy.key
      obtain ⟨ks', vs', ds', e2, e3, e4, e5⟩ := dput_zip injK j hv h1 h3
      refine ⟨.dK (ks'.zip vs'), .inl (.inl ⟨_, j, h2, rfl, hz, by rw [e2]⟩), ?_⟩
      rw [e3]
      exact .inr (.inl ⟨ks', vs', ds', rfl, e4, upd_same, e5⟩)
    | inr j =>
      obtain rfl := dkOf_inr hq
      obtain ⟨b, rfl, hb⟩ := (show IsX K G H y (tupK j) from .inl hy).tupK
      rcases keys_K (h1.trans h3.length) ok with e | ⟨j', e⟩
      · subst e
        refine ⟨.dT [(j, v)], .inr (.inl ⟨b, j, h2, rfl, s _ _ hb, rfl⟩), ?_⟩
        exact .inr (.inr ⟨[j], [v], [d], rfl, rfl, upd_same, .cons hv .nil⟩)
      · cases j' <;> cases e
  · have hz : (ks.zip vs).length < sizeLine := by
      rw [sizeLine_eq, List.length_zip]
      rw [List.length_zip, List.length_map] at hl
      rw [h3.length]; omega
    cases q with
    | inl j =>
      obtain rfl := dkOf_inl hq
      obtain rfl := hy.key
      rcases keys_T (h1.trans h3.length) ok with e | ⟨j', e⟩
      · subst e
        refine ⟨.dK [(j, v)], .inr (.inr ⟨j, h2, rfl, rfl⟩), ?_⟩
        exact .inr (.inl ⟨[j], [v], [d], rfl, rfl, upd_same, .cons hv .nil⟩)
      · cases j <;> cases e
    | inr j =>
      obtain rfl := dkOf_inr hq
      obtain ⟨b, rfl, hb⟩ := (show IsX K G H y (tupK j) from .inl hy).tupK
      obtain ⟨ks', vs', ds', e2, e3, e4, e5⟩ := dput_zip injT j hv h1 h3
      refine ⟨.dT (ks'.zip vs'), .inl (.inr ⟨_, j, b, h2, rfl, s _ _ hb, hz, by rw [e2]⟩), ?_⟩
      rw [e3]
      exact .inr (.inr ⟨ks', vs', ds', rfl, e4, upd_same, e5⟩)
/-- name[j] = e: a list or a dict -/
def sPutA (t : TD) (i : Nat) (tj : TD) : TDS := fun R ρ => t ρ fun d ρ1 => ownD ρ1 i fun _ => tj ρ1 fun z ρ2 => match ρ2[i]? with
  | some (.own (.list xs)) => asI z fun j => optD (ixN xs.length j) fun m => R.nx (ρ2.set i (.own (.list (xs.set m d))))
  | some (.own (.dict ps)) => dkOk ps z = true ∧ ps.length < 16777216 ∧ R.nx (ρ2.set i (.own (.dict (dput ps z d))))
  | _ => False
theorem ds_putA {i : Nat} {x : Str} {j : Expr} {p1 p2 : Pos} {t : TD} {tj : TD} (c : Cok k X Γ) (he : DE X Γ e t) (hj : DE X Γ j tj) (hN : X.N[i]? = some x := by rfl) (hv : Vis X.env.scope x := by first | exact Or.inl rfl | exact Or.inr (Or.inl rfl) | exact Or.inr (Or.inr rfl)) (hd : (x == ("__debug__" : Str)) = false := by decide)
    (hcd : (x == ("__classdict__" : Str)) = false := by decide)
    (ha : ∀ v, assign (.Subscript (.Name x p1) j p2) X.env v = (do
      let ov ← holding [v] (eval (.Name x p1) X.env)
      let iv ← holding [v, ov] (eval j X.env)
      standAt p2
      holding [v, ov, iv] (setItem ov iv v)
      release [v, ov, iv] []) := by intro _; rfl)
    (hs : swapsWithSole [.Subscript (.Name x p1) j p2] e pos.line X.env = pure false := by rfl) (hw : swappedStores [.Subscript (.Name x p1) j p2] e X.env = pure none := by rfl)
    (h1 : (assignEach [.Subscript (.Name x p1) j p2] X.env).map (·.2) = [assign (.Subscript (.Name x p1) j p2) X.env] := by rfl) : DS X Γ (.Assign [.Subscript (.Name x p1) j p2] e pos) (sPutA t i tj) := by
  refine ⟨ps_imp (ps_asg he.pe (pg_sub (pe_var (i := i) hN hv hd hcd) hj.pe (PSet.or set_list (set_dict c.hu)) ha) hs hw h1) ?_⟩
  rintro E σ H ⟨ρ, G, R, at_, ok, h⟩
  refine ⟨ρ, G, _, at_, h, fun d ρ1 v G1 H1 h1 a1 s1 r1 => ?_⟩
  obtain ⟨d0, e0, h1⟩ := h1.to
  obtain ⟨p, hp, _, _, _⟩ := a1.own e0
  refine ⟨_, hp, ρ1, G1, _, a1, h1, fun z ρ2 w G2 H2 h2 a2 s2 r2 => ?_⟩
  split at h2
  · rename_i xs e3
    obtain ⟨jj, ez, h2⟩ := asI.to h2
    subst ez
    obtain ⟨m, e4, h2⟩ := optD.to h2
    obtain ⟨p', us, hp', hx, rx⟩ := a2.ownLst e3
    rw [hp] at hp'
    cases hp'
    cases r2
    refine .inl ⟨p, us, jj, m, rfl, rfl, hx, by rw [rx.length]; exact e4, ?_⟩
    exact ok.nx _ _ _ _ (a2.write e3 hp (.inl ⟨_, _, rfl, upd_same, rx.set (r1.mono s2) m⟩)) (s1.trans s2) h2
  · rename_i ps e3
    obtain ⟨q1, q2, h2⟩ := h2
    obtain ⟨p', hp', g1, _, ow⟩ := a2.own e3
    rw [hp] at hp'
    cases hp'
    obtain ⟨o, g, ow'⟩ := dpe_of a2.sub g1 ow.dict r2 (r1.mono s2) q1 q2
    exact .inr ⟨p, _, rfl, g, ok.nx _ _ _ _ (a2.write e3 hp ow') (s1.trans s2) h2⟩
  · exact h2.elim

/-! ### d.get(k), d.get(k, x) -/
def rGetA : V → List V → Hp → VK → Prop := fun x vs H Q => ∃ a y o, x = .ref a ∧ DGE H a y o ∧ ((vs = [y] ∧ Q (o.getD .non) H) ∨ ∃ z, vs = [y, z] ∧ Q (o.getD z) H)
theorem mt_get (hu : X.A.units + 65 < cLine) : MtR X "dict.get" rGetA := by
  intro pins s σ H x vs v us Q I rx rv ⟨a, y, o, ex, g, q⟩
  subst ex
  obtain rfl : v = Value.ref a := rx
  rcases q with ⟨rfl, q⟩ | ⟨z, rfl, q⟩
  · obtain ⟨u, rfl, ru⟩ := rv.one
    exact dge_walk (P := fun s => wpAny (model X.prog X.w) X.A (call (.builtin "dict.get") [.ref a, u]) (EP X pins σ Q) X.xe s) I g fun H' I' g' bk => d_get1 (by omega) I' g' ru fun w' s' I2 rw' => ⟨_, H, bk s' I2, rw', q⟩
  · obtain ⟨u, u2, rfl, ru, ru2⟩ := rv.two
    exact dge_walk (P := fun s => wpAny (model X.prog X.w) X.A (call (.builtin "dict.get") [.ref a, u, u2]) (EP X pins σ Q) X.xe s) I g fun H' I' g' bk => d_get2 (by omega) I' g' ru ru2 fun w' s' I2 rw' => ⟨_, H, bk s' I2, rw', q⟩
def isDct : D → Bool
  | .dict _ => true
  | _ => false
def dctD (d : D) (k : List (D × D) → Prop) : Prop := match d with
  | .dict ps => k ps
  | _ => False
theorem dctD.to {d : D} {k : List (D × D) → Prop} (h : dctD d k) : ∃ ps, d = .dict ps ∧ k ps := by
  cases d <;> first | exact ⟨_, rfl, h⟩ | exact (show False from h).elim
def dGet1 (ta : TB) (tk : TD) : TD := fun ρ Q => ta ρ fun x ρ1 => withD ρ1 x fun d0 => isDct d0 = true ∧ tk ρ1 fun z ρ2 => withD ρ2 x fun d => dctD d fun ps => dkOk ps z = true ∧ Q ((dget ps z).getD .none) ρ2
def dGet2 (ta : TB) (tk tz : TD) : TD := fun ρ Q => ta ρ fun x ρ1 => withD ρ1 x fun d0 => isDct d0 = true ∧ tk ρ1 fun z ρ2 => tz ρ2 fun y ρ3 => withD ρ3 x fun d => dctD d fun ps => dkOk ps z = true ∧ Q ((dget ps z).getD y) ρ3
theorem tyV_dict {K : PySem.W.Frag} {G H : Hp} {v : V} {d : D} (s : Same G H) (h : IsX K G H v d) (q : isDct d = true) : tyV K "dict" v H := by
  cases d with
  | dict ps =>
    obtain ⟨a, rfl, hd⟩ := h.dict s
    refine .inr (.inr (.inl ⟨rfl, ?_⟩))
    rcases hd with ⟨ks, vs, ds, _, _, h3, _⟩ | ⟨ks, vs, ds, _, _, h3, _⟩
    · exact .inl ⟨_, h3⟩
    · exact .inr ⟨_, h3⟩
  | _ => cases q
theorem OIs.getD {K : PySem.W.Frag} {H : Hp} {o : Option V} {u : Option D} {v : V} {d : D} (h : OIs K H o u) (r : Is K H v d) : Is K H (o.getD v) (u.getD d) := by
  cases o <;> cases u <;> first | exact r | exact h | exact h.elim
theorem de_get1 {ta : TB} {tk : TD} (c : Cok k X Γ) (ha : DB X Γ a ta) (hk : DE X Γ e tk)
    (hbase : attributeBase a "get" X.env (eval a X.env) = eval a X.env := by rfl)
    (hfew : ((backTo cpos (starEach [e] X.env)).all (fun x => !x.1) && (backToKw cpos (keywordEach [] X.env)).all (fun x => x.1.isSome)
      && decide ([e].length + ([] : List Keyword).length + (if ([] : List Keyword).isEmpty then 0 else 1) < 30)) = true := by rfl)
    (hline : (apos.endLine == cpos.line) = true := by rfl) (hs : starEach [e] X.env = (false, eval e X.env) :: starEach [] X.env := by rfl) (hplain : (backTo cpos (starEach [] X.env)).any (·.1) = false := by rfl) :
    DE X Γ (.Call (.Attribute a "get" apos) [e] [] cpos) (dGet1 ta tk) := by
  refine ⟨pe_imp (pe_bm PySem.F.plainAttrs_dict PySem.F.slot_dict_get PySem.F.type_dict_get (mt_get c.hu) ha.pe (pa_cons hk.pe pa_nil hs) hbase hfew hline hs hplain) ?_⟩
  rintro σ H Q ⟨ρ, G, k, at_, h, fin⟩
  refine ⟨ρ, G, _, at_, h, fun x ρ1 v G1 H1 h1 a1 s1 r1 => ?_⟩
  obtain ⟨d0, l0, q0, h1⟩ := withD.to h1
  refine ⟨tyV_dict a1.sub (a1.isx r1 l0) q0, ρ1, G1, _, a1, h1, fun z ρ2 w G2 H2 h2 a2 s2 r2 => ?_⟩
  obtain ⟨d, l, h2⟩ := withD.to h2
  obtain ⟨ps, rfl, ok, h2⟩ := dctD.to h2
  obtain ⟨p, o, e1, g, ro⟩ := dge_of a2.sub (a2.isx (r1.mono s2) l) (.inl r2) ok
  exact ⟨p, w, o, e1, g, .inl ⟨rfl, fin _ _ _ _ _ h2 a2 (s1.trans s2) (ro.getD .non)⟩⟩
theorem de_get2 {f : Expr} {ta : TB} {tk tz : TD} (c : Cok k X Γ) (ha : DB X Γ a ta) (hk : DE X Γ e tk) (hz : DE X Γ f tz)
    (hbase : attributeBase a "get" X.env (eval a X.env) = eval a X.env := by rfl)
    (hfew : ((backTo cpos (starEach [e, f] X.env)).all (fun x => !x.1) && (backToKw cpos (keywordEach [] X.env)).all (fun x => x.1.isSome)
      && decide ([e, f].length + ([] : List Keyword).length + (if ([] : List Keyword).isEmpty then 0 else 1) < 30)) = true := by rfl)
    (hline : (apos.endLine == cpos.line) = true := by rfl) (hs : starEach [e, f] X.env = (false, eval e X.env) :: starEach [f] X.env := by rfl) (hs2 : starEach [f] X.env = (false, eval f X.env) :: starEach [] X.env := by rfl) (hplain : (backTo cpos (starEach [f] X.env)).any (·.1) = false := by rfl) :
    DE X Γ (.Call (.Attribute a "get" apos) [e, f] [] cpos) (dGet2 ta tk tz) := by
  refine ⟨pe_imp (pe_bm PySem.F.plainAttrs_dict PySem.F.slot_dict_get PySem.F.type_dict_get (mt_get c.hu) ha.pe (pa_cons hk.pe (pa_cons hz.pe pa_nil hs2) hs) hbase hfew hline hs hplain) ?_⟩
  rintro σ H Q ⟨ρ, G, k, at_, h, fin⟩
  refine ⟨ρ, G, _, at_, h, fun x ρ1 v G1 H1 h1 a1 s1 r1 => ?_⟩
  obtain ⟨d0, l0, q0, h1⟩ := withD.to h1
  refine ⟨tyV_dict a1.sub (a1.isx r1 l0) q0, ρ1, G1, _, a1, h1, fun z ρ2 w G2 H2 h2 a2 s2 r2 => ⟨ρ2, G2, _, a2, h2, fun y ρ3 w3 G3 H3 h3 a3 s3 r3 => ?_⟩⟩
  obtain ⟨d, l, h3⟩ := withD.to h3
  obtain ⟨ps, rfl, ok, h3⟩ := dctD.to h3
  obtain ⟨p, o, e1, g, ro⟩ := dge_of a3.sub (a3.isx ((r1.mono s2).mono s3) l) (.inl (r2.mono s3)) ok
  exact ⟨p, w, o, e1, g, .inr ⟨w3, rfl, fin _ _ _ _ _ h3 a3 ((s1.trans s2).trans s3) (ro.getD r3)⟩⟩
end
end Dn
/-! Dn: dict displays, dict(..) of pairs, len and sorted of dicts. -/
namespace Dn
open PySem PySem.Spec PyProof.Rows L2

def mergeT (acc : List (List Key × V)) (kvs : List (List Key × Addr × V)) : List (List Key × V) := kvs.foldl (fun acc kv => putK acc kv.1 kv.2.2) acc
theorem length_mergeT : ∀ (kvs : List (List Key × Addr × V)) (acc : List (List Key × V)), (mergeT acc kvs).length ≤ acc.length + kvs.length
  | [], acc => by show acc.length ≤ _; omega
  | p :: r, acc => by
    have h1 := length_mergeT r (putK acc p.1 p.2.2)
    have h2 := length_putK acc p.1 p.2.2
    show (mergeT (putK acc p.1 p.2.2) r).length ≤ _
    rw [List.length_cons]; omega
theorem KT.merge {H : Hp} : ∀ {kvs : List (List Key × Addr × V)} {rs : List (List Key × Addr × Value)} {acc : List (List Key × V)} {xs : List (List Key × Addr × Value)},
    Paired (fun p q => p.1 = q.1 ∧ p.2.1 = q.2.1 ∧ H q.2.1 = some (.tup (p.1.map kV)) ∧ RelV p.2.2 q.2.2) kvs rs → KT H acc xs → KT H (mergeT acc kvs) (storedAllH xs rs)
  | _, _, _, _, .nil, r => r
  | _, _, _, _, .cons (a := p) (b := q) h t, r => by
    refine KT.merge (acc := putK _ p.1 p.2.2) (xs := storedH _ q.1 q.2.1 q.2.2) t ?_
    have e := h.1
    rw [← e]
    exact r.put p.1 h.2.2.1 h.2.2.2
theorem carriesT {P : Program} {w : World} {H : Hp} {h : Heap} (ok : HOk P w H h) : ∀ {kvs : List (List Key × Addr × V)} {ws : List (Value × Value)}, VV (kvs.map fun kv => (.ref kv.2.1, kv.2.2)) ws → (∀ kv ∈ kvs, H kv.2.1 = some (.tup (kv.1.map kV))) →
    ∃ rs, CarriesH (tupleKind (mixKind P w)) h ws rs ∧ Paired (fun p q => p.1 = q.1 ∧ p.2.1 = q.2.1 ∧ H q.2.1 = some (.tup (p.1.map kV)) ∧ RelV p.2.2 q.2.2) kvs rs
  | [], _, r, _ => by rw [List.map_nil] at r; cases r; exact ⟨[], True.intro, .nil⟩
  | p :: kvs, _, r, hk => by
    rw [List.map_cons] at r
    cases r with
    | @cons a b as bs h t =>
      obtain ⟨rs, c, q⟩ := carriesT ok t fun kv hkv => hk kv (List.mem_cons_of_mem _ hkv)
      obtain ⟨b1, b2⟩ := b
      have hp := hk p List.mem_cons_self
      have e1 : b1 = Value.ref p.2.1 := h.1
      exact ⟨(p.1, p.2.1, b2) :: rs, ⟨e1, rfl, key_of ok hp, c⟩, .cons ⟨rfl, rfl, hp, h.2⟩ q⟩
def tDispA (trs : List (TE × TE)) : TE := fun σ H Q => ∀ p, H p = none → tPairs trs σ (upd H p (.dK [])) fun ps H2 => H2 p = some (.dK []) ∧
  ((∃ kvs : List (Key × V), ps = kvs.map (fun kv => (kV kv.1, kv.2)) ∧ kvs.length ≤ 15 ∧ Q (.ref p) (upd H2 p (.dK (mergeK [] kvs)))) ∨
   ∃ kvs : List (List Key × Addr × V), ps = kvs.map (fun kv => (.ref kv.2.1, kv.2.2)) ∧ (∀ kv ∈ kvs, H2 kv.2.1 = some (.tup (kv.1.map kV))) ∧ kvs.length ≤ 15 ∧ Q (.ref p) (upd H2 p (.dT (mergeT [] kvs))))
theorem pe_dispA {X : Cx} {pos : Pos} {keys : List (Option Expr)} {values : List Expr} {trs : List (TE × TE)} (hu : X.A.units + 65 < cLine) (h : PPs X pos keys values trs) (hall : keys.all (·.isSome) = true) (hl : keys.length = values.length) (h0 : keys ≠ [])
    (h15 : keys.length ≤ 15) : PE X (.Dict keys values pos) (tDispA trs) := by
  refine ⟨fun pins s σ H Q I q => ?_⟩
  have hn := I.hok.fresh (Nat.le_refl s.heap.objs.size)
  have I1 := I.laid (a := s.heap.objs.size) (o := .dK []) (h' := s.heap.push { cls := .type "dict", data := .dict #[] }) (t' := s.toks) (fun _ _ q => Heap.get?_push_of_some _ q) (Nat.le_refl _) (dk_empty s.heap I.big)
  have hnl := pairTrees_length keys values X.env pos hall hl
  have hne : pairTrees keys values X.env pos ≠ [] := fun z => by
    rw [z] at hnl
    exact h0 (List.length_eq_zero_iff.mp hnl.symm)
  rw [arm_eval_Dict, zip_pairTrees keys values X.env pos hall hl, dictDisplay_pairs _ hne (by rw [hnl]; omega)]
  refine wpAny_bind (wpAny_standAt (wpAny_bind ?_))
  unfold subDict
  refine wpAny_bind (wpAny_alloc ?_)
  refine wpAny_bind (wpAny_holding ?_)
  rw [if_pos (by rw [hnl]; exact h15)]
  refine wpAny_bind (thn (h.run pins _ σ _ _ I1 (q _ hn)) fun ws s2 ⟨ps, H2, I2, rel, e, q2⟩ => ?_)
  refine wpAny_holding (wpAny_bind ?_)
  have hz : ∀ n, n ≤ 15 → n ≤ sizeLine := fun n h => by rw [sizeLine_eq]; omega
  rcases q2 with ⟨kvs, ep, lk, q2⟩ | ⟨kvs, ep, ht, lk, q2⟩
  · subst ep
    obtain ⟨rs, c, rk⟩ := carries_of (P := X.prog) (w := X.w) rel
    obtain ⟨z, hd, vs0, r0, dd⟩ := dk_of I2.hok e
    cases r0
    have lr : rs.length = kvs.length := (Paired.length rk).symm
    refine wpAny_storeAll (knd := mixKind X.prog X.w) ws rs [] s2 _ c dd (by rw [List.length_nil, lr, Nat.zero_add]; exact hz _ lk) fun h' dd' hs => wpAny_pure (wpAny_pure (wpAny_pure ?_))
    have hl2 := length_mergeK kvs []
    have he : ∃ q, h'.get? s.heap.objs.size = some q := let ⟨q, _, _, hq, _⟩ := dd'; ⟨q, hq⟩
    exact ⟨.ref s.heap.objs.size, _, d_write I2 (by rw [e]; exact True.intro) hs he (dk_new (hz _ (by rw [List.length_nil] at hl2; omega)) hd (rk.merge .nil) dd'), rfl, q2⟩
  · subst ep
    have I3 := inv_kt I2 e
    have hk : ∀ kv ∈ kvs, upd H2 s.heap.objs.size (.dT []) kv.2.1 = some (.tup (kv.1.map kV)) := fun kv hkv => by
      have := ht kv hkv
      rw [upd_ne fun z => by rw [z, e] at this; cases this]
      exact this
    obtain ⟨rs, c, rk⟩ := carriesT (P := X.prog) (w := X.w) I3.hok rel hk
    obtain ⟨z, hd, xs0, r0, dd⟩ := dt_of I3.hok (a := s.heap.objs.size) (kvs := []) upd_same
    cases r0
    have lr : rs.length = kvs.length := (Paired.length rk).symm
    refine wpAny_storeAllH (A := X.A) (knd := tupleKind (mixKind X.prog X.w)) (show X.A.units < cLine by omega) ws rs [] s2 _ c dd (by rw [List.length_nil, lr, Nat.zero_add]; exact hz _ lk) fun h' tk dd' hs => wpAny_pure (wpAny_pure (wpAny_pure ?_))
    have hl2 := length_mergeT kvs []
    obtain ⟨o, es, ep, hq, h2, h3, h4, _, h5⟩ := dd'
    have I4 := d_write (t' := tk) I3 (by rw [upd_same]; exact True.intro) hs ⟨o, hq⟩ (ob := .dT (mergeT [] kvs)) ⟨hz _ (by rw [List.length_nil] at hl2; omega), hd, _, (KT.merge rk .nil).keeps fun b ys eb => ?_, o, es, ep, hq, h2, h3, h4, h5⟩
    · rw [upd_upd] at I4
      exact ⟨.ref s.heap.objs.size, _, I4, rfl, q2⟩
    · rw [upd_ne (ne_of eb upd_same (fun z => nomatch z))]
      exact eb

/-! ### displays, as data -/
abbrev TD2 := Hp → Hp → TD
def dPairs (G0 H0 : Hp) : List (TD2 × TD2) → Ro → (List (D × D) → Ro → Prop) → Prop
  | [], ρ, Q => Q [] ρ
  | (tk, tv) :: r, ρ, Q => tk G0 H0 ρ fun a ρ1 => tv G0 H0 ρ1 fun b ρ2 => dPairs G0 H0 r ρ2 fun ps ρ3 => Q ((a, b) :: ps) ρ3
def dmerge (acc more : List (D × D)) : List (D × D) := more.foldl (fun acc p => dput acc p.1 p.2) acc
def allPK (ps : List (D × D)) : Bool := ps.all fun p => (kOf p.1).isSome
def allPT (ps : List (D × D)) : Bool := ps.all fun p => isTK p.1 && (dkOf p.1).isSome
def dDisp (ts : List (TD2 × TD2)) : TD := fun ρ Q => ∀ G0 H0, dPairs G0 H0 ts ρ fun ps ρ1 => (allPK ps || allPT ps) = true ∧ ps.length ≤ 15 ∧ Q (.dict (dmerge [] ps)) ρ1
/-- inside: nothing is raised, what was laid stays -/
def rdX (K : PySem.W.Frag) (Γ : Gm) (t : TD2) : TE := fun σ H Q => ∃ i : Hp × Hp, Γ.Gh i.1 i.2 ∧ rdE K (Γ.inn i.1 i.2) (t i.1 i.2) σ H Q
structure DPs (X : Cx) (Γ : Gm) (pos : Pos) (keys : List (Option Expr)) (values : List Expr) (ts : List (TD2 × TD2)) : Prop where
  pp : PPs X pos keys values (ts.map fun p => (rdX X.K Γ p.1, rdX X.K Γ p.2))
theorem dps_nil {X : Cx} {Γ : Gm} {pos : Pos} : DPs X Γ pos [] [] [] := ⟨pps_nil⟩
theorem Cok.inn' {k : Nat} {X : Cx} {Γ : Gm} (c : Cok k X Γ) {G0 H0 : Hp} (gh : Γ.Gh G0 H0) : Cok k X (Γ.inn G0 H0) :=
  ⟨c.calm, c.nd, c.room, gh, c.po, c.bl, fun σ pins H s e s' I q => by
    obtain ⟨_, _, _, cls, d, _, _, _, _, _, _, _, z⟩ := q
    obtain ⟨_, _, _, _, _, z⟩ := z
    exact z.elim⟩
theorem dps_cons {n : Nat} {X : Cx} {Γ : Gm} {pos : Pos} {k v : Expr} {ks : List (Option Expr)} {vs : List Expr} {tk tv : TD2} {ts : List (TD2 × TD2)} (c : Cok n X Γ) (hk : ∀ G0 H0, Cok n X (Γ.inn G0 H0) → DE X (Γ.inn G0 H0) k (tk G0 H0)) (hv : ∀ G0 H0, Cok n X (Γ.inn G0 H0) → DE X (Γ.inn G0 H0) v (tv G0 H0)) (h : DPs X Γ pos ks vs ts) : DPs X Γ pos (some k :: ks) (v :: vs) ((tk, tv) :: ts) :=
  ⟨pps_cons (pe_ex (ι := Hp × Hp) (p := fun i => Γ.Gh i.1 i.2) fun i hp => (hk i.1 i.2 (c.inn' hp)).pe) (pe_ex (ι := Hp × Hp) (p := fun i => Γ.Gh i.1 i.2) fun i hp => (hv i.1 i.2 (c.inn' hp)).pe) h.pp⟩
inductive IsPs (K : PySem.W.Frag) (G : Hp) : List (V × V) → List (D × D) → Prop
  | nil : IsPs K G [] []
  | cons {v u : V} {a b : D} {vs ps} : Is K G v a → Is K G u b → IsPs K G vs ps → IsPs K G ((v, u) :: vs) ((a, b) :: ps)
theorem IsPs.mono {K : PySem.W.Frag} {G G' : Hp} (s : Same G G') : ∀ {vs ps}, IsPs K G vs ps → IsPs K G' vs ps
  | _, _, .nil => .nil
  | _, _, .cons h1 h2 h3 => .cons (h1.mono s) (h2.mono s) (h3.mono s)
theorem IsPs.length {K : PySem.W.Frag} {G : Hp} : ∀ {vs ps}, IsPs K G vs ps → vs.length = ps.length
  | _, _, .nil => rfl
  | _, _, .cons _ _ h3 => congrArg Nat.succ h3.length
theorem pairs_rd {K : PySem.W.Frag} {Γ : Gm} {σ : L2.St} {G0 H0 : Hp} (gh : Γ.Gh G0 H0) : ∀ (ts : List (TD2 × TD2)) {H : Hp} {Q : List (V × V) → Hp → Prop}, (∃ ρ G k, At K (Γ.inn G0 H0) ρ σ G H ∧ dPairs G0 H0 ts ρ k ∧ ∀ ps ρ' vs G' H', k ps ρ' → At K (Γ.inn G0 H0) ρ' σ G' H' → Same G G' → IsPs K G' vs ps → Q vs H') →
    tPairs (ts.map fun p => (rdX K Γ p.1, rdX K Γ p.2)) σ H Q
  | [], H, Q, ⟨ρ, G, k, at_, h, fin⟩ => fin [] ρ [] G H h at_ (Same.refl _) .nil
  | (tk, tv) :: r, H, Q, ⟨ρ, G, k, at_, h, fin⟩ => by
    refine ⟨(G0, H0), gh, ρ, G, _, at_, h, fun a ρ1 v G1 H1 h1 a1 s1 r1 => ⟨(G0, H0), gh, ρ1, G1, _, a1, h1, fun b ρ2 u G2 H2 h2 a2 s2 r2 => ?_⟩⟩
    exact pairs_rd gh r ⟨ρ2, G2, _, a2, h2, fun ps ρ3 vs G3 H3 h3 a3 s3 r3 => fin _ _ _ _ _ h3 a3 ((s1.trans s2).trans s3) (.cons ((r1.mono s2).mono s3) (r2.mono s3) r3)⟩
theorem IsPs.keysK {K : PySem.W.Frag} {G : Hp} : ∀ {vs : List (V × V)} {ps : List (D × D)}, IsPs K G vs ps → allPK ps = true → ∃ ks : List Key, ∃ us : List V, ∃ ds : List D, ks.length = us.length ∧ vs = (ks.zip us).map (fun kv => (kV kv.1, kv.2)) ∧ ps = (ks.map keyD).zip ds ∧ IsAll K G us ds
  | _, _, .nil, _ => ⟨[], [], [], rfl, rfl, rfl, .nil⟩
  | _, _, .cons (a := a) h1 h2 h3, q => by
    simp only [allPK, List.all_cons, Bool.and_eq_true] at q
    obtain ⟨j, hj⟩ := Option.isSome_iff_exists.mp q.1
    obtain ⟨ks, us, ds, e0, e1, e2, e3⟩ := h3.keysK q.2
    obtain rfl := kOf_eq hj
    exact ⟨j :: ks, _ :: us, _ :: ds, by simp [e0], by rw [e1, h1.key]; rfl, by rw [e2]; rfl, .cons h2 e3⟩
theorem IsPs.keysT {K : PySem.W.Frag} {G : Hp} : ∀ {vs : List (V × V)} {ps : List (D × D)}, IsPs K G vs ps → allPT ps = true → ∃ (kvs : List (List Key × Addr × V)) (ds : List D), vs = kvs.map (fun kv => (.ref kv.2.1, kv.2.2)) ∧ (∀ kv ∈ kvs, G kv.2.1 = some (.tup (kv.1.map kV))) ∧ ps = (kvs.map fun kv => tupK kv.1).zip ds ∧ IsAll K G (kvs.map fun kv => kv.2.2) ds
  | _, _, .nil, _ => ⟨[], [], rfl, fun _ h => absurd h List.not_mem_nil, rfl, .nil⟩
  | _, _, .cons (a := a) (u := u) h1 h2 h3, q => by
    simp only [allPT, List.all_cons, Bool.and_eq_true] at q
    obtain ⟨j, hj⟩ := Option.isSome_iff_exists.mp q.1.2
    obtain ⟨kvs, ds, e1, e2, e3, e4⟩ := h3.keysT q.2
    cases j with
    | inl j => rw [dkOf_inl hj] at q; cases j <;> exact nomatch q.1.1
    | inr j =>
      obtain rfl := dkOf_inr hj
      obtain ⟨b, rfl, hb⟩ := (show IsX K G G _ (tupK j) from .inl h1).tupK
      refine ⟨(j, b, u) :: kvs, _ :: ds, by rw [e1]; rfl, fun kv hkv => ?_, by rw [e3]; rfl, .cons h2 e4⟩
      rcases List.mem_cons.mp hkv with z | z
      · rw [z]; exact hb
      · exact e2 kv z
theorem mergeK_zip {K : PySem.W.Frag} {G : Hp} : ∀ (js : List Key) (us : List V) (es : List D) (ks : List Key) (vs : List V) (ds : List D), js.length = us.length → IsAll K G us es → ks.length = vs.length → IsAll K G vs ds →
    ∃ (ks' : List Key) (vs' : List V) (ds' : List D), mergeK (ks.zip vs) (js.zip us) = ks'.zip vs' ∧ dmerge ((ks.map keyD).zip ds) ((js.map keyD).zip es) = (ks'.map keyD).zip ds' ∧ ks'.length = vs'.length ∧ IsAll K G vs' ds'
  | [], _, _, ks, vs, ds, _, _, h3, h4 => ⟨ks, vs, ds, rfl, rfl, h3, h4⟩
  | _ :: _, [], _, _, _, _, h, _, _, _ => nomatch h
  | j :: js, u :: us, _, ks, vs, ds, h1, .cons (d := e) (ds := es) h2 h2', h3, h4 => by
    obtain ⟨k1, v1, d1, e1, e2, e3, e4⟩ := dput_zip injK j h2 h3 h4
    obtain ⟨k2, v2, d2, f1, f2, f3, f4⟩ := mergeK_zip js us es k1 v1 d1 (by simpa using h1) h2' e3 e4
    refine ⟨k2, v2, d2, ?_, ?_, f3, f4⟩
    · show mergeK (putK (ks.zip vs) j u) (js.zip us) = _
      rw [e1, f1]
    · show dmerge (dput ((ks.map keyD).zip ds) (keyD j) e) ((js.map keyD).zip es) = _
      rw [e2, f2]
theorem mergeT_zip {K : PySem.W.Frag} {G : Hp} : ∀ (kvs : List (List Key × Addr × V)) (es : List D) (ks : List (List Key)) (vs : List V) (ds : List D), IsAll K G (kvs.map fun kv => kv.2.2) es → ks.length = vs.length → IsAll K G vs ds →
    ∃ (ks' : List (List Key)) (vs' : List V) (ds' : List D), mergeT (ks.zip vs) kvs = ks'.zip vs' ∧ dmerge ((ks.map tupK).zip ds) ((kvs.map fun kv => tupK kv.1).zip es) = (ks'.map tupK).zip ds' ∧ ks'.length = vs'.length ∧ IsAll K G vs' ds'
  | [], _, ks, vs, ds, _, h3, h4 => ⟨ks, vs, ds, rfl, rfl, h3, h4⟩
  | kv :: kvs, _, ks, vs, ds, .cons (d := e) (ds := es) h2 h2', h3, h4 => by
    obtain ⟨k1, v1, d1, e1, e2, e3, e4⟩ := dput_zip injT kv.1 h2 h3 h4
    obtain ⟨k2, v2, d2, f1, f2, f3, f4⟩ := mergeT_zip kvs es k1 v1 d1 h2' e3 e4
    refine ⟨k2, v2, d2, ?_, ?_, f3, f4⟩
    · show mergeT (putK (ks.zip vs) kv.1 kv.2.2) kvs = _
      rw [e1, f1]
    · show dmerge (dput ((ks.map tupK).zip ds) (tupK kv.1) e) ((kvs.map fun kv => tupK kv.1).zip es) = _
      rw [e2, f2]
section
variable {X : Cx} {Γ : Gm} {k j n : Nat} {a b e : Expr} {es : List Expr} {pos : Pos}
theorem df_disp {keys : List (Option Expr)} {values : List Expr} {ts : List (TD2 × TD2)} (c : Cok k X Γ) (h : DPs X Γ pos keys values ts) (hall : keys.all (·.isSome) = true := by rfl) (hl : keys.length = values.length := by rfl) (h0 : keys ≠ [] := by exact fun z => nomatch z)
    (h15 : keys.length ≤ 15 := by decide) : DF X Γ (.Dict keys values pos) (dDisp ts) := by
  refine ⟨pe_imp (pe_dispA c.hu h.pp hall hl h0 h15) ?_⟩
  rintro σ H Q ⟨ρ, G, k, at_, h, fin⟩ p hp
  have h00 : Γ.H0 p = none := at_.kept.free hp
  have g00 : Γ.G0 p = none := c.gh.1.free h00
  have gh : Γ.Gh Γ.G0 (upd Γ.H0 p (.dK [])) := ⟨fun b u q => by rw [upd_ne (ne_of_none q g00)]; exact c.gh.1 b u q, fun P hP => by rw [upd_ne (ne_of_none (c.gh.2 P hP) h00)]; exact c.gh.2 P hP⟩
  obtain ⟨a2, q1, q2, q3⟩ := at_.fresh (o := .dK []) hp
  refine pairs_rd gh ts ⟨ρ, G, _, a2.aside upd_same q1 g00 q3, h Γ.G0 (upd Γ.H0 p (.dK [])), fun ps ρ' vs G' H' hk a' s' r' => ?_⟩
  obtain ⟨ok, hl15, hk⟩ := hk
  obtain ⟨a3, hp3, g3, hno⟩ := a'.back h00 g00
  refine ⟨hp3, ?_⟩
  by_cases okK : allPK ps = true
  · obtain ⟨ks, us, ds, e0, e1, e2, e3⟩ := r'.keysK okK
    refine .inl ⟨ks.zip us, e1, by rw [← List.length_map (as := ks.zip us) (f := fun kv => (kV kv.1, kv.2)), ← e1, r'.length]; exact hl15, ?_⟩
    obtain ⟨ks', vs', ds', f1, f2, f3, f4⟩ := mergeK_zip ks us ds [] [] [] e0 e3 rfl .nil
    have f1' : mergeK [] (ks.zip us) = ks'.zip vs' := f1
    have f2' : dmerge [] ps = (ks'.map keyD).zip ds' := by rw [e2]; exact f2
    exact fin _ _ p _ _ hk (a3.poke g3 h00 hno) s' g3 h00 (by rw [f1', f2']; exact .inr (.inl ⟨ks', vs', ds', rfl, f3, upd_same, f4⟩)) hno
  · have okT : allPT ps = true := by
      cases z : allPK ps with
      | true => exact absurd z okK
      | false => rw [z, Bool.false_or] at ok; exact ok
    obtain ⟨kvs, ds, e1, e2, e3, e4⟩ := r'.keysT okT
    refine .inr ⟨kvs, e1, fun kv hkv => a3.sub _ _ (e2 kv hkv), by rw [← List.length_map (as := kvs) (f := fun kv => (V.ref kv.2.1, kv.2.2)), ← e1, r'.length]; exact hl15, ?_⟩
    obtain ⟨ks', vs', ds', f1, f2, f3, f4⟩ := mergeT_zip kvs ds [] [] [] e4 rfl .nil
    have f1' : mergeT [] kvs = ks'.zip vs' := f1
    have f2' : dmerge [] ps = (ks'.map tupK).zip ds' := by rw [e3]; exact f2
    exact fin _ _ p _ _ hk (a3.poke g3 h00 hno) s' g3 h00 (by rw [f1', f2']; exact .inr (.inr ⟨ks', vs', ds', rfl, f3, upd_same, f4⟩)) hno
end
end Dn
/-! Dn: sum, max, min of tuples; sorted; dict(..) of pairs; in range(..). -/
namespace Dn
open PySem PySem.Spec PyProof.Rows L2

/-! ### the machine: walks over a tuple of ints -/
section
variable {prog : Program} {w : World} {A : Around} {E : Value → Shared → Prop} {s : Shared} {l : Addr} {its : List Value} {ns : List Int} {Q : Value → Shared → Prop}
theorem iter_tupI {xs : Array Value} {R : Value → Shared → Prop} (hl : s.heap.IsTuple l xs) (h : ∀ s₂ : Shared, s₂ = { s with heap := s.heap.push { cls := .type "tuple_iterator", data := .fields #[.ref l, .int 0 0] } } → (s₂.heap.IsTupleIter s.heap.objs.size l 0 ∧ s₂.heap.IsTuple l xs) →
    (∀ b ∈ [s.heap.objs.size, l], b < s₂.heap.objs.size) → l ≠ s.heap.objs.size → R (.ref s.heap.objs.size) s₂) : wpAny (model prog w) A (pyIter (.ref l)) R E s := by
  obtain ⟨o, ho, hr⟩ := id hl
  have hlt := Heap.lt_size ho
  refine wpAny_pyIter_tuple hl (h _ rfl ⟨⟨_, Heap.get?_push_size _ rfl, rfl, rfl⟩, ⟨o, Heap.get?_push_of_some _ ho, hr⟩⟩ (fun b hb => ?_) (Nat.ne_of_lt hlt))
  show b < (s.heap.push _).objs.size
  rw [Heap.size_push]
  rcases List.mem_cons.mp hb with e | e
  · subst e; exact Nat.lt_succ_self _
  · rw [List.mem_singleton.mp e]; exact Nat.lt_succ_of_lt hlt
theorem old_keptT {s₂ : Shared} {h' : Heap} (e : s₂ = { s with heap := s.heap.push { cls := .type "tuple_iterator", data := .fields #[.ref l, .int 0 0] } }) (hk : ∀ b o, b ∉ [s.heap.objs.size] → s₂.heap.get? b = some o → h'.get? b = some o) : ∀ b o, s.heap.get? b = some o → h'.get? b = some o := fun b o q => by
  subst e
  exact hk b o (fun z => Nat.ne_of_lt (Heap.lt_size q) (List.mem_singleton.mp z)) (Heap.get?_push_of_some _ q)
theorem sum_tupR (hh : A.handled = none) (hl : s.heap.IsTuple l its.toArray) (hi : IntsAre its ns)
    (h : ∀ h' tk t', (∀ b o, s.heap.get? b = some o → h'.get? b = some o) → Q (.int ns.sum t') { s with heap := h', toks := tk }) : wpAny (model prog w) A (call (.builtin "sum") [.ref l]) Q E s := by
  obtain ⟨xs, e⟩ := hi.allInts.items
  have hn : numsOf (intItems xs).toList = ns := by rw [← e]; exact hi.numsOf
  rw [nums_intItems] at hn
  rw [e] at hl
  refine call_sum_walkG (iter_tupI hl fun s₂ es st hfp hlI => ?_)
  refine ⟨_, _, _, _, _, _, numAt xs, rfl, Walks.tuple (A := A.in1) hh _ l hlI (intItems xs), st, hfp, (fun _ _ => intItems_at), fun h' tk t' hk => ?_⟩
  have := h h' tk t' (old_keptT es hk)
  subst es
  have e2 : (intItems xs).size = xs.size := by simp [intItems]
  rw [e2, preSum_eq, List.take_of_length_le (by simp), hn]
  exact this
theorem max_tupR (hh : A.handled = none) (hl : s.heap.IsTuple l its.toArray) (hi : IntsAre its ns) (hne : 0 < ns.length)
    (h : ∀ h' tk M t', (∀ b o, s.heap.get? b = some o → h'.get? b = some o) → M ∈ ns → (∀ a, a ∈ ns → a ≤ M) → Q (.int M t') { s with heap := h', toks := tk }) : wpAny (model prog w) A (call (.builtin "max") [.ref l]) Q E s := by
  obtain ⟨xs, e⟩ := hi.allInts.items
  have hn : numsOf (intItems xs).toList = ns := by rw [← e]; exact hi.numsOf
  rw [nums_intItems] at hn
  subst hn
  rw [e] at hl
  have hsz : 0 < xs.size := by simpa using hne
  refine call_max_walk (iter_tupI hl fun s₂ es st hfp hlI => ?_)
  refine ⟨_, _, _, _, _, _, _, rfl, Walks.tuple (A := A.in1) hh _ l hlI (intItems xs), st, hfp, by simpa [intItems] using hsz, CmpOf.ints_gt (numAt xs) (fun _ _ => intItems_at), fun v h' tk hP hk => ?_⟩
  have hk' := old_keptT es hk
  subst es
  have e2 : (intItems xs).size = xs.size := by simp [intItems]
  rw [e2] at hP
  obtain ⟨t, rfl⟩ := intItems_at hP
  obtain ⟨h1, h2⟩ := argBest_gt (numAt xs) (xs.size - 1)
  refine h h' tk _ t hk' ?_ fun a ha => ?_
  · rw [numAt_eq]; exact PySem.getD_mem (by rw [List.length_map, Array.length_toList]; omega)
  · obtain ⟨j, hj, rfl⟩ := mem_getD ha
    rw [List.length_map, Array.length_toList] at hj
    rw [← numAt_eq]; exact h2 j (by omega)
theorem min_tupR (hh : A.handled = none) (hl : s.heap.IsTuple l its.toArray) (hi : IntsAre its ns) (hne : 0 < ns.length)
    (h : ∀ h' tk M t', (∀ b o, s.heap.get? b = some o → h'.get? b = some o) → M ∈ ns → (∀ a, a ∈ ns → M ≤ a) → Q (.int M t') { s with heap := h', toks := tk }) : wpAny (model prog w) A (call (.builtin "min") [.ref l]) Q E s := by
  obtain ⟨xs, e⟩ := hi.allInts.items
  have hn : numsOf (intItems xs).toList = ns := by rw [← e]; exact hi.numsOf
  rw [nums_intItems] at hn
  subst hn
  rw [e] at hl
  have hsz : 0 < xs.size := by simpa using hne
  refine call_min_walk (iter_tupI hl fun s₂ es st hfp hlI => ?_)
  refine ⟨_, _, _, _, _, _, _, rfl, Walks.tuple (A := A.in1) hh _ l hlI (intItems xs), st, hfp, by simpa [intItems] using hsz, CmpOf.ints_lt (numAt xs) (fun _ _ => intItems_at), fun v h' tk hP hk => ?_⟩
  have hk' := old_keptT es hk
  subst es
  have e2 : (intItems xs).size = xs.size := by simp [intItems]
  rw [e2] at hP
  obtain ⟨t, rfl⟩ := intItems_at hP
  obtain ⟨h1, h2⟩ := argBest_lt (numAt xs) (xs.size - 1)
  refine h h' tk _ t hk' ?_ fun a ha => ?_
  · rw [numAt_eq]; exact PySem.getD_mem (by rw [List.length_map, Array.length_toList]; omega)
  · obtain ⟨j, hj, rfl⟩ := mem_getD ha
    rw [List.length_map, Array.length_toList] at hj
    rw [← numAt_eq]; exact h2 j (by omega)
end
section
variable {X : Cx}
theorem cr_sumT (hc : X.calm = true) : CallR X (.builtin "sum") (fun vs H Q => ∃ (a : Addr) (ns : List Int), vs = [V.ref a] ∧ SqT X.K H a (ns.map V.int) ∧ Q (.int ns.sum) H) := by
  intro pins s σ H vs us Q I r h
  obtain ⟨a, ns, rfl, hs, q⟩ := h
  obtain ⟨its, rv, hl, _⟩ := I.tuple hs
  rw [Vals.ref1 r]
  exact sum_tupR (I.ok.hd hc) hl rv.ints fun h' tk t' hk => ⟨.int _, H, I.kept hk, ⟨_, rfl⟩, q⟩
theorem cr_maxT (hc : X.calm = true) : CallR X (.builtin "max") (fun vs H Q => ∃ (a : Addr) (ns : List Int), vs = [V.ref a] ∧ SqT X.K H a (ns.map V.int) ∧ 0 < ns.length ∧ ∀ m, m ∈ ns → (∀ y, y ∈ ns → y ≤ m) → Q (.int m) H) := by
  intro pins s σ H vs us Q I r h
  obtain ⟨a, ns, rfl, hs, hne, q⟩ := h
  obtain ⟨its, rv, hl, _⟩ := I.tuple hs
  rw [Vals.ref1 r]
  exact max_tupR (I.ok.hd hc) hl rv.ints hne fun h' tk m t' hk h1 h2 => ⟨.int _, H, I.kept hk, ⟨_, rfl⟩, q m h1 h2⟩
theorem cr_minT (hc : X.calm = true) : CallR X (.builtin "min") (fun vs H Q => ∃ (a : Addr) (ns : List Int), vs = [V.ref a] ∧ SqT X.K H a (ns.map V.int) ∧ 0 < ns.length ∧ ∀ m, m ∈ ns → (∀ y, y ∈ ns → m ≤ y) → Q (.int m) H) := by
  intro pins s σ H vs us Q I r h
  obtain ⟨a, ns, rfl, hs, hne, q⟩ := h
  obtain ⟨its, rv, hl, _⟩ := I.tuple hs
  rw [Vals.ref1 r]
  exact min_tupR (I.ok.hd hc) hl rv.ints hne fun h' tk m t' hk h1 h2 => ⟨.int _, H, I.kept hk, ⟨_, rfl⟩, q m h1 h2⟩
end
def sumA : OpN
  | [.tuple xs], Q => optD (intsOf xs) fun ns => Q (.int ns.sum)
  | ds, Q => sumD ds Q
def maxA : OpN
  | [.tuple xs], Q => optD (intsOf xs) fun ns => 0 < ns.length ∧ ∀ m, m ∈ ns → (∀ y, y ∈ ns → y ≤ m) → Q (.int m)
  | ds, Q => maxD ds Q
def minA : OpN
  | [.tuple xs], Q => optD (intsOf xs) fun ns => 0 < ns.length ∧ ∀ m, m ∈ ns → (∀ y, y ∈ ns → m ≤ y) → Q (.int m)
  | ds, Q => minD ds Q
section
variable {X : Cx} {Γ : Gm} {k j n : Nat} {a b e : Expr} {es : List Expr} {pos : Pos}
theorem isx_intsT {K : PySem.W.Frag} {G H : Hp} {v : V} {xs : List D} {ns : List Int} (s : Same G H) (h : IsX K G H v (.tuple xs)) (e : intsOf xs = some ns) : ∃ p, v = .ref p ∧ H p = some (.tup (ns.map V.int)) := by
  obtain ⟨p, us, rfl, h1, h2⟩ := h.tup
  rw [intsOf_eq e] at h2
  rw [h2.ints] at h1
  exact ⟨p, rfl, s _ _ h1⟩
theorem cd_sumA (c : Cok k X Γ) : CallD X (.builtin "sum") sumA := by
  intro pins s σ H vs us Q I r ⟨G, ds, k, sm, hx, h, fin⟩
  unfold sumA at h
  split at h
  · rename_i xs
    obtain ⟨v, rfl, hv⟩ := isxs_1 hx
    obtain ⟨ns, e, h⟩ := optD.to h
    obtain ⟨p, rfl, hp⟩ := isx_intsT sm hv e
    exact cr_sumT c.calm pins s σ H _ us Q I r ⟨p, ns, rfl, .of hp, fin _ _ G H h (.refl sm) (.int _)⟩
  · exact cd_sum c pins s σ H vs us Q I r ⟨G, _, _, sm, hx, h, fin⟩
theorem cd_maxA (c : Cok k X Γ) : CallD X (.builtin "max") maxA := by
  intro pins s σ H vs us Q I r ⟨G, ds, k, sm, hx, h, fin⟩
  unfold maxA at h
  split at h
  · rename_i xs
    obtain ⟨v, rfl, hv⟩ := isxs_1 hx
    obtain ⟨ns, e, hn, h⟩ := optD.to h
    obtain ⟨p, rfl, hp⟩ := isx_intsT sm hv e
    exact cr_maxT c.calm pins s σ H _ us Q I r ⟨p, ns, rfl, .of hp, hn, fun m m1 m2 => fin _ _ G H (h m m1 m2) (.refl sm) (.int _)⟩
  · exact cd_max c pins s σ H vs us Q I r ⟨G, _, _, sm, hx, h, fin⟩
theorem cd_minA (c : Cok k X Γ) : CallD X (.builtin "min") minA := by
  intro pins s σ H vs us Q I r ⟨G, ds, k, sm, hx, h, fin⟩
  unfold minA at h
  split at h
  · rename_i xs
    obtain ⟨v, rfl, hv⟩ := isxs_1 hx
    obtain ⟨ns, e, hn, h⟩ := optD.to h
    obtain ⟨p, rfl, hp⟩ := isx_intsT sm hv e
    exact cr_minT c.calm pins s σ H _ us Q I r ⟨p, ns, rfl, .of hp, hn, fun m m1 m2 => fin _ _ G H (h m m1 m2) (.refl sm) (.int _)⟩
  · exact cd_min c pins s σ H vs us Q I r ⟨G, _, _, sm, hx, h, fin⟩

/-! ### len of a dict -/
def lenA : OpN
  | [.dict ps], Q => Q (.int ps.length)
  | ds, Q => lenD ds Q
theorem cd_lenA : CallD X (.builtin "len") lenA := by
  intro pins s σ H vs us Q I r ⟨G, ds, k, sm, hx, h, fin⟩
  unfold lenA at h
  split at h
  · rename_i ps
    obtain ⟨v, rfl, hv⟩ := isxs_1 hx
    obtain ⟨a, rfl, hd⟩ := hv.dict sm
    rcases hd with ⟨ks, vs, ds, rfl, h1, h2, h3⟩ | ⟨ks, vs, ds, rfl, h1, h2, h3⟩
    · refine call_lenD pins s σ H _ us Q I r ⟨a, _, rfl, h2, fin _ _ G H h (.refl sm) ?_⟩
      rw [List.length_zip, List.length_zip, List.length_map, h3.length]
      exact .int _
    · refine call_len_dT pins s σ H _ us Q I r ⟨a, _, rfl, h2, ?_⟩
      refine fin _ _ G H h (.refl sm) ?_
      rw [List.length_zip, List.length_zip, List.length_map, h3.length]
      exact .int _
  · exact cd_len pins s σ H vs us Q I r ⟨G, _, _, sm, hx, h, fin⟩
end
end Dn
/-! Dn: sorted; dict(..) of pairs; in range(..); tuple(reversed(..)). -/
namespace Dn
open PySem PySem.Spec PyProof.Rows L2
/-! ### sorted -/
def prD (p : Int × Int) : D := .tuple [.int p.1, .int p.2]
def leP (p q : Int × Int) : Prop := p.1 < q.1 ∨ (p.1 = q.1 ∧ p.2 ≤ q.2)
def sortA : OpN
  | [.list xs], Q => (∃ ns : List Int, xs = ns.map .int ∧ ∀ ns' : List Int, ns'.Perm ns → ns'.Pairwise (· ≤ ·) → Q (.list (ns'.map .int))) ∨
      (∃ ss : List Str, xs = ss.map .str ∧ ss.length < 64 ∧ ∀ ys : List Str, ys.Perm ss → sortedS ys = true → Q (.list (ys.map .str))) ∨
      ∃ ps : List (Int × Int), xs = ps.map prD ∧ ∀ ps' : List (Int × Int), ps'.Perm ps → ps'.Pairwise leP → Q (.list (ps'.map prD))
  | [.dict ps], Q => (∃ ns : List Int, ps.map (·.1) = ns.map .int ∧ ns.length < 64 ∧ ∀ ns' : List Int, ns'.Perm ns → ns'.Pairwise (· ≤ ·) → Q (.list (ns'.map .int))) ∨
      ∃ ss : List Str, ps.map (·.1) = ss.map .str ∧ ss.length < 64 ∧ ∀ ys : List Str, ys.Perm ss → sortedS ys = true → Q (.list (ys.map .str))
  | _, _ => False
section
variable {X : Cx} {Γ : Gm} {k j n : Nat} {a b e : Expr} {es : List Expr} {pos : Pos}
theorem IsAll.pairs {K : PySem.W.Frag} {H : Hp} : ∀ {vs : List V} {ps : List (Int × Int)}, IsAll K H vs (ps.map prD) → ∃ f : V → Int × Int, True ∧ ∀ v ∈ vs, ∃ t, v = V.ref t ∧ ∃ p ∈ ps, H t = some (.tup [.int p.1, .int p.2])
  | _, [], h => by cases h; exact ⟨fun _ => (0, 0), True.intro, fun v hv => nomatch hv⟩
  | _, p :: ps, h => by
    cases h with
    | cons h1 h2 =>
      obtain ⟨f, _, hf⟩ := IsAll.pairs h2
      refine ⟨f, True.intro, fun v hv => ?_⟩
      rcases List.mem_cons.mp hv with e | hv
      · subst e
        obtain ⟨t, xs, rfl, h3, h4⟩ := (show IsX K H H _ (.tuple [.int p.1, .int p.2]) from .inl h1).tup
        have : xs = [p.1, p.2].map V.int := IsAll.ints (ns := [p.1, p.2]) h4
        rw [this] at h3
        exact ⟨t, rfl, p, List.mem_cons_self, h3⟩
      · obtain ⟨t, e, q, hq, ht⟩ := hf v hv
        exact ⟨t, e, q, List.mem_cons_of_mem _ hq, ht⟩
/-- the pair that stands at v -/
noncomputable def pairAt (H : Hp) (v : V) : Int × Int := match v with
  | .ref t => match H t with
    | some (.tup [.int i, .int j]) => (i, j)
    | _ => (0, 0)
  | _ => (0, 0)
theorem pairAt_eq {H : Hp} {t : Addr} {i j : Int} (h : H t = some (.tup [.int i, .int j])) : pairAt H (.ref t) = (i, j) := by
  show (match H t with | some (.tup [.int i, .int j]) => (i, j) | _ => (0, 0)) = _
  rw [h]
theorem IsAll.pairsAt {K : PySem.W.Frag} {H : Hp} : ∀ {vs : List V} {ps : List (Int × Int)}, IsAll K H vs (ps.map prD) → vs.map (pairAt H) = ps
  | _, [], h => by cases h; rfl
  | _, p :: ps, h => by
    cases h with
    | cons h1 h2 =>
      obtain ⟨t, xs, rfl, h3, h4⟩ := (show IsX K H H _ (.tuple [.int p.1, .int p.2]) from .inl h1).tup
      have : xs = [p.1, p.2].map V.int := IsAll.ints (ns := [p.1, p.2]) h4
      rw [this] at h3
      rw [List.map_cons, IsAll.pairsAt h2, pairAt_eq h3]
theorem isAll_of_pairs {K : PySem.W.Frag} {H : Hp} : ∀ {vs : List V}, (∀ v ∈ vs, ∃ t i j, v = V.ref t ∧ H t = some (.tup [.int i, .int j])) → IsAll K H vs ((vs.map (pairAt H)).map prD)
  | [], _ => .nil
  | v :: vs, h => by
    obtain ⟨t, i, j, rfl, ht⟩ := h v List.mem_cons_self
    refine .cons ?_ (isAll_of_pairs fun v hv => h v (List.mem_cons_of_mem _ hv))
    rw [pairAt_eq ht]
    exact .tup ht (.cons (.int _) (.cons (.int _) .nil))
theorem cr_sorted0 (hc : X.calm = true) : CallR X (.builtin "sorted") (fun vs H Q => ∃ a : Addr, vs = [.ref a] ∧ (H a = some (.dK []) ∨ H a = some (.dT [])) ∧ ∀ p, H p = none → Q (.ref p) (upd H p (.lst []))) := by
  intro pins s σ H vs us Q I r ⟨a, ev, e, q⟩
  subst ev
  rcases e with e | e
  · refine call_sortedDI hc pins s σ H _ us Q I r ⟨a, [], [], rfl, .inl e, rfl, by decide, fun ys p h1 _ hp => ?_⟩
    rw [List.Perm.eq_nil h1]
    exact q p hp
  · have I' := inv_tk I e
    refine wpAny_mono (call_sortedDI hc pins s σ _ _ us (fun v H2 => ∃ p, v = .ref p ∧ H p = none ∧ H2 = upd (upd H a (.dK [])) p (.lst [])) I' r ⟨a, [], [], rfl, .inl upd_same, rfl, by decide, fun ys p h1 _ hp => ?_⟩) (fun u s1 z => ?_) fun _ _ z => z
    · have ne : p ≠ a := fun z => by subst z; rw [upd_same] at hp; cases hp
      rw [List.Perm.eq_nil h1]
      rw [upd_ne ne] at hp
      exact ⟨p, rfl, hp, rfl⟩
    · obtain ⟨v, H2, I2, rv, p, rfl, hp, rfl⟩ := z
      have ne : p ≠ a := fun z => by subst z; rw [e] at hp; cases hp
      have I3 := inv_kt I2 (a := a) (by rw [upd_ne (Ne.symm ne), upd_same])
      have eq : upd (upd (upd H a (.dK [])) p (.lst [])) a (.dT []) = upd H p (.lst []) := by
        funext b
        by_cases h1 : b = a
        · subst h1; rw [upd_same, upd_ne (Ne.symm ne), e]
        · rw [upd_ne h1]
          by_cases h2 : b = p
          · subst h2; rw [upd_same, upd_same]
          · rw [upd_ne h2, upd_ne h2, upd_ne h1]
      rw [eq] at I3
      exact ⟨_, _, I3, rv, q p hp⟩
theorem dict_empty {K : PySem.W.Frag} {G H : Hp} {v : V} {ps : List (D × D)} (s : Same G H) (hx : IsX K G H v (.dict ps)) (hk : ps.map (·.1) = []) : ∃ a, v = .ref a ∧ (H a = some (.dK []) ∨ H a = some (.dT [])) := by
  obtain ⟨a, rfl, h⟩ := hx.dict s
  rcases h with ⟨js, vs, ds, rfl, h1, h2, h3⟩ | ⟨js, vs, ds, rfl, h1, h2, h3⟩
  · rw [List.map_fst_zip (by rw [List.length_map, h1, h3.length]; exact Nat.le_refl _)] at hk
    cases js with
    | nil => exact ⟨a, rfl, .inl h2⟩
    | cons _ _ => cases hk
  · rw [List.map_fst_zip (by rw [List.length_map, h1, h3.length]; exact Nat.le_refl _)] at hk
    cases js with
    | nil => exact ⟨a, rfl, .inr h2⟩
    | cons _ _ => cases hk
theorem cr_sortA (hc : X.calm = true) : CallR X (.builtin "sorted") (fun vs H Q => rSortedI X.K vs H Q ∨ rSortedS X.K vs H Q ∨ rSortedPO X.K vs H Q ∨
    (∃ (a : Addr) (kvs : List (Key × V)) (ks : List Int), vs = [.ref a] ∧ Rd H a (.dK kvs) ∧ kvs.map (·.1) = ks.map Sum.inl ∧ ks.length < 64 ∧ ∀ (ys : List Int) (p : Addr), ys.Perm ks → ys.Pairwise (· ≤ ·) → H p = none → Q (.ref p) (upd H p (.lst (ys.map V.int)))) ∨
    (∃ (a : Addr) (kvs : List (Key × V)) (ks : List Str), vs = [.ref a] ∧ Rd H a (.dK kvs) ∧ kvs.map (·.1) = ks.map Sum.inr ∧ ks.length < 64 ∧ ∀ ys p, ys.Perm ks → sortedS ys = true → H p = none → Q (.ref p) (upd H p (.lst (ys.map V.str)))) ∨
    ∃ a : Addr, vs = [.ref a] ∧ (H a = some (.dK []) ∨ H a = some (.dT [])) ∧ ∀ p, H p = none → Q (.ref p) (upd H p (.lst []))) :=
  CallR.or L2.cr_sortedI (CallR.or cr_sortedS (CallR.or cr_sortedPO (CallR.or (call_sortedDI hc) (CallR.or (call_sortedD hc) (cr_sorted0 hc)))))
theorem leP_of {k : V → Int × Int} {x y : V} (h : ltP k y x = false) : leP (k x) (k y) := by
  have h := SrtO.lexB_no.mp (show SrtO.lexB (k y) (k x) = false from h)
  unfold leP
  omega
theorem dict_keys {K : PySem.W.Frag} {G H : Hp} {v : V} {ps : List (D × D)} {ks : List Key} (s : Same G H) (hx : IsX K G H v (.dict ps)) (hk : ps.map (·.1) = ks.map keyD) (hne : ks ≠ []) : ∃ a kvs, v = .ref a ∧ H a = some (.dK kvs) ∧ kvs.map (·.1) = ks := by
  obtain ⟨a, rfl, h⟩ := hx.dict s
  rcases h with ⟨js, vs, ds, rfl, h1, h2, h3⟩ | ⟨js, vs, ds, rfl, h1, h2, h3⟩
  · refine ⟨a, _, rfl, h2, ?_⟩
    rw [List.map_fst_zip (by rw [h1]; exact Nat.le_refl _)]
    rw [List.map_fst_zip (by rw [List.length_map, h1, h3.length]; exact Nat.le_refl _)] at hk
    have inj : ∀ {as bs : List Key}, as.map keyD = bs.map keyD → as = bs := by
      intro as
      induction as with
      | nil => intro bs h; cases bs with | nil => rfl | cons _ _ => cases h
      | cons a as ih =>
        intro bs h
        cases bs with
        | nil => cases h
        | cons b bs =>
          have h1 : keyD a = keyD b := (List.cons.inj h).1
          have h2 := ih (List.cons.inj h).2
          have e := (injK a b).mp (by rw [h1])
          rw [e, h2]
    exact inj hk
  · rw [List.map_fst_zip (by rw [List.length_map, h1, h3.length]; exact Nat.le_refl _)] at hk
    cases ks with
    | nil => exact absurd rfl hne
    | cons k ks =>
      cases js with
      | nil => cases hk
      | cons j js => cases k <;> exact nomatch (List.cons.inj hk).1
theorem cd_sortA (c : Cok k X Γ) : CallD X (.builtin "sorted") sortA := by
  refine CallD.of (cr_sortA c.calm) ?_
  rintro vs H Q ⟨G, ds, k, s, hx, h, fin⟩
  unfold sortA at h
  split at h
  · rename_i xs
    obtain ⟨v, rfl, hv⟩ := isxs_1 hx
    obtain ⟨p, us, rfl, h1, h2⟩ := hv.list s
    rcases h with ⟨ns, rfl, h⟩ | ⟨ss, rfl, h64, h⟩ | ⟨ps, rfl, h⟩
    · rw [h2.ints] at h1
      refine .inl ⟨p, ns, rfl, .of h1, fun ns' q e1 e2 hq => ?_⟩
      have g := Grow.laid (o := .lst (ns'.map V.int)) s hq
      exact fin _ _ _ _ (h ns' e1 e2) g (.lst upd_same (IsAll.of_ints ns'))
    · rw [h2.strs] at h1
      refine .inr (.inl ⟨p, ss, rfl, .of h1, h64, fun ys q e1 e2 hq => ?_⟩)
      have g := Grow.laid (o := .lst (ys.map V.str)) s hq
      exact fin _ _ _ _ (h ys e1 e2) g (.lst upd_same (IsAll.of_strs ys))
    · have hp : ∀ x ∈ us, ∃ t, x = V.ref t ∧ G t = some (.tup [.int (pairAt G x).1, .int (pairAt G x).2]) := fun x hx => by
        obtain ⟨_, _, hf⟩ := h2.pairs
        obtain ⟨t, rfl, p, _, ht⟩ := hf x hx
        exact ⟨t, rfl, by rw [pairAt_eq ht]; exact ht⟩
      refine .inr (.inr (.inl ⟨p, us, pairAt G, rfl, .of h1, fun x hx => ?_, fun ys q e1 e2 hq => ?_⟩))
      · obtain ⟨t, e, ht⟩ := hp x hx
        exact ⟨t, e, s _ _ ht⟩
      · have g := Grow.laid (o := .lst ys) s hq
        have hy : ∀ v ∈ ys, ∃ t i j, v = V.ref t ∧ G t = some (.tup [.int i, .int j]) := fun v hv => by
          obtain ⟨t, e, ht⟩ := hp v (e2.perm.mem_iff.mp hv)
          exact ⟨t, _, _, e, ht⟩
        refine fin _ _ _ _ (h (ys.map (pairAt G)) ?_ ?_) g (.lst upd_same ((isAll_of_pairs hy).mono g.gg))
        · rw [← h2.pairsAt]
          exact e2.perm.map _
        · exact List.pairwise_map.mpr (e1.imp fun {x y} h => leP_of h)
  · rename_i ps
    obtain ⟨v, rfl, hv⟩ := isxs_1 hx
    rcases h with ⟨ns, hk, h64, h⟩ | ⟨ss, hk, h64, h⟩
    · by_cases h0 : ns = []
      · subst h0
        obtain ⟨a, rfl, he⟩ := dict_empty s hv hk
        refine .inr (.inr (.inr (.inr (.inr ⟨a, rfl, he, fun q hq => ?_⟩))))
        have g := Grow.laid (o := .lst []) s hq
        exact fin _ _ _ _ (h [] (.refl _) .nil) g (.lst upd_same .nil)
      · obtain ⟨a, kvs, rfl, h1, h2⟩ := dict_keys s hv (ks := ns.map Sum.inl) (by rw [hk, List.map_map]; rfl) (by simpa using h0)
        refine .inr (.inr (.inr (.inl ⟨a, kvs, ns, rfl, .inl h1, h2, h64, fun ys q e1 e2 hq => ?_⟩)))
        have g := Grow.laid (o := .lst (ys.map V.int)) s hq
        exact fin _ _ _ _ (h ys e1 e2) g (.lst upd_same (IsAll.of_ints ys))
    · by_cases h0 : ss = []
      · subst h0
        obtain ⟨a, rfl, he⟩ := dict_empty s hv hk
        refine .inr (.inr (.inr (.inr (.inr ⟨a, rfl, he, fun q hq => ?_⟩))))
        have g := Grow.laid (o := .lst []) s hq
        exact fin _ _ _ _ (h [] (.refl _) rfl) g (.lst upd_same .nil)
      · obtain ⟨a, kvs, rfl, h1, h2⟩ := dict_keys s hv (ks := ss.map Sum.inr) (by rw [hk, List.map_map]; rfl) (by simpa using h0)
        refine .inr (.inr (.inr (.inr (.inl ⟨a, kvs, ss, rfl, .inl h1, h2, h64, fun ys q e1 e2 hq => ?_⟩))))
        have g := Grow.laid (o := .lst (ys.map V.str)) s hq
        exact fin _ _ _ _ (h ys e1 e2) g (.lst upd_same (IsAll.of_strs ys))
  · exact h.elim
/-! ### dict(a list of pairs), keys ints and texts -/
def prsOf : List D → Option (List (D × D))
  | [] => some []
  | .tuple [a, b] :: r => (prsOf r).map ((a, b) :: ·)
  | _ :: _ => none
def pairD (p : D × D) : D := .tuple [p.1, p.2]
theorem prsOf_map : ∀ ps : List (D × D), prsOf (ps.map pairD) = some ps
  | [] => rfl
  | p :: ps => by
    show (prsOf (ps.map pairD)).map ((p.1, p.2) :: ·) = _
    rw [prsOf_map ps]; rfl
theorem prsOf_eq : ∀ {ds : List D} {ps : List (D × D)}, prsOf ds = some ps → ds = ps.map pairD
  | [], _, h => by cases h; rfl
  | d :: r, ps, h => by
    unfold prsOf at h
    split at h
    · rename_i e; cases e
    · rename_i a b r' e
      cases e
      cases q : prsOf r with
      | none => rw [q] at h; cases h
      | some ps' =>
        rw [q] at h
        cases h
        rw [prsOf_eq q]; rfl
    · cases h
theorem pairs_K {K : PySem.W.Frag} {H : Hp} : ∀ {vs : List V} {ps : List (D × D)}, IsAll K H vs (ps.map pairD) → allPK ps = true → ∃ (as : List Addr) (ks : List Key) (us : List V) (ds : List D), vs = as.map V.ref ∧ ks.length = us.length ∧ Paired (fun p kv => H p = some (.tup [kV kv.1, kv.2])) as (ks.zip us) ∧ ps = (ks.map keyD).zip ds ∧ IsAll K H us ds
  | _, [], h, _ => by cases h; exact ⟨[], [], [], [], rfl, rfl, .nil, rfl, .nil⟩
  | _, (p1, p2) :: ps, h, ok => by
    cases h with
    | cons h1 h2 =>
      simp only [allPK, List.all_cons, Bool.and_eq_true] at ok
      obtain ⟨j, hj⟩ := Option.isSome_iff_exists.mp ok.1
      obtain ⟨as, ks, us, ds, rfl, e2, e3, e4, e5⟩ := pairs_K h2 ok.2
      obtain ⟨t, xs, rfl, h3, h4⟩ := (show IsX K H H _ (.tuple [p1, p2]) from .inl h1).tup
      cases h4 with
      | cons g1 g2 =>
        cases g2 with
        | cons g2 g3 =>
          cases g3
          obtain rfl := kOf_eq hj
          obtain rfl := g1.key
          exact ⟨t :: as, j :: ks, _ :: us, p2 :: ds, rfl, by simp [e2], .cons h3 e3, by rw [e4]; rfl, .cons g2 e5⟩
def dDictP (ta : TB) : TD := fun ρ Q => ta ρ fun x ρ1 => withD ρ1 x fun d => match d with
  | .list xs => optD (prsOf xs) fun ps => allPK ps = true ∧ Q (.dict (dmerge [] ps)) ρ1
  | _ => False
theorem df_dictP {ta : TB} {p : Pos} (c : Cok k X Γ) (ha : DB X Γ a ta) (hg : Gl X "dict" := by rfl) (he : starEach [a] X.env = (false, eval a X.env) :: starEach [] X.env := by rfl) (hpl : (backTo pos (starEach [] X.env)).any (·.1) = false := by rfl) : DF X Γ (.Call (.Name "dict" p) [a] [] pos) (dDictP ta) := by
  refine ⟨pe_imp (pe_callTy (call_dictP c.calm) hg (nb c) boot_dict (pa_cons ha.pe pa_nil he) (by decide) (by decide) he hpl) ?_⟩
  rintro σ H Q ⟨ρ, G, k, at_, h, fin⟩
  refine ⟨ρ, G, _, at_, h, fun x ρ1 v G1 H1 h1 a1 s1 r1 => ?_⟩
  obtain ⟨d, l, h1⟩ := withD.to h1
  have hx := a1.isx r1 l
  cases d with
  | list xs =>
    obtain ⟨ps, e, ok, h1⟩ := optD.to h1
    obtain ⟨p, us, rfl, h2, h3⟩ := hx.list a1.sub
    rw [prsOf_eq e] at h3
    obtain ⟨as, ks, ws, ds, rfl, e2, e3, e4, e5⟩ := pairs_K h3 ok
    refine ⟨p, as, ks.zip ws, rfl, .of h2, Paired.mapP e3 fun _ _ z => .of (a1.sub _ _ z), fun q hq => ?_⟩
    obtain ⟨a2, g0, h0, hno⟩ := a1.fresh (o := .dK (mergeK [] (ks.zip ws))) hq
    obtain ⟨ks', vs', ds', f1, f2, f3, f4⟩ := mergeK_zip ks ws ds [] [] [] e2 e5 rfl .nil
    have f1' : mergeK [] (ks.zip ws) = ks'.zip vs' := f1
    have f2' : dmerge [] ps = (ks'.map keyD).zip ds' := by rw [e4]; exact f2
    exact fin _ _ q _ _ h1 a2 s1 g0 h0 (.inr (.inl ⟨ks', vs', ds', f2' ▸ rfl, f3, by rw [upd_same, f1'], f4⟩)) hno
  | _ => exact (show False from h1).elim
end
end Dn
/-! Dn: zip of three; in range(..); tuple(reversed(..)). -/
namespace RZ
open PySem PySem.Spec PyProof.Rows L2
/-- a list or a tuple -/
def SqS (b : Bool) (K : PySem.W.Frag) (H : Hp) (a : Addr) (xs : List V) : Prop := match b with
  | true => SqL K H a xs
  | false => SqT K H a xs
def SIter (b : Bool) (h : Heap) (it l : Addr) (i : Nat) : Prop := match b with
  | true => h.IsListIter it l i
  | false => h.IsTupleIter it l i
def SSeq (b : Bool) (h : Heap) (l : Addr) (items : Array Value) : Prop := match b with
  | true => h.IsList l items
  | false => h.IsTuple l items
def SObj (b : Bool) (l : Addr) : Obj := match b with
  | true => { cls := .type "list_iterator", data := .fields #[.ref l, .int 0 0] }
  | false => { cls := .type "tuple_iterator", data := .fields #[.ref l, .int 0 0] }
theorem draws_s {prog : Program} {w : World} {A : Around} (hh : A.handled = none) (b : Bool) (it l : Addr) (hne : l ≠ it) (items : Array Value) :
    Draws prog w A it [it, l] items.size (fun i v => items[i]? = some v) (fun i h => SIter b h it l i ∧ SSeq b h l items) := by
  cases b with
  | true => exact Draws.list hh it l hne items
  | false => exact Draws.tuple hh it l hne items
theorem begins_s (b : Bool) (l : Addr) (items : Array Value) : Begins (.ref l) (SObj b l) fun h => SSeq b h l items := by
  cases b with
  | true => exact begins_list l items
  | false => exact begins_tuple l items
theorem SIter.obj {b : Bool} {h : Heap} {it l : Addr} {i : Nat} (x : SIter b h it l i) : ∃ o, h.get? it = some o ∧ ∀ v, o.data ≠ .cell v := by
  cases b with
  | true => obtain ⟨o, e, _, d⟩ := (show h.IsListIter it l i from x); exact ⟨o, e, fun v q => by rw [d] at q; cases q⟩
  | false => obtain ⟨o, e, _, d⟩ := (show h.IsTupleIter it l i from x); exact ⟨o, e, fun v q => by rw [d] at q; cases q⟩
theorem SIter.at {b : Bool} {h h' : Heap} {it l : Addr} {i : Nat} (x : SIter b h it l i) (k : ∀ o, h.get? it = some o → h'.get? it = some o) : SIter b h' it l i := by
  cases b with
  | true => exact Heap.IsListIter.at (show h.IsListIter it l i from x) k
  | false => exact Heap.IsTupleIter.at (show h.IsTupleIter it l i from x) k
theorem SIter.new {b : Bool} {h : Heap} {it l : Addr} (e : h.get? it = some (SObj b l)) : SIter b h it l 0 := by
  cases b with
  | true => exact ⟨_, e, rfl, rfl⟩
  | false => exact ⟨_, e, rfl, rfl⟩
theorem SSeq.lt {b : Bool} {h : Heap} {l : Addr} {items : Array Value} (x : SSeq b h l items) : l < h.objs.size := by
  cases b with
  | true => obtain ⟨o, e, _⟩ := (show h.IsList l items from x); exact Heap.lt_size e
  | false => obtain ⟨o, e, _⟩ := (show h.IsTuple l items from x); exact Heap.lt_size e
theorem inv_seq {X : Cx} {pins : List (Addr × Obj)} {σ : L2.St} {H : Hp} {s : Shared} {b : Bool} {a : Addr} {xs : List V} (I : Inv X pins σ H s) (h : SqS b X.K H a xs) : ∃ its : List Value, Vals xs its ∧ SSeq b s.heap a its.toArray := by
  cases b with
  | true => obtain ⟨its, rv, p, _⟩ := I.list h; exact ⟨its, rv, p.isList⟩
  | false => obtain ⟨its, rv, p, _⟩ := I.tuple h; exact ⟨its, rv, p⟩
theorem inv_inj {X : Cx} {pins : List (Addr × Obj)} {σ : L2.St} {H : Hp} {s : Shared} {b : Bool} {a : Addr} {xs ys : List V} (I : Inv X pins σ H s) (h : SqS b X.K H a xs) (h' : SqS b X.K H a ys) : xs = ys := by
  cases b with
  | true => exact I.list_inj h h'
  | false => exact I.tuple_inj h h'
structure Src where
  b : Bool
  a : Addr
/-- three things, as they stand at each turn -/
def Itz3 (K : PySem.W.Frag) (A B C : Src) : It :=
  ⟨fun i H => ∃ (xs ys zs : List V) (x y z : V), SqS A.b K H A.a xs ∧ SqS B.b K H B.a ys ∧ SqS C.b K H C.a zs ∧ xs[i]? = some x ∧ ys[i]? = some y ∧ zs[i]? = some z,
    fun i H v H' => ∃ T x y z, v = .ref T ∧ H T = none ∧ H' = upd H T (.tup [x, y, z]) ∧ (∀ xs, SqS A.b K H A.a xs → xs[i]? = some x) ∧ (∀ ys, SqS B.b K H B.a ys → ys[i]? = some y) ∧ ∀ zs, SqS C.b K H C.a zs → zs[i]? = some z,
    fun i H => ∃ xs ys zs : List V, SqS A.b K H A.a xs ∧ SqS B.b K H B.a ys ∧ SqS C.b K H C.a zs ∧ i ≤ xs.length ∧ i ≤ ys.length ∧ i ≤ zs.length ∧ (i = xs.length ∨ i = ys.length ∨ i = zs.length)⟩
theorem turn_zip3 {P : Program} {w : World} {K : PySem.W.Frag} {elts : List Expr} {kk : Nat} {tpos : Pos} {A B C : Src} {z TI TO i1 i2 i3 : Addr} (S : ZipSep3 z TI TO i1 i2 i3 [i1, A.a] [i2, B.a] [i3, C.a]) (n1 : A.a ≠ i1) (n2 : B.a ≠ i2) (n3 : C.a ≠ i3) :
    Turn P w K (.Tuple elts kk tpos) (Itz3 K A B C) [z, TI, TO, i1, i2, i3] z (fun i h => IsZip h z TI TO .none ∧ IsTupOf3 h TI (.ref i1) (.ref i2) (.ref i3) ∧ (∃ x y u, IsTupOf3 h TO x y u) ∧ SIter A.b h i1 A.a i ∧ SIter B.b h i2 B.a i ∧ SIter C.b h i3 C.a i) where
  mem := by simp
  obj := fun i h st c hc => by
    obtain ⟨hz, hTI, ⟨x, y, u, hTO⟩, h1, h2, h3⟩ := st
    have e' : c = z ∨ c = TI ∨ c = TO ∨ c = i1 ∨ c = i2 ∨ c = i3 := by simpa using hc
    rcases e' with q | q | q | q | q | q
    · rw [q]; exact ⟨_, hz, fun v q => nomatch q⟩
    · rw [q]; exact ⟨_, hTI, fun v q => nomatch q⟩
    · rw [q]; exact ⟨_, hTO, fun v q => nomatch q⟩
    · rw [q]; exact h1.obj
    · rw [q]; exact h2.obj
    · rw [q]; exact h3.obj
  keep := fun i h h' st k => by
    obtain ⟨hz, hTI, ⟨x, y, u, hTO⟩, h1, h2, h3⟩ := st
    exact ⟨k z (by simp) _ hz, k TI (by simp) _ hTI, ⟨x, y, u, k TO (by simp) _ hTO⟩, h1.at fun o q => k i1 (by simp) o q, h2.at fun o q => k i2 (by simp) o q, h3.at fun o q => k i3 (by simp) o q⟩
  item := by
    intro X hP hw hK hc i pins s σ H E I hf st hg
    subst hP hw hK
    obtain ⟨hz, hTI, ⟨x0, y0, u0, hTO⟩, h1, h2, h3⟩ := st
    obtain ⟨xs, ys, zs, x, y, v, hqx, hqy, hqz, hx, hy, hv⟩ := hg
    obtain ⟨its, rv, p⟩ := inv_seq I hqx
    obtain ⟨its2, rv2, p2⟩ := inv_seq I hqy
    obtain ⟨its3, rv3, p3⟩ := inv_seq I hqz
    obtain ⟨u1, hu1, ru1⟩ := rv.get hx
    obtain ⟨u2, hu2, ru2⟩ := rv2.get hy
    obtain ⟨u3, hu3, ru3⟩ := rv3.get hv
    have hh : X.A.in1.handled = none := I.ok.hd hc
    have hzl : z < s.heap.objs.size := Heap.lt_size hz
    have lt1 : i < its.toArray.size := by rw [List.size_toArray]; exact (List.getElem?_eq_some_iff.mp hu1).1
    have lt2 : i < its2.toArray.size := by rw [List.size_toArray]; exact (List.getElem?_eq_some_iff.mp hu2).1
    have lt3 : i < its3.toArray.size := by rw [List.size_toArray]; exact (List.getElem?_eq_some_iff.mp hu3).1
    refine wpAny_pyNext_zipD3_item S (draws_s hh A.b i1 A.a n1 its.toArray) (draws_s hh B.b i2 B.a n2 its2.toArray) (draws_s hh C.b i3 C.a n3 its3.toArray) hz hTI hTO ⟨h1, p⟩ ⟨h2, p2⟩ ⟨h3, p3⟩ lt1 lt2 lt3 fun x1 x2 x3 h' tk y1 y2 y3 z' TO' d1 d2 d3 hT hsz hk => ?_
    have e1 : x1 = u1 := by
      have q : its.toArray[i]? = some u1 := by simpa using hu1
      rw [q] at y1; exact (Option.some.inj y1).symm
    have e2 : x2 = u2 := by
      have q : its2.toArray[i]? = some u2 := by simpa using hu2
      rw [q] at y2; exact (Option.some.inj y2).symm
    have e3 : x3 = u3 := by
      have q : its3.toArray[i]? = some u3 := by simpa using hu3
      rw [q] at y3; exact (Option.some.inj y3).symm
    subst e1 e2 e3
    refine ⟨_, rfl, wpAny_letOwnedTupleGo_zip (s := { s with heap := h', toks := tk }) z' fun h'' z'' sb => ?_⟩
    have hT2 : h''.get? s.heap.objs.size = some { cls := .type "tuple", data := .seq #[x1, x2, x3] } := (sb.2 _ (Nat.ne_of_gt hzl)).trans hT
    have new : ObjOk X.prog X.w (upd H s.heap.objs.size (.tup [x, y, v])) h'' s.heap.objs.size (.tup [x, y, v]) :=
      ⟨by show 3 ≤ sizeLine; rw [sizeLine_eq]; decide, [x1, x2, x3], .cons ru1 (.cons ru2 (.cons ru3 .nil)), ⟨_, hT2, rfl, _, rfl⟩⟩
    have I1 : Inv X pins σ (upd H s.heap.objs.size (.tup [x, y, v])) { s with heap := h'', toks := tk } :=
      I.turnedNew (t' := tk) (ch := [z, TI, TO, i1, i2, i3]) (fun c o hb q => (sb.2 c (fun q' => hb (by simp [q']))).trans (hk c o (fun q' => hb (by simp [q'])) (fun q' => hb (by simp [q'])) (fun q' => hb (by simp [q'])) (fun q' => hb (by simp [q'])) (fun q' => hb (by simp [q'])) q)) hf (Nat.le_refl _) new
    refine ⟨.ref s.heap.objs.size, _, I1, rfl, ⟨_, x, y, v, rfl, I.hok.fresh (Nat.le_refl _), rfl, fun l hl => by rw [inv_inj I hl hqx]; exact hx, fun l hl => by rw [inv_inj I hl hqy]; exact hy, fun l hl => by rw [inv_inj I hl hqz]; exact hv⟩, ⟨z'', ?_, ⟨x1, x2, x3, ?_⟩, ?_, ?_, ?_⟩, fun c hcm => ?_⟩
    · exact (sb.2 _ S.TIz).trans (hk _ _ S.TIz S.TITO S.TIi1 S.TIi2 S.TIi3 hTI)
    · exact (sb.2 _ S.TOz).trans TO'
    · exact d1.1.at fun o q => (sb.2 _ (Ne.symm S.zi1)).trans q
    · exact d2.1.at fun o q => (sb.2 _ (Ne.symm S.zi2)).trans q
    · exact d3.1.at fun o q => (sb.2 _ (Ne.symm S.zi3)).trans q
    · have hlt : c < s.heap.objs.size := by
        have e' : c = z ∨ c = TI ∨ c = TO ∨ c = i1 ∨ c = i2 ∨ c = i3 := by simpa using hcm
        rcases e' with q | q | q | q | q | q
        · rw [q]; exact hzl
        · rw [q]; exact Heap.lt_size hTI
        · rw [q]; exact Heap.lt_size hTO
        · rw [q]; obtain ⟨_, e1, _⟩ := h1.obj; exact Heap.lt_size e1
        · rw [q]; obtain ⟨_, e2, _⟩ := h2.obj; exact Heap.lt_size e2
        · rw [q]; obtain ⟨_, e3, _⟩ := h3.obj; exact Heap.lt_size e3
      rw [upd_ne (Nat.ne_of_lt hlt)]
      exact (hf c hcm).1
  done := by
    intro X hP hw hK hc i pins s σ H E I hf st hg
    subst hP hw hK
    obtain ⟨hz, hTI, ⟨x0, y0, u0, hTO⟩, h1, h2, h3⟩ := st
    obtain ⟨xs, ys, zs, hqx, hqy, hqz, l1, l2, l3, hend⟩ := hg
    obtain ⟨its, rv, p⟩ := inv_seq I hqx
    obtain ⟨its2, rv2, p2⟩ := inv_seq I hqy
    obtain ⟨its3, rv3, p3⟩ := inv_seq I hqz
    have hh : X.A.in1.handled = none := I.ok.hd hc
    have e1 := rv.length
    have e2 := rv2.length
    have e3 := rv3.length
    refine wpAny_pyNext_zipD3_end S (draws_s hh A.b i1 A.a n1 its.toArray) (draws_s hh B.b i2 B.a n2 its2.toArray) (draws_s hh C.b i3 C.a n3 its3.toArray) hz hTI hTO ⟨h1, p⟩ ⟨h2, p2⟩ ⟨h3, p3⟩ (by rw [List.size_toArray]; omega) (by rw [List.size_toArray]; omega) (by rw [List.size_toArray]; omega) (by rw [List.size_toArray, List.size_toArray, List.size_toArray]; omega) fun h' tk hk => ⟨rfl, I.turnedL (t' := tk) (ch := [z, TI, TO, i1, i2, i3]) (fun c o hb q =>
      hk c o (fun q' => hb (by simp [q'])) (fun q' => hb (by simp [q'])) (fun q' => hb (by simp [q'])) (fun q' => hb (by simp [q'])) (fun q' => hb (by simp [q'])) q) hf⟩
  self := fun A i s Q E st h => wpAny_pyIter_zip st.1 h
def iZip3 (K : PySem.W.Frag) (ta : TA) : TI := fun σ H R => ta σ H fun vs H1 => ∃ (A B C : Src) (xs ys zs : List V), vs = [.ref A.a, .ref B.a, .ref C.a] ∧ SqS A.b K H1 A.a xs ∧ SqS B.b K H1 B.a ys ∧ SqS C.b K H1 C.a zs ∧ R (Itz3 K A B C) H1
theorem pi_zip3 {X : Cx} {e e2 e3 : Expr} {ta : TA} {p pos tpos : Pos} {elts : List Expr} {kk : Nat} (hg : Gl X "zip") (hm : X.mg "zip" = none) (ha : PA X [e, e2, e3] ta)
    (hs : starEach [e, e2, e3] X.env = (false, eval e X.env) :: starEach [e2, e3] X.env := by rfl) (hpl : (backTo pos (starEach [e2, e3] X.env)).any (·.1) = false := by rfl) :
    PI X (.Tuple elts kk tpos) (.Call (.Name "zip" p) [e, e2, e3] [] pos) (iZip3 X.K ta) := by
  refine ⟨fun pins s σ H R I h => ?_⟩
  refine Call_ (ld_blt I hg hm PyProof.Rows.boot_zip (PyProof.Rows.callWith_type1 (thn (ha.run pos pins s σ H _ I h) fun us s1 ⟨vs, H1, I1, r1, q1⟩ => ?_) hs hpl))
  obtain ⟨A, B, C, xs, ys, zs, ex, hqx, hqy, hqz, q⟩ := q1
  subst ex
  cases r1 with
  | cons r rr =>
    cases rr with
    | cons r' rr =>
      cases rr with
      | cons r'' rr =>
        cases rr
        cases r
        cases r'
        cases r''
        obtain ⟨its, rv, p1⟩ := inv_seq I1 hqx
        obtain ⟨its2, rv2, p2⟩ := inv_seq I1 hqy
        obtain ⟨its3, rv3, p3⟩ := inv_seq I1 hqz
        refine zip_begins3 (begins_s A.b A.a its.toArray) (begins_s B.b B.a its2.toArray) (begins_s C.b C.a its3.toArray) p1 p2 p3 fun h' hz hTI hTO h1 h2 h3 hsz hk => wpAny_pyIter_zip hz ?_
        have I2 : Inv X pins σ H1 { s1 with heap := h' } := I1.kept (t' := s1.toks) hk
        have k1 := p1.lt
        have k2 := p2.lt
        have k3 := p3.lt
        have S := zip_sep3 (N := s1.heap.objs.size) (fp1 := [A.a]) (fp2 := [B.a]) (fp3 := [C.a]) (fun b hb => by rw [List.mem_singleton.mp hb]; exact k1) (fun b hb => by rw [List.mem_singleton.mp hb]; exact k2) (fun b hb => by rw [List.mem_singleton.mp hb]; exact k3)
        refine ⟨_, [s1.heap.objs.size + 5, s1.heap.objs.size + 3, s1.heap.objs.size + 4, s1.heap.objs.size, s1.heap.objs.size + 1, s1.heap.objs.size + 2], _, _, H1, rfl, I2, turn_zip3 S (Nat.ne_of_lt k1) (Nat.ne_of_lt (Nat.lt_succ_of_lt k2)) (Nat.ne_of_lt (Nat.lt_succ_of_lt (Nat.lt_succ_of_lt k3))), ⟨hz, hTI, ⟨_, _, _, hTO⟩, SIter.new h1, SIter.new h2, SIter.new h3⟩, fun c hcm => ?_, q⟩
        have e' : c = s1.heap.objs.size + 5 ∨ c = s1.heap.objs.size + 3 ∨ c = s1.heap.objs.size + 4 ∨ c = s1.heap.objs.size ∨ c = s1.heap.objs.size + 1 ∨ c = s1.heap.objs.size + 2 := by simpa using hcm
        have hle : s1.heap.objs.size ≤ c := by
          rcases e' with z | z | z | z | z | z
          · rw [z]; exact Nat.le_add_right _ _
          · rw [z]; exact Nat.le_add_right _ _
          · rw [z]; exact Nat.le_add_right _ _
          · rw [z]; exact Nat.le_refl _
          · rw [z]; exact Nat.le_add_right _ _
          · rw [z]; exact Nat.le_add_right _ _
        exact I1.fpOk hle (I1.hok.fresh hle)
end RZ
namespace Dn
open PySem PySem.Spec PyProof.Rows L2
def seqO : D → Option (List D)
  | .list xs => some xs
  | .tuple xs => some xs
  | _ => none
def zipL3 (xs ys zs : List D) : List D := (xs.zip (ys.zip zs)).map fun p => .tuple [p.1, p.2.1, p.2.2]
def iZp3 (ta tb tc : TD) : TI' := fun ρ Q => ta ρ fun d ρ1 => tb ρ1 fun e ρ2 => tc ρ2 fun f ρ3 => optD (seqO d) fun xs => optD (seqO e) fun ys => optD (seqO f) fun zs => Q (zipL3 xs ys zs) ρ3
theorem zipL3_len (xs ys zs : List D) : (zipL3 xs ys zs).length = min xs.length (min ys.length zs.length) := by unfold zipL3; rw [List.length_map, List.length_zip, List.length_zip]
theorem zipL3_get {xs ys zs : List D} {i : Nat} {x y z : D} (h1 : xs[i]? = some x) (h2 : ys[i]? = some y) (h3 : zs[i]? = some z) : (zipL3 xs ys zs)[i]? = some (.tuple [x, y, z]) := by
  unfold zipL3
  rw [List.getElem?_map, (List.getElem?_zip_eq_some (z := (x, (y, z)))).mpr ⟨h1, (List.getElem?_zip_eq_some (z := (y, z))).mpr ⟨h2, h3⟩⟩]; rfl
theorem src_of {K : PySem.W.Frag} {G : Hp} {v : V} {d : D} {xs : List D} (h : Is K G v d) (e : seqO d = some xs) : ∃ (S : RZ.Src) (us : List V), v = .ref S.a ∧ (∀ H, Same G H → RZ.SqS S.b K H S.a us) ∧ IsAll K G us xs := by
  cases d with
  | list ds =>
    cases e
    cases h with
    | lst g1 g2 => exact ⟨⟨true, _⟩, _, rfl, fun H s => s.seq (.of g1), g2⟩
  | tuple ds =>
    cases e
    cases h with
    | tup g1 g2 => exact ⟨⟨false, _⟩, _, rfl, fun H s => Same.sqt s g1, g2⟩
  | _ => cases e
section
variable {X : Cx} {Γ : Gm} {k j n : Nat} {a b e : Expr} {es : List Expr} {pos : Pos}
theorem di_zip3 {c' : Expr} {elts : List Expr} {kk : Nat} {tpos p : Pos} {ta tb tc : TD} (c : Cok k X Γ) (ha : DE X Γ a ta) (hb : DE X Γ b tb) (hc : DE X Γ c' tc) (hg : Gl X "zip" := by rfl) (hs : starEach [a, b, c'] X.env = (false, eval a X.env) :: starEach [b, c'] X.env := by rfl)
    (hs2 : starEach [b, c'] X.env = (false, eval b X.env) :: starEach [c'] X.env := by rfl) (hs3 : starEach [c'] X.env = (false, eval c' X.env) :: starEach [] X.env := by rfl) (hpl : (backTo pos (starEach [b, c'] X.env)).any (·.1) = false := by rfl) : DI X Γ (.Tuple elts kk tpos) (.Call (.Name "zip" p) [a, b, c'] [] pos) (iZp3 ta tb tc) := by
  refine ⟨pi_imp (RZ.pi_zip3 hg (c.bl _ rfl) (pa_cons ha.pe (pa_cons hb.pe (pa_cons hc.pe pa_nil hs3) hs2) hs) hs hpl) ?_⟩
  rintro σ H R ⟨ρ, G, k, at_, h, fin⟩
  refine ⟨ρ, G, _, at_, h, fun d ρ1 v G1 H1 h1 a1 s1 r1 => ⟨ρ1, G1, _, a1, h1, fun e ρ2 v2 G2 H2 h2 a2 s2 r2 => ⟨ρ2, G2, _, a2, h2, fun f ρ3 v3 G3 H3 h3 a3 s3 r3 => ?_⟩⟩⟩
  obtain ⟨xs, e1, h3⟩ := optD.to h3
  obtain ⟨ys, e2, h3⟩ := optD.to h3
  obtain ⟨zs, e3, h3⟩ := optD.to h3
  obtain ⟨A, us, rfl, f1, i1⟩ := src_of ((r1.mono s2).mono s3) e1
  obtain ⟨B, ws, rfl, f2, i2⟩ := src_of (r2.mono s3) e2
  obtain ⟨C, qs, rfl, f3, i3⟩ := src_of r3 e3
  refine ⟨A, B, C, us, ws, qs, rfl, f1 _ a3.sub, f2 _ a3.sub, f3 _ a3.sub, fin _ _ _ _ _ h3 a3 ((s1.trans s2).trans s3) ?_⟩
  have l := zipL3_len xs ys zs
  have l1 := i1.length
  have l2 := i2.length
  have l3 := i3.length
  refine ⟨fun i H G t1 t2 hi => ?_, fun H G t1 t2 => ?_, fun i H G v H' t1 t2 hi y => ?_⟩
  · exact ⟨us, ws, qs, _, _, _, f1 _ (t1.trans t2), f2 _ (t1.trans t2), f3 _ (t1.trans t2), List.getElem?_eq_getElem (by omega), List.getElem?_eq_getElem (by omega), List.getElem?_eq_getElem (by omega)⟩
  · exact ⟨us, ws, qs, f1 _ (t1.trans t2), f2 _ (t1.trans t2), f3 _ (t1.trans t2), by omega, by omega, by omega, by omega⟩
  · obtain ⟨T, u, w, q, rfl, hT, rfl, e4, e5, e6⟩ := y
    obtain ⟨d1, q1, q2⟩ := i1.get (e4 _ (f1 _ (t1.trans t2)))
    obtain ⟨d2, q3, q4⟩ := i2.get (e5 _ (f2 _ (t1.trans t2)))
    obtain ⟨d3, q5, q6⟩ := i3.get (e6 _ (f3 _ (t1.trans t2)))
    refine ⟨_, upd G T (.tup [u, w, q]), zipL3_get q1 q3 q5, Grow.laid t2 hT, ?_⟩
    have sg : Same G (upd G T (.tup [u, w, q])) := fun b o e => by rw [upd_ne (ne_of_none e (t2.free hT))]; exact e
    exact .tup upd_same (.cons ((q2.mono t1).mono sg) (.cons ((q4.mono t1).mono sg) (.cons ((q6.mono t1).mono sg) .nil)))

/-! ### in range(..) -/
def rngA : List D → Option (Int × Int)
  | [.int n] => some (0, n)
  | [.int a, .int b] => some (a, b)
  | _ => none
def dInRg (neg : Bool) (t : TD) (ta : TDs) : TD := fun ρ Q => t ρ fun x ρ1 => ta ρ1 fun ds ρ2 => match x with
  | .int i => optD (rngA ds) fun r => Q (.bool (if neg then !(decide (r.1 ≤ i ∧ i < r.2)) else decide (r.1 ≤ i ∧ i < r.2))) ρ2
  | _ => False
theorem op_ni_rng : OpR X (compareOp .NotIn) (fun x y H Q => ∃ i a lo hi, x = V.int i ∧ y = V.ref a ∧ H a = some (.rng lo hi) ∧ Q (.bl (!(decide (lo ≤ i ∧ i < hi)))) H) := by
  intro pins s σ H x y v u Q I rx ry h
  obtain ⟨i, a, lo, hi, rfl, rfl, ha, q⟩ := h
  obtain ⟨k, rfl⟩ := rx
  obtain rfl : u = Value.ref a := ry
  obtain ⟨t1, t2, t3, ho⟩ := I.hok a _ ha
  show wpAny _ _ (do return Value.bool (!(← contains (Value.ref a) (Value.int i k)))) _ _ s
  refine wpAny_bind (wpAny_contains_slot (T := "range") ⟨_, ho, rfl⟩ F.slot_range_contains (call_meets F.slot_range_contains ⟨_, ho, rfl⟩ F.entry_range_contains (F.args_range_contains_2 _ _) (q_contains a lo hi i t1 t2 t3 k)
    ⟨ho, wpAny_truthy_bool (wpAny_pure ⟨.bl (!(decide (lo ≤ i ∧ i < hi))), H, I, ?_, q⟩)⟩))
  rw [place1]
  rfl
theorem cr_range12 : CallR X (.type "range") (fun vs H Q => ∃ i j, (vs = [V.int i, V.int j] ∨ (i = 0 ∧ vs = [V.int j])) ∧ ∀ p, H p = none → Q (.ref p) (upd H p (.rng i j))) := by
  intro pins s σ H vs us Q I r h
  obtain ⟨i, j, h, q⟩ := h
  rcases h with rfl | ⟨rfl, rfl⟩
  · exact cr_range2 pins s σ H _ us Q I r ⟨i, j, rfl, q⟩
  · obtain ⟨u, rfl, t, rfl⟩ := vals1 r
    refine call_range_1 ⟨.ref s.heap.objs.size, upd H s.heap.objs.size (.rng 0 j), I.laid (t' := s.toks + 2) (fun b o e => Heap.get?_push_of_some _ e) (Nat.le_refl _) ?_, rfl, q _ (I.hok.fresh (Nat.le_refl _))⟩
    exact ⟨_, _, _, Heap.get?_push_size _ rfl⟩
theorem inRg_rd {K : PySem.W.Frag} {neg : Bool} {r : R2} {ta : TD} {tas : TDs} {n : Nat} (hi : ∀ i a lo hi H Q, H a = some (.rng lo hi) → Q (.bl (if neg then !(decide (lo ≤ i ∧ i < hi)) else decide (lo ≤ i ∧ i < hi))) H → r (.int i) (.ref a) H Q)
    {σ : L2.St} {H : Hp} {Q : VK} (h : rdE K Γ (dInRg neg ta tas) σ H Q) : tOp r (rdE K Γ ta) (tCB (fun vs H Q => ∃ i j, (vs = [V.int i, V.int j] ∨ (i = 0 ∧ vs = [V.int j])) ∧ ∀ p, H p = none → Q (.ref p) (upd H p (.rng i j))) (rdAn K Γ n tas)) σ H Q := by
  obtain ⟨ρ, G, k, at_, h, fin⟩ := h
  refine ⟨ρ, G, _, at_, h, fun d ρ1 v G1 H1 h1 a1 s1 r1 => ⟨ρ1, G1, _, a1, h1, fun ds ρ2 vs G2 H2 h2 hn a2 s2 r2 => ?_⟩⟩
  split at h2
  · rename_i i
    obtain ⟨⟨lo, hi'⟩, e1, h2⟩ := optD.to h2
    cases r1
    have go : ∀ p, H2 p = none → r (.int i) (.ref p) (upd H2 p (.rng lo hi')) Q := fun p hp => by
      have g := Grow.laid (o := .rng lo hi') a2.sub hp
      exact hi i p lo hi' _ _ upd_same (fin _ _ _ _ _ h2 (a2.grow g) ((s1.trans s2).trans g.gg) (.bl _))
    unfold rngA at e1
    split at e1
    · cases e1
      cases r2 with
      | cons q1 q2 =>
        cases q2
        cases q1
        exact ⟨0, _, .inr ⟨rfl, rfl⟩, go⟩
    · cases e1
      cases r2 with
      | cons q1 q2 =>
        cases q2 with
        | cons q2 q3 =>
          cases q3
          cases q1
          cases q2
          exact ⟨_, _, .inl rfl, go⟩
    · cases e1
  · exact h2.elim
def tInRg (neg : Bool) (t : TD) (ta : TDs) : TT' := fun ρ Q => dInRg neg t ta ρ fun d ρ' => asB d fun b => Q b ρ'
theorem de_inRg {ta : TD} {tas : TDs} {p p2 : Pos} (c : Cok k X Γ) (ha : DE X Γ a ta) (hb : DL X Γ (e :: es) tas) (hg : Gl X "range" := by rfl) (he : starEach (e :: es) X.env = (false, eval e X.env) :: starEach es X.env := by rfl) (hpl : (backTo p2 (starEach es X.env)).any (·.1) = false := by rfl)
    (hm : behindInMarks .In (.Call (.Name "range" p) (e :: es) [] p2) = false := by first | exact nomark _ | with_unfolding_all rfl) : DE X Γ (.Compare a [.In] [.Call (.Name "range" p) (e :: es) [] p2] pos) (dInRg false ta tas) :=
  ⟨pe_imp (pe_cmpR op_in_rng ha.pe (pe_callTy cr_range12 hg (nb c) boot_range hb.pa (by decide) (by decide) he hpl) hm) fun σ H Q h => inRg_rd (fun i a lo hi H Q h q => ⟨i, a, lo, hi, rfl, rfl, h, q⟩) h⟩
theorem de_niRg {ta : TD} {tas : TDs} {p p2 : Pos} (c : Cok k X Γ) (ha : DE X Γ a ta) (hb : DL X Γ (e :: es) tas) (hg : Gl X "range" := by rfl) (he : starEach (e :: es) X.env = (false, eval e X.env) :: starEach es X.env := by rfl) (hpl : (backTo p2 (starEach es X.env)).any (·.1) = false := by rfl)
    (hm : behindInMarks .NotIn (.Call (.Name "range" p) (e :: es) [] p2) = false := by first | exact nomark _ | with_unfolding_all rfl) : DE X Γ (.Compare a [.NotIn] [.Call (.Name "range" p) (e :: es) [] p2] pos) (dInRg true ta tas) :=
  ⟨pe_imp (pe_cmpR op_ni_rng ha.pe (pe_callTy cr_range12 hg (nb c) boot_range hb.pa (by decide) (by decide) he hpl) hm) fun σ H Q h => inRg_rd (fun i a lo hi H Q h q => ⟨i, a, lo, hi, rfl, rfl, h, q⟩) h⟩
theorem dt_inRg {ta : TD} {tas : TDs} {p p2 : Pos} (c : Cok k X Γ) (ha : DE X Γ a ta) (hb : DL X Γ (e :: es) tas) (hg : Gl X "range" := by rfl) (he : starEach (e :: es) X.env = (false, eval e X.env) :: starEach es X.env := by rfl) (hpl : (backTo p2 (starEach es X.env)).any (·.1) = false := by rfl)
    (hm : behindInMarks .In (.Call (.Name "range" p) (e :: es) [] p2) = false := by first | exact nomark _ | with_unfolding_all rfl) : DT X Γ (.Compare a [.In] [.Call (.Name "range" p) (e :: es) [] p2] pos) (tInRg false ta tas) := by
  refine ⟨pt_imp (pt_cmpR op_in_rng ha.pe (pe_callTy cr_range12 hg (nb c) boot_range hb.pa (by decide) (by decide) he hpl) hm) ?_⟩
  rintro σ H Q ⟨ρ, G, k, at_, h, fin⟩
  refine inRg_rd (neg := false) (fun i a lo hi H Q h q => ⟨i, a, lo, hi, rfl, rfl, h, q⟩) ⟨ρ, G, _, at_, h, fun d ρ' v G' H' hk a' s' r => ?_⟩
  obtain ⟨c, rfl, hk⟩ := hk.to
  cases r
  exact ⟨c, rfl, fin _ _ _ _ hk a' s'⟩
theorem dt_niRg {ta : TD} {tas : TDs} {p p2 : Pos} (c : Cok k X Γ) (ha : DE X Γ a ta) (hb : DL X Γ (e :: es) tas) (hg : Gl X "range" := by rfl) (he : starEach (e :: es) X.env = (false, eval e X.env) :: starEach es X.env := by rfl) (hpl : (backTo p2 (starEach es X.env)).any (·.1) = false := by rfl)
    (hm : behindInMarks .NotIn (.Call (.Name "range" p) (e :: es) [] p2) = false := by first | exact nomark _ | with_unfolding_all rfl) : DT X Γ (.Compare a [.NotIn] [.Call (.Name "range" p) (e :: es) [] p2] pos) (tInRg true ta tas) := by
  refine ⟨pt_imp (pt_cmpR op_ni_rng ha.pe (pe_callTy cr_range12 hg (nb c) boot_range hb.pa (by decide) (by decide) he hpl) hm) ?_⟩
  rintro σ H Q ⟨ρ, G, k, at_, h, fin⟩
  refine inRg_rd (neg := true) (fun i a lo hi H Q h q => ⟨i, a, lo, hi, rfl, rfl, h, q⟩) ⟨ρ, G, _, at_, h, fun d ρ' v G' H' hk a' s' r => ?_⟩
  obtain ⟨c, rfl, hk⟩ := hk.to
  cases r
  exact ⟨c, rfl, fin _ _ _ _ hk a' s'⟩
/-- tuple(reversed(a list)) -/
def dTupR (ta : TD) : TD := fun ρ Q => ta ρ fun d ρ1 => match d with
  | .list xs => Q (.tuple xs.reverse) ρ1
  | _ => False
theorem de_tupR {ta : TD} {p p2 pos2 : Pos} (c : Cok k X Γ) (ha : DE X Γ a ta) (hg : Gl X "tuple" := by rfl) (hg2 : Gl X "reversed" := by rfl) (hs : starEach [a] X.env = (false, eval a X.env) :: starEach [] X.env := by rfl)
    (hs2 : starEach [.Call (.Name "reversed" p2) [a] [] pos2] X.env = (false, eval (.Call (.Name "reversed" p2) [a] [] pos2) X.env) :: starEach [] X.env := by rfl) : DE X Γ (.Call (.Name "tuple" p) [.Call (.Name "reversed" p2) [a] [] pos2] [] pos) (dTupR ta) := by
  refine ⟨pe_imp (RT.pe_tupRev c.calm hg (nb c) hg2 (nb c) ha.pe hs hs2) ?_⟩
  rintro σ H Q ⟨ρ, G, k, at_, h, fin⟩
  refine ⟨ρ, G, _, at_, h, fun d ρ1 v G1 H1 h1 a1 s1 r1 => ?_⟩
  split at h1
  · rename_i xs
    obtain ⟨p, us, rfl, g1, g2⟩ := (show IsX X.K G1 H1 v (.list xs) from .inl r1).list a1.sub
    refine ⟨p, us, rfl, .of g1, fun q hq => ?_⟩
    have g := Grow.laid (o := .tup us.reverse) a1.sub hq
    exact fin _ _ _ _ _ h1 (a1.grow g) (s1.trans g.gg) (.tup upd_same (g2.mono g.gg).reverse)
  · exact h1.elim
end
end Dn
/-! Dn: several names at once, new things among what they get. -/
namespace Dn
open PySem PySem.Spec PyProof.Rows L2
abbrev TMs := Ro → (List Sl → Ro → Prop) → Prop
inductive Pd (K : PySem.W.Frag) (H0 : Hp) (σ : L2.St) (ρ : Ro) (G H : Hp) : List Addr → List V → List Sl → Prop
  | nil : Pd K H0 σ ρ G H [] [] []
  | val {as : List Addr} {v : V} {d : D} {vs : List V} {ss : List Sl} : Is K G v d → Pd K H0 σ ρ G H as vs ss → Pd K H0 σ ρ G H as (v :: vs) (.val d :: ss)
  | own {as : List Addr} {p : Addr} {d : D} {vs : List V} {ss : List Sl} : G p = none → H0 p = none → Own K G H p d → (∀ (j : Nat) dj, ρ[j]? = some (.own dj) → σ[j]? ≠ some (some (.ref p))) → p ∉ as → Pd K H0 σ ρ G H as vs ss → Pd K H0 σ ρ G H (p :: as) (.ref p :: vs) (.own d :: ss)
def setR : Ro → List Nat → List Sl → Ro
  | ρ, i :: is, s :: ss => setR (ρ.set i s) is ss
  | ρ, _, _ => ρ
def setS : L2.St → List Nat → List V → L2.St
  | σ, i :: is, v :: vs => setS (σ.set i (some v)) is vs
  | σ, _, _ => σ
section
variable {K : PySem.W.Frag} {Γ : Gm} {ρ : Ro} {σ : L2.St} {G H : Hp}
theorem Pd.val_slot {H0 : Hp} {as : List Addr} {vs : List V} {ss : List Sl} {i : Nat} {v : V} {d : D} (h : Pd K H0 σ ρ G H as vs ss) : Pd K H0 (σ.set i (some v)) (ρ.set i (.val d)) G H as vs ss := by
  induction h with
  | nil => exact .nil
  | val r _ ih => exact .val r ih
  | own g0 h0 ow hno hn _ ih =>
    refine .own g0 h0 ow (fun j dj e1 e2 => ?_) hn ih
    by_cases hj : i = j
    · subst hj
      have hl : i < ρ.length := by
        rcases Nat.lt_or_ge i ρ.length with z | z
        · exact z
        · rw [List.getElem?_eq_none (by rw [List.length_set]; exact z)] at e1; cases e1
      rw [List.getElem?_set_self hl] at e1
      cases e1
    · rw [List.getElem?_set_ne hj] at e1 e2
      exact hno j dj e1 e2
theorem Pd.own_slot {H0 : Hp} {as : List Addr} {vs : List V} {ss : List Sl} {i : Nat} {p : Addr} {d : D} (hl : σ.length = ρ.length) (h : Pd K H0 σ ρ G H as vs ss) (hp : p ∉ as) : Pd K H0 (σ.set i (some (.ref p))) (ρ.set i (.own d)) G H as vs ss := by
  induction h with
  | nil => exact .nil
  | val r _ ih => exact .val r (ih hp)
  | @own as q d' vs ss g0 h0 ow hno hn _ ih =>
    refine .own g0 h0 ow (fun j dj e1 e2 => ?_) hn (ih fun z => hp (List.mem_cons_of_mem _ z))
    by_cases hj : i = j
    · subst hj
      have hl' : i < ρ.length := by
        rcases Nat.lt_or_ge i ρ.length with z | z
        · exact z
        · rw [List.getElem?_eq_none (by rw [List.length_set]; exact z)] at e1; cases e1
      rw [List.getElem?_set_self (by rw [hl]; exact hl')] at e2
      cases e2
      exact hp List.mem_cons_self
    · rw [List.getElem?_set_ne hj] at e1 e2
      exact hno j dj e1 e2
theorem Pd.sets {as : List Addr} {vs : List V} {ss : List Sl} (h : Pd K Γ.H0 σ ρ G H as vs ss) : ∀ (is : List Nat), At K Γ ρ σ G H → (∀ i ∈ is, Γ.I.contains i = false) → is.length = vs.length → At K Γ (setR ρ is ss) (setS σ is vs) G H := by
  suffices ∀ (n : Nat) (is : List Nat) (ρ : Ro) (σ : L2.St) (as : List Addr) (vs : List V) (ss : List Sl), is.length = n → Pd K Γ.H0 σ ρ G H as vs ss → At K Γ ρ σ G H → (∀ i ∈ is, Γ.I.contains i = false) → is.length = vs.length → At K Γ (setR ρ is ss) (setS σ is vs) G H from
    fun is a hI hl => this _ is ρ σ as vs ss rfl h a hI hl
  intro n
  induction n with
  | zero =>
    intro is ρ σ as vs ss hn h a hI hl
    cases is with
    | nil => cases h <;> exact a
    | cons _ _ => cases hn
  | succ n ih =>
    intro is ρ σ as vs ss hn h a hI hl
    cases is with
    | nil => cases hn
    | cons i is =>
      cases h with
      | nil => cases hl
      | val r h =>
        exact ih is _ _ _ _ _ (by simpa using hn) h.val_slot (a.set (hI i List.mem_cons_self) r) (fun j hj => hI j (List.mem_cons_of_mem _ hj)) (by simpa using hl)
      | own g0 h0 ow hno hp h =>
        exact ih is _ _ _ _ _ (by simpa using hn) (h.own_slot a.len hp) (a.setOwn (hI i List.mem_cons_self) g0 h0 ow hno) (fun j hj => hI j (List.mem_cons_of_mem _ hj)) (by simpa using hl)
theorem Pd.up {G' H' : Hp} {q : Addr} {o : HO} {as : List Addr} {vs : List V} {ss : List Sl} (h : Pd K (upd Γ.H0 q o) σ ρ G H as vs ss) : Pd K Γ.H0 σ ρ G H as vs ss ∧ q ∉ as := by
  induction h with
  | nil => exact ⟨.nil, List.not_mem_nil⟩
  | val r _ ih => exact ⟨.val r ih.1, ih.2⟩
  | @own as p d vs ss g0 h0 ow hno hp _ ih =>
    have ne : p ≠ q := fun z => by subst z; rw [upd_same] at h0; cases h0
    rw [upd_ne ne] at h0
    refine ⟨.own g0 h0 ow hno hp ih.1, fun z => ?_⟩
    rcases List.mem_cons.mp z with z | z
    · exact ne z.symm
    · exact ih.2 z
theorem Pd.length {H0 : Hp} {as : List Addr} {vs : List V} {ss : List Sl} (h : Pd K H0 σ ρ G H as vs ss) : vs.length = ss.length := by
  induction h with
  | nil => rfl
  | val _ _ ih => simp [ih]
  | own _ _ _ _ _ _ ih => simp [ih]
end
def rdM (K : PySem.W.Frag) (Γ : Gm) (n : Nat) (t : TMs) : TA := fun σ H Q => ∃ ρ G k, At K Γ ρ σ G H ∧ t ρ k ∧ ∀ ss ρ' as vs G' H', k ss ρ' → vs.length = n → At K Γ ρ' σ G' H' → Same G G' → Pd K Γ.H0 σ ρ' G' H' as vs ss → Q vs H'
structure DM (X : Cx) (Γ : Gm) (es : List Expr) (t : TMs) : Prop where
  pa : PA X es (rdM X.K Γ es.length t)
theorem pa_ex {X : Cx} {ι : Type} {p : ι → Prop} {es : List Expr} {t : ι → TA} (h : ∀ i, p i → PA X es (t i)) : PA X es (fun σ H Q => ∃ i, p i ∧ t i σ H Q) := ⟨fun ps pins s σ H Q I ⟨i, hp, q⟩ => (h i hp).run ps pins s σ H Q I q⟩
def tMv (t : TD) (ts : TMs) : TMs := fun ρ Q => t ρ fun d ρ1 => ts ρ1 fun ss ρ2 => Q (.val d :: ss) ρ2
def tMo (t : TD) (ts : Hp → Hp → TMs) : TMs := fun ρ Q => t ρ fun d ρ1 => ∀ G0 H0, ts G0 H0 ρ1 fun ss ρ2 => Q (.own d :: ss) ρ2
section
variable {X : Cx} {Γ : Gm} {k : Nat} {a b e : Expr} {es : List Expr} {pos : Pos}
theorem dm_nil : DM X Γ [] fun ρ Q => Q [] ρ := ⟨pa_imp pa_nil fun σ H Q ⟨ρ, G, k, at_, h, fin⟩ => fin [] ρ [] [] G H h rfl at_ (Same.refl _) .nil⟩
theorem dm_val {t : TD} {ts : TMs} (h : DE X Γ e t) (r : DM X Γ es ts) (hs : starEach (e :: es) X.env = (false, eval e X.env) :: starEach es X.env := by rfl) : DM X Γ (e :: es) (tMv t ts) := by
  refine ⟨pa_imp (pa_cons h.pe r.pa hs) ?_⟩
  rintro σ H Q ⟨ρ, G, k, at_, h, fin⟩
  exact ⟨ρ, G, _, at_, h, fun d ρ1 v G1 H1 h1 a1 s1 r1 => ⟨ρ1, G1, _, a1, h1, fun ss ρ2 as vs G2 H2 h2 hl a2 s2 pd => fin _ ρ2 as (v :: vs) G2 H2 h2 (by rw [List.length_cons, List.length_cons, hl]) a2 (s1.trans s2) (.val (r1.mono s2) pd)⟩⟩
theorem dm_own {t : TD} {ts : Hp → Hp → TMs} (c : Cok k X Γ) (h : DF X Γ e t) (r : ∀ G0 H0, Cok k X (Γ.inn G0 H0) → DM X (Γ.inn G0 H0) es (ts G0 H0)) (hs : starEach (e :: es) X.env = (false, eval e X.env) :: starEach es X.env := by rfl) : DM X Γ (e :: es) (tMo t ts) := by
  refine ⟨pa_imp (pa_cons h.pe (pa_ex (ι := Hp × Hp) (p := fun i => Γ.Gh i.1 i.2) fun i hp => (r i.1 i.2 (c.inn' hp)).pa) hs) ?_⟩
  rintro σ H Q ⟨ρ, G, k, at_, h, fin⟩
  refine ⟨ρ, G, _, at_, h, fun d ρ1 p G1 H1 h1 a1 s1 g0 h0 own hno => ?_⟩
  obtain ⟨o, ho⟩ := own.some
  have g00 : Γ.G0 p = none := c.gh.1.free h0
  have gh : Γ.Gh Γ.G0 (upd Γ.H0 p o) := ⟨fun b u q => by rw [upd_ne (ne_of_none q g00)]; exact c.gh.1 b u q, fun P hP => by rw [upd_ne (ne_of_none (c.gh.2 P hP) h0)]; exact c.gh.2 P hP⟩
  refine ⟨(Γ.G0, upd Γ.H0 p o), gh, ρ1, G1, _, a1.aside ho g0 g00 hno, h1 Γ.G0 (upd Γ.H0 p o), fun ss ρ2 as vs G2 H2 h2 hl a2 s2 pd => ?_⟩
  obtain ⟨a3, hp3, g3, hno3⟩ := a2.back h0 g00
  obtain ⟨pd', hpn⟩ := Pd.up (G' := G2) (H' := H2) pd
  refine fin _ ρ2 (p :: as) (.ref p :: vs) G2 H2 h2 (by rw [List.length_cons, List.length_cons, hl]) a3 (s1.trans s2) (.own g3 h0 (own.mono s2 (by rw [hp3, ho])) hno3 hpn pd')
def sMix (is : List Nat) (t : TMs) : TDS := fun R ρ => t ρ fun ss ρ' => R.nx (setR ρ' is ss)
theorem two_of {α : Type} {vs : List α} (h : vs.length = 2) : ∃ v u, vs = [v, u] := by
  match vs, h with
  | [v, u], _ => exact ⟨v, u, rfl⟩
theorem three_of {α : Type} {vs : List α} (h : vs.length = 3) : ∃ v u w, vs = [v, u, w] := by
  match vs, h with
  | [v, u, w], _ => exact ⟨v, u, w, rfl⟩
theorem four_of {α : Type} {vs : List α} (h : vs.length = 4) : ∃ v u w z, vs = [v, u, w, z] := by
  match vs, h with
  | [v, u, w, z], _ => exact ⟨v, u, w, z, rfl⟩
theorem ds_mix2 {i j : Nat} {x y : Str} {t : TMs} {px py pt : Pos} {kt k2 pt2} (c : Cok k X Γ) (hi : X.N[i]? = some x) (hj : X.N[j]? = some y) (hij : i ≠ j)
    (hx : X.env.scope.names.lookup x = some .local) (hy : X.env.scope.names.lookup y = some .local) (ha : DM X Γ [a, b] t) (hI : [i, j].all (fun m => !Γ.I.contains m) = true := by rfl)
    (hw : swappedStores [.Tuple [.Name x px, .Name y py] kt pt] (.Tuple [a, b] k2 pt2) X.env = pure (some [x, y]) := by rfl)
    (hs : swapsWithSole [.Tuple [.Name x px, .Name y py] kt pt] (.Tuple [a, b] k2 pt2) pos.line X.env = pure false := by rfl) :
    DS X Γ (.Assign [.Tuple [.Name x px, .Name y py] kt pt] (.Tuple [a, b] k2 pt2) pos) (sMix [i, j] t) := by
  refine ⟨ps_imp (ps_par c.calm c.nd hi hj hij hx hy ha.pa hw hs) ?_⟩
  rintro E σ H ⟨ρ, G, R, at_, ok, h⟩
  refine ⟨ρ, G, _, at_, h, fun ss ρ' as vs G' H' hk hl a' s' pd => ?_⟩
  obtain ⟨v, u, rfl⟩ := two_of hl
  exact ⟨v, u, rfl, ok.nx _ _ _ _ (pd.sets [i, j] a' (fun m hm => by have := List.all_eq_true.mp hI m hm; simpa using this) rfl) s' hk⟩
theorem ds_mix3 {i j l : Nat} {x y z : Str} {c' : Expr} {t : TMs} {px py pz pt : Pos} {kt k2 pt2} (c : Cok k X Γ) (hi : X.N[i]? = some x) (hj : X.N[j]? = some y) (hl : X.N[l]? = some z) (hij : i ≠ j) (hil : i ≠ l) (hjl : j ≠ l)
    (hx : X.env.scope.names.lookup x = some .local) (hy : X.env.scope.names.lookup y = some .local) (hz : X.env.scope.names.lookup z = some .local) (ha : DM X Γ [a, b, c'] t) (hI : [i, j, l].all (fun m => !Γ.I.contains m) = true := by rfl)
    (hw : swappedStores [.Tuple [.Name x px, .Name y py, .Name z pz] kt pt] (.Tuple [a, b, c'] k2 pt2) X.env = pure (some [x, y, z]) := by rfl)
    (hs : swapsWithSole [.Tuple [.Name x px, .Name y py, .Name z pz] kt pt] (.Tuple [a, b, c'] k2 pt2) pos.line X.env = pure false := by rfl) :
    DS X Γ (.Assign [.Tuple [.Name x px, .Name y py, .Name z pz] kt pt] (.Tuple [a, b, c'] k2 pt2) pos) (sMix [i, j, l] t) := by
  refine ⟨ps_imp (ps_par3 c.calm c.nd hi hj hl hij hil hjl hx hy hz ha.pa hw hs) ?_⟩
  rintro E σ H ⟨ρ, G, R, at_, ok, h⟩
  refine ⟨ρ, G, _, at_, h, fun ss ρ' as vs G' H' hk hl a' s' pd => ?_⟩
  obtain ⟨v, u, w, rfl⟩ := three_of hl
  exact ⟨v, u, w, rfl, ok.nx _ _ _ _ (pd.sets [i, j, l] a' (fun m hm => by have := List.all_eq_true.mp hI m hm; simpa using this) rfl) s' hk⟩
theorem ds_mixT2 {i j : Nat} {x y : Str} {t : TMs} {px py pt pt2 : Pos} {kt : Nat} {k2 : Nat} (c : Cok k X Γ) (hi : X.N[i]? = some x) (hj : X.N[j]? = some y) (hx : Loc X.env.scope x) (hy : Loc X.env.scope y) (ha : DM X Γ [a, b] t) (hI : [i, j].all (fun m => !Γ.I.contains m) = true := by rfl)
    (hs : swapsWithSole [.Tuple [.Name x px, .Name y py] kt pt] (.Tuple [a, b] k2 pt2) pos.line X.env = pure false := by rfl) (hw : swappedStores [.Tuple [.Name x px, .Name y py] kt pt] (.Tuple [a, b] k2 pt2) X.env = pure none := by rfl)
    (h1 : (assignEach [.Tuple [.Name x px, .Name y py] kt pt] X.env).map (·.2) = [assign (.Tuple [.Name x px, .Name y py] kt pt) X.env] := by rfl)
    (hc1 : (assignEach [.Name x px, .Name y py] X.env).map (·.2) = assign (.Name x px) X.env :: (assignEach [.Name y py] X.env).map (·.2) := by rfl) (hc2 : (assignEach [.Name y py] X.env).map (·.2) = assign (.Name y py) X.env :: (assignEach [] X.env).map (·.2) := by rfl)
    (hl : (assignEach [.Name x px, .Name y py] X.env).length = 2 := by rfl) (hst : (assignEach [.Name x px, .Name y py] X.env).findIdx? (·.1) = none := by rfl)
    (hf1 : X.fn x = true ∨ X.env.scope.names.lookup x = some .local := by first | exact .inl rfl | exact .inr rfl | assumption) (hf2 : X.fn y = true ∨ X.env.scope.names.lookup y = some .local := by first | exact .inl rfl | exact .inr rfl | assumption) :
    DS X Γ (.Assign [.Tuple [.Name x px, .Name y py] kt pt] (.Tuple [a, b] k2 pt2) pos) (sMix [i, j] t) := by
  refine ⟨ps_imp (ps_asg (pe_tup ha.pa) (pg_tup c.calm (pgs_cons (pg_name (i := i) c.nd hi hx hf1) (pgs_cons (pg_name (i := j) c.nd hj hy hf2) pgs_nil hc2) hc1) hl hst) hs hw h1) ?_⟩
  rintro E σ H ⟨ρ, G, R, at_, ok, h⟩
  refine ⟨ρ, G, _, at_, h, fun ss ρ' as vs G' H' hk hl a' s' pd => ⟨line_le (by rw [hl]; simp), fun q hq => ?_⟩⟩
  obtain ⟨v, u, rfl⟩ := two_of hl
  obtain ⟨a2, _, _, _⟩ := (pd.sets [i, j] a' (fun m hm => by have := List.all_eq_true.mp hI m hm; simpa using this) rfl).fresh (o := .tup [v, u]) hq
  refine ⟨q, _, rfl, .inl (.inl upd_same), rfl, _, _, rfl, _, _, rfl, rfl, ?_⟩
  exact ok.nx _ _ _ _ a2 s' hk
theorem ds_mixT4 {i j l m : Nat} {x y z r : Str} {c' d' : Expr} {t : TMs} {px py pz pr pt pt2 : Pos} {kt : Nat} {k2 : Nat} (c : Cok k X Γ) (hi : X.N[i]? = some x) (hj : X.N[j]? = some y) (hk' : X.N[l]? = some z) (hm : X.N[m]? = some r) (hx : Loc X.env.scope x) (hy : Loc X.env.scope y) (hz : Loc X.env.scope z) (hr : Loc X.env.scope r) (ha : DM X Γ [a, b, c', d'] t) (hI : [i, j, l, m].all (fun m => !Γ.I.contains m) = true := by rfl)
    (hs : swapsWithSole [.Tuple [.Name x px, .Name y py, .Name z pz, .Name r pr] kt pt] (.Tuple [a, b, c', d'] k2 pt2) pos.line X.env = pure false := by rfl) (hw : swappedStores [.Tuple [.Name x px, .Name y py, .Name z pz, .Name r pr] kt pt] (.Tuple [a, b, c', d'] k2 pt2) X.env = pure none := by rfl)
    (h1 : (assignEach [.Tuple [.Name x px, .Name y py, .Name z pz, .Name r pr] kt pt] X.env).map (·.2) = [assign (.Tuple [.Name x px, .Name y py, .Name z pz, .Name r pr] kt pt) X.env] := by rfl)
    (hc1 : (assignEach [.Name x px, .Name y py, .Name z pz, .Name r pr] X.env).map (·.2) = assign (.Name x px) X.env :: (assignEach [.Name y py, .Name z pz, .Name r pr] X.env).map (·.2) := by rfl) (hc2 : (assignEach [.Name y py, .Name z pz, .Name r pr] X.env).map (·.2) = assign (.Name y py) X.env :: (assignEach [.Name z pz, .Name r pr] X.env).map (·.2) := by rfl)
    (hc3 : (assignEach [.Name z pz, .Name r pr] X.env).map (·.2) = assign (.Name z pz) X.env :: (assignEach [.Name r pr] X.env).map (·.2) := by rfl) (hc4 : (assignEach [.Name r pr] X.env).map (·.2) = assign (.Name r pr) X.env :: (assignEach [] X.env).map (·.2) := by rfl)
    (hl : (assignEach [.Name x px, .Name y py, .Name z pz, .Name r pr] X.env).length = 4 := by rfl) (hst : (assignEach [.Name x px, .Name y py, .Name z pz, .Name r pr] X.env).findIdx? (·.1) = none := by rfl)
    (hf1 : X.fn x = true ∨ X.env.scope.names.lookup x = some .local := by first | exact .inl rfl | exact .inr rfl | assumption) (hf2 : X.fn y = true ∨ X.env.scope.names.lookup y = some .local := by first | exact .inl rfl | exact .inr rfl | assumption)
    (hf3 : X.fn z = true ∨ X.env.scope.names.lookup z = some .local := by first | exact .inl rfl | exact .inr rfl | assumption) (hf4 : X.fn r = true ∨ X.env.scope.names.lookup r = some .local := by first | exact .inl rfl | exact .inr rfl | assumption) :
    DS X Γ (.Assign [.Tuple [.Name x px, .Name y py, .Name z pz, .Name r pr] kt pt] (.Tuple [a, b, c', d'] k2 pt2) pos) (sMix [i, j, l, m] t) := by
  refine ⟨ps_imp (ps_asg (pe_tup ha.pa) (pg_tup c.calm (pgs_cons (pg_name (i := i) c.nd hi hx hf1) (pgs_cons (pg_name (i := j) c.nd hj hy hf2) (pgs_cons (pg_name (i := l) c.nd hk' hz hf3) (pgs_cons (pg_name (i := m) c.nd hm hr hf4) pgs_nil hc4) hc3) hc2) hc1) hl hst) hs hw h1) ?_⟩
  rintro E σ H ⟨ρ, G, R, at_, ok, h⟩
  refine ⟨ρ, G, _, at_, h, fun ss ρ' as vs G' H' hk hl a' s' pd => ⟨line_le (by rw [hl]; simp), fun q hq => ?_⟩⟩
  obtain ⟨v, u, w, s, rfl⟩ := four_of hl
  obtain ⟨a2, _, _, _⟩ := (pd.sets [i, j, l, m] a' (fun m hm => by have := List.all_eq_true.mp hI m hm; simpa using this) rfl).fresh (o := .tup [v, u, w, s]) hq
  refine ⟨q, _, rfl, .inl (.inl upd_same), rfl, _, _, rfl, _, _, rfl, _, _, rfl, _, _, rfl, rfl, ?_⟩
  exact ok.nx _ _ _ _ a2 s' hk
end
end Dn
/-! Dn: order of data: <, <=, >, >=, sorted, min, max. -/
namespace PySem.W
open PySem PySem.Calls PyProof.Rows
section
variable {prog : Program} {w : World} {A : Around} {E : Value → Shared → Prop} {s : Shared}
theorem collect_tupleE {l : Addr} {vs : List Value} {Q : List Value → Shared → Prop} (hl : s.heap.IsTuple l vs.toArray)
    (h : Q vs { s with heap := (s.heap.push (seqObj "list" #[] 0)).update s.heap.objs.size (Obj.mapSeq (· ++ vs.toArray)) }) (hsz : vs.length ≤ sizeLine) :
    wpAny (model prog w) A (collect (.ref l)) Q E s := by
  obtain ⟨o, ho, hc, n, hd⟩ := id hl
  unfold collect
  refine wpAny_bind (wpAny_runValue (codeAny_builtin entry_proto_collect' ?_))
  show wpAny _ _ (do again (.builtin "list.__iadd__" ⟨[← newList [], .ref l], []⟩)) _ _ s
  refine wpAny_bind (wpAny_newList (wpAny_pure ⟨Code.quiet_builtin _ (by decide +kernel), codeAny_builtin entry_list_iadd' ?_⟩))
  show wpAny _ _ (Builtin.List.listExtendWith (.ref s.heap.objs.size) (.ref l) (.ref s.heap.objs.size)) _ _ { s with heap := s.heap.push (seqObj "list" #[] 0) }
  unfold Builtin.List.listExtendWith
  have ho' : (s.heap.push (seqObj "list" #[] 0)).get? l = some o := Heap.get?_push_of_some _ ho
  refine wpAny_bind (wpAny_typeOf (T := "tuple") ⟨o, ho', hc⟩ ?_)
  have ht : (Value.type "tuple" == Value.type "tuple") = true := by rfl
  rw [if_pos (by rw [ht]; simp)]
  refine wpAny_bind (listItems_at ho' hd ?_)
  refine wpAny_bind (listItems_at (xs := #[]) (n := 0) (Heap.get?_push_size _ rfl) rfl ?_)
  rw [if_neg (by simp)]
  refine wpAny_bind (listUpdate_at (xs := #[]) (n := 0) (Heap.get?_push_size _ rfl) rfl ?_ (Nat.zero_le _) (by show (#[] ++ vs.toArray).size ≤ sizeLine + 1; simp only [Array.size_append, List.size_toArray, List.length_nil]; omega))
  refine wpAny_pure ?_
  show wpAny (model prog w) A (do
      let o ← load s.heap.objs.size
      match o.data with
      | .seq xs _ => pure xs.toList
      | _ => unsupported "internal:collect") Q E { s with heap := (s.heap.push (seqObj "list" #[] 0)).update s.heap.objs.size (Obj.mapSeq (· ++ vs.toArray)) }
  refine wpAny_bind (wpAny_load (get?_update_seq (Heap.get?_push_size _ rfl) _) ?_)
  show wpAny _ _ (pure ((#[] : Array Value) ++ vs.toArray).toList) Q E _
  rw [show ((#[] : Array Value) ++ vs.toArray).toList = vs by simp]
  exact wpAny_pure h
theorem sorted_of_sortT {l : Addr} {vs : List Value} {kw : List (Str × Value)} {Q : Value → Shared → Prop} (hl : s.heap.IsTuple l vs.toArray) (hL : vs.length ≤ sizeLine) (ha1 : argsOk "sorted" ⟨[.ref l], kw⟩) (ha2 : ∀ x, argsOk "list.sort" ⟨[.ref x], kw⟩)
    (body : ∀ E' : Value → Shared → Prop, wpAny (model prog w) A.in1.in1 (Builtin.«list.sort» ⟨[.ref (s.heap.objs.size + 1)], kw⟩) (fun f s' => f = .done (.ret .none) ∧ Q (.ref (s.heap.objs.size + 1)) s') E' { s with heap := copyHeap s.heap vs }) :
    wpAny (model prog w) A (call (.builtin "sorted") [.ref l] kw) Q E s := by
  refine call_function_entry_kw kind_sorted plain_sorted entry_sorted ha1 ?_
  unfold Builtin.«sorted»
  refine wpAny_bind (m := checkCount "sorted" 1 1 _) (wpAny_pure ?_)
  refine wpAny_bind (collect_tupleE hl ?_ hL)
  refine wpAny_bind (wpAny_newList ?_ hL)
  have hsz : ((s.heap.push (seqObj "list" #[] 0)).update s.heap.objs.size (Obj.mapSeq (· ++ vs.toArray))).objs.size = s.heap.objs.size + 1 := by
    rw [Heap.size_update, size_push']
  show wpAny _ _ _ _ _ { s with heap := copyHeap s.heap vs }
  rw [hsz]
  refine wpAny_bind (wpAny_holding (wpAny_call_entry_kw slot_list_sort ⟨_, copyHeap_at s.heap vs, rfl⟩ entry_list_sort ?body (ha2 _)))
  case body =>
    show wpAny (model prog w) A.in1.in1 (Builtin.«list.sort» ⟨[.ref (s.heap.objs.size + 1)], kw⟩) _ _ _
    refine wpAny_mono (body _) (fun f s' hf => ?_) fun _ _ e => e
    obtain ⟨rfl, hq⟩ := hf
    exact ⟨_, rfl, wpAny_pure ⟨_, rfl, hq⟩⟩
variable {β : Type} {vs : List Value} {bs : List β} {enc : β → PyData} {R : Value → β → Prop}
theorem sorted_dataT {l : Addr} {Q : Value → Shared → Prop} (hl : s.heap.IsTuple l vs.toArray) (e : EachIs R vs bs) (er : EachIs (fun v b => ∃ as, Reads s.heap v (enc b) as) vs bs) (hal : AllAlike (bs.map enc)) (hk : Sortable (bs.map enc)) (hL : bs.length ≤ sizeLine)
    (hu : ∀ b, b ∈ bs → A.units + 2 + (enc b).depth < cLine) (h : ∀ out, out.length = bs.length → EachIs R out (bs.mergeSort (dataLe false enc)) → Q (.ref (s.heap.objs.size + 1)) { s with heap := sortedAll s.heap vs (List.toArray out) }) :
    wpAny (model prog w) A (call (.builtin "sorted") [.ref l]) Q E s := by
  have er' : EachIs (fun v b => ∃ as, Reads (sortingHeap (copyHeap s.heap vs) (s.heap.objs.size + 1) vs) v (enc b) as) vs bs := er.mono fun _ _ ⟨as, r⟩ => ⟨as, PyProof.Rows.Reads.keeps (fun _ _ => sorting_copy_old) r⟩
  have hL' : vs.length ≤ sizeLine := by rw [e.length]; exact hL
  refine sorted_of_sortT hl hL' (args_sorted1 _) (fun _ => args_list_sort _) fun _ => list_sort_vals (κ := dataKind (sortingHeap (copyHeap s.heap vs) (s.heap.objs.size + 1) vs) (bs.map enc)) (s := { s with heap := copyHeap s.heap vs }) (copyHeap_at s.heap vs)
    (SortsAt.data (s := { s with heap := sortingHeap (copyHeap s.heap vs) (s.heap.objs.size + 1) vs }) (each_map (R := fun v d => ∃ as, Reads (sortingHeap (copyHeap s.heap vs) (s.heap.objs.size + 1) vs) v d as) enc er') hal hk (bound_map hu)) hL' ⟨rfl, ?_⟩
  exact h _ (by rw [sortVals_length false rfl]; exact e.length) (sortVals_data false e er' hal)
end
end PySem.W
namespace Dn
open PySem PySem.Spec PyProof.Rows L2 PySem.W PySem.SeqAt
/-! ### <, <=, >, >= of data -/
def rOrd (K : PySem.W.Frag) (f : D → D → Bool) : R2 := fun x y H Q => ∃ d e, Dp K H x d ∧ Dp K H y e ∧ alike d e = true ∧ d ≠ PyData.none ∧ d.depth ≤ 60 ∧ Q (.bl (f d e)) H
section
variable {X : Cx}
theorem op_ord {op : CmpOp} {f : D → D → Bool} (hr : ∀ (da db : D) (A : Around) (s : Shared) (a b : Value) (as bs : List Addr), Reads s.heap a da as → Reads s.heap b db bs → alike da db = true → da ≠ PyData.none → A.units + min da.depth db.depth < cLine → RcOp op A s a b (f da db))
    (ho : ∀ a b, compareOp op a b = richCompare op a b) (hu : X.A.units + 65 < cLine) : OpR X (compareOp op) (rOrd X.K f) := by
  intro pins s σ H x y v u Q I rx ry ⟨d, e, hd, he, al, hn, hdp, q⟩
  obtain ⟨as, r1⟩ := Dp.reads I d x v hd rx
  obtain ⟨bs, r2⟩ := Dp.reads I e y u he ry
  rw [ho]
  exact hr d e X.A s v u as bs r1 r2 al hn (by omega) _ _ _ _ ⟨.bl (f d e), H, I, rfl, q⟩
end
def ordOk (d e : D) : Bool := alike d e && dep 20 d && dep 20 e && (match d with | .none => false | _ => true)
def ltG : Op2
  | .int i, .int j, Q => Q (.bool (decide (i < j)))
  | d, e, Q => ordOk d e = true ∧ Q (.bool (dataLt d e))
def leG : Op2
  | .int i, .int j, Q => Q (.bool (decide (i ≤ j)))
  | d, e, Q => ordOk d e = true ∧ Q (.bool (!dataLt e d))
def gtG : Op2
  | .int i, .int j, Q => Q (.bool (decide (i > j)))
  | d, e, Q => ordOk d e = true ∧ Q (.bool (dataLt e d))
def geG : Op2
  | .int i, .int j, Q => Q (.bool (decide (i ≥ j)))
  | d, e, Q => ordOk d e = true ∧ Q (.bool (!dataLt d e))
section
variable {X : Cx} {Γ : Gm} {k j n : Nat} {a b e : Expr} {es : List Expr} {pos : Pos}
theorem ord_dp {K : PySem.W.Frag} {G H : Hp} {x y : V} {d e : D} (s : Same G H) (hx : IsX K G H x d) (hy : IsX K G H y e) (h : ordOk d e = true) : Dp K H x d ∧ Dp K H y e ∧ alike d e = true ∧ d ≠ PyData.none ∧ d.depth ≤ 60 := by
  simp only [ordOk, Bool.and_eq_true] at h
  obtain ⟨⟨⟨h1, h2⟩, h3⟩, h4⟩ := h
  refine ⟨(hx.is s).dp (dep_depth _ _ h2).1, (hy.is s).dp (dep_depth _ _ h3).1, h1, fun z => (by subst z; cases h4), ?_⟩
  have := (dep_depth _ _ h2).2
  omega
theorem od_ltG (c : Cok k X Γ) : OpD X (compareOp .Lt) ltG := by
  refine OpD.or (op_lt.or (op_ord (f := dataLt) (fun da db A s a b as bs r1 r2 h1 h2 h3 => RcOp.of_lt (rcLt_alike da db A s a b as bs r1 r2 h1 h2 h3)) (fun _ _ => rfl) c.hu)) ?_
  rintro x y H Q ⟨G, d, e, k, s, hx, hy, h, fin⟩
  unfold ltG at h
  split at h
  · exact .inl ⟨_, _, hx.int, hy.int, fin _ _ G H h (.refl s) (.bl _)⟩
  · obtain ⟨q1, q2, q3, q4, q5⟩ := ord_dp s hx hy h.1
    exact .inr ⟨_, _, q1, q2, q3, q4, q5, fin _ _ G H h.2 (.refl s) (.bl _)⟩
theorem od_leG (c : Cok k X Γ) : OpD X (compareOp .LtE) leG := by
  refine OpD.or (op_le.or (op_ord (f := fun d e => !dataLt e d) rcLe_alike (fun _ _ => rfl) c.hu)) ?_
  rintro x y H Q ⟨G, d, e, k, s, hx, hy, h, fin⟩
  unfold leG at h
  split at h
  · exact .inl ⟨_, _, hx.int, hy.int, fin _ _ G H h (.refl s) (.bl _)⟩
  · obtain ⟨q1, q2, q3, q4, q5⟩ := ord_dp s hx hy h.1
    exact .inr ⟨_, _, q1, q2, q3, q4, q5, fin _ _ G H h.2 (.refl s) (.bl _)⟩
theorem od_gtG (c : Cok k X Γ) : OpD X (compareOp .Gt) gtG := by
  refine OpD.or (op_gt.or (op_ord (f := fun d e => dataLt e d) rcGt_alike (fun _ _ => rfl) c.hu)) ?_
  rintro x y H Q ⟨G, d, e, k, s, hx, hy, h, fin⟩
  unfold gtG at h
  split at h
  · exact .inl ⟨_, _, hx.int, hy.int, fin _ _ G H h (.refl s) (.bl _)⟩
  · obtain ⟨q1, q2, q3, q4, q5⟩ := ord_dp s hx hy h.1
    exact .inr ⟨_, _, q1, q2, q3, q4, q5, fin _ _ G H h.2 (.refl s) (.bl _)⟩
theorem od_geG (c : Cok k X Γ) : OpD X (compareOp .GtE) geG := by
  refine OpD.or (op_ge.or (op_ord (f := fun d e => !dataLt d e) rcGe_alike (fun _ _ => rfl) c.hu)) ?_
  rintro x y H Q ⟨G, d, e, k, s, hx, hy, h, fin⟩
  unfold geG at h
  split at h
  · exact .inl ⟨_, _, hx.int, hy.int, fin _ _ G H h (.refl s) (.bl _)⟩
  · obtain ⟨q1, q2, q3, q4, q5⟩ := ord_dp s hx hy h.1
    exact .inr ⟨_, _, q1, q2, q3, q4, q5, fin _ _ G H h.2 (.refl s) (.bl _)⟩
end
/-! ### sorted, min, max of data -/
def SortOk (xs : List D) : Prop := (∀ d, d ∈ xs → ∀ d', d' ∈ xs → alike d d' = true) ∧ Sortable xs ∧ ∀ d, d ∈ xs → dep 20 d = true
theorem dataLe_iff {β : Type} (enc : β → D) (a b : β) : dataLe false enc a b = true ↔ dataLt (enc b) (enc a) = false := by
  rw [dataLe_eq]
  show (!dataLt (enc b) (enc a)) = true ↔ _
  rw [Bool.not_eq_true']
theorem eachIs_of {us : List V} {its : List Value} (rv : Vals us its) : ∀ ds : List D, us.length = ds.length → EachIs (fun v (b : V × D) => RelV b.1 v) its (us.zip ds) := by
  induction rv with
  | nil => intro ds h; cases ds with | nil => exact .nil | cons _ _ => cases h
  | cons r t ih =>
    intro ds h
    cases ds with
    | nil => cases h
    | cons d ds => exact .cons r (ih ds (by simpa using h))
theorem eachIs_reads {X : Cx} {pins : List (Addr × Obj)} {σ : L2.St} {H : Hp} {s : Shared} (I : Inv X pins σ H s) {us : List V} {its : List Value} (rv : Vals us its) : ∀ {ds : List D}, DpAll X.K H us ds → EachIs (fun v (b : V × D) => ∃ as, Reads s.heap v b.2 as) its (us.zip ds) := by
  induction rv with
  | nil => intro ds h; cases h; exact .nil
  | cons r t ih =>
    intro ds h
    cases h with
    | cons h1 h2 => exact .cons (Dp.reads I _ _ _ h1 r) (ih h2)
theorem eachIs_vals {out : List Value} : ∀ {bs : List (V × D)}, EachIs (fun v (b : V × D) => RelV b.1 v) out bs → Vals (bs.map (·.1)) out
  | [], h => by cases h; exact .nil
  | b :: bs, h => by
    cases h with
    | cons h1 h2 => exact .cons h1 (eachIs_vals h2)
def rSortG (K : PySem.W.Frag) : List V → Hp → VK → Prop := fun vs H Q => ∃ (S : RZ.Src) (us : List V) (ds : List D), vs = [.ref S.a] ∧ RZ.SqS S.b K H S.a us ∧ DpAll K H us ds ∧ SortOk ds ∧
  ∀ (bs : List (V × D)) (p : Addr), bs.Perm (us.zip ds) → bs.Pairwise (fun x y => dataLt y.2 x.2 = false) → H p = none → Q (.ref p) (upd H p (.lst (bs.map (·.1))))
theorem dpall_len {K : PySem.W.Frag} {H : Hp} : ∀ {us : List V} {ds : List D}, DpAll K H us ds → us.length = ds.length
  | _, _, .nil => rfl
  | _, _, .cons _ t => congrArg Nat.succ (dpall_len t)
theorem cr_sortG {X : Cx} (hu : X.A.units + 65 < cLine) : CallR X (.builtin "sorted") (rSortG X.K) := by
  intro pins s σ H vs uvs Q I r ⟨S, us, ds, ev, hq, hd, ok, q⟩
  subst ev
  rw [Vals.ref1 r]
  have hl := dpall_len hd
  obtain ⟨its, rv, sq, hz⟩ : ∃ its : List Value, Vals us its ∧ RZ.SSeq S.b s.heap S.a its.toArray ∧ us.length ≤ sizeLine := by
    obtain ⟨b, a⟩ := S
    cases b with
    | true => obtain ⟨its, rv, p, hz⟩ := I.list hq; exact ⟨its, rv, p.isList, hz⟩
    | false => obtain ⟨its, rv, p, hz⟩ := I.tuple hq; exact ⟨its, rv, p, hz⟩
  have hmap : (us.zip ds).map (·.2) = ds := List.map_snd_zip (by omega)
  have go : ∀ out : List Value, out.length = (us.zip ds).length → EachIs (fun v (b : V × D) => RelV b.1 v) out ((us.zip ds).mergeSort (dataLe false (·.2))) → EP X pins σ Q (.ref (s.heap.objs.size + 1)) { s with heap := sortedAll s.heap its (List.toArray out) } := fun out h1 h2 => by
    obtain ⟨ep, he'⟩ := PyProof.Rows.sortedAll_at s.heap its out.toArray
    have hv := eachIs_vals h2
    have hp : ((us.zip ds).mergeSort (dataLe false (·.2))).Perm (us.zip ds) := List.mergeSort_perm _ _
    have hlen : (((us.zip ds).mergeSort (dataLe false (·.2))).map (·.1)).length ≤ sizeLine := by
      rw [List.length_map, hp.length_eq, List.length_zip]; omega
    refine ⟨.ref _, upd H (s.heap.objs.size + 1) (.lst (((us.zip ds).mergeSort (dataLe false (·.2))).map (·.1))), I.laid (t' := s.toks) (fun _ _ => PyProof.Rows.sortedAll_old) (Nat.le_succ _) ⟨hlen, out, ep, hv, he'⟩, rfl, q _ _ hp ?_ (I.hok.fresh (Nat.le_succ _))⟩
    exact (sort_pairwise (sortLe_total (listOrd itemOrd) false (fun b : V × D => keyToks b.2)) (us.zip ds)).imp fun {x y} h => (dataLe_iff (·.2) x y).mp h
  have hsz : (us.zip ds).length ≤ sizeLine := by rw [List.length_zip]; omega
  have hdep : ∀ b, b ∈ us.zip ds → X.A.units + 2 + b.2.depth < cLine := fun b hb => by
    have := (dep_depth _ _ (ok.2.2 b.2 (by rw [← hmap]; exact List.mem_map_of_mem hb))).2
    omega
  have hal : AllAlike ((us.zip ds).map (·.2)) := by rw [hmap]; exact ok.1
  have hso : Sortable ((us.zip ds).map (·.2)) := by rw [hmap]; exact ok.2.1
  obtain ⟨b, a⟩ := S
  cases b with
  | true => exact sorted_data sq (eachIs_of rv ds hl) (eachIs_reads I rv hd) hal hso hsz hdep go
  | false => exact sorted_dataT sq (eachIs_of rv ds hl) (eachIs_reads I rv hd) hal hso hsz hdep go

/-- sorted of a list, a tuple of data: a permutation, in order -/
def sortG : List D → (D → Prop) → Prop
  | xs, Q => SortOk xs ∧ ∀ ys : List D, ys.Perm xs → ys.Pairwise (fun a b => dataLt b a = false) → Q (.list ys)
def sortB : OpN
  | [.list xs], Q => sortA [.list xs] Q ∨ sortG xs Q
  | [.tuple xs], Q => sortG xs Q
  | ds, Q => sortA ds Q
def leastG (xs : List D) (Q : D → Prop) : Prop := xs ≠ [] ∧ AlikeAll xs ∧ (∀ d, d ∈ xs → dep 20 d = true) ∧ ∀ m, m ∈ xs → (∀ y, y ∈ xs → dataLt y m = false) → Q m
def mostG (xs : List D) (Q : D → Prop) : Prop := xs ≠ [] ∧ AlikeAll xs ∧ (∀ d, d ∈ xs → dep 20 d = true) ∧ ∀ m, m ∈ xs → (∀ y, y ∈ xs → dataLt m y = false) → Q m
def minB : OpN
  | [.list xs], Q => minD [.list xs] Q ∨ leastG xs Q
  | [.tuple xs], Q => minA [.tuple xs] Q ∨ leastG xs Q
  | ds, Q => minD ds Q
def maxB : OpN
  | [.list xs], Q => maxD [.list xs] Q ∨ mostG xs Q
  | [.tuple xs], Q => maxA [.tuple xs] Q ∨ mostG xs Q
  | ds, Q => maxD ds Q
theorem lt_total : TotalLe (dataLe false (fun d : D => d)) := sortLe_total (listOrd itemOrd) false fun d : D => keyToks d
theorem nlt_trans {a b c : D} (h1 : dataLt b a = false) (h2 : dataLt c b = false) : dataLt c a = false :=
  (dataLe_iff (fun d : D => d) a c).mp (lt_total.trans a b c ((dataLe_iff (fun d : D => d) a b).mpr h1) ((dataLe_iff (fun d : D => d) b c).mpr h2))
theorem nlt_total (a b : D) : dataLt b a = false ∨ dataLt a b = false := by
  rcases lt_total.total a b with h | h
  · exact .inl ((dataLe_iff (fun d : D => d) a b).mp h)
  · exact .inr ((dataLe_iff (fun d : D => d) b a).mp h)
theorem lt_asym {a b : D} (h : dataLt a b = true) : dataLt b a = false := by
  rcases nlt_total a b with q | q
  · exact q
  · rw [h] at q; cases q
theorem nlt_refl (a : D) : dataLt a a = false := by rcases nlt_total a a with h | h <;> exact h
theorem minD_spec : ∀ (xs : List D) (x : D), PySem.W.minD x xs ∈ x :: xs ∧ ∀ y ∈ x :: xs, dataLt y (PySem.W.minD x xs) = false
  | [], x => ⟨List.mem_cons_self, fun y hy => by rw [List.mem_singleton.mp hy]; exact nlt_refl x⟩
  | z :: xs, x => by
    have e : PySem.W.minD x (z :: xs) = PySem.W.minD (if dataLt z x then z else x) xs := rfl
    obtain ⟨h1, h2⟩ := minD_spec xs (if dataLt z x then z else x)
    rw [e]
    by_cases h : dataLt z x = true
    · rw [if_pos h] at h1 h2 ⊢
      refine ⟨List.mem_cons_of_mem _ h1, fun y hy => ?_⟩
      rcases List.mem_cons.mp hy with q | q
      · rw [q]
        exact nlt_trans (h2 z List.mem_cons_self) (lt_asym h)
      · exact h2 y q
    · rw [if_neg h] at h1 h2 ⊢
      have h' : dataLt z x = false := by cases q : dataLt z x with | true => exact absurd q h | false => rfl
      refine ⟨?_, fun y hy => ?_⟩
      · rcases List.mem_cons.mp h1 with q | q
        · rw [q]; exact List.mem_cons_self
        · exact List.mem_cons_of_mem _ (List.mem_cons_of_mem _ q)
      · rcases List.mem_cons.mp hy with q | q
        · rw [q]; exact h2 x List.mem_cons_self
        · rcases List.mem_cons.mp q with q | q
          · rw [q]; exact nlt_trans (h2 x List.mem_cons_self) h'
          · exact h2 y (List.mem_cons_of_mem _ q)
theorem maxD_spec : ∀ (xs : List D) (x : D), PySem.W.maxD x xs ∈ x :: xs ∧ ∀ y ∈ x :: xs, dataLt (PySem.W.maxD x xs) y = false
  | [], x => ⟨List.mem_cons_self, fun y hy => by rw [List.mem_singleton.mp hy]; exact nlt_refl x⟩
  | z :: xs, x => by
    have e : PySem.W.maxD x (z :: xs) = PySem.W.maxD (if dataLt x z then z else x) xs := rfl
    obtain ⟨h1, h2⟩ := maxD_spec xs (if dataLt x z then z else x)
    rw [e]
    by_cases h : dataLt x z = true
    · rw [if_pos h] at h1 h2 ⊢
      refine ⟨List.mem_cons_of_mem _ h1, fun y hy => ?_⟩
      rcases List.mem_cons.mp hy with q | q
      · rw [q]
        exact nlt_trans (lt_asym h) (h2 z List.mem_cons_self)
      · exact h2 y q
    · rw [if_neg h] at h1 h2 ⊢
      have h' : dataLt x z = false := by cases q : dataLt x z with | true => exact absurd q h | false => rfl
      refine ⟨?_, fun y hy => ?_⟩
      · rcases List.mem_cons.mp h1 with q | q
        · rw [q]; exact List.mem_cons_self
        · exact List.mem_cons_of_mem _ (List.mem_cons_of_mem _ q)
      · rcases List.mem_cons.mp hy with q | q
        · rw [q]; exact h2 x List.mem_cons_self
        · rcases List.mem_cons.mp q with q | q
          · rw [q]; exact nlt_trans h' (h2 x List.mem_cons_self)
          · exact h2 y (List.mem_cons_of_mem _ q)
/-- min, max: one of the items -/
def rLeast (K : PySem.W.Frag) (best : D → List D → D) : List V → Hp → VK → Prop := fun vs H Q => ∃ (S : RZ.Src) (us : List V) (x : D) (xs : List D), vs = [.ref S.a] ∧ RZ.SqS S.b K H S.a us ∧ DpAll K H us (x :: xs) ∧ AlikeAll (x :: xs) ∧ (∀ d, d ∈ x :: xs → dep 20 d = true) ∧
  ∀ (i : Nat) (v : V), us[i]? = some v → (x :: xs)[i]? = some (best x xs) → Q v H
theorem depthAll_le {n : Nat} : ∀ {xs : List D}, (∀ d, d ∈ xs → dep n d = true) → PyData.depthAll xs ≤ n
  | [], _ => by simp [PyData.depthAll]
  | x :: xs, h => by
    have h1 := (dep_depth _ _ (h x List.mem_cons_self)).2
    have h2 := depthAll_le fun d hd => h d (List.mem_cons_of_mem _ hd)
    rw [PyData.depthAll]
    omega
theorem dpall_reads_at {X : Cx} {pins : List (Addr × Obj)} {σ : L2.St} {H : Hp} {s : Shared} (I : Inv X pins σ H s) {us : List V} {its : List Value} (rv : Vals us its) : ∀ {ds : List D} {i : Nat} {u : Value}, DpAll X.K H us ds → its[i]? = some u → ∃ v d as, us[i]? = some v ∧ ds[i]? = some d ∧ RelV v u ∧ Reads s.heap u d as := by
  induction rv with
  | nil => intro ds i u h e; simp at e
  | cons r t ih =>
    intro ds i u h e
    cases h with
    | cons h1 h2 =>
      cases i with
      | zero =>
        simp at e
        subst e
        obtain ⟨as, q⟩ := Dp.reads I _ _ _ h1 r
        exact ⟨_, _, as, rfl, rfl, r, q⟩
      | succ i =>
        obtain ⟨v, d, as, q1, q2, q3, q4⟩ := ih h2 (by simpa using e)
        exact ⟨v, d, as, by simpa using q1, by simpa using q2, q3, q4⟩
theorem cr_leastG {X : Cx} (hc : X.calm = true) (hu : X.A.units + 65 < cLine) : CallR X (.builtin "min") (rLeast X.K PySem.W.minD) := by
  intro pins s σ H vs uvs Q I r ⟨S, us, x, xs, ev, hq, hd, al, hdep, q⟩
  subst ev
  rw [Vals.ref1 r]
  have hdp := depthAll_le hdep
  obtain ⟨b, a⟩ := S
  have fin : ∀ {its : List Value}, Vals us its → (∀ (as : List Addr) u, u ∈ its → True) → ∀ (i : Nat) v h' tk bs, its.toArray[i]? = some v → Reads h' v (PySem.W.minD x xs) bs → (∀ b o, s.heap.get? b = some o → h'.get? b = some o) → EP X pins σ Q v { s with heap := h', toks := tk } := fun rv _ i v h' tk bs e1 r1 hk => by
    obtain ⟨w, d, as, q1, q2, q3, q4⟩ := dpall_reads_at I rv hd (by simpa using e1)
    have e : d = PySem.W.minD x xs := by
      refine alike_unique d _ v as bs (al.1 d (List.mem_of_getElem? q2) _ (minD_spec xs x).1) (PyProof.Rows.Reads.keeps hk q4) r1
    rw [e] at q2
    exact ⟨w, H, I.kept hk, q3, q i w q1 q2⟩
  cases b with
  | true =>
    obtain ⟨its, rv, p, hz⟩ := I.list hq
    obtain ⟨as, hr⟩ := Dp.readsAll I _ _ _ hd rv
    exact min_list_data (I.ok.hd hc) p.isList hr al (by omega) (fin rv fun _ _ _ => True.intro)
  | false =>
    obtain ⟨its, rv, p, hz⟩ := I.tuple hq
    obtain ⟨as, hr⟩ := Dp.readsAll I _ _ _ hd rv
    exact min_tuple_data (I.ok.hd hc) p hr al (by omega) (fin rv fun _ _ _ => True.intro)
theorem cr_mostG {X : Cx} (hc : X.calm = true) (hu : X.A.units + 65 < cLine) : CallR X (.builtin "max") (rLeast X.K PySem.W.maxD) := by
  intro pins s σ H vs uvs Q I r ⟨S, us, x, xs, ev, hq, hd, al, hdep, q⟩
  subst ev
  rw [Vals.ref1 r]
  have hdp := depthAll_le hdep
  obtain ⟨b, a⟩ := S
  have fin : ∀ {its : List Value}, Vals us its → (∀ (as : List Addr) u, u ∈ its → True) → ∀ (i : Nat) v h' tk bs, its.toArray[i]? = some v → Reads h' v (PySem.W.maxD x xs) bs → (∀ b o, s.heap.get? b = some o → h'.get? b = some o) → EP X pins σ Q v { s with heap := h', toks := tk } := fun rv _ i v h' tk bs e1 r1 hk => by
    obtain ⟨w, d, as, q1, q2, q3, q4⟩ := dpall_reads_at I rv hd (by simpa using e1)
    have e : d = PySem.W.maxD x xs := by
      refine alike_unique d _ v as bs (al.1 d (List.mem_of_getElem? q2) _ (maxD_spec xs x).1) (PyProof.Rows.Reads.keeps hk q4) r1
    rw [e] at q2
    exact ⟨w, H, I.kept hk, q3, q i w q1 q2⟩
  cases b with
  | true =>
    obtain ⟨its, rv, p, hz⟩ := I.list hq
    obtain ⟨as, hr⟩ := Dp.readsAll I _ _ _ hd rv
    exact max_list_data (I.ok.hd hc) p.isList hr al (by omega) (fin rv fun _ _ _ => True.intro)
  | false =>
    obtain ⟨its, rv, p, hz⟩ := I.tuple hq
    obtain ⟨as, hr⟩ := Dp.readsAll I _ _ _ hd rv
    exact max_tuple_data (I.ok.hd hc) p hr al (by omega) (fin rv fun _ _ _ => True.intro)

theorem src_ofX {K : PySem.W.Frag} {G H : Hp} {v : V} {d : D} {xs : List D} (s : Same G H) (h : IsX K G H v d) (e : seqO d = some xs) : ∃ (S : RZ.Src) (us : List V), v = .ref S.a ∧ RZ.SqS S.b K H S.a us ∧ IsAll K G us xs := by
  cases d with
  | list ds =>
    cases e
    obtain ⟨p, us, rfl, h1, h2⟩ := h.list s
    exact ⟨⟨true, p⟩, us, rfl, .of h1, h2⟩
  | tuple ds =>
    cases e
    obtain ⟨p, us, rfl, h1, h2⟩ := h.tup
    exact ⟨⟨false, p⟩, us, rfl, Same.sqt s h1, h2⟩
  | _ => cases e
theorem canLayAll_of {n : Nat} : ∀ {xs : List D}, (∀ d, d ∈ xs → dep n d = true) → PyData.canLayAll0 xs = true
  | [], _ => by simp [PyData.canLayAll0]
  | x :: xs, h => by
    have h1 := (dep_depth _ _ (h x List.mem_cons_self)).1
    have h2 := canLayAll_of fun d hd => h d (List.mem_cons_of_mem _ hd)
    rw [PyData.canLayAll0, h1, h2]; rfl
theorem isAll_zip {K : PySem.W.Frag} {G : Hp} : ∀ {us : List V} {ds : List D}, IsAll K G us ds → ∀ p ∈ us.zip ds, Is K G p.1 p.2
  | _, _, .nil => fun p hp => nomatch hp
  | _, _, .cons h t => fun p hp => by
    rcases List.mem_cons.mp hp with e | e
    · subst e; exact h
    · exact isAll_zip t p e
theorem isAll_unzip {K : PySem.W.Frag} {G : Hp} : ∀ {bs : List (V × D)}, (∀ p ∈ bs, Is K G p.1 p.2) → IsAll K G (bs.map (·.1)) (bs.map (·.2))
  | [], _ => .nil
  | b :: bs, h => .cons (h b List.mem_cons_self) (isAll_unzip fun p hp => h p (List.mem_cons_of_mem _ hp))
section
variable {X : Cx} {Γ : Gm} {k j n : Nat} {a b e : Expr} {es : List Expr} {pos : Pos}
theorem cd_sortG (c : Cok k X Γ) : CallD X (.builtin "sorted") fun ds Q => ∃ d xs, ds = [d] ∧ seqO d = some xs ∧ sortG xs Q := by
  refine CallD.of (cr_sortG c.hu) ?_
  rintro vs H Q ⟨G, ds, k, s, hx, ⟨d, xs, rfl, e, ok, h⟩, fin⟩
  obtain ⟨v, rfl, hv⟩ := isxs_1 hx
  obtain ⟨S, us, rfl, hq, hi⟩ := src_ofX s hv e
  have hl := hi.length
  have hmap : (us.zip xs).map (·.2) = xs := List.map_snd_zip (by omega)
  refine ⟨S, us, xs, rfl, hq, (hi.mono s).dp (canLayAll_of ok.2.2), ok, fun bs p h1 h2 hp => ?_⟩
  have g := Grow.laid (o := .lst (bs.map (·.1))) s hp
  refine fin _ _ _ _ (h (bs.map (·.2)) ?_ (List.pairwise_map.mpr h2)) g (.lst upd_same ((isAll_unzip fun p hp => isAll_zip hi p (h1.mem_iff.mp hp)).mono g.gg))
  have := h1.map (·.2)
  rw [hmap] at this
  exact this
theorem cd_sortB (c : Cok k X Γ) : CallD X (.builtin "sorted") sortB := by
  intro pins s σ H vs us Q I r ⟨G, ds, k, sm, hx, h, fin⟩
  unfold sortB at h
  split at h
  · rcases h with h | h
    · exact cd_sortA c pins s σ H vs us Q I r ⟨G, _, _, sm, hx, h, fin⟩
    · exact cd_sortG c pins s σ H vs us Q I r ⟨G, _, _, sm, hx, ⟨_, _, rfl, rfl, h⟩, fin⟩
  · exact cd_sortG c pins s σ H vs us Q I r ⟨G, _, _, sm, hx, ⟨_, _, rfl, rfl, h⟩, fin⟩
  · exact cd_sortA c pins s σ H vs us Q I r ⟨G, _, _, sm, hx, h, fin⟩
theorem cd_leastG (c : Cok k X Γ) : CallD X (.builtin "min") fun ds Q => ∃ d xs, ds = [d] ∧ seqO d = some xs ∧ leastG xs Q := by
  refine CallD.of (cr_leastG c.calm c.hu) ?_
  rintro vs H Q ⟨G, ds, k, s, hx, ⟨d, xs, rfl, e, hne, al, hdep, h⟩, fin⟩
  obtain ⟨v, rfl, hv⟩ := isxs_1 hx
  obtain ⟨S, us, rfl, hq, hi⟩ := src_ofX s hv e
  cases xs with
  | nil => exact absurd rfl hne
  | cons x xs =>
    refine ⟨S, us, x, xs, rfl, hq, (hi.mono s).dp (canLayAll_of hdep), al, hdep, fun i v e1 e2 => ?_⟩
    obtain ⟨d', q1, q2⟩ := hi.get e1
    rw [e2] at q1
    cases q1
    obtain ⟨m1, m2⟩ := minD_spec xs x
    exact fin _ _ G H (h _ m1 m2) (.refl s) q2
theorem cd_mostG (c : Cok k X Γ) : CallD X (.builtin "max") fun ds Q => ∃ d xs, ds = [d] ∧ seqO d = some xs ∧ mostG xs Q := by
  refine CallD.of (cr_mostG c.calm c.hu) ?_
  rintro vs H Q ⟨G, ds, k, s, hx, ⟨d, xs, rfl, e, hne, al, hdep, h⟩, fin⟩
  obtain ⟨v, rfl, hv⟩ := isxs_1 hx
  obtain ⟨S, us, rfl, hq, hi⟩ := src_ofX s hv e
  cases xs with
  | nil => exact absurd rfl hne
  | cons x xs =>
    refine ⟨S, us, x, xs, rfl, hq, (hi.mono s).dp (canLayAll_of hdep), al, hdep, fun i v e1 e2 => ?_⟩
    obtain ⟨d', q1, q2⟩ := hi.get e1
    rw [e2] at q1
    cases q1
    obtain ⟨m1, m2⟩ := maxD_spec xs x
    exact fin _ _ G H (h _ m1 m2) (.refl s) q2
theorem cd_minB (c : Cok k X Γ) : CallD X (.builtin "min") minB := by
  intro pins s σ H vs us Q I r ⟨G, ds, k, sm, hx, h, fin⟩
  unfold minB at h
  split at h
  · rcases h with h | h
    · exact cd_min c pins s σ H vs us Q I r ⟨G, _, _, sm, hx, h, fin⟩
    · exact cd_leastG c pins s σ H vs us Q I r ⟨G, _, _, sm, hx, ⟨_, _, rfl, rfl, h⟩, fin⟩
  · rcases h with h | h
    · exact cd_minA c pins s σ H vs us Q I r ⟨G, _, _, sm, hx, h, fin⟩
    · exact cd_leastG c pins s σ H vs us Q I r ⟨G, _, _, sm, hx, ⟨_, _, rfl, rfl, h⟩, fin⟩
  · exact cd_min c pins s σ H vs us Q I r ⟨G, _, _, sm, hx, h, fin⟩
theorem cd_maxB (c : Cok k X Γ) : CallD X (.builtin "max") maxB := by
  intro pins s σ H vs us Q I r ⟨G, ds, k, sm, hx, h, fin⟩
  unfold maxB at h
  split at h
  · rcases h with h | h
    · exact cd_max c pins s σ H vs us Q I r ⟨G, _, _, sm, hx, h, fin⟩
    · exact cd_mostG c pins s σ H vs us Q I r ⟨G, _, _, sm, hx, ⟨_, _, rfl, rfl, h⟩, fin⟩
  · rcases h with h | h
    · exact cd_maxA c pins s σ H vs us Q I r ⟨G, _, _, sm, hx, h, fin⟩
    · exact cd_mostG c pins s σ H vs us Q I r ⟨G, _, _, sm, hx, ⟨_, _, rfl, rfl, h⟩, fin⟩
  · exact cd_max c pins s σ H vs us Q I r ⟨G, _, _, sm, hx, h, fin⟩
end
end Dn
/-! Dn: numbers and draws: what all laws share. -/
namespace Dn
open PySem PySem.Spec PyProof.Rows L2
/-! ### fractions -/
def Bd (n : Nat) (q : Rat) : Prop := q.num.natAbs < 2 ^ n ∧ q.den < 2 ^ n
theorem Bd.mono {m n : Nat} {q : Rat} (h : Bd m q) (hn : m ≤ n) : Bd n q :=
  have e := Nat.pow_le_pow_right (show 0 < 2 by decide) hn
  ⟨Nat.lt_of_lt_of_le h.1 e, Nat.lt_of_lt_of_le h.2 e⟩
theorem bd_divInt {a : Nat} {n d : Int} (h : d ≠ 0) (hn : n.natAbs < 2 ^ a) (hd : d.natAbs < 2 ^ a) : Bd a (Rat.divInt n d) := by
  refine ⟨?_, ?_⟩
  · rw [Rat.num_divInt n d]
    have e : (d.sign * n / (d.gcd n : Int)).natAbs ≤ (d.sign * n).natAbs := by
      rw [Int.natAbs_ediv_of_dvd]
      · exact Nat.div_le_self _ _
      · exact Int.dvd_mul_of_dvd_right (Int.gcd_dvd_right ..)
    have e2 : (d.sign * n).natAbs = n.natAbs := by
      rw [Int.natAbs_mul, Int.natAbs_sign_of_ne_zero h, Nat.one_mul]
    omega
  · rw [Rat.den_divInt, if_neg h]
    exact Nat.lt_of_le_of_lt (Nat.div_le_self _ _) hd
theorem den_ne (x : Rat) : (x.den : Int) ≠ 0 := by have := x.den_nz; omega
theorem add_eq (x y : Rat) : x + y = Rat.divInt (x.num * y.den + y.num * x.den) (x.den * y.den) := by
  rw [← Rat.divInt_add_divInt _ _ (den_ne x) (den_ne y), Rat.num_divInt_den, Rat.num_divInt_den]
theorem sub_eq (x y : Rat) : x - y = Rat.divInt (x.num * y.den - y.num * x.den) (x.den * y.den) := by
  rw [← Rat.divInt_sub_divInt _ _ (den_ne x) (den_ne y), Rat.num_divInt_den, Rat.num_divInt_den]
theorem mul_eq (x y : Rat) : x * y = Rat.divInt (x.num * y.num) (x.den * y.den) := by
  rw [← Rat.divInt_mul_divInt, Rat.num_divInt_den, Rat.num_divInt_den]
theorem div_eq (x y : Rat) : x / y = Rat.divInt (x.num * y.den) (x.den * y.num) := by
  rw [Rat.div_def, Rat.inv_def, ← Rat.divInt_mul_divInt, Rat.num_divInt_den]
theorem pow_mul_lt {a b : Nat} {i j : Nat} (h : i < 2 ^ a) (k : j < 2 ^ b) : i * j < 2 ^ (a + b) := by
  rw [Nat.pow_add]
  exact Nat.mul_lt_mul'' h k
theorem nat_mul_lt {a b : Nat} {i j : Int} (h : i.natAbs < 2 ^ a) (k : j.natAbs < 2 ^ b) : (i * j).natAbs < 2 ^ (a + b) := by
  rw [Int.natAbs_mul]
  exact pow_mul_lt h k
theorem nat_add_lt {a : Nat} {i j : Int} (h : i.natAbs < 2 ^ a) (k : j.natAbs < 2 ^ a) : (i + j).natAbs < 2 ^ (a + 1) := by
  have := Int.natAbs_add_le i j
  rw [Nat.pow_succ]
  omega
theorem nat_sub_lt {a : Nat} {i j : Int} (h : i.natAbs < 2 ^ a) (k : j.natAbs < 2 ^ a) : (i - j).natAbs < 2 ^ (a + 1) := by
  have := Int.natAbs_sub_le i j
  rw [Nat.pow_succ]
  omega
theorem Bd.den {n : Nat} {q : Rat} (h : Bd n q) : (q.den : Int).natAbs < 2 ^ n := by rw [Int.natAbs_natCast]; exact h.2
theorem den_mul_ne (x y : Rat) : (x.den : Int) * y.den ≠ 0 := Int.mul_ne_zero (den_ne x) (den_ne y)
theorem lt_pow_mono {a b : Nat} {i : Nat} (h : i < 2 ^ a) (hab : a ≤ b) : i < 2 ^ b := Nat.lt_of_lt_of_le h (Nat.pow_le_pow_right (by decide) hab)
theorem bd_add {a b : Nat} {x y : Rat} (h : Bd a x) (k : Bd b y) : Bd (a + b + 1) (x + y) := by
  rw [add_eq]
  refine bd_divInt (den_mul_ne x y) (nat_add_lt (nat_mul_lt h.1 k.den) ?_) (lt_pow_mono (nat_mul_lt h.den k.den) (by omega))
  rw [Nat.add_comm a b]
  exact nat_mul_lt k.1 h.den
theorem bd_mul {a b : Nat} {x y : Rat} (h : Bd a x) (k : Bd b y) : Bd (a + b) (x * y) := by
  rw [mul_eq]
  exact bd_divInt (den_mul_ne x y) (nat_mul_lt h.1 k.1) (nat_mul_lt h.den k.den)
theorem bd_neg {a : Nat} {x : Rat} (h : Bd a x) : Bd a (-x) := by
  refine ⟨?_, ?_⟩
  · rw [Rat.neg_num, Int.natAbs_neg]; exact h.1
  · rw [Rat.neg_den]; exact h.2
def encQ (q : Rat) : D := .tuple [.int q.num, .int q.den]
theorem dep_encQ (n : Nat) (q : Rat) : dep (n + 1) (encQ q) = true := by cases n <;> rfl
theorem eqv_encQ (p q : Rat) : PyData.eqv (encQ p) (encQ q) = decide (p = q) := by
  have e : PyData.eqv (encQ p) (encQ q) = ((p.num == q.num) && (((p.den : Int) == (q.den : Int)) && true)) := by simp only [encQ, PyData.eqv, PyData.eqvAll]
  rw [e]
  by_cases h : p = q
  · subst h; simp
  · rw [decide_eq_false h]
    by_cases h1 : p.num = q.num
    · by_cases h2 : p.den = q.den
      · exact absurd (Rat.ext h1 h2) h
      · have : ((p.den : Int) == (q.den : Int)) = false := beq_eq_false_iff_ne.mpr (by omega)
        rw [this, Bool.false_and, Bool.and_false]
    · rw [beq_eq_false_iff_ne.mpr h1, Bool.false_and]
/-! ### contracts -/
def oI : Option Int → D
  | none => .none
  | some i => .int i
def geO (lo : Option Int) (i : Int) : Bool := match lo with
  | none => true
  | some l => decide (l ≤ i)
def leO (hi : Option Int) (i : Int) : Bool := match hi with
  | none => true
  | some l => decide (i ≤ l)
def isInt (v : D) (lo hi : Option Int) : Bool := match v with
  | .int i => geO lo i && leO hi i
  | _ => false
theorem isInt_int (i : Int) (lo hi : Option Int) : isInt (.int i) lo hi = (geO lo i && leO hi i) := rfl
theorem geO_some (l i : Int) : geO (some l) i = decide (l ≤ i) := rfl
theorem leO_some (l i : Int) : leO (some l) i = decide (i ≤ l) := rfl
theorem geO_none (i : Int) : geO none i = true := rfl
theorem leO_none (i : Int) : leO none i = true := rfl
def c_is_integer : DC := fun ds Q _ => ∃ v lo hi, ds = [v, oI lo, oI hi] ∧ Q (.bool (isInt v lo hi))
theorem len_is_integer : ∀ ds kq ke, c_is_integer ds kq ke → ds.length = 3 := by rintro _ _ _ ⟨v, lo, hi, rfl, _⟩; rfl
def c_common_divisor : DC := fun ds Q _ => ∃ a b : Int, ds = [.int a, .int b] ∧ Q (.int (a.gcd b : Nat))
theorem len_common_divisor : ∀ ds kq ke, c_common_divisor ds kq ke → ds.length = 2 := by rintro _ _ _ ⟨a, b, rfl, _⟩; rfl
def c_power : DC := fun ds Q _ => ∃ (b : Int) (e : Nat), ds = [.int b, .int e] ∧ b.natAbs < 2 ^ 8 ∧ e ≤ 64 ∧ Q (.int (b ^ e))
theorem len_power : ∀ ds kq ke, c_power ds kq ke → ds.length = 2 := by rintro _ _ _ ⟨a, b, rfl, _⟩; rfl
def c_fraction (C : Addr) : DC := fun ds Q E => ∃ n d : Int, ds = [.int n, .int d] ∧ n.natAbs < 2 ^ 3000 ∧ d.natAbs < 2 ^ 3000 ∧ (d = 0 → E (.plain C)) ∧ (d ≠ 0 → Q (encQ (Rat.divInt n d)))
theorem len_fraction {C : Addr} : ∀ ds kq ke, c_fraction C ds kq ke → ds.length = 2 := by rintro _ _ _ ⟨a, b, rfl, _⟩; rfl
def c_whole : DC := fun ds Q _ => ∃ n : Int, ds = [.int n] ∧ Q (.tuple [.int n, .int 1])
theorem len_whole : ∀ ds kq ke, c_whole ds kq ke → ds.length = 1 := by rintro _ _ _ ⟨a, rfl, _⟩; rfl
def isFr2 (x y : D) : Bool := match x, y with
  | .int a, .int b => decide (1 ≤ b) && (((a.gcd b : Nat) : Int) == 1)
  | _, _ => false
def isFr (v : D) : Bool := match v with
  | .tuple [x, y] => isFr2 x y
  | _ => false
def c_is_fraction : DC := fun ds Q _ => ∃ v, ds = [v] ∧ Q (.bool (isFr v))
theorem len_is_fraction : ∀ ds kq ke, c_is_fraction ds kq ke → ds.length = 1 := by rintro _ _ _ ⟨a, rfl, _⟩; rfl
def c2 (g : Rat → Rat → (D → Prop) → Prop) : DC := fun ds Q _ => ∃ x y, ds = [encQ x, encQ y] ∧ Bd 1000 x ∧ Bd 1000 y ∧ g x y Q
theorem len_c2 {g : Rat → Rat → (D → Prop) → Prop} : ∀ ds kq ke, c2 g ds kq ke → ds.length = 2 := by rintro _ _ _ ⟨x, y, rfl, _⟩; rfl
abbrev c_plus : DC := c2 fun x y Q => Q (encQ (x + y))
abbrev c_minus : DC := c2 fun x y Q => Q (encQ (x - y))
abbrev c_times : DC := c2 fun x y Q => Q (encQ (x * y))
abbrev c_is_less : DC := c2 fun x y Q => Q (.bool (decide (x < y)))
abbrev len_plus := @len_c2 fun x y Q => Q (encQ (x + y))
abbrev len_minus := @len_c2 fun x y Q => Q (encQ (x - y))
abbrev len_times := @len_c2 fun x y Q => Q (encQ (x * y))
abbrev len_is_less := @len_c2 fun x y Q => Q (.bool (decide (x < y)))
def c_over (C : Addr) : DC := fun ds Q E => ∃ x y, ds = [encQ x, encQ y] ∧ Bd 1000 x ∧ Bd 1000 y ∧ (y = 0 → E (.plain C)) ∧ (y ≠ 0 → Q (encQ (x / y)))
theorem len_over {C : Addr} : ∀ ds kq ke, c_over C ds kq ke → ds.length = 2 := by rintro _ _ _ ⟨x, y, rfl, _⟩; rfl
def c1 (g : Rat → (D → Prop) → Prop) : DC := fun ds Q _ => ∃ x, ds = [encQ x] ∧ Bd 1000 x ∧ g x Q
theorem len_c1 {g : Rat → (D → Prop) → Prop} : ∀ ds kq ke, c1 g ds kq ke → ds.length = 1 := by rintro _ _ _ ⟨x, rfl, _⟩; rfl
abbrev c_negative : DC := c1 fun x Q => Q (encQ (-x))
abbrev c_floor_of : DC := c1 fun x Q => Q (.int x.floor)
abbrev c_rounded_up : DC := c1 fun x Q => Q (.int x.ceil)
abbrev c_nearest : DC := c1 fun x Q => Q (.int (x + 1 / 2).floor)
abbrev len_negative := @len_c1 fun x Q => Q (encQ (-x))
abbrev len_floor_of := @len_c1 fun x Q => Q (.int x.floor)
abbrev len_rounded_up := @len_c1 fun x Q => Q (.int x.ceil)
abbrev len_nearest := @len_c1 fun x Q => Q (.int (x + 1 / 2).floor)
def encL (b : Bool) (qs : List Rat) : D := if b then .list (qs.map encQ) else .tuple (qs.map encQ)
def c_sum_of : DC := fun ds Q _ => ∃ b qs, ds = [encL b qs] ∧ qs.length ≤ 6 ∧ (∀ q ∈ qs, Bd 41 q) ∧ Q (encQ (qs.foldl (· + ·) 0))
theorem len_sum_of : ∀ ds kq ke, c_sum_of ds kq ke → ds.length = 1 := by rintro _ _ _ ⟨b, x, rfl, _⟩; rfl
def c_least_of : DC := fun ds Q _ => ∃ qs : List Rat, ds = [.list (qs.map encQ)] ∧ qs ≠ [] ∧ qs.length ≤ 6 ∧ (∀ q ∈ qs, Bd 41 q) ∧ ∀ m, m ∈ qs → (∀ q ∈ qs, m ≤ q) → Q (encQ m)
theorem len_least_of : ∀ ds kq ke, c_least_of ds kq ke → ds.length = 1 := by rintro _ _ _ ⟨x, rfl, _⟩; rfl
def c_greatest_of : DC := fun ds Q _ => ∃ qs : List Rat, ds = [.list (qs.map encQ)] ∧ qs ≠ [] ∧ qs.length ≤ 6 ∧ (∀ q ∈ qs, Bd 41 q) ∧ ∀ m, m ∈ qs → (∀ q ∈ qs, q ≤ m) → Q (encQ m)
theorem len_greatest_of : ∀ ds kq ke, c_greatest_of ds kq ke → ds.length = 1 := by rintro _ _ _ ⟨x, rfl, _⟩; rfl
theorem fmod_lt (x y : Int) (h : y ≠ 0) : (x.fmod y).natAbs < y.natAbs := by
  rw [Int.fmod_eq_emod]
  have h1 := Int.emod_nonneg x h
  have h2 := Int.emod_lt x h
  by_cases hc : 0 ≤ y ∨ y ∣ x
  · rw [if_pos hc]; omega
  · rw [if_neg hc]
    have h3 : ¬ y ∣ x := fun z => hc (Or.inr z)
    have h4 : x % y ≠ 0 := fun z => h3 (Int.dvd_of_emod_eq_zero z)
    omega
theorem pow_bd {b : Int} (h : b.natAbs < 2 ^ 8) (i : Nat) : (b ^ i).natAbs < 2 ^ (8 * i + 1) := by
  rw [Int.natAbs_pow, Nat.pow_succ, Nat.pow_mul]
  have := Nat.pow_le_pow_left (Nat.le_of_lt h) i
  have := Nat.pow_pos (n := i) (show 0 < 2 ^ 8 by decide)
  omega
theorem pow_cm {b : Int} (h : b.natAbs < 2 ^ 8) {i j : Nat} (hi : i ≤ 64) (hj : j ≤ 64) : CM (b ^ i) (b ^ j) := .inl ⟨_, _, pow_bd h i, pow_bd h j, by omega⟩
theorem fmod_gcd (x y : Int) : y.gcd (x.fmod y) = x.gcd y := by
  rw [Int.fmod_def, Int.gcd_comm x y, Int.sub_eq_add_neg, ← Int.mul_neg]
  exact Int.gcd_add_mul_left_right ..
theorem num_frac (n d : Int) (h : d < 0) : (Rat.divInt n d).num = n.fdiv (-(n.gcd d : Nat)) := by
  have h1 : (-(n.gcd d : Nat) : Int) ∣ n := Int.neg_dvd.mpr (Int.gcd_dvd_left ..)
  rw [Rat.num_divInt, Int.fdiv_eq_ediv_of_dvd h1, Int.sign_eq_neg_one_of_neg h, Int.gcd_comm d n, Int.ediv_neg, Int.neg_one_mul, Int.neg_ediv_of_dvd (Int.gcd_dvd_left ..)]
theorem num_frac' (n d : Int) (h : 0 < d) : (Rat.divInt n d).num = n.fdiv (n.gcd d : Nat) := by
  rw [Rat.num_divInt, Int.fdiv_eq_ediv_of_dvd (Int.gcd_dvd_left ..), Int.sign_eq_one_of_pos h, Int.gcd_comm d n, Int.one_mul]
theorem den_frac (n d : Int) (h : d < 0) : ((Rat.divInt n d).den : Int) = d.fdiv (-(n.gcd d : Nat)) := by
  have h1 : (-(n.gcd d : Nat) : Int) ∣ d := Int.neg_dvd.mpr (Int.gcd_dvd_right ..)
  rw [Rat.den_divInt, if_neg (by omega), Int.fdiv_eq_ediv_of_dvd h1, Int.gcd_comm d n, Int.ediv_neg, ← Int.neg_ediv_of_dvd (Int.gcd_dvd_right ..), Int.natCast_ediv]
  rw [show ((d.natAbs : Nat) : Int) = -d by omega]
theorem den_frac' (n d : Int) (h : 0 < d) : ((Rat.divInt n d).den : Int) = d.fdiv (n.gcd d : Nat) := by
  rw [Rat.den_divInt, if_neg (by omega), Int.fdiv_eq_ediv_of_dvd (Int.gcd_dvd_right ..), Int.gcd_comm d n, Int.natCast_ediv]
  rw [show ((d.natAbs : Nat) : Int) = d by omega]
theorem pr_neg {x : Rat} : (-x.num).natAbs = x.num.natAbs := Int.natAbs_neg ..
theorem cm_nd {a b : Nat} {x y : Rat} (h : Bd a x) (k : Bd b y) (hab : a + b ≤ 1000000 := by decide) : CM x.num y.den := cm_lt h.1 k.den hab
theorem cm_dd {a b : Nat} {x y : Rat} (h : Bd a x) (k : Bd b y) (hab : a + b ≤ 1000000 := by decide) : CM x.den y.den := cm_lt h.den k.den hab
theorem cm_nn {a b : Nat} {x y : Rat} (h : Bd a x) (k : Bd b y) (hab : a + b ≤ 1000000 := by decide) : CM x.num y.num := cm_lt h.1 k.1 hab
theorem cm_dn {a b : Nat} {x y : Rat} (h : Bd a x) (k : Bd b y) (hab : a + b ≤ 1000000 := by decide) : CM x.den y.num := cm_lt h.den k.1 hab
theorem num_zero {y : Rat} : y.num = 0 ↔ y = 0 := Rat.num_eq_zero
theorem cdv_den {a : Nat} {x : Rat} (h : Bd a x) (ha : a ≤ 9000 := by decide) : CDV x.den := cdv_lt (den_ne x) h.den ha
theorem fdiv_den (i : Int) (x : Rat) : i.fdiv x.den = i / x.den := Int.fdiv_eq_ediv_of_nonneg _ (by omega)
theorem floor_divInt (a b : Int) (h : 0 < b) : (Rat.divInt a b).floor = a.fdiv b := by
  have hg : b.gcd a ≠ 0 := fun z => by have := (Int.gcd_eq_zero_iff.mp z).1; omega
  obtain ⟨p, hp⟩ := Int.gcd_dvd_left (a := b) (b := a)
  obtain ⟨q, hq⟩ := Int.gcd_dvd_right (a := b) (b := a)
  have hg' : ((b.gcd a : Nat) : Int) ≠ 0 := by omega
  rw [Rat.floor_def, Rat.num_divInt, Rat.den_divInt, if_neg (by omega), Int.sign_eq_one_of_pos h, Int.one_mul, Int.natCast_ediv, show ((b.natAbs : Nat) : Int) = b by omega, Int.fdiv_eq_ediv_of_nonneg _ (by omega)]
  have hg2 : 0 < ((b.gcd a : Nat) : Int) := by omega
  generalize ((b.gcd a : Nat) : Int) = g at *
  subst hp hq
  rw [Int.mul_ediv_cancel_left _ hg', Int.mul_ediv_cancel_left _ hg', Int.mul_ediv_mul_of_pos _ _ hg2]
theorem half_eq (x : Rat) : x + 1 / 2 = Rat.divInt (2 * x.num + x.den) (2 * x.den) := by
  rw [add_eq, show (1 / 2 : Rat).num = 1 by decide +kernel, show (1 / 2 : Rat).den = 2 by decide +kernel, Int.mul_comm x.num, Int.mul_comm (x.den : Int), Int.one_mul]
  rfl
theorem map_cons_inv {α β : Type} {f : α → β} {x : β} {r : List β} {ps : List α} (h : x :: r = ps.map f) : ∃ p ps', ps = p :: ps' ∧ x = f p ∧ r = ps'.map f := by
  cases ps with
  | nil => cases h
  | cons p ps => cases h; exact ⟨p, ps, rfl, rfl, rfl⟩
theorem map_nil_inv {α β : Type} {f : α → β} {ps : List α} (h : [] = ps.map f) : ps = [] := by
  cases ps with
  | nil => rfl
  | cons p ps => cases h
def sumI (L : D) (t : Rat) (r : List D) (ρ : Ro) : Prop := ∃ (ps : List Rat) (x : Rat) (j : Nat) (v : Sl), ρ = [.val L, .val (encQ x), v] ∧ r = ps.map encQ ∧ ps.foldl (· + ·) x = t ∧ Bd (42 * j + 1) x ∧ j + ps.length ≤ 6 ∧ ∀ q ∈ ps, Bd 41 q
theorem bd_one : Bd 1 0 := ⟨by decide, by decide⟩
def isSt (d : D) : Prop := ∃ (s0 : Int) (p : Nat) (ns : List Int) (s3 : Int), d = .list [.int s0, .int p, .list (ns.map .int), .int s3]
def c__law_draw : DCM := fun d ds Q => ∃ n : Int, ds = [.int n] ∧ 0 < n ∧ n < 2 ^ 60 ∧ isSt d ∧ ∀ r d', 0 ≤ r → r < n → isSt d' → Q (.int r) d'
theorem len__law_draw : ∀ d ds kq, c__law_draw d ds kq → ds.length = 1 := by rintro _ _ _ ⟨n, rfl, _⟩; rfl
variable {P : Program} {w : World} {K : PySem.W.Frag} {mg : Str → Option Value} {base : Heap}
theorem dep_tup {n : Nat} {xs : List D} (h : ∀ x ∈ xs, dep n x = true) : dep (n + 1) (.tuple xs) = true := List.all_eq_true.mpr h
theorem dep_lst {n : Nat} {xs : List D} (h : ∀ x ∈ xs, dep n x = true) : dep (n + 1) (.list xs) = true := List.all_eq_true.mpr h
theorem eq_same {d e : D} (h : d = e) (hd : dep 20 e = true) : PyData.eqv d e = true := by subst h; exact PySem.SeqAt.eqv_refl _ (dep_depth 20 _ hd).1
theorem ne_same {d e : D} (h : d = e) (hd : dep 20 e = true) : (!PyData.eqv d e) = false := by rw [eq_same h hd]; rfl
def nI (n : Nat) : D := .int (n : Int)
def encN (l : List Nat) : D := .tuple (l.map nI)
theorem dep_N (n : Nat) (l : List Nat) : dep (n + 2) (encN l) = true := dep_tup fun x hx => by obtain ⟨y, _, rfl⟩ := List.mem_map.mp hx; rfl
theorem eqvI (i j : Int) : PyData.eqv (.int i) (.int j) = decide (i = j) := by rw [Bool.eq_iff_iff]; simp [PyData.eqv]
theorem eqvB (i j : Bool) : PyData.eqv (.bool i) (.bool j) = decide (i = j) := by cases i <;> cases j <;> simp [PyData.eqv]
def c__law_same : DC := fun ds Q _ => ∃ a b : Bool, ds = [.bool a, .bool b] ∧ Q (.bool (decide (a = b)))
theorem len__law_same : ∀ ds kq ke, c__law_same ds kq ke → ds.length = 2 := by rintro _ _ _ ⟨a, b, rfl, _⟩; rfl
theorem at_map {α : Type} (f : α → D) (xs : List α) (i : Nat) (h : i < xs.length) : L2.atI (xs.map f) (i : Int) = some (f xs[i]) := by
  rw [at_nat, List.getElem?_map, List.getElem?_eq_getElem h, Option.map_some]
theorem at_mapN (xs : List Nat) (i : Nat) (h : i < xs.length) : L2.atI (xs.map nI) (i : Int) = some (nI xs[i]) := at_map nI xs i h
theorem intsOf_N (xs : List Nat) : intsOf (xs.map nI) = some (xs.map fun n : Nat => (n : Int)) := by
  have e : xs.map nI = (xs.map fun n : Nat => (n : Int)).map PyData.int := by rw [List.map_map]; rfl
  rw [e, intsOf_map]
theorem sum_cast (xs : List Nat) : (xs.map fun n : Nat => (n : Int)).sum = (xs.sum : Nat) := by
  induction xs with
  | nil => rfl
  | cons x xs ih => rw [List.map_cons, List.sum_cons, List.sum_cons, ih]; omega
theorem fdiv_nat (a b : Nat) : (a : Int).fdiv (b : Int) = ((a / b : Nat) : Int) := by
  rw [Int.fdiv_eq_ediv_of_nonneg _ (by omega)]; rfl
theorem fmod_nat (a b : Nat) : (a : Int).fmod (b : Int) = ((a % b : Nat) : Int) := by
  rw [Int.fmod_eq_emod_of_nonneg _ (by omega)]; rfl
/-- the greatest and the least of numbers -/
theorem mostN {xs : List Nat} (h : xs ≠ []) : ∃ m ∈ xs, ∀ x ∈ xs, x ≤ m := by
  induction xs with
  | nil => exact absurd rfl h
  | cons x xs ih =>
    by_cases hx : xs = []
    · subst hx; exact ⟨x, List.mem_cons_self, fun y hy => by rw [List.mem_singleton.mp hy]; exact Nat.le_refl _⟩
    · obtain ⟨m, h1, h2⟩ := ih hx
      by_cases hm : m ≤ x
      · exact ⟨x, List.mem_cons_self, fun y hy => (List.mem_cons.mp hy).elim (fun e => by rw [e]; exact Nat.le_refl _) fun e => Nat.le_trans (h2 y e) hm⟩
      · exact ⟨m, List.mem_cons_of_mem _ h1, fun y hy => (List.mem_cons.mp hy).elim (fun e => by rw [e]; omega) fun e => h2 y e⟩
theorem any_mapP {g : TDG} {te : TD} {vs : List Nat} {QT QF : Ro → Prop} {ρ : Ro} (ρ0 : Ro) {α : Type} (xs : List α) (enc : α → D) (f : α → Bool) {ds : List D} (hρ : wipeR ρ vs = ρ0) (hds : ds = xs.map enc)
    (h : ∀ x ∈ xs, ∀ (k : D → Ro → Prop), (∀ ρ4, wipeR ρ4 vs = ρ0 → k (.bool (f x)) ρ4) → g (enc x) ρ0 fun ρ2 => te ρ2 k) (hT : xs.any f = true → ∀ ρ3, wipeR ρ3 vs = ρ0 → QT ρ3) (hF : xs.any f = false → QF ρ0) :
    ∃ I : List D → Ro → Prop, I ds (wipeR ρ vs) ∧ (∀ x r ρ, I (x :: r) ρ → g x ρ fun ρ2 => te ρ2 fun y ρ3 => asB y fun b => stp true b (I r (wipeR ρ3 vs)) (QT ρ3)) ∧ ∀ ρ, I [] ρ → QF ρ := by
  subst hds
  refine ⟨fun r ρ => ∃ done rest, xs = done ++ rest ∧ r = rest.map enc ∧ ρ = ρ0 ∧ done.any f = false, ⟨[], xs, rfl, rfl, hρ, rfl⟩, ?_, ?_⟩
  · rintro x r ρ ⟨done, rest, e1, e2, rfl, e4⟩
    cases rest with
    | nil => cases e2
    | cons y rest =>
      cases e2
      refine h y (by rw [e1]; simp) _ fun ρ4 e5 => ?_
      show stp true (f y) _ _
      cases hf : f y with
      | false => exact ⟨done ++ [y], rest, by rw [e1]; simp, rfl, e5, by rw [List.any_append, e4]; simp [hf]⟩
      | true => exact hT (by rw [e1, List.any_append, List.any_cons, hf]; simp) ρ4 e5
  · rintro ρ ⟨done, rest, e1, e2, rfl, e4⟩
    cases rest with
    | nil =>
      rw [List.append_nil] at e1
      exact hF (by rw [e1]; exact e4)
    | cons y rest => cases e2
theorem all_mapP {g : TDG} {te : TD} {vs : List Nat} {QT QF : Ro → Prop} {ρ : Ro} (ρ0 : Ro) {α : Type} (xs : List α) (enc : α → D) (f : α → Bool) {ds : List D} (hρ : wipeR ρ vs = ρ0) (hds : ds = xs.map enc)
    (h : ∀ x ∈ xs, ∀ (k : D → Ro → Prop), (∀ ρ4, wipeR ρ4 vs = ρ0 → k (.bool (f x)) ρ4) → g (enc x) ρ0 fun ρ2 => te ρ2 k) (hF : xs.all f = false → ∀ ρ3, wipeR ρ3 vs = ρ0 → QF ρ3) (hT : xs.all f = true → QT ρ0) :
    ∃ I : List D → Ro → Prop, I ds (wipeR ρ vs) ∧ (∀ x r ρ, I (x :: r) ρ → g x ρ fun ρ2 => te ρ2 fun y ρ3 => asB y fun b => stp false b (I r (wipeR ρ3 vs)) (QF ρ3)) ∧ ∀ ρ, I [] ρ → QT ρ := by
  subst hds
  refine ⟨fun r ρ => ∃ done rest, xs = done ++ rest ∧ r = rest.map enc ∧ ρ = ρ0 ∧ done.all f = true, ⟨[], xs, rfl, rfl, hρ, rfl⟩, ?_, ?_⟩
  · rintro x r ρ ⟨done, rest, e1, e2, rfl, e4⟩
    cases rest with
    | nil => cases e2
    | cons y rest =>
      cases e2
      refine h y (by rw [e1]; simp) _ fun ρ4 e5 => ?_
      show stp false (f y) _ _
      cases hf : f y with
      | true => exact ⟨done ++ [y], rest, by rw [e1]; simp, rfl, e5, by rw [List.all_append, e4]; simp [hf]⟩
      | false => exact hF (by rw [e1, List.all_append, List.all_cons, hf]; simp) ρ4 e5
  · rintro ρ ⟨done, rest, e1, e2, rfl, e4⟩
    cases rest with
    | nil =>
      rw [List.append_nil] at e1
      exact hT (by rw [e1]; exact e4)
    | cons y rest => cases e2
theorem tOr_of {t u : TT'} {ρ : Ro} {Q : Bool → Ro → Prop} (a b : Bool) (ht : ∀ k : Bool → Ro → Prop, k a ρ → t ρ k) (hu : a = false → ∀ k : Bool → Ro → Prop, k b ρ → u ρ k) (h : Q (a || b) ρ) : tOrD t u ρ Q := by
  refine ht _ ?_
  cases a with
  | true => exact h
  | false => exact hu rfl _ h
theorem tAnd_of {t u : TT'} {ρ : Ro} {Q : Bool → Ro → Prop} (a b : Bool) (ht : ∀ k : Bool → Ro → Prop, k a ρ → t ρ k) (hu : a = true → ∀ k : Bool → Ro → Prop, k b ρ → u ρ k) (h : Q (a && b) ρ) : tAndD t u ρ Q := by
  refine ht _ ?_
  cases a with
  | true => exact hu rfl _ h
  | false => exact h
theorem ixN_zero {α : Type} (x : α) (xs : List α) : ixN (x :: xs).length 0 = some 0 := by
  unfold ixN
  rw [if_pos (by decide), if_pos (by simp)]; rfl
theorem fm_filter {α β : Type} (p : α → Prop) [DecidablePred p] (f : α → β) : ∀ l : List α, l.filterMap (fun x => if p x then some (f x) else none) = (l.filter fun x => decide (p x)).map f
  | [] => rfl
  | x :: xs => by
    rw [List.filterMap_cons, List.filter_cons]
    by_cases h : p x
    · rw [if_pos h, if_pos (decide_eq_true h), List.map_cons, fm_filter p f xs]
    · rw [if_neg h, if_neg (by rw [decide_eq_false h]; decide), fm_filter p f xs]
theorem any_eqvN (l : List Nat) (i : Nat) : ((l.map nI).any fun z => PyData.eqv z (nI i)) = decide (i ∈ l) := by
  rw [Bool.eq_iff_iff, List.any_eq_true, decide_eq_true_iff]
  constructor
  · rintro ⟨z, hz, h⟩
    obtain ⟨j, hj, rfl⟩ := List.mem_map.mp hz
    have : decide ((j : Int) = (i : Int)) = true := (eqvI j i).symm.trans h
    have : j = i := by have := of_decide_eq_true this; omega
    rw [← this]; exact hj
  · intro h
    exact ⟨nI i, List.mem_map_of_mem h, by rw [show PyData.eqv (nI i) (nI i) = _ from eqvI i i]; simp⟩
end Dn
/-! Dn: dicts as tables. -/
namespace Dn
open PySem PySem.Spec PyProof.Rows L2
theorem dget_nil (k : D) : dget [] k = none := rfl
theorem dget_cons (p : D × D) (r : List (D × D)) (k : D) : dget (p :: r) k = if dkOf p.1 = dkOf k then some p.2 else dget r k := by
  unfold dget
  rw [List.find?_cons]
  by_cases h : dkOf p.1 = dkOf k
  · rw [if_pos h]; simp [h]
  · rw [if_neg h]; simp [h]
theorem dget_any (k : D) : ∀ ps : List (D × D), (ps.any fun p => decide (dkOf p.1 = dkOf k)) = (dget ps k).isSome
  | [] => rfl
  | p :: r => by
    rw [List.any_cons, dget_cons, dget_any k r]
    by_cases h : dkOf p.1 = dkOf k
    · simp [h]
    · simp [h]
theorem dget_map (k k' v : D) : ∀ ps : List (D × D), dget (ps.map fun p => if dkOf p.1 = dkOf k then (p.1, v) else p) k' = (dget ps k').map fun x => if dkOf k' = dkOf k then v else x
  | [] => rfl
  | p :: r => by
    have ih := dget_map k k' v r
    rw [List.map_cons]
    by_cases h : dkOf p.1 = dkOf k
    · rw [if_pos h, dget_cons, dget_cons]
      by_cases e : dkOf p.1 = dkOf k'
      · rw [if_pos e, if_pos e, Option.map_some, if_pos (e.symm.trans h)]
      · rw [if_neg e, if_neg e, ih]
    · rw [if_neg h, dget_cons, dget_cons]
      by_cases e : dkOf p.1 = dkOf k'
      · rw [if_pos e, if_pos e, Option.map_some, if_neg (fun z => h (e.trans z))]
      · rw [if_neg e, if_neg e, ih]
theorem dget_snoc (k k' v : D) : ∀ ps : List (D × D), dget ps k = none → dget (ps ++ [(k, v)]) k' = if dkOf k' = dkOf k then some v else dget ps k'
  | [], _ => by
    rw [List.nil_append, dget_cons, dget_nil]
    by_cases h : dkOf k = dkOf k'
    · rw [if_pos h, if_pos h.symm]
    · rw [if_neg h, if_neg fun z => h z.symm]
  | p :: r, hn => by
    rw [dget_cons] at hn
    by_cases hk : dkOf p.1 = dkOf k
    · rw [if_pos hk] at hn; cases hn
    · rw [if_neg hk] at hn
      rw [List.cons_append, dget_cons, dget_snoc k k' v r hn, dget_cons]
      by_cases e : dkOf p.1 = dkOf k'
      · rw [if_pos e, if_pos e, if_neg (fun z => hk (e.trans z))]
      · rw [if_neg e, if_neg e]
theorem dget_dput (ps : List (D × D)) (k k' v : D) : dget (dput ps k v) k' = if dkOf k' = dkOf k then some v else dget ps k' := by
  unfold dput
  by_cases a : (ps.any fun p => decide (dkOf p.1 = dkOf k)) = true
  · rw [if_pos a, dget_map]
    rw [dget_any] at a
    by_cases e : dkOf k' = dkOf k
    · obtain ⟨x, hx⟩ := Option.isSome_iff_exists.mp a
      have : dget ps k' = some x := by
        rw [← hx]
        unfold dget
        rw [e]
      rw [if_pos e, this, Option.map_some, if_pos e]
    · rw [if_neg e]
      cases dget ps k' with
      | none => rfl
      | some x => rw [Option.map_some, if_neg e]
  · rw [if_neg a]
    refine dget_snoc k k' v ps ?_
    rw [dget_any] at a
    cases q : dget ps k with
    | none => rfl
    | some x => rw [q] at a; exact (a rfl).elim
theorem length_dput (ps : List (D × D)) (k v : D) : (dput ps k v).length ≤ ps.length + 1 := by
  unfold dput
  split
  · rw [List.length_map]; omega
  · rw [List.length_append]; simp
/-- all keys tuples, all keys plain -/
def AllT (b : Bool) (ps : List (D × D)) : Prop := ∀ p ∈ ps, isTK p.1 = b
theorem AllT.ok {b : Bool} {ps : List (D × D)} {k : D} (h : AllT b ps) (hk : isTK k = b) (hs : (dkOf k).isSome = true) : dkOk ps k = true := by
  unfold dkOk
  rw [hs, Bool.true_and, List.all_eq_true]
  intro p hp
  rw [h p hp, hk]; simp
theorem AllT.dput {b : Bool} {ps : List (D × D)} {k v : D} (h : AllT b ps) (hk : isTK k = b) : AllT b (dput ps k v) := by
  unfold Dn.dput
  split
  · intro p hp
    obtain ⟨q, hq, rfl⟩ := List.mem_map.mp hp
    split
    · exact h q hq
    · exact h q hq
  · intro p hp
    rcases List.mem_append.mp hp with z | z
    · exact h p z
    · rw [List.mem_singleton.mp z]; exact hk
/-- pairs of numbers as keys -/
def key2 (a b : Nat) : D := .tuple [nI a, nI b]
theorem dkOf_key2 (a b : Nat) : dkOf (key2 a b) = some (.inr [.inl (a : Int), .inl (b : Int)]) := rfl
theorem key2_inj (a b a' b' : Nat) : dkOf (key2 a b) = dkOf (key2 a' b') ↔ a = a' ∧ b = b' := by
  rw [dkOf_key2, dkOf_key2]
  constructor
  · intro h
    have h1 := Sum.inr.inj (Option.some.inj h)
    have h2 := Sum.inl.inj (List.cons.inj h1).1
    have h3 := Sum.inl.inj (List.cons.inj (List.cons.inj h1).2).1
    omega
  · rintro ⟨rfl, rfl⟩; rfl
theorem dget_put2 (ps : List (D × D)) (a b a' b' : Nat) (v : D) : dget (dput ps (key2 a b) v) (key2 a' b') = if a' = a ∧ b' = b then some v else dget ps (key2 a' b') := by
  rw [dget_dput]
  by_cases h : a' = a ∧ b' = b
  · rw [if_pos h, if_pos ((key2_inj ..).mpr h)]
  · rw [if_neg h, if_neg fun z => h ((key2_inj ..).mp z)]
theorem key1_inj (a a' : Nat) : dkOf (nI a) = dkOf (nI a') ↔ a = a' := by
  constructor
  · intro h
    have h1 : some (Sum.inl (Sum.inl (a : Int))) = (some (Sum.inl (Sum.inl (a' : Int))) : Option DKey) := h
    have := Sum.inl.inj (Sum.inl.inj (Option.some.inj h1))
    omega
  · rintro rfl; rfl
theorem dget_put1 (ps : List (D × D)) (a a' : Nat) (v : D) : dget (dput ps (nI a) v) (nI a') = if a' = a then some v else dget ps (nI a') := by
  rw [dget_dput]
  by_cases h : a' = a
  · rw [if_pos h, if_pos ((key1_inj ..).mpr h)]
  · rw [if_neg h, if_neg fun z => h ((key1_inj ..).mp z)]
theorem rgc_dn {i j : Int} {n : Nat} (hi : -(2 ^ 40) ≤ i ∧ i < 2 ^ 40) (hj : -(2 ^ 40) ≤ j ∧ j < 2 ^ 40) (hn : (n : Int) = if j < i then i - j else 0) : RgC i j (-1) n := by
  have hs : Builtin.Range.rangeSize i j (-1) = n := by
    unfold Builtin.Range.rangeSize
    rw [if_neg (by decide), hn]
    by_cases h : j < i
    · rw [if_pos h, if_pos h]; simp
    · rw [if_neg h, if_neg (by omega)]
  have hb : (n : Int) ≤ 2 ^ 42 := by rw [hn]; split <;> omega
  refine ⟨by decide, by decide, ?_, hs⟩
  unfold Builtin.Range.small
  rw [hs]
  simp only [Builtin.Range.rangeFitsLong, Bool.and_eq_true, Bool.or_eq_true, decide_eq_true_eq, beq_iff_eq]
  refine ⟨⟨⟨⟨by omega, by omega⟩, by omega⟩, by omega⟩, .inr ?_⟩
  rw [if_neg (by decide), decide_eq_true (by omega), decide_eq_true (by omega)]
  rfl
inductive All2 {α β : Type} (P : β → α → Prop) : List β → List α → Prop
  | nil : All2 P [] []
  | cons {x : β} {v : α} {xs : List β} {vs : List α} : P x v → All2 P xs vs → All2 P (x :: xs) (v :: vs)
theorem All2.length {α β : Type} {P : β → α → Prop} {xs : List β} {vs : List α} (h : All2 P xs vs) : vs.length = xs.length := by
  induction h with
  | nil => rfl
  | cons _ _ ih => simp [ih]
theorem All2.mem {α β : Type} {P : β → α → Prop} {xs : List β} {vs : List α} (h : All2 P xs vs) : ∀ v ∈ vs, ∃ x ∈ xs, P x v := by
  induction h with
  | nil => intro v hv; cases hv
  | cons p _ ih =>
    intro v hv
    rcases List.mem_cons.mp hv with e | e
    · subst e; exact ⟨_, List.mem_cons_self, p⟩
    · obtain ⟨x, h1, h2⟩ := ih v e
      exact ⟨x, List.mem_cons_of_mem _ h1, h2⟩
theorem All2.snoc {α β : Type} {P : β → α → Prop} {xs : List β} {vs : List α} {x : β} {v : α} (h : All2 P xs vs) (p : P x v) : All2 P (xs ++ [x]) (vs ++ [v]) := by
  induction h with
  | nil => exact .cons p .nil
  | cons q _ ih => exact .cons q ih
/-- a comprehension whose elements are drawn: the state goes on, all else stays -/
theorem lc_st {g : Hp → Hp → TDG} {te : Hp → Hp → TD} {vs : List Nat} {Q : List D → Ro → Prop} {ρ : Ro} (ρ0 : D → Ro) {α β : Type} (xs : List β) (encX : β → D) (enc : α → D) (P : β → α → Prop) {ds : List D} {d0 : D} (hst0 : isSt d0) (hρ : wipeR ρ vs = ρ0 d0) (hds : ds = xs.map encX) (hl : xs.length ≤ 16777216)
    (h : ∀ x ∈ xs, ∀ (d : D), isSt d → ∀ (G0 H0 : Hp) (k : D → Ro → Prop), (∀ v d' ρ4, P x v → isSt d' → wipeR ρ4 vs = ρ0 d' → k (enc v) ρ4) → g G0 H0 (encX x) (ρ0 d) fun ρ2 => te G0 H0 ρ2 k)
    (hQ : ∀ vals d, All2 P xs vals → isSt d → Q (vals.map enc) (ρ0 d)) :
    ∃ I : List D → List D → Ro → Prop, I ds [] (wipeR ρ vs) ∧
      (∀ x r acc ρ, I (x :: r) acc ρ → ∀ G0 H0, g G0 H0 x ρ fun ρ2 => tYesD ρ2 fun b ρ3 => brn b (te G0 H0 ρ3 fun y ρ4 => acc.length < 16777216 ∧ I r (acc ++ [y]) (wipeR ρ4 vs)) (I r acc (wipeR ρ3 vs))) ∧ ∀ acc ρ, I [] acc ρ → Q acc ρ := by
  refine ⟨fun r acc ρ => ∃ d done rest vals, isSt d ∧ ρ = ρ0 d ∧ xs = done ++ rest ∧ r = rest.map encX ∧ acc = vals.map enc ∧ All2 P done vals, ⟨d0, [], xs, [], hst0, hρ, rfl, hds, rfl, .nil⟩, ?_, ?_⟩
  · rintro x r acc ρ ⟨d, done, rest, vals, hst, rfl, e, h1, rfl, hp⟩ G0 H0
    obtain ⟨p, rest, rfl, rfl, rfl⟩ := map_cons' h1
    refine h p (by rw [e]; simp) d hst G0 H0 _ fun v d' ρ4 h2 h3 h4 => ⟨?_, d', done ++ [p], rest, vals ++ [v], h3, h4, by rw [e]; simp, rfl, by simp, hp.snoc h2⟩
    have := hp.length
    rw [e] at hl
    simp at hl
    rw [List.length_map]; omega
  · rintro acc ρ ⟨d, done, rest, vals, hst, rfl, e, h1, rfl, hp⟩
    cases map_nil' h1
    rw [List.append_nil] at e
    subst e
    exact hQ vals d hp hst
theorem lc_stf {g : Hp → Hp → TDG} {tt : Hp → Hp → TT'} {te : Hp → Hp → TD} {vs : List Nat} {Q : List D → Ro → Prop} {ρ : Ro} (ρ0 : D → Ro) {α β : Type} (xs : List β) (encX : β → D) (enc : α → D) (P : β → Option α → Prop) {ds : List D} {d0 : D} (hst0 : isSt d0) (hρ : wipeR ρ vs = ρ0 d0) (hds : ds = xs.map encX) (hl : xs.length ≤ 16777216)
    (h : ∀ x ∈ xs, ∀ (d : D), isSt d → ∀ (G0 H0 : Hp) (k : D → Ro → Prop) (k0 : Ro → Prop), (∀ v d' ρ4, P x (some v) → isSt d' → wipeR ρ4 vs = ρ0 d' → k (enc v) ρ4) → (∀ d' ρ4, P x none → isSt d' → wipeR ρ4 vs = ρ0 d' → k0 ρ4) → g G0 H0 (encX x) (ρ0 d) fun ρ2 => tt G0 H0 ρ2 fun b ρ3 => brn b (te G0 H0 ρ3 k) (k0 ρ3))
    (hQ : ∀ (os : List (Option α)) d, All2 P xs os → isSt d → Q ((os.filterMap id).map enc) (ρ0 d)) :
    ∃ I : List D → List D → Ro → Prop, I ds [] (wipeR ρ vs) ∧
      (∀ x r acc ρ, I (x :: r) acc ρ → ∀ G0 H0, g G0 H0 x ρ fun ρ2 => tt G0 H0 ρ2 fun b ρ3 => brn b (te G0 H0 ρ3 fun y ρ4 => acc.length < 16777216 ∧ I r (acc ++ [y]) (wipeR ρ4 vs)) (I r acc (wipeR ρ3 vs))) ∧ ∀ acc ρ, I [] acc ρ → Q acc ρ := by
  refine ⟨fun r acc ρ => ∃ d done rest os, isSt d ∧ ρ = ρ0 d ∧ xs = done ++ rest ∧ r = rest.map encX ∧ acc = (os.filterMap id).map enc ∧ All2 P done os, ⟨d0, [], xs, [], hst0, hρ, rfl, hds, rfl, .nil⟩, ?_, ?_⟩
  · rintro x r acc ρ ⟨d, done, rest, os, hst, rfl, e, h1, rfl, hp⟩ G0 H0
    obtain ⟨p, rest, rfl, rfl, rfl⟩ := map_cons' h1
    refine h p (by rw [e]; simp) d hst G0 H0 _ _ (fun v d' ρ4 h2 h3 h4 => ⟨?_, d', done ++ [p], rest, os ++ [some v], h3, h4, by rw [e]; simp, rfl, by simp, hp.snoc h2⟩) fun d' ρ4 h2 h3 h4 => ⟨d', done ++ [p], rest, os ++ [none], h3, h4, by rw [e]; simp, rfl, by simp, hp.snoc h2⟩
    have := hp.length
    have := List.length_filterMap_le id os
    rw [e] at hl
    simp at hl
    rw [List.length_map]; omega
  · rintro acc ρ ⟨d, done, rest, os, hst, rfl, e, h1, rfl, hp⟩
    cases map_nil' h1
    rw [List.append_nil] at e
    subst e
    exact hQ os d hp hst
theorem drawN {Q : Int → D → Prop} {n : Int} {d : D} (hn : 0 < n) (hn2 : n < 2 ^ 60) (hst : isSt d) (h : ∀ (r : Nat) d', (r : Int) < n → isSt d' → Q r d') : ∃ m : Int, [PyData.int n] = [.int m] ∧ 0 < m ∧ m < 2 ^ 60 ∧ isSt d ∧ ∀ r d', 0 ≤ r → r < m → isSt d' → Q r d' := by
  refine ⟨n, rfl, hn, hn2, hst, fun r d' h1 h2 h3 => ?_⟩
  obtain ⟨k, rfl⟩ := Int.eq_ofNat_of_zero_le h1
  exact h k d' h2 h3
theorem at_z0 {α : Type} (xs : List α) : L2.atI xs 0 = xs[0]? := at_nat xs 0
theorem at_m1 {α : Type} (xs : List α) (h : 0 < xs.length) : L2.atI xs (-1) = xs[xs.length - 1]? := at_neg xs 0 h
theorem eqvN (i j : Nat) : PyData.eqv (nI i) (nI j) = decide (i = j) := by
  rw [show PyData.eqv (nI i) (nI j) = _ from eqvI i j, Bool.eq_iff_iff]; simp; omega
theorem eqv_N {d : D} {l : List Nat} (h : d = encN l) : PyData.eqv d (encN l) = true := eq_same h (dep_N 18 l)
theorem range_fm {α β : Type} (F : α → Option β) (l : List α) : (List.range l.length).filterMap (fun k => (l[k]?).bind F) = l.filterMap F := by
  have h : (List.range l.length).map (fun k => l[k]?) = l.map some := by
    apply List.ext_getElem
    · simp
    · intro i h1 h2
      simp at h1
      simp [h1]
  have h2 : (List.range l.length).filterMap (fun k => (l[k]?).bind F) = ((List.range l.length).map fun k => l[k]?).filterMap fun o => o.bind F := by
    rw [List.filterMap_map]; rfl
  rw [h2, h, List.filterMap_map]
  rfl
theorem sortN_one : ∀ {L M : List Nat}, L.Perm M → L.Pairwise (· ≤ ·) → M.Pairwise (· ≤ ·) → L = M
  | [], M, hp, _, _ => by rw [List.Perm.eq_nil hp.symm]
  | a :: L, M, hp, h1, h2 => by
    cases M with
    | nil => exact absurd hp.eq_nil (by simp)
    | cons b M =>
      have hab : a = b := by
        rcases List.mem_cons.mp (hp.mem_iff.mp (List.mem_cons_self (a := a) (l := L))) with q | q
        · exact q
        · rcases List.mem_cons.mp (hp.mem_iff.mpr (List.mem_cons_self (a := b) (l := M))) with q2 | q2
          · exact q2.symm
          · have := (List.pairwise_cons.mp h1).1 b q2
            have := (List.pairwise_cons.mp h2).1 a q
            omega
      subst hab
      rw [sortN_one (List.Perm.cons_inv hp) (List.pairwise_cons.mp h1).2 (List.pairwise_cons.mp h2).2]
theorem perm_map_inv {α β : Type} (f : α → β) (g : β → α) (hg : ∀ a, g (f a) = a) {ys : List β} {xs : List α} (h : ys.Perm (xs.map f)) : ∃ zs : List α, zs.Perm xs ∧ ys = zs.map f := by
  refine ⟨ys.map g, ?_, ?_⟩
  · have := h.map g
    rw [List.map_map, show g ∘ f = id from funext hg, List.map_id] at this
    exact this
  · rw [List.map_map]
    symm
    conv => rhs; rw [← List.map_id ys]
    refine List.map_congr_left fun y hy => ?_
    obtain ⟨x, _, rfl⟩ := List.mem_map.mp (h.mem_iff.mp hy)
    simp [hg]
def unI : D → Nat
  | .int i => i.toNat
  | _ => 0
theorem unI_nI (n : Nat) : unI (nI n) = n := by simp [unI, nI]
theorem sortOk_N (xs : List Nat) : SortOk (xs.map nI) := by
  refine ⟨fun d hd d' hd' => ?_, .inr fun d hd => ?_, fun d hd => ?_⟩
  · obtain ⟨i, _, rfl⟩ := List.mem_map.mp hd
    obtain ⟨j, _, rfl⟩ := List.mem_map.mp hd'
    rfl
  · obtain ⟨i, _, rfl⟩ := List.mem_map.mp hd
    exact ⟨fun z => (nomatch z), fun xs z => (nomatch z)⟩
  · obtain ⟨i, _, rfl⟩ := List.mem_map.mp hd
    rfl
theorem cut_m1 {α : Type} (xs : List α) : Dn.cutD xs none (some (-1)) = xs.dropLast := by
  unfold Dn.cutD
  rw [HT.sIx_none]
  unfold HT.sIx
  simp [List.dropLast_eq_take]
  omega
/-- sorted(a list, a tuple of numbers) is the sorted list -/
theorem sortG_N {xs : List Nat} {Q : D → Prop} (h : ∀ ys : List Nat, ys.Perm xs → ys.Pairwise (· ≤ ·) → Q (.list (ys.map nI))) : sortG (xs.map nI) Q := by
  refine ⟨sortOk_N xs, fun ys hp hs => ?_⟩
  obtain ⟨zs, h1, rfl⟩ := perm_map_inv nI unI unI_nI hp
  refine h zs h1 ((List.pairwise_map.mp hs).imp fun {a b} z => ?_)
  have z : PySem.W.dataLt (.int (b : Int)) (.int (a : Int)) = false := z
  rw [PySem.W.dataLt_int] at z
  have := of_decide_eq_false z
  omega
theorem sortG_N2 {xs : List Nat} {R : List D → Prop} (h : ∀ ys : List Nat, ys.Perm xs → ys.Pairwise (· ≤ ·) → R (ys.map nI)) : SortOk (xs.map nI) ∧ ∀ ys : List D, ys.Perm (xs.map nI) → ys.Pairwise (fun a b => PySem.W.dataLt b a = false) → R ys := by
  have := sortG_N (xs := xs) (Q := fun d => match d with | .list ys => R ys | _ => True) h
  exact this
theorem sortA_N {xs : List Nat} {Q : D → Prop} (h : ∀ ys : List Nat, ys.Perm xs → ys.Pairwise (· ≤ ·) → Q (.list (ys.map nI))) : sortA [.list (xs.map nI)] Q := by
  refine .inl ⟨xs.map fun n : Nat => (n : Int), by rw [List.map_map]; rfl, fun ns' hp hs => ?_⟩
  obtain ⟨zs, h1, rfl⟩ := perm_map_inv (fun n : Nat => (n : Int)) Int.toNat (fun a => by simp) hp
  rw [List.map_map]
  exact h zs h1 ((List.pairwise_map.mp hs).imp fun {a b} z => by omega)
end Dn
namespace K16
open PySem PySem.Spec PyProof.Rows L2 Dn
local macro_rules | `(tactic| walk_at "r") => `(tactic| ((conv => whnf); (repeat (refine ⟨rfl, rfl, ?_⟩; (conv => whnf)))))
def topS (i : Nat) : Stmt := PySem.Challenge.pw_linesfitted_k16_columns_that_no_others_b.main.body.getD i (.Pass ⟨0, 0, 0, 0⟩)
section
variable {P : Program} {w : World} {K : PySem.W.Frag} {mg : Str → Option Value} {base : Heap} {T : List Addr}
abbrev s_is_integer : Stmt := topS 5
theorem sc_is_integer : FnScope ["value", "low", "high"] ["value", "low", "high"] (defScope s_is_integer) := ⟨rfl, rfl, rfl, by decide +kernel, rfl, by decide +kernel, by decide +kernel⟩
theorem ok_is_integer {f : Addr} {fd : FuncData} (F : Fun K "is_integer" "is_integer" s_is_integer f fd) (hm : mg "is_integer" = some (.ref f)) (hb : Binds K fd ["value", "low", "high"] []) (bl : ∀ x : Str, bnames.contains x = true → mg x = none) : Pf P w K mg base T 1 "is_integer" 3 c_is_integer := by
  refine pf_of (k := 0) F sc_is_integer rfl hm hb bl (len_is_integer) fun A outer s H G E ds kq ke hc c tk => ?_
  refine ⟨_, (dss_cons (ds_if (dw_or (dt_not (dt_tru (de_isi (T := .int) c (db_var 0) boot_int).toB)) (dw_or1 (dt_tru (de_isi (T := .bool) c (db_var 0) boot_bool).toB))).t (dss_one (ds_ret de_bl)) dss_nil)
      (dss_one (ds_ret (de_and (de_or (de_cmp od_is (db_var 1) de_non.toB) (de_one (de_cmp (od_geG c) (db_var 0) (db_var 1)))) (de_one (de_or (de_cmp od_is (db_var 2) de_non.toB) (de_one (de_cmp (od_leG c) (db_var 0) (db_var 2))))))))), ?_⟩
  obtain ⟨v, lo, hi, rfl, hq⟩ := hc
  cases v with
  | int i =>
    cases lo with
    | none =>
      cases hi with
      | none => walk_at "r"; exact hq
      | some h => walk_at "r"; exact hq
    | some l =>
      cases hi with
      | none =>
        rw [isInt_int, geO_some, leO_none, Bool.and_true] at hq
        walk_at "r"
        refine brn.of (fun h => ?_) fun h => ?_
        · walk_at "r"
          rw [show decide (l ≤ i) = true from h] at hq; exact hq
        · rw [show decide (l ≤ i) = false from h] at hq; exact hq
      | some h' =>
        rw [isInt_int, geO_some, leO_some] at hq
        walk_at "r"
        refine brn.of (fun h => ?_) fun h => ?_
        · walk_at "r"
          rw [show decide (l ≤ i) = true from h, Bool.true_and] at hq; exact hq
        · rw [show decide (l ≤ i) = false from h, Bool.false_and] at hq; exact hq
  | _ => walk_at "r"; exact hq
abbrev s_common_divisor : Stmt := topS 6
theorem sc_common_divisor : FnScope ["one", "two"] ["one", "two"] (defScope s_common_divisor) := ⟨rfl, rfl, rfl, by decide +kernel, rfl, by decide +kernel, by decide +kernel⟩
theorem ok_common_divisor {f : Addr} {fd : FuncData} (F : Fun K "common_divisor" "common_divisor" s_common_divisor f fd) (hm : mg "common_divisor" = some (.ref f)) (hb : Binds K fd ["one", "two"] []) (bl : ∀ x : Str, bnames.contains x = true → mg x = none) : Pf P w K mg base T 1 "common_divisor" 2 c_common_divisor := by
  refine pf_of (k := 0) F sc_common_divisor rfl hm hb bl (len_common_divisor) fun A outer s H G E ds kq ke hc c tk => ?_
  refine ⟨_, (dss_cons (ds_while c (dt_tru (db_var 1)) (dss_one (ds_par (i := 0) (j := 1) c rfl rfl (by decide) rfl rfl (da_cons (de_var 1) (da_cons (de_bin od_mod (db_var 0) (db_var 1)) da_nil)))))
      (dss_one (ds_ret (de_callB cd_abs (nb c) boot_abs (dbs_cons (db_var 0) dbs_nil))))), ?_⟩
  obtain ⟨a, b, rfl, hq⟩ := hc
  walk_at "r"
  refine ⟨fun m ρ => ∃ x y : Int, ρ = [.val (.int x), .val (.int y)] ∧ x.gcd y = a.gcd b ∧ m = y.natAbs, ⟨_, a, b, rfl, rfl, rfl⟩, ?_⟩
  rintro m ρ ⟨x, y, rfl, hg, rfl⟩
  walk_at "r"
  refine brn.of (fun h => ?_) fun h => ?_
  · have hy : y ≠ 0 := by simpa using h
    walk_at "r"
    refine ⟨hy, ?_⟩
    walk_at "r"
    exact ⟨(x.fmod y).natAbs, fmod_lt x y hy, y, x.fmod y, rfl, by rw [fmod_gcd]; exact hg, rfl⟩
  · have hy : y = 0 := by simpa using h
    subst hy
    walk_at "r"
    rw [← hg, Int.gcd_zero_right] at hq
    have e : (if x < 0 then -x else x) = (x.natAbs : Int) := by split <;> omega
    exact e ▸ hq
abbrev s_fraction : Stmt := topS 7
theorem sc_fraction : FnScope ["over", "under", "common"] ["over", "under"] (defScope s_fraction) := ⟨rfl, rfl, rfl, by decide +kernel, rfl, by decide +kernel, by decide +kernel⟩
theorem ok_fraction {f : Addr} {fd : FuncData} (F : Fun K "fraction" "fraction" s_fraction f fd) (hm : mg "fraction" = some (.ref f)) (hb : Binds K fd ["over", "under"] []) (bl : ∀ x : Str, bnames.contains x = true → mg x = none) {C_NoSuch : Addr} (x_NoSuch : ExcF K mg "NoSuch" C_NoSuch) (p_common_divisor : Pf P w K mg base T 1 "common_divisor" 2 c_common_divisor) : Pf P w K mg base T 2 "fraction" 2 (c_fraction C_NoSuch) := by
  refine pf_of (k := 1) F sc_fraction rfl hm hb bl (len_fraction) fun A outer s H G E ds kq ke hc c tk => ?_
  refine ⟨_, (dss_cons (ds_if (dt_cmp (od_eq c) (db_var 1) de_int.toB) (dss_one (ds_raise x_NoSuch c tk)) dss_nil)
      (dss_cons (ds_set (i := 2) c rfl (Or.inl rfl) (de_call p_common_divisor c (da_cons (de_var 0) (da_cons (de_var 1) da_nil))))
      (dss_cons (ds_if (dt_cmp (od_ltG c) (db_var 1) de_int.toB) (dss_one (ds_set (i := 2) c rfl (Or.inl rfl) (de_neg (db_var 2)))) dss_nil)
      (dss_one (ds_ret (de_tup (da_cons (de_bin od_fdiv (db_var 0) (db_var 2)) (da_cons (de_bin od_fdiv (db_var 1) (db_var 2)) da_nil)))))))), ?_⟩
  obtain ⟨n, d, rfl, hn, hd, hz, hq⟩ := hc
  walk_at "r"
  refine brn.of (fun h => ?_) fun h => ?_
  · walk_at "r"
    exact hz (by simpa [PyData.eqv] using h)
  · have h0 : d ≠ 0 := by simpa [PyData.eqv] using h
    have hg : n.gcd d ≠ 0 := fun z => h0 (Int.gcd_eq_zero_iff.mp z).2
    have hgd : n.gcd d < 2 ^ 3000 := Nat.lt_of_le_of_lt (Nat.le_of_dvd (by omega) (Int.gcd_dvd_natAbs_right ..)) hd
    walk_at "r"
    refine ⟨n, d, rfl, ?_⟩
    walk_at "r"
    refine brn.of (fun h => ?_) fun h => ?_
    · walk_at "r"
      refine ⟨cdv_lt (a := 3000) (by omega) (by omega), ?_⟩
      walk_at "r"
      refine ⟨cdv_lt (a := 3000) (by omega) (by omega), ?_⟩
      walk_at "r"
      have h' : d < 0 := by simpa using h
      have q := hq h0
      unfold encQ at q
      rw [num_frac _ _ h', den_frac _ _ h'] at q
      exact q
    · walk_at "r"
      refine ⟨cdv_lt (a := 3000) (by omega) (by omega), ?_⟩
      walk_at "r"
      refine ⟨cdv_lt (a := 3000) (by omega) (by omega), ?_⟩
      walk_at "r"
      have h' : 0 < d := by have : ¬ d < 0 := by simpa using h
                            omega
      have q := hq h0
      unfold encQ at q
      rw [num_frac' _ _ h', den_frac' _ _ h'] at q
      exact q
abbrev s_plus : Stmt := topS 8
theorem sc_plus : FnScope ["one", "two"] ["one", "two"] (defScope s_plus) := ⟨rfl, rfl, rfl, by decide +kernel, rfl, by decide +kernel, by decide +kernel⟩
theorem ok_plus {f : Addr} {fd : FuncData} (F : Fun K "plus" "plus" s_plus f fd) (hm : mg "plus" = some (.ref f)) (hb : Binds K fd ["one", "two"] []) (bl : ∀ x : Str, bnames.contains x = true → mg x = none) {C_NoSuch : Addr} (p_fraction : Pf P w K mg base T 2 "fraction" 2 (c_fraction C_NoSuch)) : Pf P w K mg base T 3 "plus" 2 c_plus := by
  refine pf_of (k := 2) F sc_plus rfl hm hb bl (len_plus) fun A outer s H G E ds kq ke hc c tk => ?_
  refine ⟨_, (dss_one (ds_ret (de_call p_fraction c (da_cons (de_bin od_add (de_bin od_mulA (de_ixA c (db_var 0) de_int.toB).toB (de_ixA c (db_var 1) de_int.toB).toB).toB (de_bin od_mulA (de_ixA c (db_var 1) de_int.toB).toB (de_ixA c (db_var 0) de_int.toB).toB).toB) (da_cons (de_bin od_mulA (de_ixA c (db_var 0) de_int.toB).toB (de_ixA c (db_var 1) de_int.toB).toB) da_nil))))), ?_⟩
  obtain ⟨x, y, rfl, hx, hy, hq⟩ := hc
  walk_at "r"
  refine ⟨cm_nd hx hy, ?_⟩
  walk_at "r"
  refine ⟨cm_nd hy hx, ?_⟩
  walk_at "r"
  refine ⟨cm_dd hx hy, ?_⟩
  walk_at "r"
  refine ⟨_, _, rfl, lt_pow_mono (nat_add_lt (nat_mul_lt hx.1 hy.den) (nat_mul_lt hy.1 hx.den)) (by decide), lt_pow_mono (nat_mul_lt hx.den hy.den) (by decide), fun z => absurd z (den_mul_ne x y), fun _ => ?_⟩
  rw [add_eq] at hq
  exact hq
abbrev s_minus : Stmt := topS 9
theorem sc_minus : FnScope ["one", "two"] ["one", "two"] (defScope s_minus) := ⟨rfl, rfl, rfl, by decide +kernel, rfl, by decide +kernel, by decide +kernel⟩
theorem ok_minus {f : Addr} {fd : FuncData} (F : Fun K "minus" "minus" s_minus f fd) (hm : mg "minus" = some (.ref f)) (hb : Binds K fd ["one", "two"] []) (bl : ∀ x : Str, bnames.contains x = true → mg x = none) {C_NoSuch : Addr} (p_fraction : Pf P w K mg base T 2 "fraction" 2 (c_fraction C_NoSuch)) : Pf P w K mg base T 3 "minus" 2 c_minus := by
  refine pf_of (k := 2) F sc_minus rfl hm hb bl (len_minus) fun A outer s H G E ds kq ke hc c tk => ?_
  refine ⟨_, (dss_one (ds_ret (de_call p_fraction c (da_cons (de_bin od_sub (de_bin od_mulA (de_ixA c (db_var 0) de_int.toB).toB (de_ixA c (db_var 1) de_int.toB).toB).toB (de_bin od_mulA (de_ixA c (db_var 1) de_int.toB).toB (de_ixA c (db_var 0) de_int.toB).toB).toB) (da_cons (de_bin od_mulA (de_ixA c (db_var 0) de_int.toB).toB (de_ixA c (db_var 1) de_int.toB).toB) da_nil))))), ?_⟩
  obtain ⟨x, y, rfl, hx, hy, hq⟩ := hc
  walk_at "r"
  refine ⟨cm_nd hx hy, ?_⟩
  walk_at "r"
  refine ⟨cm_nd hy hx, ?_⟩
  walk_at "r"
  refine ⟨cm_dd hx hy, ?_⟩
  walk_at "r"
  refine ⟨_, _, rfl, lt_pow_mono (nat_sub_lt (nat_mul_lt hx.1 hy.den) (nat_mul_lt hy.1 hx.den)) (by decide), lt_pow_mono (nat_mul_lt hx.den hy.den) (by decide), fun z => absurd z (den_mul_ne x y), fun _ => ?_⟩
  rw [sub_eq] at hq
  exact hq
abbrev s_sum_of : Stmt := topS 10
theorem sc_sum_of : FnScope ["values", "found", "value"] ["values"] (defScope s_sum_of) := ⟨rfl, rfl, rfl, by decide +kernel, rfl, by decide +kernel, by decide +kernel⟩
theorem ok_sum_of {f : Addr} {fd : FuncData} (F : Fun K "sum_of" "sum_of" s_sum_of f fd) (hm : mg "sum_of" = some (.ref f)) (hb : Binds K fd ["values"] []) (bl : ∀ x : Str, bnames.contains x = true → mg x = none) (p_plus : Pf P w K mg base T 3 "plus" 2 c_plus) : Pf P w K mg base T 4 "sum_of" 1 c_sum_of := by
  refine pf_of (k := 3) F sc_sum_of rfl hm hb bl (len_sum_of) fun A outer s H G E ds kq ke hc c tk => ?_
  refine ⟨_, (dss_cons (ds_set (i := 1) c rfl (Or.inl rfl) (de_tup (da_cons de_int (da_cons de_int da_nil))))
      (dss_cons (ds_for c (di_seq (de_var 0)) (dg_name (i := 2) c rfl (by first | exact Or.inl rfl | exact Or.inr rfl)) (dss_one (ds_set (i := 1) c rfl (Or.inl rfl) (de_call p_plus c (da_cons (de_var 1) (da_cons (de_var 2) da_nil))))))
      (dss_one (ds_ret (de_var 1))))), ?_⟩
  obtain ⟨b, qs, rfl, hl, hb', hq⟩ := hc
  have key : ∀ (L : D), (∀ ρ, sumI L (qs.foldl (· + ·) 0) [] ρ → sRet (dVar [] 1) { nx := fun x => kq PyData.none, rt := fun d x => kq d } ρ) ∧ sumI L (qs.foldl (· + ·) 0) (qs.map encQ) [.val L, .val (encQ 0), .non] := fun L => by
    refine ⟨?_, qs, 0, 0, .non, rfl, rfl, rfl, bd_one, by omega, hb'⟩
    rintro ρ ⟨ps, x, j, v, rfl, h1, h2, _⟩
    cases map_nil_inv h1
    walk_at "r"
    rw [← h2] at hq
    exact hq
  cases b
  all_goals
    walk_at "r"
    refine ⟨sumI (encL _ qs) (qs.foldl (· + ·) 0), (key _).2, ?_, (key _).1⟩
    rintro x r ρ ⟨ps, y, j, v, rfl, h1, h2, h3, h4, h5⟩
    obtain ⟨p, ps, rfl, rfl, rfl⟩ := map_cons_inv h1
    have hp := h5 p (List.mem_cons_self ..)
    have hl := h4
    rw [List.length_cons] at hl
    walk_at "r"
    refine ⟨y, p, rfl, h3.mono (by omega), hp.mono (by decide), ?_⟩
    walk_at "r"
    exact ⟨ps, y + p, j + 1, _, rfl, rfl, h2, (bd_add h3 hp).mono (by omega), by omega, fun q hq => h5 q (List.mem_cons_of_mem _ hq)⟩
abbrev s__law_draw : Stmt := topS 31
theorem sc__law_draw : FnScope ["state", "limit", "digit", "position", "cell", "mixed"] ["state", "limit"] (defScope s__law_draw) := ⟨rfl, rfl, rfl, by decide +kernel, rfl, by decide +kernel, by decide +kernel⟩
theorem ok__law_draw {f : Addr} {fd : FuncData} (F : Fun K "_law_draw" "_law_draw" s__law_draw f fd) (hm : mg "_law_draw" = some (.ref f)) (hb : Binds K fd ["state", "limit"] []) (bl : ∀ x : Str, bnames.contains x = true → mg x = none) : PfM P w K mg base T 1 "_law_draw" 2 c__law_draw := by
  refine pf_ofM (k := 0) F sc__law_draw rfl hm hb bl (len__law_draw) fun A outer s H G a E d ds kq hc c tk => ?_
  refine ⟨_, (dss_cons (ds_if (dt_cmp (od_ltG c) (de_ixA c (db_var 0) de_int.toB).toB (db_var 1)) (dss_cons (ds_set (i := 3) c rfl (Or.inl rfl) (de_ixA c (db_var 0) de_int.toB))
        (dss_cons (ds_putA (i := 0) c (de_bin od_add (db_var 3) de_int.toB) de_int)
        (dss_cons (ds_set (i := 4) c rfl (Or.inl rfl) de_int)
        (dss_cons (ds_if (dt_cmp (od_ltG c) (db_var 3) (de_callB cd_lenA (nb c) PySem.boot_len (dbs_cons (de_ixA c (db_var 0) de_int.toB).toB dbs_nil)).toB) (dss_one (ds_set (i := 4) c rfl (Or.inl rfl) (de_ixA c (de_ixA c (db_var 0) de_int.toB).toB (db_var 3)))) dss_nil)
        (dss_one (ds_if (dt_cmp (od_geG c) (db_var 4) (de_bin od_pow de_int.toB de_int.toB).toB) (dss_one (ds_putA (i := 0) c (de_var 4) de_int)) (dss_cons (ds_putA (i := 0) c (de_bin od_mod (de_callT cd_int (nb c) boot_int (dbs_cons (de_bin od_mulA (de_bin od_add (de_bin od_add (de_bin od_add (de_ixA c (db_var 0) de_int.toB).toB (de_bin od_mod (de_callT cd_int (nb c) boot_int (dbs_cons (db_var 4) dbs_nil)).toB de_int.toB).toB).toB (db_var 3)).toB de_int.toB).toB de_int.toB).toB dbs_nil)).toB de_int.toB) de_int)
          (dss_cons (ds_set (i := 5) c rfl (Or.inl rfl) (de_bin od_mod (de_callT cd_int (nb c) boot_int (dbs_cons (de_bin od_add (de_bin od_mulA (de_ixA c (db_var 0) de_int.toB).toB de_int.toB).toB de_int.toB).toB dbs_nil)).toB de_int.toB))
          (dss_one (ds_putA (i := 0) c (de_bin od_add (de_bin od_mulA (db_var 5) de_int.toB).toB (de_bin od_mod (de_callT cd_int (nb c) boot_int (dbs_cons (de_bin od_add (de_bin od_mulA (db_var 5) de_int.toB).toB (de_ixA c (db_var 0) de_int.toB).toB).toB dbs_nil)).toB de_int.toB).toB) de_int)))))))))) dss_nil)
      (dss_cons (ds_set (i := 2) c rfl (Or.inl rfl) (de_bin od_mod (de_callT cd_int (nb c) boot_int (dbs_cons (de_ixA c (db_var 0) de_int.toB).toB dbs_nil)).toB (db_var 1)))
      (dss_cons (ds_putA (i := 0) c (de_bin od_fdiv (de_ixA c (db_var 0) de_int.toB).toB (db_var 1)) de_int)
      (dss_one (ds_ret (de_var 2)))))), ?_⟩
  obtain ⟨n, rfl, hn, hn2, ⟨s0, p, ns, s3, rfl⟩, hq⟩ := hc
  walk_at "r"
  refine brn.of (fun h => ?t) fun h => ?e
  case' t =>
    walk_at "r"
    refine brn.of (fun h => ?t1) fun h => ?t2
    case' t1 =>
      have hp : p < ns.length := by simpa using h
      walk_at "r"
      rw [at_nat, List.getElem?_map, List.getElem?_eq_getElem hp, Option.map_some]
      walk_at "r"
      refine ⟨⟨by decide, by decide, by decide⟩, ?_⟩
      walk_at "r"
      refine brn.of (fun h => ?t11) fun h => ?t12
    case' t2 =>
      walk_at "r"
      refine ⟨⟨by decide, by decide, by decide⟩, ?_⟩
  all_goals walk_at "r"
  case' t12 =>
    refine ⟨by decide, ?_⟩
    walk_at "r"
    refine ⟨cm_r, ?_⟩
    walk_at "r"
    refine ⟨by decide, ?_⟩
    walk_at "r"
    refine ⟨cm_r, ?_⟩
    walk_at "r"
    refine ⟨by decide, ?_⟩
    walk_at "r"
    refine ⟨cm_r, ?_⟩
    walk_at "r"
    refine ⟨cm_r, ?_⟩
    walk_at "r"
    refine ⟨by decide, ?_⟩
    walk_at "r"
  case' t2 =>
    refine ⟨by decide, ?_⟩
    walk_at "r"
    refine ⟨cm_r, ?_⟩
    walk_at "r"
    refine ⟨by decide, ?_⟩
    walk_at "r"
    refine ⟨cm_r, ?_⟩
    walk_at "r"
    refine ⟨by decide, ?_⟩
    walk_at "r"
    refine ⟨cm_r, ?_⟩
    walk_at "r"
    refine ⟨cm_r, ?_⟩
    walk_at "r"
    refine ⟨by decide, ?_⟩
    walk_at "r"
  all_goals
    refine ⟨by omega, ?_⟩
    walk_at "r"
    refine ⟨cdv_lt (a := 60) (by omega) (by omega), ?_⟩
    walk_at "r"
    refine hq _ _ (Int.fmod_nonneg_of_pos _ hn) (Int.fmod_lt_of_pos _ hn) ?_
  case' e => exact ⟨_, p, ns, _, rfl⟩
  all_goals exact ⟨_, p + 1, ns, _, rfl⟩
end
section
variable {P : Program} {w : World} {K : PySem.W.Frag} {mg : Str → Option Value} {base : Heap} {T : List Addr}
local macro_rules | `(tactic| walk_at "r") => `(tactic| ((conv => whnf); (repeat ((first | refine And.intro rfl ?_ | refine And.intro cm_l ?_ | refine And.intro cm_r ?_ | refine And.intro (by decide) ?_ | refine And.intro (cdv_lt (a := 64) (by decide) (by decide)) ?_ | refine And.intro (by omega) ?_); (conv => whnf)))))
abbrev s__law_same : Stmt := topS 32
theorem sc__law_same : FnScope ["told", "due"] ["told", "due"] (defScope s__law_same) := ⟨rfl, rfl, rfl, by decide +kernel, rfl, by decide +kernel, by decide +kernel⟩
theorem ok__law_same {f : Addr} {fd : FuncData} (F : Fun K "_law_same" "_law_same" s__law_same f fd) (hm : mg "_law_same" = some (.ref f)) (hb : Binds K fd ["told", "due"] []) (bl : ∀ x : Str, bnames.contains x = true → mg x = none) : Pf P w K mg base T 1 "_law_same" 2 c__law_same := by
  refine pf_of (k := 0) F sc__law_same rfl hm hb bl (len__law_same) fun A outer s H G E ds kq ke hc c tk => ?_
  refine ⟨_, (dss_one (ds_ret (de_and (de_cmp (od_eq c) (de_cmp od_is (db_var 0) de_bl.toB).toB (db_var 1)) (de_one (de_cmp (od_ne c) (de_cmp od_is (db_var 0) de_bl.toB).toB (db_var 1)))))), ?_⟩
  obtain ⟨a, b, rfl, hq⟩ := hc
  cases a <;> cases b
  all_goals walk_at "r"
  · exact hq
  · exact hq
  · exact hq
  · exact hq
end
end K16
namespace K16
open PySem PySem.Spec PyProof.Rows L2 Dn
local macro_rules | `(tactic| walk_at "r") => `(tactic| ((conv => whnf); (repeat ((first | refine And.intro rfl ?_ | refine And.intro cm_l ?_ | refine And.intro cm_r ?_ | refine And.intro (by decide) ?_ | refine And.intro (cdv_lt (a := 64) (by decide) (by decide)) ?_ | refine And.intro (by omega) ?_); (conv => whnf)))))
/-! ### filling from the first -/
def fitN (h : Nat) : List Nat → Nat
  | [] => 0
  | x :: xs => if x ≤ h then fitN (h - x) xs + 1 else 0
theorem fitN_le (h : Nat) : ∀ xs : List Nat, fitN h xs ≤ xs.length
  | [] => Nat.le_refl _
  | x :: xs => by
    unfold fitN
    split
    · have := fitN_le (h - x) xs; simp; omega
    · omega
theorem fitN_sum (h : Nat) : ∀ xs : List Nat, (xs.take (fitN h xs)).sum ≤ h
  | [] => by simp [fitN]
  | x :: xs => by
    unfold fitN
    split
    · have := fitN_sum (h - x) xs
      rw [List.take_succ_cons, List.sum_cons]; omega
    · simp
theorem fitN_max : ∀ (n h : Nat) (xs : List Nat), (xs.take n).sum ≤ h → min n xs.length ≤ fitN h xs
  | 0, _, _, _ => by omega
  | n + 1, h, [], _ => by simp
  | n + 1, h, x :: xs, q => by
    rw [List.take_succ_cons, List.sum_cons] at q
    unfold fitN
    rw [if_pos (by omega)]
    have := fitN_max n (h - x) xs (by omega)
    simp; omega
def gr (h : Nat) (p : Nat) (xs : List Nat) : Option (List Nat) :=
  if hx : xs = [] then some [] else if hn : fitN h xs = 0 then none else (gr h (p + fitN h xs) (xs.drop (fitN h xs))).map (p :: ·)
termination_by xs.length
decreasing_by
  have : xs.length ≠ 0 := by simpa using hx
  rw [List.length_drop]; omega
theorem gr_nil (h p : Nat) : gr h p [] = some [] := by rw [gr]; simp
theorem gr_no {h p : Nat} {xs : List Nat} (hx : xs ≠ []) (hn : fitN h xs = 0) : gr h p xs = none := by rw [gr]; simp [hx, hn]
theorem gr_go {h p : Nat} {xs : List Nat} (hx : xs ≠ []) (hn : fitN h xs ≠ 0) : gr h p xs = (gr h (p + fitN h xs) (xs.drop (fitN h xs))).map (p :: ·) := by rw [gr]; simp [hx, hn]
/-- into at most k parts, each of at most h -/
def Cov (h : Nat) : Nat → List Nat → Prop
  | 0, xs => xs = []
  | k + 1, xs => ∃ n, (xs.take n).sum ≤ h ∧ Cov h k (xs.drop n)
theorem drop_sum_le (m : Nat) (xs : List Nat) : (xs.drop m).sum ≤ xs.sum := by
  have h : (xs.take m ++ xs.drop m).sum = xs.sum := by rw [List.take_append_drop]
  rw [List.sum_append] at h; omega
theorem take_sum_le (m : Nat) (xs : List Nat) : (xs.take m).sum ≤ xs.sum := by
  have h : (xs.take m ++ xs.drop m).sum = xs.sum := by rw [List.take_append_drop]
  rw [List.sum_append] at h; omega
theorem Cov.drop {h : Nat} : ∀ {k : Nat} {xs : List Nat} (m : Nat), Cov h k xs → Cov h k (xs.drop m)
  | 0, xs, m, q => by rw [show xs = [] from q]; exact List.drop_nil
  | k + 1, xs, m, ⟨n, q1, q2⟩ => by
    refine ⟨n - m, ?_, ?_⟩
    · rw [show (xs.drop m).take (n - m) = (xs.take n).drop m from (List.drop_take ..).symm]
      exact Nat.le_trans (drop_sum_le _ _) q1
    · rw [List.drop_drop]
      have := q2.drop (m - n)
      rw [List.drop_drop] at this
      rw [show m + (n - m) = n + (m - n) by omega]
      exact this
theorem gr_cov {h : Nat} : ∀ (n : Nat) (xs : List Nat) (p : Nat) (st : List Nat), xs.length = n → gr h p xs = some st → Cov h st.length xs := by
  intro n
  induction n using Nat.strongRecOn with
  | _ n ih =>
    intro xs p st hn e
    by_cases hx : xs = []
    · subst hx
      rw [gr_nil] at e
      cases e
      rfl
    · by_cases h0 : fitN h xs = 0
      · rw [gr_no hx h0] at e; cases e
      · rw [gr_go hx h0] at e
        obtain ⟨st', e1, rfl⟩ := Option.map_eq_some_iff.mp e
        have hl : xs.length ≠ 0 := by simpa using hx
        exact ⟨fitN h xs, fitN_sum h xs, ih (xs.drop (fitN h xs)).length (by rw [List.length_drop]; omega) _ _ _ rfl e1⟩
theorem cov_gr {h : Nat} : ∀ (k : Nat) (xs : List Nat) (p : Nat) (st : List Nat), Cov h k xs → gr h p xs = some st → st.length ≤ k := by
  intro k
  induction k with
  | zero => intro xs p st q e; rw [show xs = [] from q, gr_nil] at e; cases e; exact Nat.le_refl _
  | succ k ih =>
    intro xs p st ⟨n, q1, q2⟩ e
    by_cases hx : xs = []
    · subst hx; rw [gr_nil] at e; cases e; exact Nat.zero_le _
    · by_cases h0 : fitN h xs = 0
      · rw [gr_no hx h0] at e; cases e
      · rw [gr_go hx h0] at e
        obtain ⟨st', e1, rfl⟩ := Option.map_eq_some_iff.mp e
        have h1 := fitN_max n h xs q1
        have h2 : Cov h k (xs.drop (fitN h xs)) := by
          by_cases hn : n ≤ xs.length
          · have := q2.drop (fitN h xs - n)
            rw [List.drop_drop] at this
            rwa [show n + (fitN h xs - n) = fitN h xs by omega] at this
          · have := fitN_le h xs
            rw [List.drop_eq_nil_of_le (by omega)]
            rw [List.drop_eq_nil_of_le (by omega)] at q2
            exact q2
        exact Nat.succ_le_succ (ih _ _ _ h2 e1)
theorem Cov.mono {h h' : Nat} (hh : h ≤ h') : ∀ {k k' : Nat} {xs : List Nat}, k ≤ k' → Cov h k xs → Cov h' k' xs
  | 0, 0, _, _, q => q
  | 0, k' + 1, xs, _, q => ⟨0, by simp, by rw [show xs = [] from q]; exact Cov.mono hh (k := 0) (Nat.zero_le k') rfl⟩
  | k + 1, 0, _, z, _ => absurd z (by omega)
  | k + 1, k' + 1, xs, z, ⟨n, q1, q2⟩ => ⟨n, Nat.le_trans q1 hh, Cov.mono hh (by omega) q2⟩
theorem gr_some {h : Nat} : ∀ (n : Nat) (xs : List Nat) (p : Nat), xs.length = n → (∀ x ∈ xs, x ≤ h) → ∃ st, gr h p xs = some st := by
  intro n
  induction n using Nat.strongRecOn with
  | _ n ih =>
    intro xs p hn hb
    by_cases hx : xs = []
    · subst hx; exact ⟨[], gr_nil h p⟩
    · have h0 : fitN h xs ≠ 0 := by
        cases xs with
        | nil => exact absurd rfl hx
        | cons x xs =>
          have := hb x List.mem_cons_self
          unfold fitN
          rw [if_pos this]; omega
      have hl : xs.length ≠ 0 := by simpa using hx
      obtain ⟨st, e⟩ := ih (xs.drop (fitN h xs)).length (by rw [List.length_drop]; omega) (xs.drop (fitN h xs)) (p + fitN h xs) rfl fun x hx' => hb x (List.mem_of_mem_drop hx')
      exact ⟨p :: st, by rw [gr_go hx h0, e]; rfl⟩
theorem gr_all {h : Nat} : ∀ (n : Nat) (xs : List Nat) (p : Nat) (st : List Nat), xs.length = n → gr h p xs = some st → ∀ x ∈ xs, x ≤ h := by
  intro n
  induction n using Nat.strongRecOn with
  | _ n ih =>
    intro xs p st hn e x hm
    by_cases hx : xs = []
    · subst hx; cases hm
    · by_cases h0 : fitN h xs = 0
      · rw [gr_no hx h0] at e; cases e
      · rw [gr_go hx h0] at e
        obtain ⟨st', e1, rfl⟩ := Option.map_eq_some_iff.mp e
        have hl : xs.length ≠ 0 := by simpa using hx
        have hs := fitN_sum h xs
        rcases List.mem_append.mp (show x ∈ xs.take (fitN h xs) ++ xs.drop (fitN h xs) by rw [List.take_append_drop]; exact hm) with q | q
        · have : x ≤ (xs.take (fitN h xs)).sum := by
            obtain ⟨a, b, e⟩ := List.append_of_mem q
            rw [e, List.sum_append, List.sum_cons]; omega
          omega
        · exact ih (xs.drop (fitN h xs)).length (by rw [List.length_drop]; omega) _ _ _ rfl e1 x q
theorem sum_bd {b : Nat} : ∀ {xs : List Nat}, (∀ x ∈ xs, x ≤ b) → xs.sum ≤ xs.length * b
  | [], _ => by simp
  | x :: xs, h => by
    have := sum_bd (xs := xs) fun y hy => h y (List.mem_cons_of_mem _ hy)
    have := h x List.mem_cons_self
    rw [List.sum_cons, List.length_cons, Nat.succ_mul]; omega
theorem take_succ_sum (xs : List Nat) (j : Nat) (h : j < xs.length) : (xs.take (j + 1)).sum = (xs.take j).sum + xs[j] := by
  rw [List.take_succ_eq_append_getElem h, List.sum_append]; simp
/-! ### contracts -/
def Blk (xs : List Nat) : Prop := xs.length ≤ 60 ∧ ∀ x ∈ xs, 1 ≤ x ∧ x ≤ 1000000
theorem Blk.sum {xs : List Nat} (h : Blk xs) : xs.sum ≤ 60000000 := by
  have := sum_bd (xs := xs) (b := 1000000) fun x hx => (h.2 x hx).2
  have := h.1
  omega
theorem Blk.seg {xs : List Nat} (h : Blk xs) (p j : Nat) : ((xs.drop p).take j).sum ≤ 60000000 := by
  have h1 := take_sum_le j (xs.drop p)
  have h2 := drop_sum_le p xs
  have := h.sum
  omega
def c_greedy (C : Addr) : DC := fun ds Q E => ∃ (xs : List Nat) (h : Int), ds = [encN xs, .int h] ∧ Blk xs ∧ h ≤ 100000000 ∧ match gr h.toNat 0 xs with
  | none => E (.plain C)
  | some st => Q (encN st)
theorem len_greedy {C : Addr} : ∀ ds kq ke, c_greedy C ds kq ke → ds.length = 2 := by rintro _ _ _ ⟨xs, h, rfl, _⟩; rfl
def c_are_blocks : DC := fun ds Q _ => ∃ xs : List D, ds = [.tuple xs] ∧ Q (.bool (xs.all fun x => isInt x (some 1) none))
theorem len_are_blocks : ∀ ds kq ke, c_are_blocks ds kq ke → ds.length = 1 := by rintro _ _ _ ⟨xs, rfl, _⟩; rfl
section
variable {P : Program} {w : World} {K : PySem.W.Frag} {mg : Str → Option Value} {base : Heap} {T : List Addr}
abbrev s_are_blocks : Stmt := topS 13
theorem sc_are_blocks : FnScope ["value", "one"] ["value"] (defScope s_are_blocks) := ⟨rfl, rfl, rfl, by decide +kernel, rfl, by decide +kernel, by decide +kernel⟩
theorem ok_are_blocks {f : Addr} {fd : FuncData} (F : Fun K "are_blocks" "are_blocks" s_are_blocks f fd) (hm : mg "are_blocks" = some (.ref f)) (hb : Binds K fd ["value"] []) (bl : ∀ x : Str, bnames.contains x = true → mg x = none) (gt : GenT mg base T fd) (p_is_integer : Pf P w K mg base T 1 "is_integer" 3 c_is_integer) : Pf P w K mg base T 3 "are_blocks" 1 c_are_blocks := by
  refine pf_of (k := 2) F sc_are_blocks rfl hm hb bl (len_are_blocks) fun A outer s H G E ds kq ke hc c tk => ?_
  obtain ⟨cg, Pg, hcg, hPg, TBg⟩ := gt
  refine ⟨_, (dss_one (ds_ret (de_and (de_isi (T := .tuple) c (db_var 0) boot_tuple) (de_one (de_all (own := [("one", 1)]) c TBg hcg hPg (di_seq (de_var 0)) rfl (fun _ _ _ _ _ _ c => (dg_name (i := 1) c rfl (by first | exact Or.inl rfl | exact Or.inr rfl))) (fun _ _ _ _ _ _ c => (de_call p_is_integer c (da_cons (de_var 1) (da_cons de_int (da_cons de_non da_nil)))))))))), ?_⟩
  obtain ⟨xs, rfl, hq⟩ := hc
  walk_at "r"
  refine all_map [.val (.tuple xs), .non] rfl xs id (fun x => isInt x (some 1) none) (by simp) ?_ ?_
  · intro x hx k hk
    walk_at "r"
    refine ⟨x, some 1, none, rfl, ?_⟩
    exact hk _ rfl
  · exact hq
abbrev s_greedy : Stmt := topS 15
theorem sc_greedy : FnScope ["blocks", "height", "found", "first", "end", "used"] ["blocks", "height"] (defScope s_greedy) := ⟨rfl, rfl, rfl, by decide +kernel, rfl, by decide +kernel, by decide +kernel⟩
theorem ok_greedy {f : Addr} {fd : FuncData} (F : Fun K "greedy" "greedy" s_greedy f fd) (hm : mg "greedy" = some (.ref f)) (hb : Binds K fd ["blocks", "height"] []) (bl : ∀ x : Str, bnames.contains x = true → mg x = none) {C_NoSuch : Addr} (x_NoSuch : ExcF K mg "NoSuch" C_NoSuch) : Pf P w K mg base T 1 "greedy" 2 (c_greedy C_NoSuch) := by
  refine pf_of (k := 0) F sc_greedy rfl hm hb bl (len_greedy) fun A outer s H G E ds kq ke hc c tk => ?_
  refine ⟨_, (dss_cons (ds_mix2 (i := 2) (j := 3) c rfl rfl (by decide) rfl rfl (dm_own c (df_lst da_nil) (fun _ _ c => (dm_val de_int dm_nil))))
      (dss_cons (ds_while c (dt_cmp (od_ltG c) (db_var 3) (de_callB cd_lenA (nb c) PySem.boot_len (dbs_cons (db_var 0) dbs_nil)).toB) (dss_cons (ds_par (i := 4) (j := 5) c rfl rfl (by decide) rfl rfl (da_cons (de_var 3) (da_cons de_int da_nil)))
        (dss_cons (ds_cut (ds_while c (dw_and (dt_cmp (od_ltG c) (db_var 4) (de_callB cd_lenA (nb c) PySem.boot_len (dbs_cons (db_var 0) dbs_nil)).toB) (dw_and1 (dt_cmp (od_leG c) (de_bin od_add (db_var 5) (de_ixA c (db_var 0) (db_var 4)).toB).toB (db_var 1)))).t (dss_cons (ds_aug (i := 5) c rfl (Or.inl rfl) od_iadd (de_ixA c (db_var 0) (db_var 4)).toB)
          (dss_one (ds_aug (i := 4) c rfl (Or.inl rfl) od_iadd de_int.toB)))))
        (dss_cons (ds_if (dt_cmp (od_eq c) (db_var 4) (db_var 3)) (dss_one (ds_raise x_NoSuch c tk)) dss_nil)
        (dss_cons (ds_app (i := 2) (de_var 3))
        (dss_one (ds_set (i := 3) c rfl (Or.inl rfl) (de_var 4))))))))
      (dss_one (ds_ret (de_callT cd_tuple (nb c) boot_tuple (dbs_cons (db_var 2) dbs_nil)))))), ?_⟩
  obtain ⟨xs, h, rfl, ⟨hl, hb⟩, hh, hq⟩ := hc
  walk_at "r"
  intro _ _
  walk_at "r"
  refine ⟨fun m ρ => ∃ (found : List Nat) (p : Nat) (e u : Sl), ρ = [.val (encN xs), .val (.int h), .own (.list (found.map nI)), .val (nI p), e, u] ∧ p ≤ xs.length ∧ found.length ≤ p ∧ m = xs.length - p ∧ match gr h.toNat p (xs.drop p) with
    | none => ke (.plain C_NoSuch)
    | some st => kq (encN (found ++ st)), ⟨_, [], 0, .non, .non, rfl, Nat.zero_le _, Nat.le_refl _, rfl, ?_⟩, ?_⟩
  · exact hq
  · rintro m ρ ⟨found, p, e, u, rfl, hp, hf, rfl, hq⟩
    walk_at "r"
    refine brn.of (fun h1 => ?_) fun h1 => ?_
    · have hp' : p < xs.length := by simpa using h1
      walk_at "r"
      refine ⟨fun ρ => ρ = [.val (encN xs), .val (.int h), .own (.list (found.map nI)), .val (nI p), .val (nI (p + fitN h.toNat (xs.drop p))), .val (nI ((xs.drop p).take (fitN h.toNat (xs.drop p))).sum)], ?_, ?_⟩
      · refine ⟨fun m ρ => ∃ j : Nat, ρ = [.val (encN xs), .val (.int h), .own (.list (found.map nI)), .val (nI p), .val (nI (p + j)), .val (nI ((xs.drop p).take j).sum)] ∧ p + j ≤ xs.length ∧ m = xs.length - (p + j) ∧ (((xs.drop p).take j).sum ≤ h.toNat) ∧ fitN h.toNat (xs.drop p) = j + fitN (h.toNat - ((xs.drop p).take j).sum) (xs.drop (p + j)), ⟨_, 0, by simp; rfl, by omega, rfl, by simp, by simp⟩, ?_⟩
        rintro m ρ ⟨j, rfl, hj, rfl, hs, hf2⟩
        have hsum := Blk.seg ⟨hl, hb⟩ p j
        walk_at "r"
        have e0 : xs.drop (p + j) = (xs.drop p).drop j := by rw [List.drop_drop]
        refine brn.of (fun h2 => ?_) fun h2 => ?_
        · have hj' : p + j < xs.length := by simp at h2; omega
          have e1 : (xs.drop p).take (j + 1) = (xs.drop p).take j ++ [xs[p + j]] := by
            rw [List.take_succ_eq_append_getElem (by rw [List.length_drop]; omega)]; simp
          have e2 : xs.drop (p + j) = xs[p + j] :: xs.drop (p + j + 1) := List.drop_eq_getElem_cons hj'
          have hx := hb _ (List.getElem_mem hj')
          have es : ((xs.drop p).take (j + 1)).sum = ((xs.drop p).take j).sum + xs[p + j] := by rw [e1, List.sum_append]; simp
          walk_at "r"
          rw [at_mapN xs _ hj']
          walk_at "r"
          refine brn.of (fun h3 => ?_) fun h3 => ?_
          · have h3' : ((xs.drop p).take j).sum + xs[p + j] ≤ h.toNat := by simp [nI] at h3; omega
            walk_at "r"
            rw [at_mapN xs _ hj']
            walk_at "r"
            refine ⟨xs.length - (p + (j + 1)), by omega, j + 1, ?_, by omega, rfl, by omega, ?_⟩
            · rw [es]; simp [nI]; omega
            · rw [hf2, e2]
              conv => lhs; unfold fitN
              rw [if_pos (by omega), es, show p + (j + 1) = p + j + 1 by omega, Nat.sub_sub]
              omega
          · have h3' : ¬ ((xs.drop p).take j).sum + xs[p + j] ≤ h.toNat := by simp [nI] at h3; omega
            walk_at "r"
            have hF : fitN h.toNat (xs.drop p) = j := by
              rw [hf2, e2]
              unfold fitN
              rw [if_neg (by omega)]; rfl
            rw [hF]
        · have hj' : p + j = xs.length := by simp at h2; omega
          have e3 : xs.drop (p + j) = [] := List.drop_eq_nil_of_le (by omega)
          have hF : fitN h.toNat (xs.drop p) = j := by rw [hf2, e3]; rfl
          walk_at "r"
          rw [hF]
      · rintro ρ rfl
        have hne : xs.drop p ≠ [] := fun z => by have := congrArg List.length z; rw [List.length_drop, List.length_nil] at this; omega
        have hfl := fitN_le h.toNat (xs.drop p)
        rw [List.length_drop] at hfl
        walk_at "r"
        refine brn.of (fun h2 => ?_) fun h2 => ?_
        · have h0 : fitN h.toNat (xs.drop p) = 0 := by simp [nI, eqvI] at h2; omega
          rw [gr_no hne h0] at hq
          walk_at "r"
          exact hq
        · have h0 : fitN h.toNat (xs.drop p) ≠ 0 := fun z => by rw [z] at h2; simp [nI, eqvI] at h2
          rw [gr_go hne h0, List.drop_drop] at hq
          walk_at "r"
          refine ⟨by simp; omega, ?_⟩
          walk_at "r"
          refine ⟨xs.length - (p + fitN h.toNat (xs.drop p)), by omega, found ++ [p], p + fitN h.toNat (xs.drop p), .val (nI (p + fitN h.toNat (xs.drop p))), .val (nI ((xs.drop p).take (fitN h.toNat (xs.drop p))).sum), ?_, by omega, by simp; omega, rfl, ?_⟩
          · rw [List.map_append]; rfl
          · cases e : gr h.toNat (p + fitN h.toNat (xs.drop p)) (xs.drop (p + fitN h.toNat (xs.drop p))) with
            | none => rw [e] at hq; exact hq
            | some st => rw [e] at hq; simpa using hq
    · have hp' : p = xs.length := by simp at h1; omega
      subst hp'
      rw [List.drop_length, gr_nil] at hq
      walk_at "r"
      have hq : kq (encN (found ++ [])) := hq
      rw [List.append_nil] at hq
      exact hq
end
end K16
namespace K16
open PySem PySem.Spec PyProof.Rows L2 Dn
local macro_rules | `(tactic| walk_at "r") => `(tactic| ((conv => whnf); (repeat ((first | refine And.intro rfl ?_ | refine And.intro cm_l ?_ | refine And.intro cm_r ?_ | refine And.intro (by decide) ?_ | refine And.intro (cdv_lt (a := 64) (by decide) (by decide)) ?_ | refine And.intro (by omega) ?_ | refine And.intro (cm_r (by omega)) ?_ | refine And.intro (cdv_lt (a := 60) (by omega) (by omega)) ?_); (conv => whnf)))))

theorem cov_nil (h : Nat) : ∀ k, Cov h k []
  | 0 => rfl
  | k + 1 => ⟨0, by simp, by simpa using cov_nil h k⟩
def IsLeast (xs : List Nat) (c L : Nat) : Prop := (xs = [] → L = 0) ∧ (∀ x ∈ xs, x ≤ L) ∧ Cov L c xs ∧ (∀ h, h < L → (∀ x ∈ xs, x ≤ h) → ¬ Cov h c xs) ∧ L ≤ xs.sum
def c_least_height : DC := fun ds Q _ => ∃ (xs : List Nat) (c : Nat), ds = [encN xs, nI c] ∧ Blk xs ∧ 1 ≤ c ∧ ∀ L, IsLeast xs c L → Q (nI L)
theorem len_least_height : ∀ ds kq ke, c_least_height ds kq ke → ds.length = 2 := by rintro _ _ _ ⟨xs, c, rfl, _⟩; rfl
section
variable {P : Program} {w : World} {K : PySem.W.Frag} {mg : Str → Option Value} {base : Heap} {T : List Addr}
abbrev s_least_height : Stmt := topS 14
theorem sc_least_height : FnScope ["blocks", "columns", "low", "high", "middle"] ["blocks", "columns"] (defScope s_least_height) := ⟨rfl, rfl, rfl, by decide +kernel, rfl, by decide +kernel, by decide +kernel⟩
theorem ok_least_height {f : Addr} {fd : FuncData} (F : Fun K "least_height" "least_height" s_least_height f fd) (hm : mg "least_height" = some (.ref f)) (hb : Binds K fd ["blocks", "columns"] []) (bl : ∀ x : Str, bnames.contains x = true → mg x = none) {C_NoSuch : Addr} (p_greedy : Pf P w K mg base T 1 "greedy" 2 (c_greedy C_NoSuch)) : Pf P w K mg base T 2 "least_height" 2 c_least_height := by
  refine pf_of (k := 1) F sc_least_height rfl hm hb bl (len_least_height) fun A outer s H G E ds kq ke hc c tk => ?_
  refine ⟨_, (dss_cons (ds_if (dt_not (dt_tru (db_var 0))) (dss_one (ds_ret de_int)) dss_nil)
      (dss_cons (ds_par (i := 2) (j := 3) c rfl rfl (by decide) rfl rfl (da_cons (de_callB (cd_maxB c) (nb c) boot_max (dbs_cons (db_var 0) dbs_nil)) (da_cons (de_callB (cd_sumA c) (nb c) boot_sum (dbs_cons (db_var 0) dbs_nil)) da_nil)))
      (dss_cons (ds_while c (dt_cmp (od_ltG c) (db_var 2) (db_var 3)) (dss_cons (ds_set (i := 4) c rfl (Or.inl rfl) (de_bin od_fdiv (de_bin od_add (db_var 2) (db_var 3)).toB de_int.toB))
        (dss_one (ds_if (dt_cmp (od_leG c) (de_callB cd_lenA (nb c) PySem.boot_len (dbs_cons (de_call p_greedy c (da_cons (de_var 0) (da_cons (de_var 4) da_nil))).toB dbs_nil)).toB (db_var 1)) (dss_one (ds_set (i := 3) c rfl (Or.inl rfl) (de_var 4))) (dss_one (ds_set (i := 2) c rfl (Or.inl rfl) (de_bin od_add (db_var 4) de_int.toB)))))))
      (dss_one (ds_ret (de_var 2)))))), ?_⟩
  obtain ⟨xs, c, rfl, hB, hc1, hq⟩ := hc
  walk_at "r"
  refine brn.of (fun h => ?_) fun h => ?_
  · have hx : xs = [] := by simpa using h
    subst hx
    walk_at "r"
    exact hq 0 ⟨fun _ => rfl, fun x hx => (nomatch hx), cov_nil 0 c, fun h hh => absurd hh (by omega), by simp⟩
  · have hx : xs ≠ [] := by simpa using h
    walk_at "r"
    refine .inl ?_
    walk_at "r"
    rw [intsOf_N]
    walk_at "r"
    refine ⟨by rw [List.length_map]; exact List.length_pos_iff.mpr hx, ?_⟩
    rintro m0 hm0 hM0
    obtain ⟨m, hm, rfl⟩ := List.mem_map.mp hm0
    have hM : ∀ x ∈ xs, x ≤ m := fun x hx' => by have := hM0 _ (List.mem_map.mpr ⟨x, hx', rfl⟩); omega
    have hS := hB.sum
    have hmS : m ≤ xs.sum := by
      obtain ⟨a, b, e⟩ := List.append_of_mem hm
      rw [e, List.sum_append, List.sum_cons]; omega
    walk_at "r"
    rw [intsOf_N]
    walk_at "r"
    rw [sum_cast]
    refine ⟨fun n ρ => ∃ (lo hi : Nat) (s : Sl), ρ = [.val (encN xs), .val (nI c), .val (nI lo), .val (nI hi), s] ∧ m ≤ lo ∧ lo ≤ hi ∧ hi ≤ xs.sum ∧ Cov hi c xs ∧ (∀ h, h < lo → (∀ x ∈ xs, x ≤ h) → ¬ Cov h c xs) ∧ n = hi - lo, ⟨_, m, xs.sum, .non, rfl, Nat.le_refl _, hmS, Nat.le_refl _, ?_, ?_, rfl⟩, ?_⟩
    · exact Cov.mono (Nat.le_refl _) hc1 (k := 1) ⟨xs.length, by simp, by simp; rfl⟩
    · intro h hh ha
      exact absurd (ha m hm) (by omega)
    · rintro n ρ ⟨lo, hi, s, rfl, h1, h2, h3, h4, h5, rfl⟩
      walk_at "r"
      refine brn.of (fun h => ?_) fun h => ?_
      · have hlt : lo < hi := by simp [nI] at h; omega
        walk_at "r"
        rw [show ((lo : Nat) : Int) + ((hi : Nat) : Int) = ((lo + hi : Nat) : Int) by omega, show (2 : Int) = ((2 : Nat) : Int) from rfl, fdiv_nat]
        generalize hmid : (lo + hi) / 2 = mid
        have g1 : lo ≤ mid := by omega
        have g2 : mid < hi := by omega
        have hall : ∀ x ∈ xs, x ≤ mid := fun x hx => Nat.le_trans (hM x hx) (by omega)
        obtain ⟨st, est⟩ := gr_some (h := mid) _ xs 0 rfl hall
        walk_at "r"
        refine ⟨xs, (mid : Int), rfl, hB, by omega, ?_⟩
        rw [Int.toNat_natCast, est]
        walk_at "r"
        refine brn.of (fun h => ?_) fun h => ?_
        · have hle : st.length ≤ c := by simpa [nI] using h
          walk_at "r"
          exact ⟨mid - lo, by omega, lo, mid, _, rfl, h1, g1, by omega, Cov.mono (Nat.le_refl _) hle (gr_cov _ xs 0 st rfl est), h5, rfl⟩
        · have hle : ¬ st.length ≤ c := by simpa [nI] using h
          walk_at "r"
          refine ⟨hi - (mid + 1), by omega, mid + 1, hi, _, rfl, by omega, by omega, h3, h4, fun h' hh ha z => ?_, rfl⟩
          exact hle (cov_gr c xs 0 st (Cov.mono (by omega) (Nat.le_refl _) z) est)
      · have hlt : lo = hi := by simp [nI] at h; omega
        subst hlt
        walk_at "r"
        exact hq lo ⟨fun z => absurd z hx, fun x hx => Nat.le_trans (hM x hx) h1, h4, h5, h3⟩
def encG : Option (List Nat) → D
  | none => .none
  | some st => encN st
def c__law_greedy : DC := fun ds Q _ => ∃ (xs : List Nat) (h : Int), ds = [encN xs, .int h] ∧ Blk xs ∧ h ≤ 100000000 ∧ Q (encG (gr h.toNat 0 xs))
theorem len__law_greedy : ∀ ds kq ke, c__law_greedy ds kq ke → ds.length = 2 := by rintro _ _ _ ⟨xs, h, rfl, _⟩; rfl
abbrev s__law_greedy : Stmt := topS 33
theorem sc__law_greedy : FnScope ["blocks", "height"] ["blocks", "height"] (defScope s__law_greedy) := ⟨rfl, rfl, rfl, by decide +kernel, rfl, by decide +kernel, by decide +kernel⟩
theorem ok__law_greedy {f : Addr} {fd : FuncData} (F : Fun K "_law_greedy" "_law_greedy" s__law_greedy f fd) (hm : mg "_law_greedy" = some (.ref f)) (hb : Binds K fd ["blocks", "height"] []) (bl : ∀ x : Str, bnames.contains x = true → mg x = none) {C_NoSuch : Addr} (x_NoSuch : ExcF K mg "NoSuch" C_NoSuch) (p_greedy : Pf P w K mg base T 1 "greedy" 2 (c_greedy C_NoSuch)) : Pf P w K mg base T 2 "_law_greedy" 2 c__law_greedy := by
  refine pf_of (k := 1) F sc__law_greedy rfl hm hb bl (len__law_greedy) fun A outer s H G E ds kq ke hc c tk => ?_
  refine ⟨_, (dss_one (ds_try c tk ⟨rfl, by decide, .inl x_NoSuch.g⟩ rfl rfl (fun _ _ _ _ c tk => (dss_one (ds_ret (de_call p_greedy c (da_cons (de_var 0) (da_cons (de_var 1) da_nil)))))) (fun _ _ => (dss_one (ds_ret de_non))))), ?_⟩
  obtain ⟨xs, h, rfl, hB, hh, hq⟩ := hc
  walk_at "r"
  intro B
  walk_at "r"
  refine ⟨xs, h, rfl, hB, hh, ?_⟩
  cases e : gr h.toNat 0 xs with
  | none =>
    rw [e] at hq
    walk_at "r"
    refine ⟨true, x_NoSuch.xm, fun _ => ?_, fun z => nomatch z⟩
    walk_at "r"
    exact hq
  | some st =>
    rw [e] at hq
    walk_at "r"
    exact hq
/-! ### heights -/
def seg (xs : List Nat) (a b : Nat) : Nat := ((xs.take b).drop a).sum
def hts (xs : List Nat) (st : List Nat) : List Nat := (st.zip (st.tail ++ [xs.length])).map fun p => seg xs p.1 p.2
/-- starts in order, within -/
def Sts (n : Nat) (st : List Nat) : Prop := st.Pairwise (· < ·) ∧ ∀ a ∈ st, a < n
def c_heights_of : DC := fun ds Q _ => ∃ (xs st : List Nat), ds = [encN xs, encN st] ∧ Blk xs ∧ st.length ≤ 60 ∧ (∀ a ∈ st, a ≤ xs.length) ∧ Q (encN (hts xs st))
theorem len_heights_of : ∀ ds kq ke, c_heights_of ds kq ke → ds.length = 2 := by rintro _ _ _ ⟨xs, h, rfl, _⟩; rfl
abbrev s_heights_of : Stmt := topS 17
theorem sc_heights_of : FnScope ["blocks", "starts", "ends", "first", "end"] ["blocks", "starts"] (defScope s_heights_of) := ⟨rfl, rfl, rfl, by decide +kernel, rfl, by decide +kernel, by decide +kernel⟩
theorem ok_heights_of {f : Addr} {fd : FuncData} (F : Fun K "heights_of" "heights_of" s_heights_of f fd) (hm : mg "heights_of" = some (.ref f)) (hb : Binds K fd ["blocks", "starts"] []) (bl : ∀ x : Str, bnames.contains x = true → mg x = none) : Pf P w K mg base T 1 "heights_of" 2 c_heights_of := by
  refine pf_of (k := 0) F sc_heights_of rfl hm hb bl (len_heights_of) fun A outer s H G E ds kq ke hc c tk => ?_
  refine ⟨_, (dss_cons (ds_set (i := 2) c rfl (Or.inl rfl) (de_bin od_add (de_callT cd_tuple (nb c) boot_tuple (dbs_cons (de_slice (db_var 1) (dp_some de_int.toB) dp_none).toB dbs_nil)).toB (de_tup (da_cons (de_callB cd_lenA (nb c) PySem.boot_len (dbs_cons (db_var 0) dbs_nil)) da_nil)).toB))
      (dss_one (ds_ret (de_callT cd_tuple (nb c) boot_tuple (dbs_cons (df_lc (own := [("first", 3), ("end", 4)]) c (di_zip c (de_var 1) (de_var 2)) rfl (fun _ _ _ _ _ _ _ c => (dg_tup (n := 2) c (dgs_cons (dg_name (i := 3) c rfl (by first | exact Or.inl rfl | exact Or.inr rfl)) (dgs_cons (dg_name (i := 4) c rfl (by first | exact Or.inl rfl | exact Or.inr rfl)) dgs_nil)))) (fun _ _ _ _ _ _ _ c => dts_nil) (fun _ _ _ _ _ _ _ c => (de_callB (cd_sumA c) (nb c) boot_sum (dbs_cons (de_slice (db_var 0) (dp_some (db_var 3)) (dp_some (db_var 4))).toB dbs_nil)))).toE.toB dbs_nil))))), ?_⟩
  obtain ⟨xs, st, rfl, hB, hl, hs, hq⟩ := hc
  walk_at "r"
  have e1 : Dn.cutD (st.map nI) (some 1) none = st.tail.map nI := by
    rw [show (1 : Int) = ((1 : Nat) : Int) from rfl, cut_from, ← List.map_drop, List.drop_one]
  rw [e1]
  refine ⟨by simp; omega, ?_⟩
  walk_at "r"
  have e2 : zipL (st.map nI) (st.tail.map nI ++ [.int ((xs.map nI).length : Nat)]) = (st.zip (st.tail ++ [xs.length])).map fun p => .tuple [nI p.1, nI p.2] := by
    unfold zipL
    rw [List.length_map, show st.tail.map nI ++ [PyData.int (xs.length : Nat)] = (st.tail ++ [xs.length]).map nI by rw [List.map_append]; rfl, List.zip_map, List.map_map]; rfl
  refine lc_map [.val (encN xs), .val (encN st), .val (.tuple (st.tail.map nI ++ [.int ((xs.map nI).length : Nat)])), .non, .non] rfl (st.zip (st.tail ++ [xs.length])) (fun p => .tuple [nI p.1, nI p.2]) (fun p => nI (seg xs p.1 p.2)) e2 (by rw [List.length_zip]; omega) ?_ ?_
  · rintro ⟨a, b⟩ hp G0 H0 k hk
    have e3 : Dn.cutD (xs.map nI) (some (a : Int)) (some (b : Int)) = ((xs.take b).drop a).map nI := by rw [cut_mid, List.map_drop, List.map_take]
    walk_at "r"
    rw [e3, intsOf_N]
    walk_at "r"
    rw [sum_cast]
    exact hk _ rfl
  · walk_at "r"
    unfold hts encN at hq
    rw [List.map_map] at hq
    exact hq
def ceiL (z h : Nat) : Nat := (h + z - 1) / z * z
def grid (z : Nat) : Nat → List Nat → List Nat
  | _, [] => []
  | h, x :: xs => h :: grid z (ceiL z (h + x)) xs
def c_on_grid : DC := fun ds Q _ => ∃ (xs : List Nat) (z : Nat), ds = [encN xs, nI z] ∧ Blk xs ∧ 1 ≤ z ∧ z ≤ 1000 ∧ Q (encN (grid z 0 xs))
theorem len_on_grid : ∀ ds kq ke, c_on_grid ds kq ke → ds.length = 2 := by rintro _ _ _ ⟨xs, h, rfl, _⟩; rfl
theorem ceil_neg (h z : Nat) (hz : 1 ≤ z) : -(-(h : Int)).fdiv (z : Int) * (z : Int) = ((ceiL z h : Nat) : Int) := by
  rw [Int.fdiv_eq_ediv_of_nonneg _ (by omega)]
  unfold ceiL
  have h1 := Nat.div_add_mod (h + z - 1) z
  have h2 := Nat.mod_lt (h + z - 1) (show z > 0 by omega)
  have h3 : -(((h + z - 1) / z : Nat) : Int) = -(h : Int) / (z : Int) := by
    symm
    have h4 : (-(((h + z - 1) / z : Nat) : Int)) * (z : Int) = -((z * ((h + z - 1) / z) : Nat) : Int) := by rw [Int.neg_mul, Int.natCast_mul, Int.mul_comm]
    refine (Int.ediv_eq_iff_of_pos (by omega)).mpr ⟨?_, ?_⟩
    · rw [h4]; omega
    · rw [h4]; omega
  rw [← h3, Int.neg_neg, Int.natCast_mul]
abbrev s_on_grid : Stmt := topS 19
theorem sc_on_grid : FnScope ["blocks", "lead", "block", "found", "here"] ["blocks", "lead"] (defScope s_on_grid) := ⟨rfl, rfl, rfl, by decide +kernel, rfl, by decide +kernel, by decide +kernel⟩
theorem ok_on_grid {f : Addr} {fd : FuncData} (F : Fun K "on_grid" "on_grid" s_on_grid f fd) (hm : mg "on_grid" = some (.ref f)) (hb : Binds K fd ["blocks", "lead"] []) (bl : ∀ x : Str, bnames.contains x = true → mg x = none) : Pf P w K mg base T 1 "on_grid" 2 c_on_grid := by
  refine pf_of (k := 0) F sc_on_grid rfl hm hb bl (len_on_grid) fun A outer s H G E ds kq ke hc c tk => ?_
  refine ⟨_, (dss_cons (ds_mix2 (i := 3) (j := 4) c rfl rfl (by decide) rfl rfl (dm_own c (df_lst da_nil) (fun _ _ c => (dm_val de_int dm_nil))))
      (dss_cons (ds_for c (di_seq (de_var 0)) (dg_name (i := 2) c rfl (by first | exact Or.inl rfl | exact Or.inr rfl)) (dss_cons (ds_app (i := 3) (de_var 4))
        (dss_one (ds_set (i := 4) c rfl (Or.inl rfl) (de_bin od_mulA (de_neg (de_bin od_fdiv (de_neg (de_bin od_add (db_var 4) (db_var 2)).toB).toB (db_var 1)).toB).toB (db_var 1))))))
      (dss_one (ds_ret (de_callT cd_tuple (nb c) boot_tuple (dbs_cons (db_var 3) dbs_nil)))))), ?_⟩
  obtain ⟨xs, z, rfl, hB, hz1, hz, hq⟩ := hc
  walk_at "r"
  intro _ _
  walk_at "r"
  refine ⟨fun r ρ => ∃ (done rest : List Nat) (h : Nat) (s : Sl), ρ = [.val (encN xs), .val (nI z), s, .own (.list (done.map nI)), .val (nI h)] ∧ r = rest.map nI ∧ done.length + rest.length ≤ 60 ∧ (∀ x ∈ rest, x ≤ 1000000) ∧ h ≤ done.length * 1001000 ∧ kq (encN (done ++ grid z h rest)), ⟨[], xs, 0, .non, rfl, rfl, by simpa using hB.1, fun x hx => (hB.2 x hx).2, by simp, hq⟩, ?_, ?_⟩
  · rintro x r ρ ⟨done, rest, h, s, rfl, hr, hl, hb, hh, hq⟩
    obtain ⟨y, rest, rfl, rfl, rfl⟩ := map_cons' hr
    have hy := hb y List.mem_cons_self
    have hl' : done.length ≤ 59 := by simp at hl; omega
    walk_at "r"
    refine ⟨by rw [List.length_map]; omega, ?_⟩
    have hc' : ceiL z (h + y) ≤ h + y + z - 1 := Nat.div_mul_le_self _ _
    walk_at "r"
    refine ⟨done ++ [h], rest, ceiL z (h + y), .val (nI y), ?_, rfl, by simp at hl ⊢; omega, fun x hx => hb x (List.mem_cons_of_mem _ hx), by simp; omega, ?_⟩
    · rw [show ((h : Nat) : Int) + ((y : Nat) : Int) = ((h + y : Nat) : Int) by omega, ceil_neg _ _ hz1, List.map_append]; rfl
    · unfold grid at hq
      rw [List.append_assoc]
      exact hq
  · rintro ρ ⟨done, rest, h, s, rfl, hr, hl, hb, hh, hq⟩
    cases map_nil' hr
    walk_at "r"
    unfold grid at hq
    rw [List.append_nil] at hq
    exact hq
def wst : List Nat → List Nat → Int
  | a :: b :: r, x :: xs => ((b : Int) - a - x) + wst (b :: r) xs
  | _, _ => 0
def c_wasted_on_grid : DC := fun ds Q _ => ∃ (xs : List Nat) (z : Nat), ds = [encN xs, nI z] ∧ Blk xs ∧ 1 ≤ z ∧ z ≤ 1000 ∧ Q (.int (wst (grid z 0 xs) xs))
theorem len_wasted_on_grid : ∀ ds kq ke, c_wasted_on_grid ds kq ke → ds.length = 2 := by rintro _ _ _ ⟨xs, h, rfl, _⟩; rfl
theorem wst_sum : ∀ (st xs : List Nat), ((st.zip (st.tail.zip xs)).map fun p => (p.2.1 : Int) - p.1 - p.2.2).sum = wst st xs
  | [], xs => by simp [wst]
  | [a], xs => by simp [wst]
  | a :: b :: r, [] => by simp [wst]
  | a :: b :: r, x :: xs => by
    have := wst_sum (b :: r) xs
    show (((a, (b, x)) :: (b :: r).zip (r.zip xs)).map fun p => (p.2.1 : Int) - p.1 - p.2.2).sum = _
    rw [List.map_cons, List.sum_cons]
    unfold wst
    rw [← this]; rfl
abbrev s_wasted_on_grid : Stmt := topS 20
theorem sc_wasted_on_grid : FnScope ["blocks", "lead", "starts", "one", "two", "block"] ["blocks", "lead"] (defScope s_wasted_on_grid) := ⟨rfl, rfl, rfl, by decide +kernel, rfl, by decide +kernel, by decide +kernel⟩
theorem ok_wasted_on_grid {f : Addr} {fd : FuncData} (F : Fun K "wasted_on_grid" "wasted_on_grid" s_wasted_on_grid f fd) (hm : mg "wasted_on_grid" = some (.ref f)) (hb : Binds K fd ["blocks", "lead"] []) (bl : ∀ x : Str, bnames.contains x = true → mg x = none) (p_on_grid : Pf P w K mg base T 1 "on_grid" 2 c_on_grid) : Pf P w K mg base T 2 "wasted_on_grid" 2 c_wasted_on_grid := by
  refine pf_of (k := 1) F sc_wasted_on_grid rfl hm hb bl (len_wasted_on_grid) fun A outer s H G E ds kq ke hc c tk => ?_
  refine ⟨_, (dss_cons (ds_set (i := 2) c rfl (Or.inl rfl) (de_call p_on_grid c (da_cons (de_var 0) (da_cons (de_var 1) da_nil))))
      (dss_one (ds_ret (de_callB (cd_sumA c) (nb c) boot_sum (dbs_cons (df_lc (own := [("one", 3), ("two", 4), ("block", 5)]) c (di_zip3 c (de_var 2) (de_slice (db_var 2) (dp_some de_int.toB) dp_none) (de_var 0)) rfl (fun _ _ _ _ _ _ _ c => (dg_tup (n := 3) c (dgs_cons (dg_name (i := 3) c rfl (by first | exact Or.inl rfl | exact Or.inr rfl)) (dgs_cons (dg_name (i := 4) c rfl (by first | exact Or.inl rfl | exact Or.inr rfl)) (dgs_cons (dg_name (i := 5) c rfl (by first | exact Or.inl rfl | exact Or.inr rfl)) dgs_nil))))) (fun _ _ _ _ _ _ _ c => dts_nil) (fun _ _ _ _ _ _ _ c => (de_bin od_sub (de_bin od_sub (db_var 4) (db_var 3)).toB (db_var 5)))).toE.toB dbs_nil))))), ?_⟩
  obtain ⟨xs, z, rfl, hB, hz1, hz, hq⟩ := hc
  walk_at "r"
  refine ⟨xs, z, rfl, hB, hz1, hz, ?_⟩
  generalize grid z 0 xs = st at hq ⊢
  walk_at "r"
  have e1 : Dn.cutD (st.map nI) (some 1) none = st.tail.map nI := by
    rw [show (1 : Int) = ((1 : Nat) : Int) from rfl, cut_from, ← List.map_drop, List.drop_one]
  rw [e1]
  have e2 : zipL3 (st.map nI) (st.tail.map nI) (xs.map nI) = (st.zip (st.tail.zip xs)).map fun p => .tuple [nI p.1, nI p.2.1, nI p.2.2] := by
    unfold zipL3
    rw [List.zip_map, List.zip_map, List.map_map]; rfl
  refine lc_map [.val (encN xs), .val (nI z), .val (encN st), .non, .non, .non] rfl (st.zip (st.tail.zip xs)) (fun p => .tuple [nI p.1, nI p.2.1, nI p.2.2]) (fun p => .int ((p.2.1 : Int) - p.1 - p.2.2)) e2 (by have := hB.1; rw [List.length_zip, List.length_zip]; omega) ?_ ?_
  · rintro ⟨a, b, x⟩ hp G0 H0 k hk
    walk_at "r"
    exact hk _ rfl
  · walk_at "r"
    rw [show ((st.zip (st.tail.zip xs)).map fun p => PyData.int ((p.2.1 : Int) - p.1 - p.2.2)) = ((st.zip (st.tail.zip xs)).map fun p => (p.2.1 : Int) - p.1 - p.2.2).map PyData.int by rw [List.map_map]; rfl, intsOf_map]
    walk_at "r"
    rw [wst_sum]
    exact hq
end
end K16
namespace K16
open PySem PySem.Spec PyProof.Rows L2 Dn
local macro_rules | `(tactic| walk_at "r") => `(tactic| ((conv => whnf); (repeat ((first | refine And.intro rfl ?_ | refine And.intro cm_l ?_ | refine And.intro cm_r ?_ | refine And.intro (by decide) ?_ | refine And.intro (cdv_lt (a := 64) (by decide) (by decide)) ?_ | refine And.intro (by omega) ?_ | refine And.intro (cm_r (by omega)) ?_ | refine And.intro (cdv_lt (a := 60) (by omega) (by omega)) ?_); (conv => whnf)))))


def sbs : Nat → List (Nat × Nat) → List Nat
  | _, [] => []
  | h, p :: r => h :: sbs (h + max p.1 p.2) r
def c_side_by_side : DC := fun ds Q _ => ∃ (xs ys : List Nat), ds = [encN xs, encN ys] ∧ Blk xs ∧ Blk ys ∧ Q (encN (sbs 0 (xs.zip ys)))
theorem len_side_by_side : ∀ ds kq ke, c_side_by_side ds kq ke → ds.length = 2 := by rintro _ _ _ ⟨xs, h, rfl, _⟩; rfl
def wid (room c : Nat) (k : Nat) : Nat := room / c + if k < room % c then 1 else 0
def wids (room c g : Nat) : Nat → Nat → Nat → List (Nat × Nat)
  | 0, _, _ => []
  | n + 1, k, h => (h, wid room c k) :: wids room c g n (k + 1) (h + wid room c k + g)
def encP (p : Nat × Nat) : D := .tuple [nI p.1, nI p.2]
def encS (l : List (Nat × Nat)) : D := .tuple (l.map encP)
def c_widths_for (C : Addr) : DC := fun ds Q E => ∃ (wd c g : Nat), ds = [nI wd, nI c, nI g] ∧ wd ≤ 1000 ∧ 1 ≤ c ∧ c ≤ 100 ∧ g ≤ 100 ∧ c + g * (c - 1) ≤ wd ∧ Q (encS (wids (wd - g * (c - 1)) c g c 0 0))
theorem len_widths_for {C : Addr} : ∀ ds kq ke, c_widths_for C ds kq ke → ds.length = 3 := by rintro _ _ _ ⟨xs, c, h, rfl, _⟩; rfl
def c_margins_of (C : Addr) : DC := fun ds Q E => ∃ (p0 p1 b0 b1 r0 r1 r2 r3 : Nat), ds = [encP (p0, p1), encP (b0, b1), .tuple [nI r0, nI r1, nI r2, nI r3]] ∧ p0 ≤ 1000 ∧ p1 ≤ 1000 ∧ b0 ≤ p0 ∧ b1 ≤ p1 ∧ 1 ≤ r0 ∧ 1 ≤ r1 ∧ 1 ≤ r2 ∧ 1 ≤ r3 ∧ r0 ≤ 100 ∧ r1 ≤ 100 ∧ r2 ≤ 100 ∧ r3 ≤ 100 ∧
  Q (encP ((p0 - b0) * r0 / (r0 + r1), (p1 - b1) * r2 / (r2 + r3)))
theorem len_margins_of {C : Addr} : ∀ ds kq ke, c_margins_of C ds kq ke → ds.length = 3 := by rintro _ _ _ ⟨p0, p1, b0, b1, r0, r1, r2, r3, rfl, _⟩; rfl
def c_opposite : DC := fun ds Q _ => ∃ (p0 p1 b0 b1 : Nat) (x y : Int), ds = [encP (p0, p1), encP (b0, b1), .tuple [.int x, .int y]] ∧ Q (.tuple [.int ((p0 : Int) - b0 - x), .int y])
theorem len_opposite : ∀ ds kq ke, c_opposite ds kq ke → ds.length = 3 := by rintro _ _ _ ⟨p0, p1, b0, b1, x, y, rfl, _⟩; rfl
section
variable {P : Program} {w : World} {K : PySem.W.Frag} {mg : Str → Option Value} {base : Heap} {T : List Addr}
abbrev s_side_by_side : Stmt := topS 21
theorem sc_side_by_side : FnScope ["left", "right", "found", "here", "one", "two"] ["left", "right"] (defScope s_side_by_side) := ⟨rfl, rfl, rfl, by decide +kernel, rfl, by decide +kernel, by decide +kernel⟩
theorem ok_side_by_side {f : Addr} {fd : FuncData} (F : Fun K "side_by_side" "side_by_side" s_side_by_side f fd) (hm : mg "side_by_side" = some (.ref f)) (hb : Binds K fd ["left", "right"] []) (bl : ∀ x : Str, bnames.contains x = true → mg x = none) : Pf P w K mg base T 1 "side_by_side" 2 c_side_by_side := by
  refine pf_of (k := 0) F sc_side_by_side rfl hm hb bl (len_side_by_side) fun A outer s H G E ds kq ke hc c tk => ?_
  refine ⟨_, (dss_cons (ds_mix2 (i := 2) (j := 3) c rfl rfl (by decide) rfl rfl (dm_own c (df_lst da_nil) (fun _ _ c => (dm_val de_int dm_nil))))
      (dss_cons (ds_for c (di_zip c (de_var 0) (de_var 1)) (dg_tup (n := 2) c (dgs_cons (dg_name (i := 4) c rfl (by first | exact Or.inl rfl | exact Or.inr rfl)) (dgs_cons (dg_name (i := 5) c rfl (by first | exact Or.inl rfl | exact Or.inr rfl)) dgs_nil))) (dss_cons (ds_app (i := 2) (de_var 3))
        (dss_one (ds_aug (i := 3) c rfl (Or.inl rfl) od_iadd (de_callB (cd_maxB c) (nb c) boot_max (dbs_cons (db_var 4) (dbs_cons (db_var 5) dbs_nil))).toB))))
      (dss_one (ds_ret (de_callT cd_tuple (nb c) boot_tuple (dbs_cons (db_var 2) dbs_nil)))))), ?_⟩
  obtain ⟨xs, ys, rfl, hB, hB2, hq⟩ := hc
  walk_at "r"
  intro _ _
  walk_at "r"
  have e2 : zipL (xs.map nI) (ys.map nI) = (xs.zip ys).map fun p => .tuple [nI p.1, nI p.2] := by
    unfold zipL
    rw [List.zip_map, List.map_map]; rfl
  have hl : (xs.zip ys).length ≤ 60 := by have := hB.1; rw [List.length_zip]; omega
  have hb : ∀ p ∈ xs.zip ys, p.1 ≤ 1000000 ∧ p.2 ≤ 1000000 := fun p hp => ⟨(hB.2 _ (List.of_mem_zip hp).1).2, (hB2.2 _ (List.of_mem_zip hp).2).2⟩
  rw [e2]
  refine ⟨fun r ρ => ∃ (done : List Nat) (rest : List (Nat × Nat)) (h : Nat) (s s2 : Sl), ρ = [.val (encN xs), .val (encN ys), .own (.list (done.map nI)), .val (nI h), s, s2] ∧ r = rest.map (fun p => .tuple [nI p.1, nI p.2]) ∧ done.length + rest.length ≤ 60 ∧ kq (encN (done ++ sbs h rest)), ⟨[], _, 0, .non, .non, rfl, rfl, by simpa using hl, hq⟩, ?_, ?_⟩
  · rintro x r ρ ⟨done, rest, h, s, s2, rfl, hr, hl, hq⟩
    obtain ⟨⟨a, b⟩, rest, rfl, rfl, rfl⟩ := map_cons' hr
    have hl' : done.length ≤ 59 := by simp at hl; omega
    walk_at "r"
    refine ⟨by rw [List.length_map]; omega, ?_⟩
    walk_at "r"
    refine ⟨done ++ [h], rest, h + max a b, .val (nI a), .val (nI b), ?_, rfl, by simp at hl ⊢; omega, ?_⟩
    · have e : ((h : Int) + if ((b : Nat) : Int) > ((a : Nat) : Int) then ((b : Nat) : Int) else ((a : Nat) : Int)) = ((h + max a b : Nat) : Int) := by split <;> omega
      show _ = [Sl.val (encN xs), .val (encN ys), .own (.list ((done ++ [h]).map nI)), .val (.int ((h + max a b : Nat) : Int)), .val (nI a), .val (nI b)]
      rw [← e, List.map_append]; rfl
    · unfold sbs at hq
      rw [List.append_assoc]
      exact hq
  · rintro ρ ⟨done, rest, h, s, s2, rfl, hr, hl, hq⟩
    cases map_nil' hr
    walk_at "r"
    unfold sbs at hq
    rw [List.append_nil] at hq
    exact hq
abbrev s_opposite : Stmt := topS 25
theorem sc_opposite : FnScope ["page", "block", "place"] ["page", "block", "place"] (defScope s_opposite) := ⟨rfl, rfl, rfl, by decide +kernel, rfl, by decide +kernel, by decide +kernel⟩
theorem ok_opposite {f : Addr} {fd : FuncData} (F : Fun K "opposite" "opposite" s_opposite f fd) (hm : mg "opposite" = some (.ref f)) (hb : Binds K fd ["page", "block", "place"] []) (bl : ∀ x : Str, bnames.contains x = true → mg x = none) : Pf P w K mg base T 1 "opposite" 3 c_opposite := by
  refine pf_of (k := 0) F sc_opposite rfl hm hb bl (len_opposite) fun A outer s H G E ds kq ke hc c tk => ?_
  refine ⟨_, (dss_one (ds_ret (de_tup (da_cons (de_bin od_sub (de_bin od_sub (de_ixA c (db_var 0) de_int.toB).toB (de_ixA c (db_var 1) de_int.toB).toB).toB (de_ixA c (db_var 2) de_int.toB).toB) (da_cons (de_ixA c (db_var 2) de_int.toB) da_nil))))), ?_⟩
  obtain ⟨p0, p1, b0, b1, x, y, rfl, hq⟩ := hc
  walk_at "r"
  exact hq
abbrev s_margins_of : Stmt := topS 24
theorem sc_margins_of : FnScope ["page", "block", "ratio", "wide", "high", "inner", "outer", "upper", "lower"] ["page", "block", "ratio"] (defScope s_margins_of) := ⟨rfl, rfl, rfl, by decide +kernel, rfl, by decide +kernel, by decide +kernel⟩
theorem ok_margins_of {f : Addr} {fd : FuncData} (F : Fun K "margins_of" "margins_of" s_margins_of f fd) (hm : mg "margins_of" = some (.ref f)) (hb : Binds K fd ["page", "block", "ratio"] []) (bl : ∀ x : Str, bnames.contains x = true → mg x = none) {C_NoSuch : Addr} (x_NoSuch : ExcF K mg "NoSuch" C_NoSuch) : Pf P w K mg base T 1 "margins_of" 3 (c_margins_of C_NoSuch) := by
  refine pf_of (k := 0) F sc_margins_of rfl hm hb bl (len_margins_of) fun A outer s H G E ds kq ke hc c tk => ?_
  refine ⟨_, (dss_cons (ds_par (i := 3) (j := 4) c rfl rfl (by decide) rfl rfl (da_cons (de_bin od_sub (de_ixA c (db_var 0) de_int.toB).toB (de_ixA c (db_var 1) de_int.toB).toB) (da_cons (de_bin od_sub (de_ixA c (db_var 0) de_int.toB).toB (de_ixA c (db_var 1) de_int.toB).toB) da_nil)))
      (dss_cons (ds_if (dw_or (dt_cmp (od_ltG c) (db_var 3) de_int.toB) (dw_or1 (dt_cmp (od_ltG c) (db_var 4) de_int.toB))).t (dss_one (ds_raise x_NoSuch c tk)) dss_nil)
      (dss_cons (ds_asg (de_var 2) (dg_tup (n := 4) c (dgs_cons (dg_name (i := 5) c rfl (by first | exact Or.inl rfl | exact Or.inr rfl)) (dgs_cons (dg_name (i := 6) c rfl (by first | exact Or.inl rfl | exact Or.inr rfl)) (dgs_cons (dg_name (i := 7) c rfl (by first | exact Or.inl rfl | exact Or.inr rfl)) (dgs_cons (dg_name (i := 8) c rfl (by first | exact Or.inl rfl | exact Or.inr rfl)) dgs_nil))))))
      (dss_one (ds_ret (de_tup (da_cons (de_bin od_fdiv (de_bin od_mulA (db_var 3) (db_var 5)).toB (de_bin od_add (db_var 5) (db_var 6)).toB) (da_cons (de_bin od_fdiv (de_bin od_mulA (db_var 4) (db_var 7)).toB (de_bin od_add (db_var 7) (db_var 8)).toB) da_nil)))))))), ?_⟩
  obtain ⟨p0, p1, b0, b1, r0, r1, r2, r3, rfl, h1, h2, h3, h4, g0, g1, g2, g3, g4, g5, g6, g7, hq⟩ := hc
  walk_at "r"
  refine brn.ff (decide_eq_false (by show ¬ (p0 : Int) - b0 < 0; omega)) ?_
  walk_at "r"
  refine brn.ff (decide_eq_false (by show ¬ (p1 : Int) - b1 < 0; omega)) ?_
  walk_at "r"
  have e1 : ((((p0 : Nat) : Int) - ((b0 : Nat) : Int)) * ((r0 : Nat) : Int)).fdiv (((r0 : Nat) : Int) + ((r1 : Nat) : Int)) = (((p0 - b0) * r0 / (r0 + r1) : Nat) : Int) := by
    rw [← fdiv_nat, show (((r0 + r1 : Nat) : Int)) = ((r0 : Nat) : Int) + ((r1 : Nat) : Int) by omega, Int.natCast_mul, show (((p0 - b0 : Nat) : Int)) = ((p0 : Nat) : Int) - ((b0 : Nat) : Int) by omega]
  have e2 : ((((p1 : Nat) : Int) - ((b1 : Nat) : Int)) * ((r2 : Nat) : Int)).fdiv (((r2 : Nat) : Int) + ((r3 : Nat) : Int)) = (((p1 - b1) * r2 / (r2 + r3) : Nat) : Int) := by
    rw [← fdiv_nat, show (((r2 + r3 : Nat) : Int)) = ((r2 : Nat) : Int) + ((r3 : Nat) : Int) by omega, Int.natCast_mul, show (((p1 - b1 : Nat) : Int)) = ((p1 : Nat) : Int) - ((b1 : Nat) : Int) by omega]
  show kq (.tuple [.int (((((p0 : Nat) : Int) - ((b0 : Nat) : Int)) * ((r0 : Nat) : Int)).fdiv (((r0 : Nat) : Int) + ((r1 : Nat) : Int))), .int (((((p1 : Nat) : Int) - ((b1 : Nat) : Int)) * ((r2 : Nat) : Int)).fdiv (((r2 : Nat) : Int) + ((r3 : Nat) : Int)))])
  rw [e1, e2]
  exact hq
abbrev s_widths_for : Stmt := topS 23
theorem sc_widths_for : FnScope ["wide", "columns", "gutter", "room", "number", "found", "here", "size"] ["wide", "columns", "gutter"] (defScope s_widths_for) := ⟨rfl, rfl, rfl, by decide +kernel, rfl, by decide +kernel, by decide +kernel⟩
theorem ok_widths_for {f : Addr} {fd : FuncData} (F : Fun K "widths_for" "widths_for" s_widths_for f fd) (hm : mg "widths_for" = some (.ref f)) (hb : Binds K fd ["wide", "columns", "gutter"] []) (bl : ∀ x : Str, bnames.contains x = true → mg x = none) {C_NoSuch : Addr} (x_NoSuch : ExcF K mg "NoSuch" C_NoSuch) : Pf P w K mg base T 1 "widths_for" 3 (c_widths_for C_NoSuch) := by
  refine pf_of (k := 0) F sc_widths_for rfl hm hb bl (len_widths_for) fun A outer s H G E ds kq ke hc c tk => ?_
  refine ⟨_, (dss_cons (ds_set (i := 3) c rfl (Or.inl rfl) (de_bin od_sub (db_var 0) (de_bin od_mulA (db_var 2) (de_bin od_sub (db_var 1) de_int.toB).toB).toB))
      (dss_cons (ds_if (dt_cmp (od_ltG c) (db_var 3) (db_var 1)) (dss_one (ds_raise x_NoSuch c tk)) dss_nil)
      (dss_cons (ds_mix2 (i := 5) (j := 6) c rfl rfl (by decide) rfl rfl (dm_own c (df_lst da_nil) (fun _ _ c => (dm_val de_int dm_nil))))
      (dss_cons (ds_for c (di_range1 (nb c) (dbs_cons (db_var 1) dbs_nil)) (dg_name (i := 4) c rfl (by first | exact Or.inl rfl | exact Or.inr rfl)) (dss_cons (ds_set (i := 7) c rfl (Or.inl rfl) (de_bin od_add (de_bin od_fdiv (db_var 3) (db_var 1)).toB (de_if (dt_cmp (od_ltG c) (db_var 4) (de_bin od_mod (db_var 3) (db_var 1)).toB) de_int de_int).toB))
        (dss_cons (ds_app (i := 5) (de_tup (da_cons (de_var 6) (da_cons (de_var 7) da_nil))))
        (dss_one (ds_aug (i := 6) c rfl (Or.inl rfl) od_iadd (de_bin od_add (db_var 7) (db_var 2)).toB)))))
      (dss_one (ds_ret (de_callT cd_tuple (nb c) boot_tuple (dbs_cons (db_var 5) dbs_nil)))))))), ?_⟩
  obtain ⟨wd, c, g, rfl, h1, h2, h3, h5', h5, hq⟩ := hc
  walk_at "r"
  have hg : g * (c - 1) ≤ 9900 := Nat.mul_le_mul (show g ≤ 100 by omega) (show c - 1 ≤ 99 by omega)
  have eg : ((g : Int) * ((c : Int) - 1)) = ((g * (c - 1) : Nat) : Int) := by
    rw [show ((c : Int) - 1) = ((c - 1 : Nat) : Int) by omega, Int.natCast_mul]
  rw [eg]
  refine brn.ff (decide_eq_false (by omega)) ?_
  rw [show ((wd : Int) - ((g * (c - 1) : Nat) : Int)) = ((wd - g * (c - 1) : Nat) : Int) by omega]
  generalize hroom : wd - g * (c - 1) = room at hq ⊢
  walk_at "r"
  intro _ _
  walk_at "r"
  have hr1 : room ≤ 1000 := by omega
  have hw : ∀ k, wid room c k ≤ 1001 := fun k => by
    unfold wid
    have := Nat.div_le_self room c
    split <;> omega
  rw [Int.toNat_natCast]
  refine ⟨fun r ρ => ∃ (done : List (Nat × Nat)) (k n h : Nat) (s s2 : Sl), ρ = [.val (nI wd), .val (nI c), .val (nI g), .val (nI room), s, .own (.list (done.map encP)), .val (nI h), s2] ∧ r = rangeD (k : Nat) 1 n ∧ k + n = c ∧ done.length = k ∧ h ≤ k * 1200 ∧ kq (encS (done ++ wids room c g n k h)), ⟨[], 0, c, 0, .non, .non, rfl, rfl, by omega, rfl, by omega, hq⟩, ?_, ?_⟩
  · rintro x r ρ ⟨done, k, n, h, s, s2, rfl, hr, hkn, hl, hh, hq⟩
    obtain ⟨n, rfl, rfl, rfl⟩ := rangeD_cons hr
    have hwk := hw k
    walk_at "r"
    rw [fdiv_nat, fmod_nat]
    refine brn.of (fun h1 => ?_) fun h1 => ?_
    · have ew : wid room c k = room / c + 1 := by unfold wid; rw [if_pos (by have := of_decide_eq_true h1; omega)]
      walk_at "r"
      refine ⟨by rw [List.length_map]; omega, ?_⟩
      walk_at "r"
      refine ⟨done ++ [(h, wid room c k)], k + 1, n, h + wid room c k + g, .val (nI k), .val (nI (wid room c k)), ?_, ?_, by omega, by simp [hl], by omega, ?_⟩
      · rw [ew, List.map_append]
        show _ = [Sl.val (nI wd), .val (nI c), .val (nI g), .val (nI room), .val (nI k), .own (.list (done.map encP ++ [.tuple [nI h, .int ((room / c + 1 : Nat) : Int)]])), .val (.int ((h + (room / c + 1) + g : Nat) : Int)), .val (.int ((room / c + 1 : Nat) : Int))]
        rw [show (((h + (room / c + 1) + g : Nat) : Int)) = (h : Int) + (((room / c : Nat) : Int) + 1 + (g : Int)) by omega, show (((room / c + 1 : Nat) : Int)) = ((room / c : Nat) : Int) + 1 by omega]
        rfl
      · rw [show ((k : Nat) : Int) + 1 = ((k + 1 : Nat) : Int) by omega]
      · unfold wids at hq
        rw [List.append_assoc]
        exact hq
    · have ew : wid room c k = room / c + 0 := by unfold wid; rw [if_neg (by have := of_decide_eq_false h1; omega)]
      walk_at "r"
      refine ⟨by rw [List.length_map]; omega, ?_⟩
      walk_at "r"
      refine ⟨done ++ [(h, wid room c k)], k + 1, n, h + wid room c k + g, .val (nI k), .val (nI (wid room c k)), ?_, ?_, by omega, by simp [hl], by omega, ?_⟩
      · rw [ew, List.map_append]
        show _ = [Sl.val (nI wd), .val (nI c), .val (nI g), .val (nI room), .val (nI k), .own (.list (done.map encP ++ [.tuple [nI h, .int ((room / c + 0 : Nat) : Int)]])), .val (.int ((h + (room / c + 0) + g : Nat) : Int)), .val (.int ((room / c + 0 : Nat) : Int))]
        rw [show (((h + (room / c + 0) + g : Nat) : Int)) = (h : Int) + (((room / c : Nat) : Int) + 0 + (g : Int)) by omega, show (((room / c + 0 : Nat) : Int)) = ((room / c : Nat) : Int) + 0 by omega]
        rfl
      · rw [show ((k : Nat) : Int) + 1 = ((k + 1 : Nat) : Int) by omega]
      · unfold wids at hq
        rw [List.append_assoc]
        exact hq
  · rintro ρ ⟨done, k, n, h, s, s2, rfl, hr, hkn, hl, hh, hq⟩
    cases rangeD_nil hr
    walk_at "r"
    unfold wids at hq
    rw [List.append_nil] at hq
    exact hq
end
end K16
namespace K16
open PySem PySem.Spec PyProof.Rows L2 Dn
local macro_rules | `(tactic| walk_at "r") => `(tactic| ((conv => whnf); (repeat ((first | refine And.intro rfl ?_ | refine And.intro cm_l ?_ | refine And.intro cm_r ?_ | refine And.intro (by decide) ?_ | refine And.intro (cdv_lt (a := 64) (by decide) (by decide)) ?_ | refine And.intro (by omega) ?_ | refine And.intro (cm_r (by omega)) ?_ | refine And.intro (cdv_lt (a := 60) (by omega) (by omega)) ?_); (conv => whnf)))))


abbrev Box := Nat × Nat × Nat × Nat
def encB (b : Box) : D := .tuple [nI b.1, nI b.2.1, nI b.2.2.1, nI b.2.2.2]
def meet (a b : Box) : Bool := decide (a.1 < b.2.2.1) && (decide (b.1 < a.2.2.1) && (decide (a.2.1 < b.2.2.2) && decide (b.2.1 < a.2.2.2)))
def c_do_meet : DC := fun ds Q _ => ∃ a b : Box, ds = [encB a, encB b] ∧ Q (.bool (meet a b))
theorem len_do_meet : ∀ ds kq ke, c_do_meet ds kq ke → ds.length = 2 := by rintro _ _ _ ⟨xs, c, rfl, _⟩; rfl
/-- the first meeting, by the second -/
def fmOk (bs : List Box) (r : Option (Nat × Nat)) : Prop := match r with
  | none => ∀ i j, i < j → (hj : j < bs.length) → (hi : i < bs.length) → meet bs[i] bs[j] = false
  | some (i, j) => ∃ (hi : i < bs.length) (hj : j < bs.length), i < j ∧ meet bs[i] bs[j] = true ∧ (∀ i', (h : i' < i) → meet (bs[i']'(by omega)) bs[j] = false) ∧ ∀ i' j', (h1 : i' < j') → (h2 : j' < j) → meet (bs[i']'(by omega)) (bs[j']'(by omega)) = false
def encO : Option (Nat × Nat) → D
  | none => .none
  | some p => encP p
def c_first_meeting : DC := fun ds Q _ => ∃ bs : List Box, ds = [.list (bs.map encB)] ∧ bs.length ≤ 100 ∧ ∀ r, fmOk bs r → Q (encO r)
theorem len_first_meeting : ∀ ds kq ke, c_first_meeting ds kq ke → ds.length = 1 := by rintro _ _ _ ⟨xs, rfl, _⟩; rfl
def thr : Nat → Nat → List Nat → Option (List Nat)
  | n, h, [] => if h < n then none else some []
  | n, h, x :: xs => if n ≤ h then some [] else (thr n (h + x) xs).map (h :: ·)
def c_threads_of (C : Addr) : DC := fun ds Q E => ∃ (xs : List Nat) (n : Nat), ds = [encN xs, nI n] ∧ Blk xs ∧ match thr n 0 xs with
  | none => E (.plain C)
  | some l => Q (encN l)
theorem len_threads_of {C : Addr} : ∀ ds kq ke, c_threads_of C ds kq ke → ds.length = 2 := by rintro _ _ _ ⟨xs, c, rfl, _⟩; rfl
section
variable {P : Program} {w : World} {K : PySem.W.Frag} {mg : Str → Option Value} {base : Heap} {T : List Addr}
abbrev s_do_meet : Stmt := topS 27
theorem sc_do_meet : FnScope ["one", "two"] ["one", "two"] (defScope s_do_meet) := ⟨rfl, rfl, rfl, by decide +kernel, rfl, by decide +kernel, by decide +kernel⟩
theorem ok_do_meet {f : Addr} {fd : FuncData} (F : Fun K "do_meet" "do_meet" s_do_meet f fd) (hm : mg "do_meet" = some (.ref f)) (hb : Binds K fd ["one", "two"] []) (bl : ∀ x : Str, bnames.contains x = true → mg x = none) : Pf P w K mg base T 1 "do_meet" 2 c_do_meet := by
  refine pf_of (k := 0) F sc_do_meet rfl hm hb bl (len_do_meet) fun A outer s H G E ds kq ke hc c tk => ?_
  refine ⟨_, (dss_one (ds_ret (de_and (de_cmp (od_ltG c) (de_ixA c (db_var 0) de_int.toB).toB (de_ixA c (db_var 1) de_int.toB).toB) (de_and (de_cmp (od_ltG c) (de_ixA c (db_var 1) de_int.toB).toB (de_ixA c (db_var 0) de_int.toB).toB) (de_and (de_cmp (od_ltG c) (de_ixA c (db_var 0) de_int.toB).toB (de_ixA c (db_var 1) de_int.toB).toB) (de_one (de_cmp (od_ltG c) (de_ixA c (db_var 1) de_int.toB).toB (de_ixA c (db_var 0) de_int.toB).toB))))))), ?_⟩
  obtain ⟨a, b, rfl, hq⟩ := hc
  have h1 : ∀ x y : Nat, decide ((x : Int) < (y : Int)) = decide (x < y) := fun x y => by
    rw [Bool.eq_iff_iff]; simp
  walk_at "r"
  refine brn.of (fun g => ?_) fun g => ?_
  · unfold meet at hq
    rw [show decide (a.1 < b.2.2.1) = true from (h1 _ _).symm.trans g, Bool.true_and] at hq
    walk_at "r"
    refine brn.of (fun g => ?_) fun g => ?_
    · rw [show decide (b.1 < a.2.2.1) = true from (h1 _ _).symm.trans g, Bool.true_and] at hq
      walk_at "r"
      refine brn.of (fun g => ?_) fun g => ?_
      · rw [show decide (a.2.1 < b.2.2.2) = true from (h1 _ _).symm.trans g, Bool.true_and] at hq
        walk_at "r"
        rw [← h1] at hq
        exact hq
      · rw [show decide (a.2.1 < b.2.2.2) = false from (h1 _ _).symm.trans g, Bool.false_and] at hq
        exact hq
    · rw [show decide (b.1 < a.2.2.1) = false from (h1 _ _).symm.trans g, Bool.false_and] at hq
      exact hq
  · unfold meet at hq
    rw [show decide (a.1 < b.2.2.1) = false from (h1 _ _).symm.trans g, Bool.false_and] at hq
    exact hq
abbrev s_first_meeting : Stmt := topS 28
theorem sc_first_meeting : FnScope ["boxes", "two", "one"] ["boxes"] (defScope s_first_meeting) := ⟨rfl, rfl, rfl, by decide +kernel, rfl, by decide +kernel, by decide +kernel⟩
theorem ok_first_meeting {f : Addr} {fd : FuncData} (F : Fun K "first_meeting" "first_meeting" s_first_meeting f fd) (hm : mg "first_meeting" = some (.ref f)) (hb : Binds K fd ["boxes"] []) (bl : ∀ x : Str, bnames.contains x = true → mg x = none) (p_do_meet : Pf P w K mg base T 1 "do_meet" 2 c_do_meet) : Pf P w K mg base T 2 "first_meeting" 1 c_first_meeting := by
  refine pf_of (k := 1) F sc_first_meeting rfl hm hb bl (len_first_meeting) fun A outer s H G E ds kq ke hc c tk => ?_
  refine ⟨_, (dss_cons (ds_for c (di_range1 (nb c) (dbs_cons (de_callB cd_lenA (nb c) PySem.boot_len (dbs_cons (db_var 0) dbs_nil)).toB dbs_nil)) (dg_name (i := 1) c rfl (by first | exact Or.inl rfl | exact Or.inr rfl)) (dss_one (ds_for c (di_range1 (nb c) (dbs_cons (db_var 1) dbs_nil)) (dg_name (i := 2) c rfl (by first | exact Or.inl rfl | exact Or.inr rfl)) (dss_one (ds_if (dt_tru (de_call p_do_meet c (da_cons (de_ixA c (db_var 0) (db_var 2)) (da_cons (de_ixA c (db_var 0) (db_var 1)) da_nil))).toB) (dss_one (ds_ret (de_tup (da_cons (de_var 2) (da_cons (de_var 1) da_nil))))) dss_nil)))))
      (dss_one (ds_ret de_non))), ?_⟩
  obtain ⟨bs, rfl, hl, hq⟩ := hc
  walk_at "r"
  refine ⟨by rw [List.length_map]; omega, ?_⟩
  walk_at "r"
  rw [List.length_map, Int.toNat_natCast]
  refine ⟨fun r ρ => ∃ (k n : Nat) (s s2 : Sl), ρ = [.val (.list (bs.map encB)), s, s2] ∧ r = rangeD (k : Nat) 1 n ∧ k + n = bs.length ∧ ∀ i' j', (h1 : i' < j') → (h2 : j' < k) → (h3 : j' < bs.length) → meet (bs[i']'(by omega)) bs[j'] = false, ⟨0, bs.length, .non, .non, rfl, rfl, by omega, fun _ _ _ z => absurd z (by omega)⟩, ?_, ?_⟩
  · rintro x r ρ ⟨k, n, s, s2, rfl, hr, hkn, hno⟩
    obtain ⟨n, rfl, rfl, rfl⟩ := rangeD_cons hr
    walk_at "r"
    rw [Int.toNat_natCast]
    have hk : k < bs.length := by omega
    refine ⟨fun r ρ => ∃ (i m : Nat) (s2 : Sl), ρ = [.val (.list (bs.map encB)), .val (nI k), s2] ∧ r = rangeD (i : Nat) 1 m ∧ i + m = k ∧ ∀ i', (h1 : i' < i) → (h2 : i' < bs.length) → meet bs[i'] bs[k] = false, ⟨0, k, s2, rfl, rfl, by omega, fun _ z => absurd z (by omega)⟩, ?_, ?_⟩
    · rintro x r ρ ⟨i, m, s2, rfl, hr, him, hno2⟩
      obtain ⟨m, rfl, rfl, rfl⟩ := rangeD_cons hr
      have hi : i < bs.length := by omega
      walk_at "r"
      rw [at_map encB bs i hi]
      walk_at "r"
      rw [at_map encB bs k hk]
      walk_at "r"
      refine ⟨bs[i], bs[k], rfl, ?_⟩
      walk_at "r"
      refine brn.of (fun g => ?_) fun g => ?_
      · walk_at "r"
        exact hq (some (i, k)) ⟨hi, hk, by omega, g, fun i' h => hno2 i' h (by omega), fun i' j' h1 h2 => hno i' j' h1 h2 (by omega)⟩
      · walk_at "r"
        refine ⟨i + 1, m, _, rfl, by rw [show ((i : Nat) : Int) + 1 = ((i + 1 : Nat) : Int) by omega], by omega, fun i' h h2 => ?_⟩
        by_cases he : i' = i
        · subst he; exact g
        · exact hno2 i' (by omega) h2
    · rintro ρ ⟨i, m, s2, rfl, hr, him, hno2⟩
      cases rangeD_nil hr
      refine ⟨k + 1, n, _, _, rfl, by rw [show ((k : Nat) : Int) + 1 = ((k + 1 : Nat) : Int) by omega], by omega, fun i' j' h1 h2 h3 => ?_⟩
      by_cases he : j' = k
      · subst he; exact hno2 i' (by omega) (by omega)
      · exact hno i' j' h1 (by omega) h3
  · rintro ρ ⟨k, n, s, s2, rfl, hr, hkn, hno⟩
    cases rangeD_nil hr
    walk_at "r"
    exact hq none fun i j hij hj hi => hno i j hij (by omega) hj
abbrev s_threads_of : Stmt := topS 29
theorem sc_threads_of : FnScope ["columns", "lines", "height", "found", "here"] ["columns", "lines"] (defScope s_threads_of) := ⟨rfl, rfl, rfl, by decide +kernel, rfl, by decide +kernel, by decide +kernel⟩
theorem ok_threads_of {f : Addr} {fd : FuncData} (F : Fun K "threads_of" "threads_of" s_threads_of f fd) (hm : mg "threads_of" = some (.ref f)) (hb : Binds K fd ["columns", "lines"] []) (bl : ∀ x : Str, bnames.contains x = true → mg x = none) {C_NoSuch : Addr} (x_NoSuch : ExcF K mg "NoSuch" C_NoSuch) : Pf P w K mg base T 1 "threads_of" 2 (c_threads_of C_NoSuch) := by
  refine pf_of (k := 0) F sc_threads_of rfl hm hb bl (len_threads_of) fun A outer s H G E ds kq ke hc c tk => ?_
  refine ⟨_, (dss_cons (ds_mix2 (i := 3) (j := 4) c rfl rfl (by decide) rfl rfl (dm_own c (df_lst da_nil) (fun _ _ c => (dm_val de_int dm_nil))))
      (dss_cons (ds_for c (di_seq (de_var 0)) (dg_name (i := 2) c rfl (by first | exact Or.inl rfl | exact Or.inr rfl)) (dss_cons (ds_if (dt_cmp (od_geG c) (db_var 4) (db_var 1)) (dss_one ds_break) dss_nil)
        (dss_cons (ds_app (i := 3) (de_var 4))
        (dss_one (ds_aug (i := 4) c rfl (Or.inl rfl) od_iadd (db_var 2))))))
      (dss_cons (ds_if (dt_cmp (od_ltG c) (db_var 4) (db_var 1)) (dss_one (ds_raise x_NoSuch c tk)) dss_nil)
      (dss_one (ds_ret (de_callT cd_tuple (nb c) boot_tuple (dbs_cons (db_var 3) dbs_nil))))))), ?_⟩
  obtain ⟨xs, n, rfl, hB, hq⟩ := hc
  walk_at "r"
  intro _ _
  walk_at "r"
  have hS := hB.sum
  refine ⟨fun r ρ => ∃ (done rest : List Nat) (h : Nat) (s : Sl), ρ = [.val (encN xs), .val (nI n), s, .own (.list (done.map nI)), .val (nI h)] ∧ r = rest.map nI ∧ done.length + rest.length ≤ 60 ∧ match thr n h rest with
    | none => ke (.plain C_NoSuch)
    | some l => kq (encN (done ++ l)), ⟨[], xs, 0, .non, rfl, rfl, by simpa using hB.1, by simpa using hq⟩, ?_, ?_⟩
  · rintro x r ρ ⟨done, rest, h, s, rfl, hr, hl, hq⟩
    obtain ⟨y, rest, rfl, rfl, rfl⟩ := map_cons' hr
    have hl' : done.length ≤ 59 := by simp at hl; omega
    walk_at "r"
    refine brn.of (fun g => ?_) fun g => ?_
    · have g : n ≤ h := by have := of_decide_eq_true g; omega
      have e : thr n h (y :: rest) = some [] := by unfold thr; rw [if_pos g]
      rw [e] at hq
      walk_at "r"
      refine brn.ff (decide_eq_false (by omega)) ?_
      walk_at "r"
      have hq : kq (encN (done ++ [])) := hq
      rw [List.append_nil] at hq
      exact hq
    · have g : ¬ n ≤ h := by have := of_decide_eq_false g; omega
      have e : thr n h (y :: rest) = (thr n (h + y) rest).map (h :: ·) := by rw [thr]; rw [if_neg g]
      rw [e] at hq
      walk_at "r"
      refine ⟨by rw [List.length_map]; omega, ?_⟩
      walk_at "r"
      refine ⟨done ++ [h], rest, h + y, .val (nI y), ?_, rfl, by simp at hl ⊢; omega, ?_⟩
      · rw [List.map_append]; rfl
      · cases e2 : thr n (h + y) rest with
        | none => rw [e2] at hq; exact hq
        | some l => rw [e2] at hq; simpa using hq
  · rintro ρ ⟨done, rest, h, s, rfl, hr, hl, hq⟩
    cases map_nil' hr
    walk_at "r"
    unfold thr at hq
    refine brn.of (fun g => ?_) fun g => ?_
    · rw [if_pos (by have := of_decide_eq_true g; omega)] at hq
      walk_at "r"
      exact hq
    · rw [if_neg (by have := of_decide_eq_false g; omega)] at hq
      walk_at "r"
      have hq : kq (encN (done ++ [])) := hq
      rw [List.append_nil] at hq
      exact hq
end
end K16
namespace K16
open PySem PySem.Spec PyProof.Rows L2 Dn
local macro_rules | `(tactic| walk_at "r") => `(tactic| ((conv => whnf); (repeat ((first | refine And.intro rfl ?_ | refine And.intro cm_l ?_ | refine And.intro cm_r ?_ | refine And.intro (by decide) ?_ | refine And.intro (cdv_lt (a := 64) (by decide) (by decide)) ?_ | refine And.intro (by omega) ?_ | refine And.intro (cm_r (by omega)) ?_ | refine And.intro (cdv_lt (a := 60) (by omega) (by omega)) ?_); (conv => whnf)))))


def szs (ws : List (Nat × Nat)) : Nat := (ws.map (·.2)).sum
inductive FL (n H : Nat) : Nat → Nat → List (Nat × Nat) → List Nat → Prop
  | nil (p h : Nat) : FL n H p h [] []
  | page (p h cnt : Nat) (ws : List (Nat × Nat)) (told : List Nat) : cnt ≤ ws.length → szs (ws.take cnt) ≤ H → (∀ f ∈ ws.take cnt, f.1 < h ∨ n ≤ h) → (n - min n (h + (H - szs (ws.take cnt)))) + (ws.drop cnt).length < (n - h) + ws.length → FL n H (p + 1) (min n (h + (H - szs (ws.take cnt)))) (ws.drop cnt) told → FL n H p h ws (List.replicate cnt p ++ told)
def c_floats_of (C : Addr) : DC := fun ds Q E => ∃ (n H : Nat) (ws : List (Nat × Nat)), ds = [nI n, encS ws, nI H] ∧ n ≤ 1000 ∧ 1 ≤ H ∧ H ≤ 1000 ∧ ws.length ≤ 100 ∧ (∀ f ∈ ws, f.2 ≤ H ∧ 1 ≤ f.2) ∧ ∀ told, FL n H 0 0 ws told → Q (encN told)
theorem len_floats_of {C : Addr} : ∀ ds kq ke, c_floats_of C ds kq ke → ds.length = 3 := by rintro _ _ _ ⟨xs, c, h, rfl, _⟩; rfl
theorem szs_snoc (l : List (Nat × Nat)) (f : Nat × Nat) : szs (l ++ [f]) = szs l + f.2 := by unfold szs; rw [List.map_append, List.sum_append]; simp
theorem take_next {α : Type} {l : List α} {c : Nat} {f : α} {r : List α} (h : l.drop c = f :: r) : l.take (c + 1) = l.take c ++ [f] ∧ l.drop (c + 1) = r ∧ c < l.length := by
  have hc : c < l.length := by
    rcases Nat.lt_or_ge c l.length with z | z
    · exact z
    · rw [List.drop_eq_nil_of_le z] at h; cases h
  have e := List.drop_eq_getElem_cons hc
  rw [h] at e
  obtain ⟨e1, e2⟩ := List.cons.inj e
  exact ⟨by rw [List.take_succ_eq_append_getElem hc, e1], e2.symm, hc⟩
section
variable {P : Program} {w : World} {K : PySem.W.Frag} {mg : Str → Option Value} {base : Heap} {T : List Addr}
abbrev s_floats_of : Stmt := topS 22
theorem sc_floats_of : FnScope ["lines", "figures", "height", "room", "found", "page", "here", "waiting", "placed", "_", "size"] ["lines", "figures", "height"] (defScope s_floats_of) := ⟨rfl, rfl, rfl, by decide +kernel, rfl, by decide +kernel, by decide +kernel⟩
theorem ok_floats_of {f : Addr} {fd : FuncData} (F : Fun K "floats_of" "floats_of" s_floats_of f fd) (hm : mg "floats_of" = some (.ref f)) (hb : Binds K fd ["lines", "figures", "height"] []) (bl : ∀ x : Str, bnames.contains x = true → mg x = none) {C_NoSuch : Addr} (x_NoSuch : ExcF K mg "NoSuch" C_NoSuch) (gt : GenT mg base T fd) : Pf P w K mg base T 2 "floats_of" 3 (c_floats_of C_NoSuch) := by
  refine pf_of (k := 1) F sc_floats_of rfl hm hb bl (len_floats_of) fun A outer s H G E ds kq ke hc c tk => ?_
  obtain ⟨cg, Pg, hcg, hPg, TBg⟩ := gt
  refine ⟨_, (dss_cons (ds_if (dt_tru (de_any (own := [("_", 9), ("size", 10)]) c TBg hcg hPg (di_seq (de_var 1)) rfl (fun _ _ _ _ _ _ c => (dg_tup (n := 2) c (dgs_cons (dg_name (i := 9) c rfl (by first | exact Or.inl rfl | exact Or.inr rfl)) (dgs_cons (dg_name (i := 10) c rfl (by first | exact Or.inl rfl | exact Or.inr rfl)) dgs_nil)))) (fun _ _ _ _ _ _ c => (de_cmp (od_gtG c) (db_var 10) (db_var 2)))).toB) (dss_one (ds_raise x_NoSuch c tk)) dss_nil)
      (dss_cons (ds_mixT4 (i := 4) (j := 5) (l := 6) (m := 7) c rfl rfl rfl rfl (Or.inl rfl) (Or.inl rfl) (Or.inl rfl) (Or.inl rfl) (dm_own c (df_lst da_nil) (fun _ _ c => (dm_val de_int (dm_val de_int (dm_own c (df_list c (db_var 1)) (fun _ _ c => dm_nil)))))))
      (dss_cons (ds_set (i := 3) c rfl (Or.inl rfl) (de_var 2))
      (dss_cons (ds_while c (dw_or (dt_cmp (od_ltG c) (db_var 6) (db_var 0)) (dw_or1 (dt_tru (db_var 7)))).t (dss_cons (ds_set (i := 8) c rfl (Or.inl rfl) de_bl)
        (dss_cons (ds_cut (ds_while c (dw_and (dt_tru (db_var 7)) (dw_and (dw_or (dt_cmp (od_ltG c) (de_ixA c (de_ixA c (db_var 7) de_int.toB).toB de_int.toB).toB (db_var 6)) (dw_or1 (dt_cmp (od_geG c) (db_var 6) (db_var 0)))).t (dw_and1 (dt_cmp (od_leG c) (de_ixA c (de_ixA c (db_var 7) de_int.toB).toB de_int.toB).toB (db_var 3))))).t (dss_cons (ds_aug (i := 3) c rfl (Or.inl rfl) od_isub (de_ixA c (de_popAt 7 de_int).toB de_int.toB).toB)
          (dss_cons (ds_app (i := 4) (de_var 5))
          (dss_one (ds_set (i := 8) c rfl (Or.inl rfl) de_bl))))))
        (dss_cons (ds_set (i := 6) c rfl (Or.inl rfl) (de_callB (cd_minB c) (nb c) boot_min (dbs_cons (db_var 0) (dbs_cons (de_bin od_add (db_var 6) (db_var 3)).toB dbs_nil))))
        (dss_cons (ds_par (i := 5) (j := 3) c rfl rfl (by decide) rfl rfl (da_cons (de_bin od_add (db_var 5) de_int.toB) (da_cons (de_var 2) da_nil)))
        (dss_one (ds_if (dw_and (dt_cmp (od_geG c) (db_var 6) (db_var 0)) (dw_and (dt_not (dt_tru (db_var 7))) (dw_and1 (dt_not (dt_tru (db_var 8)))))).t (dss_one ds_break) dss_nil)))))))
      (dss_one (ds_ret (de_callT cd_tuple (nb c) boot_tuple (dbs_cons (db_var 4) dbs_nil)))))))), ?_⟩
  obtain ⟨n, H, ws, rfl, hn, hH1, hH, hl, hw, hq⟩ := hc
  walk_at "r"
  refine any_mapP [.val (nI n), .val (encS ws), .val (nI H), .non, .non, .non, .non, .non, .non, .non, .non] ws encP (fun f => decide (f.2 > H)) rfl rfl ?_ (fun z => ?_) fun _ => ?_
  · rintro ⟨r, s⟩ hx k hk
    walk_at "r"
    rw [show decide (((s : Nat) : Int) > ((H : Nat) : Int)) = decide (s > H) by rw [Bool.eq_iff_iff]; simp]
    exact hk _ rfl
  · exfalso
    obtain ⟨f, hf, hz⟩ := List.any_eq_true.mp z
    have := hw f hf
    simp at hz; omega
  · walk_at "r"
    intro _ _
    walk_at "r"
    intro _ _
    walk_at "r"
    refine ⟨fun m ρ => ∃ (done : List Nat) (cur : List (Nat × Nat)) (p h : Nat) (s8 s9 s10 : Sl), ρ = [.val (nI n), .val (encS ws), .val (nI H), .val (nI H), .own (.list (done.map nI)), .val (nI p), .val (nI h), .own (.list (cur.map encP)), s8, s9, s10] ∧ h ≤ n ∧ done.length + cur.length ≤ 100 ∧ (∀ f ∈ cur, f.2 ≤ H ∧ 1 ≤ f.2) ∧ (∀ told, FL n H p h cur told → kq (encN (done ++ told))) ∧ m = (n - h) + cur.length, ⟨_, [], ws, 0, 0, .non, .non, .non, rfl, Nat.zero_le _, by simpa using hl, hw, hq, rfl⟩, ?_⟩
    rintro m ρ ⟨done, cur, p, h, s8, s9, s10, rfl, hh, hdl, hw, hq, rfl⟩
    refine tOr_of (decide (h < n)) (!cur.isEmpty) (fun k hk => ?_) (fun _ k hk => ?_) ?_
    · walk_at "r"
      rw [show decide (((h : Nat) : Int) < ((n : Nat) : Int)) = decide (h < n) by rw [Bool.eq_iff_iff]; simp]
      exact hk
    · walk_at "r"
      rw [show (cur.map encP).isEmpty = cur.isEmpty by cases cur <;> rfl]
      exact hk
    refine brn.of (fun hgo => ?_) fun hstop => ?_
    · walk_at "r"
      refine ⟨fun ρ => ∃ cnt, cnt ≤ cur.length ∧ szs (cur.take cnt) ≤ H ∧ (∀ f ∈ cur.take cnt, f.1 < h ∨ n ≤ h) ∧ (∀ f r, cur.drop cnt = f :: r → ¬ ((f.1 < h ∨ n ≤ h) ∧ f.2 ≤ H - szs (cur.take cnt))) ∧
        ρ = [.val (nI n), .val (encS ws), .val (nI H), .val (nI (H - szs (cur.take cnt))), .own (.list ((done ++ List.replicate cnt p).map nI)), .val (nI p), .val (nI h), .own (.list ((cur.drop cnt).map encP)), .val (.bool (decide (0 < cnt))), s9, s10], ?_, ?_⟩
      · refine ⟨fun m ρ => ∃ cnt, cnt ≤ cur.length ∧ szs (cur.take cnt) ≤ H ∧ (∀ f ∈ cur.take cnt, f.1 < h ∨ n ≤ h) ∧ ρ = [.val (nI n), .val (encS ws), .val (nI H), .val (nI (H - szs (cur.take cnt))), .own (.list ((done ++ List.replicate cnt p).map nI)), .val (nI p), .val (nI h), .own (.list ((cur.drop cnt).map encP)), .val (.bool (decide (0 < cnt))), s9, s10] ∧ m = cur.length - cnt, ⟨_, 0, Nat.zero_le _, by simp [szs], by simp, by simp [szs], rfl⟩, ?_⟩
        rintro m ρ ⟨cnt, hc, hs, hr, rfl, rfl⟩
        cases hd : cur.drop cnt with
        | nil =>
          walk_at "r"
          exact ⟨cnt, hc, hs, hr, fun f r z => (by rw [hd] at z; cases z), by rw [hd]⟩
        | cons f r =>
          obtain ⟨a, s⟩ := f
          obtain ⟨e1, e2, e3⟩ := take_next hd
          have hsa := hw (a, s) (by rw [← List.take_append_drop cnt cur, hd]; simp)
          refine tAnd_of true (decide (a < h ∨ n ≤ h) && decide (s ≤ H - szs (cur.take cnt))) (fun k hk => hk) (fun _ k hk => ?_) ?_
          · refine tAnd_of _ _ (fun k hk => ?_) (fun _ k hk => ?_) hk
            · refine tOr_of (decide (a < h)) (decide (n ≤ h)) (fun k hk => ?_) (fun _ k hk => ?_) ?_
              · walk_at "r"
                rw [List.map_cons, at_0]
                walk_at "r"
                rw [show decide (((a : Nat) : Int) < ((h : Nat) : Int)) = decide (a < h) by rw [Bool.eq_iff_iff]; simp]
                exact hk
              · walk_at "r"
                rw [show decide (((h : Nat) : Int) ≥ ((n : Nat) : Int)) = decide (n ≤ h) by rw [Bool.eq_iff_iff]; simp]
                exact hk
              · rw [← Bool.decide_or]; exact hk
            · walk_at "r"
              rw [List.map_cons, at_0]
              walk_at "r"
              rw [show decide (((s : Nat) : Int) ≤ ((H - szs (cur.take cnt) : Nat) : Int)) = decide (s ≤ H - szs (cur.take cnt)) by rw [Bool.eq_iff_iff]; simp]
              exact hk
          · refine brn.of (fun hg => ?_) fun hg => ?_
            · rw [Bool.true_and, Bool.and_eq_true] at hg
              have g1 := of_decide_eq_true hg.1
              have g2 := of_decide_eq_true hg.2
              walk_at "r"
              rw [List.map_cons, ixN_zero]
              walk_at "r"
              refine ⟨by simp; omega, ?_⟩
              walk_at "r"
              have es : szs (cur.take (cnt + 1)) = szs (cur.take cnt) + s := by rw [e1, szs_snoc]
              refine ⟨cur.length - (cnt + 1), by omega, cnt + 1, by omega, by omega, fun f hf => ?_, ?_, rfl⟩
              · rw [e1] at hf
                rcases List.mem_append.mp hf with z | z
                · exact hr f z
                · rw [List.mem_singleton.mp z]; exact g1
              · rw [es, e2, List.replicate_succ', ← List.append_assoc, List.map_append (l₂ := [p])]
                show _ = [Sl.val (nI n), .val (encS ws), .val (nI H), .val (.int ((H - (szs (cur.take cnt) + s) : Nat) : Int)), .own (.list ((done ++ List.replicate cnt p).map nI ++ [nI p])), .val (nI p), .val (nI h), .own (.list (r.map encP)), .val (.bool (decide (0 < cnt + 1))), s9, s10]
                rw [show (((H - (szs (cur.take cnt) + s) : Nat) : Int)) = ((H - szs (cur.take cnt) : Nat) : Int) - ((s : Nat) : Int) by omega, decide_eq_true (show 0 < cnt + 1 by omega)]
                rfl
            · have hg' : ¬ ((a < h ∨ n ≤ h) ∧ s ≤ H - szs (cur.take cnt)) := fun z => by
                rw [Bool.true_and, decide_eq_true z.1, decide_eq_true z.2] at hg; cases hg
              exact ⟨cnt, hc, hs, hr, fun f r' z => (by rw [hd] at z; cases z; exact hg'), by rw [hd]⟩
      · rintro ρ ⟨cnt, hc, hs, hr, hstop, rfl⟩
        walk_at "r"
        have eh : (if ((h : Nat) : Int) + ((H - szs (cur.take cnt) : Nat) : Int) < ((n : Nat) : Int) then ((h : Nat) : Int) + ((H - szs (cur.take cnt) : Nat) : Int) else ((n : Nat) : Int)) = ((min n (h + (H - szs (cur.take cnt))) : Nat) : Int) := by split <;> omega
        rw [eh]
        generalize hh' : min n (h + (H - szs (cur.take cnt))) = h'
        have hmeas : (n - h') + (cur.drop cnt).length < (n - h) + cur.length := by
          rw [List.length_drop]
          by_cases h0 : cnt = 0
          · subst h0
            simp [szs] at hh'
            cases cur with
            | nil =>
              have : h < n := by rw [List.isEmpty_nil, Bool.not_true, Bool.or_false] at hgo; exact of_decide_eq_true hgo
              simp; omega
            | cons f r =>
              have h1 := hw f List.mem_cons_self
              have h2 := hstop f r rfl
              simp [szs] at h2
              have : h < n := by
                rcases Nat.lt_or_ge h n with z | z
                · exact z
                · exact absurd (h2 (.inr z)) (by omega)
              simp; omega
          · omega
        have next : ∃ m', m' < (n - h) + cur.length ∧ ∃ (done' : List Nat) (cur' : List (Nat × Nat)) (p' h1 : Nat) (s8 s9' s10' : Sl), [Sl.val (nI n), .val (encS ws), .val (nI H), .val (nI H), .own (.list ((done ++ List.replicate cnt p).map nI)), .val (.int ((p : Int) + 1)), .val (.int ((h' : Nat) : Int)), .own (.list ((cur.drop cnt).map encP)), .val (.bool (decide (0 < cnt))), s9, s10] = [.val (nI n), .val (encS ws), .val (nI H), .val (nI H), .own (.list (done'.map nI)), .val (nI p'), .val (nI h1), .own (.list (cur'.map encP)), s8, s9', s10'] ∧ h1 ≤ n ∧ done'.length + cur'.length ≤ 100 ∧ (∀ f ∈ cur', f.2 ≤ H ∧ 1 ≤ f.2) ∧ (∀ told, FL n H p' h1 cur' told → kq (encN (done' ++ told))) ∧ m' = (n - h1) + cur'.length := by
          refine ⟨_, hmeas, done ++ List.replicate cnt p, cur.drop cnt, p + 1, h', _, _, _, rfl, by omega, by rw [List.length_append, List.length_replicate, List.length_drop]; omega, fun f hf => hw f (List.mem_of_mem_drop hf), fun told ht => ?_, rfl⟩
          rw [List.append_assoc]
          exact hq _ (.page p h cnt cur told hc hs hr (by rw [hh']; exact hmeas) (by rw [hh']; exact ht))
        refine brn.of (fun g1 => ?_) fun g1 => ?_
        · refine tAnd_of (cur.drop cnt).isEmpty (!decide (0 < cnt)) (fun k hk => ?_) (fun _ k hk => ?_) ?_
          · walk_at "r"
            rw [show ((cur.drop cnt).map encP).isEmpty = (cur.drop cnt).isEmpty by cases cur.drop cnt <;> rfl, Bool.not_not]
            exact hk
          · walk_at "r"
            exact hk
          · refine brn.of (fun g2 => ?_) fun g2 => ?_
            · walk_at "r"
              rw [Bool.and_eq_true] at g2
              have h0 : cnt = 0 := by
                have := g2.2
                cases cnt with
                | zero => rfl
                | succ c => rw [decide_eq_true (by omega)] at this; cases this
              subst h0
              have hcur : cur = [] := by
                have := g2.1
                rw [List.drop_zero] at this
                exact List.isEmpty_iff.mp this
              subst hcur
              have := hq [] (.nil p h)
              rw [List.append_nil] at this
              show kq (.tuple ((done ++ List.replicate 0 p).map nI))
              rw [List.replicate_zero, List.append_nil]
              exact this
            · walk_at "r"
              exact next
        · walk_at "r"
          exact next
    · have hst : ¬ h < n ∧ cur = [] := by
        rw [Bool.or_eq_false_iff] at hstop
        refine ⟨of_decide_eq_false hstop.1, ?_⟩
        cases cur with
        | nil => rfl
        | cons _ _ => exact nomatch hstop.2
      obtain ⟨h1, rfl⟩ := hst
      walk_at "r"
      have := hq [] (.nil p h)
      rw [List.append_nil] at this
      exact this
end
end K16
namespace K16
open PySem PySem.Spec PyProof.Rows L2 Dn
local macro_rules | `(tactic| walk_at "r") => `(tactic| ((conv => whnf); (repeat ((first | refine And.intro rfl ?_ | refine And.intro cm_l ?_ | refine And.intro cm_r ?_ | refine And.intro (by decide) ?_ | refine And.intro (cdv_lt (a := 64) (by decide) (by decide)) ?_ | refine And.intro (by omega) ?_ | refine And.intro (cm_r (by omega)) ?_ | refine And.intro (cdv_lt (a := 60) (by omega) (by omega)) ?_); (conv => whnf)))))


def encSt (st : Nat) (room : Int) (g : Nat × Nat) : D := encQ (Rat.divInt (g.1 * ((max st 1 : Nat) : Int) + g.2 * room) ((max st 1 : Nat) : Int))
def rooM (bs : List Nat) (gl : List (Nat × Nat)) (h : Int) : Int := h - (bs.sum : Nat) - ((gl.map (·.1)).sum : Nat)
def c_stretched (C : Addr) : DC := fun ds Q E => ∃ (bs : List Nat) (gl : List (Nat × Nat)) (h : Int), ds = [encN bs, encS gl, .int h] ∧ Blk bs ∧ gl.length ≤ 10 ∧ (∀ g ∈ gl, g.1 ≤ 100 ∧ g.2 ≤ 100) ∧ -1000000000 ≤ h ∧ h ≤ 1000000000 ∧
  ((rooM bs gl h < 0 ∨ (0 < rooM bs gl h ∧ szs gl = 0)) → E (.plain C)) ∧ (0 ≤ rooM bs gl h → (rooM bs gl h = 0 ∨ szs gl ≠ 0) → Q (.tuple (gl.map (encSt (szs gl) (rooM bs gl h)))))
theorem len_stretched {C : Addr} : ∀ ds kq ke, c_stretched C ds kq ke → ds.length = 3 := by rintro _ _ _ ⟨xs, c, h, rfl, _⟩; rfl
def c__law_stretched : DC := fun ds Q _ => ∃ (bs : List Nat) (gl : List (Nat × Nat)) (h : Int), ds = [encN bs, encS gl, .int h] ∧ Blk bs ∧ gl.length ≤ 10 ∧ (∀ g ∈ gl, g.1 ≤ 100 ∧ g.2 ≤ 100) ∧ -1000000000 ≤ h ∧ h ≤ 1000000000 ∧
  ∀ v : D, (v = .none ∧ (rooM bs gl h < 0 ∨ (0 < rooM bs gl h ∧ szs gl = 0))) ∨ (v = .tuple (gl.map (encSt (szs gl) (rooM bs gl h))) ∧ 0 ≤ rooM bs gl h ∧ (rooM bs gl h = 0 ∨ szs gl ≠ 0)) → Q v
theorem len__law_stretched : ∀ ds kq ke, c__law_stretched ds kq ke → ds.length = 3 := by rintro _ _ _ ⟨xs, c, h, rfl, _⟩; rfl
section
variable {P : Program} {w : World} {K : PySem.W.Frag} {mg : Str → Option Value} {base : Heap} {T : List Addr}
abbrev s_stretched : Stmt := topS 18
theorem sc_stretched : FnScope ["blocks", "glues", "height", "room", "stretch", "_", "more", "size"] ["blocks", "glues", "height"] (defScope s_stretched) := ⟨rfl, rfl, rfl, by decide +kernel, rfl, by decide +kernel, by decide +kernel⟩
theorem ok_stretched {f : Addr} {fd : FuncData} (F : Fun K "stretched" "stretched" s_stretched f fd) (hm : mg "stretched" = some (.ref f)) (hb : Binds K fd ["blocks", "glues", "height"] []) (bl : ∀ x : Str, bnames.contains x = true → mg x = none) {C_NoSuch : Addr} (x_NoSuch : ExcF K mg "NoSuch" C_NoSuch) (p_fraction : Pf P w K mg base T 2 "fraction" 2 (c_fraction C_NoSuch)) : Pf P w K mg base T 3 "stretched" 3 (c_stretched C_NoSuch) := by
  refine pf_of (k := 2) F sc_stretched rfl hm hb bl (len_stretched) fun A outer s H G E ds kq ke hc c tk => ?_
  refine ⟨_, (dss_cons (ds_set (i := 3) c rfl (Or.inr rfl) (de_bin od_sub (de_bin od_sub (db_var 2) (de_callB (cd_sumA c) (nb c) boot_sum (dbs_cons (db_var 0) dbs_nil)).toB).toB (de_callB (cd_sumA c) (nb c) boot_sum (dbs_cons (df_lc (own := [("size", 7), ("_", 5)]) c (di_seq (de_var 1)) rfl (fun _ _ _ _ _ _ _ c => (dg_tup (n := 2) c (dgs_cons (dg_name (i := 7) c rfl (by first | exact Or.inl rfl | exact Or.inr rfl)) (dgs_cons (dg_name (i := 5) c rfl (by first | exact Or.inl rfl | exact Or.inr rfl)) dgs_nil)))) (fun _ _ _ _ _ _ _ c => dts_nil) (fun _ _ _ _ _ _ _ c => (de_var 7))).toE.toB dbs_nil)).toB))
      (dss_cons (ds_set (i := 4) c rfl (Or.inr rfl) (de_callB (cd_sumA c) (nb c) boot_sum (dbs_cons (df_lc (own := [("_", 5), ("more", 6)]) c (di_seq (de_var 1)) rfl (fun _ _ _ _ _ _ _ c => (dg_tup (n := 2) c (dgs_cons (dg_name (i := 5) c rfl (by first | exact Or.inl rfl | exact Or.inr rfl)) (dgs_cons (dg_name (i := 6) c rfl (by first | exact Or.inl rfl | exact Or.inr rfl)) dgs_nil)))) (fun _ _ _ _ _ _ _ c => dts_nil) (fun _ _ _ _ _ _ _ c => (de_var 6))).toE.toB dbs_nil)))
      (dss_cons (ds_cut (ds_if (dw_or (dt_cmp (od_ltG c) (db_var 3) de_int.toB) (dw_or1 (dw_and (dt_cmp (od_gtG c) (db_var 3) de_int.toB) (dw_and1 (dt_cmp (od_eq c) (db_var 4) de_int.toB))).t)).t (dss_one (ds_raise x_NoSuch c tk)) dss_nil))
      (dss_one (ds_ret (de_callT cd_tuple (nb c) boot_tuple (dbs_cons (df_lc (own := [("size", 7), ("more", 6)]) c (di_seq (de_var 1)) rfl (fun _ _ _ _ _ _ _ c => (dg_tup (n := 2) c (dgs_cons (dg_name (i := 7) c rfl (by first | exact Or.inl rfl | exact Or.inr rfl)) (dgs_cons (dg_name (i := 6) c rfl (by first | exact Or.inl rfl | exact Or.inr rfl)) dgs_nil)))) (fun _ _ _ _ _ _ _ c => dts_nil) (fun _ _ _ _ _ _ _ c => (de_call p_fraction c (da_cons (de_bin od_add (de_bin od_mulA (db_var 7) (de_callB (cd_maxB c) (nb c) boot_max (dbs_cons (db_var 4) (dbs_cons de_int.toB dbs_nil))).toB).toB (de_bin od_mulA (db_var 6) (db_var 3)).toB) (da_cons (de_callB (cd_maxB c) (nb c) boot_max (dbs_cons (db_var 4) (dbs_cons de_int.toB dbs_nil))) da_nil))))).toE.toB dbs_nil))))))), ?_⟩
  obtain ⟨bs, gl, h, rfl, hB, hl, hg, hh1, hh2, hE, hq⟩ := hc
  have hS := hB.sum
  have hsz : (gl.map (·.1)).sum ≤ 1000 := by
    have := sum_bd (b := 100) (xs := gl.map (·.1)) fun x hx => by obtain ⟨g, hm, rfl⟩ := List.mem_map.mp hx; exact (hg g hm).1
    rw [List.length_map] at this; omega
  have hmo : szs gl ≤ 1000 := by
    have := sum_bd (b := 100) (xs := gl.map (·.2)) fun x hx => by obtain ⟨g, hm, rfl⟩ := List.mem_map.mp hx; exact (hg g hm).2
    rw [List.length_map] at this; unfold szs; omega
  walk_at "r"
  rw [intsOf_N]
  walk_at "r"
  rw [sum_cast]
  refine lc_map [.val (encN bs), .val (encS gl), .val (.int h), .non, .non, .non, .non, .non] rfl gl encP (fun g => nI g.1) rfl (by omega) ?_ ?_
  · rintro ⟨s, m⟩ hp G0 H0 k hk
    walk_at "r"
    exact hk _ rfl
  · walk_at "r"
    rw [show (gl.map fun g => nI g.1) = (gl.map (·.1)).map nI by rw [List.map_map]; rfl, intsOf_N]
    walk_at "r"
    rw [sum_cast]
    generalize hroom : h - ((bs.sum : Nat) : Int) - (((gl.map (·.1)).sum : Nat) : Int) = room
    have er : rooM bs gl h = room := hroom
    rw [er] at hE hq
    refine lc_map [.val (encN bs), .val (encS gl), .val (.int h), .val (.int room), .non, .non, .non, .non] rfl gl encP (fun g => nI g.2) rfl (by omega) ?_ ?_
    · rintro ⟨s, m⟩ hp G0 H0 k hk
      walk_at "r"
      exact hk _ rfl
    · walk_at "r"
      rw [show (gl.map fun g => nI g.2) = (gl.map (·.2)).map nI by rw [List.map_map]; rfl, intsOf_N]
      walk_at "r"
      rw [sum_cast]
      have es : (gl.map (·.2)).sum = szs gl := rfl
      rw [es]
      generalize hst : szs gl = st at hE hq hmo ⊢
      have hrb : -2000000000 ≤ room ∧ room ≤ 2000000000 := by omega
      clear hroom er hst es
      refine ⟨fun ρ => ρ = [.val (encN bs), .val (encS gl), .val (.int h), .val (.int room), .val (nI st), .non, .non, .non] ∧ 0 ≤ room ∧ (room = 0 ∨ st ≠ 0), ?_, ?_⟩
      · refine brn.of (fun g1 => ?_) fun g1 => ?_
        · have g1 := of_decide_eq_true g1
          walk_at "r"
          exact hE (.inl g1)
        have g1 := of_decide_eq_false g1
        walk_at "r"
        refine brn.of (fun g2 => ?_) fun g2 => ?_
        · have g2 := of_decide_eq_true g2
          walk_at "r"
          rw [eqvI]
          refine brn.of (fun g3 => ?_) fun g3 => ?_
          · have g3 := of_decide_eq_true g3
            walk_at "r"
            exact hE (.inr ⟨g2, by omega⟩)
          have g3 := of_decide_eq_false g3
          exact ⟨rfl, by omega, .inr (by omega)⟩
        · have g2 := of_decide_eq_false g2
          exact ⟨rfl, by omega, .inl (by omega)⟩
      · rintro ρ ⟨rfl, g1, g2⟩
        have hQ := hq g1 g2
        have em : ∀ d : Int, (if d > ((st : Nat) : Int) then d else ((st : Nat) : Int)) = max d (st : Int) := fun d => by split <;> omega
        have em1 : (if (1 : Int) > ((st : Nat) : Int) then (1 : Int) else ((st : Nat) : Int)) = ((max st 1 : Nat) : Int) := by split <;> omega
        walk_at "r"
        refine lc_map [.val (encN bs), .val (encS gl), .val (.int h), .val (.int room), .val (nI st), .non, .non, .non] rfl gl encP (encSt st room) rfl (by omega) ?_ ?_
        · rintro ⟨s, m⟩ hp G0 H0 k hk
          obtain ⟨b1, b2⟩ := hg _ hp
          simp only at b1 b2
          walk_at "r"
          have b3 : ((s : Int) * ((max st 1 : Nat) : Int)).natAbs < 2 ^ (7 + 31) := nat_mul_lt (by omega) (by omega)
          have b4 : ((m : Int) * room).natAbs < 2 ^ (7 + 31) := nat_mul_lt (by omega) (by omega)
          have b5 : ((max st 1 : Nat) : Int).natAbs < 2 ^ 10 := by omega
          rw [em1]
          refine ⟨_, _, rfl, lt_pow_mono (nat_add_lt b3 b4) (by decide), lt_pow_mono b5 (by decide), fun z => absurd z (by omega), fun _ => ?_⟩
          exact hk _ rfl
        · walk_at "r"
          exact hQ
abbrev s__law_stretched : Stmt := topS 35
theorem sc__law_stretched : FnScope ["blocks", "glues", "height"] ["blocks", "glues", "height"] (defScope s__law_stretched) := ⟨rfl, rfl, rfl, by decide +kernel, rfl, by decide +kernel, by decide +kernel⟩
theorem ok__law_stretched {f : Addr} {fd : FuncData} (F : Fun K "_law_stretched" "_law_stretched" s__law_stretched f fd) (hm : mg "_law_stretched" = some (.ref f)) (hb : Binds K fd ["blocks", "glues", "height"] []) (bl : ∀ x : Str, bnames.contains x = true → mg x = none) {C_NoSuch : Addr} (x_NoSuch : ExcF K mg "NoSuch" C_NoSuch) (p_stretched : Pf P w K mg base T 3 "stretched" 3 (c_stretched C_NoSuch)) : Pf P w K mg base T 4 "_law_stretched" 3 c__law_stretched := by
  refine pf_of (k := 3) F sc__law_stretched rfl hm hb bl (len__law_stretched) fun A outer s H G E ds kq ke hc c tk => ?_
  refine ⟨_, (dss_one (ds_try c tk ⟨rfl, by decide, .inl x_NoSuch.g⟩ rfl rfl (fun _ _ _ _ c tk => (dss_one (ds_ret (de_call p_stretched c (da_cons (de_var 0) (da_cons (de_var 1) (da_cons (de_var 2) da_nil))))))) (fun _ _ => (dss_one (ds_ret de_non))))), ?_⟩
  obtain ⟨bs, gl, h, rfl, hB, hl, hg, hh1, hh2, hq⟩ := hc
  walk_at "r"
  intro B
  walk_at "r"
  refine ⟨bs, gl, h, rfl, hB, hl, hg, hh1, hh2, fun z => ?_, fun z1 z2 => ?_⟩
  · walk_at "r"
    refine ⟨true, x_NoSuch.xm, fun _ => ?_, fun z => nomatch z⟩
    walk_at "r"
    exact hq _ (.inl ⟨rfl, z⟩)
  · walk_at "r"
    exact hq _ (.inr ⟨rfl, z1, z2⟩)
end
end K16
namespace K16
open PySem PySem.Spec PyProof.Rows L2 Dn
local macro_rules | `(tactic| walk_at "r") => `(tactic| ((conv => whnf); (repeat ((first | refine And.intro rfl ?_ | refine And.intro cm_l ?_ | refine And.intro cm_r ?_ | refine And.intro (by decide) ?_ | refine And.intro (cdv_lt (a := 64) (by decide) (by decide)) ?_ | refine And.intro (by omega) ?_ | refine And.intro (cm_r (by omega)) ?_ | refine And.intro (cdv_lt (a := 60) (by omega) (by omega)) ?_); (conv => whnf)))))


def bx (bs : List Box) (i : Nat) : Box := bs.getD i (0, 0, 0, 0)
inductive RO (bs : List Box) : List Nat → List Nat → Prop
  | nil : RO bs [] []
  | step (left : List Nat) (st : Nat) (cs rest : List Nat) : st ∈ left → (∀ i ∈ left, (bx bs st).1 < (bx bs i).1 ∨ ((bx bs st).1 = (bx bs i).1 ∧ st ≤ i)) → cs.Perm (left.filter fun i => decide ((bx bs i).1 < (bx bs st).2.2.1)) →
      cs.Pairwise (fun i j => (bx bs i).2.1 < (bx bs j).2.1 ∨ ((bx bs i).2.1 = (bx bs j).2.1 ∧ i ≤ j)) → RO bs (left.filter fun i => decide (i ∉ cs)) rest → RO bs left (cs ++ rest)
def c_read_order : DC := fun ds Q _ => ∃ bs : List Box, ds = [.list (bs.map encB)] ∧ bs.length ≤ 100 ∧ (∀ b ∈ bs, b.1 < b.2.2.1) ∧ ∀ L, RO bs (List.range bs.length) L → Q (encN L)
theorem len_read_order : ∀ ds kq ke, c_read_order ds kq ke → ds.length = 1 := by rintro _ _ _ ⟨xs, rfl, _⟩; rfl
theorem bx_at {bs : List Box} {i : Nat} (h : i < bs.length) : L2.atI (bs.map encB) (i : Int) = some (encB (bx bs i)) := by
  rw [at_map encB bs i h]
  unfold bx
  rw [List.getD_eq_getElem?_getD, List.getElem?_eq_getElem h]; rfl
theorem rangeN (n : Nat) : rangeD 0 1 n = (List.range n).map nI := by
  rw [rangeD_map, List.map_map]
  apply List.map_congr_left
  intro i _
  show PyData.int (0 + (i : Int) * 1) = .int (i : Int)
  rw [show (0 : Int) + (i : Int) * 1 = i by omega]
def kx (bs : List Box) (i : Nat) : Int × Int := (((bx bs i).1 : Int), (i : Int))
def kt (bs : List Box) (i : Nat) : Int × Int := (((bx bs i).2.1 : Int), (i : Int))
theorem alike_prs (ps : List (Int × Int)) : PySem.W.AlikeAll (ps.map Dn.prD) := by
  refine ⟨fun d hd d' hd' => ?_, fun d hd => ?_⟩
  · obtain ⟨p, _, rfl⟩ := List.mem_map.mp hd
    obtain ⟨q, _, rfl⟩ := List.mem_map.mp hd'
    rfl
  · obtain ⟨p, _, rfl⟩ := List.mem_map.mp hd
    exact fun z => nomatch z
theorem dep_prs (ps : List (Int × Int)) : ∀ d ∈ ps.map Dn.prD, dep 20 d = true := fun d hd => by
  obtain ⟨p, _, rfl⟩ := List.mem_map.mp hd
  rfl
theorem sort_idx {bs : List Box} {col : List Nat} {ps : List (Int × Int)} (h : ps.Perm (col.map (kt bs))) : ∃ cs : List Nat, cs.Perm col ∧ ps = cs.map (kt bs) := by
  refine ⟨ps.map fun p => p.2.toNat, ?_, ?_⟩
  · have := h.map fun p : Int × Int => p.2.toNat
    rw [List.map_map] at this
    have e : (fun p : Int × Int => p.2.toNat) ∘ kt bs = id := by funext i; simp [kt]
    rw [e, List.map_id] at this
    exact this
  · rw [List.map_map]
    symm
    conv => rhs; rw [← List.map_id ps]
    refine List.map_congr_left fun p hp => ?_
    obtain ⟨i, _, rfl⟩ := List.mem_map.mp (h.mem_iff.mp hp)
    simp [kt]
theorem filt_len {α : Type} (p : α → Bool) : ∀ l : List α, (l.filter p).length + (l.filter fun x => !p x).length = l.length
  | [] => rfl
  | x :: xs => by
    have := filt_len p xs
    rw [List.filter_cons, List.filter_cons]
    cases h : p x
    · simp; omega
    · simp; omega
section
variable {P : Program} {w : World} {K : PySem.W.Frag} {mg : Str → Option Value} {base : Heap} {T : List Addr}
abbrev s_read_order : Stmt := topS 26
theorem sc_read_order : FnScope ["boxes", "left", "found", "start", "column", "number", "_"] ["boxes"] (defScope s_read_order) := ⟨rfl, rfl, rfl, by decide +kernel, rfl, by decide +kernel, by decide +kernel⟩
theorem ok_read_order {f : Addr} {fd : FuncData} (F : Fun K "read_order" "read_order" s_read_order f fd) (hm : mg "read_order" = some (.ref f)) (hb : Binds K fd ["boxes"] []) (bl : ∀ x : Str, bnames.contains x = true → mg x = none) : Pf P w K mg base T 1 "read_order" 1 c_read_order := by
  refine pf_of (k := 0) F sc_read_order rfl hm hb bl (len_read_order) fun A outer s H G E ds kq ke hc c tk => ?_
  refine ⟨_, (dss_cons (ds_set (i := 1) c rfl (Or.inl rfl) (df_listRg1 c (de_callB cd_lenA (nb c) PySem.boot_len (dbs_cons (db_var 0) dbs_nil)).toB).toE)
      (dss_cons (ds_setF (i := 2) c rfl (Or.inl rfl) (df_lst da_nil))
      (dss_cons (ds_while c (dt_tru (db_var 1)) (dss_cons (ds_set (i := 3) c rfl (Or.inr rfl) (de_ixA c (de_callB (cd_minB c) (nb c) boot_min (dbs_cons (df_lc (own := [("number", 5)]) c (di_seq (de_var 1)) rfl (fun _ _ _ _ _ _ _ c => (dg_name (i := 5) c rfl (by first | exact Or.inl rfl | exact Or.inr rfl))) (fun _ _ _ _ _ _ _ c => dts_nil) (fun _ _ _ _ _ _ _ c => (de_tup (da_cons (de_ixA c (de_ixA c (db_var 0) (db_var 5)).toB de_int.toB) (da_cons (de_var 5) da_nil))))).toE.toB dbs_nil)).toB de_int.toB))
        (dss_cons (ds_set (i := 4) c rfl (Or.inr rfl) (df_lc (own := [("number", 5)]) c (di_seq (de_var 1)) rfl (fun _ _ _ _ _ _ _ c => (dg_name (i := 5) c rfl (by first | exact Or.inl rfl | exact Or.inr rfl))) (fun _ _ _ _ _ _ _ c => (dts_one (dt_cmp (od_ltG c) (de_ixA c (de_ixA c (db_var 0) (db_var 5)).toB de_int.toB).toB (de_ixA c (de_ixA c (db_var 0) (db_var 3)).toB de_int.toB).toB))) (fun _ _ _ _ _ _ _ c => (de_var 5))).toE)
        (dss_cons (ds_set (i := 4) c rfl (Or.inr rfl) (df_lc (own := [("_", 6), ("number", 5)]) c (di_seq (de_callB (cd_sortB c) (nb c) boot_sorted (dbs_cons (df_lc (own := [("number", 5)]) c (di_seq (de_var 4)) rfl (fun _ _ _ _ _ _ _ c => (dg_name (i := 5) c rfl (by first | exact Or.inl rfl | exact Or.inr rfl))) (fun _ _ _ _ _ _ _ c => dts_nil) (fun _ _ _ _ _ _ _ c => (de_tup (da_cons (de_ixA c (de_ixA c (db_var 0) (db_var 5)).toB de_int.toB) (da_cons (de_var 5) da_nil))))).toE.toB dbs_nil))) rfl (fun _ _ _ _ _ _ _ c => (dg_tup (n := 2) c (dgs_cons (dg_name (i := 6) c rfl (by first | exact Or.inl rfl | exact Or.inr rfl)) (dgs_cons (dg_name (i := 5) c rfl (by first | exact Or.inl rfl | exact Or.inr rfl)) dgs_nil)))) (fun _ _ _ _ _ _ _ c => dts_nil) (fun _ _ _ _ _ _ _ c => (de_var 5))).toE)
        (dss_cons (ds_ext (i := 2) (de_var 4))
        (dss_one (ds_setLc (i := 1) (own := [("number", 5)]) c rfl rfl (sw_true rfl rfl rfl rfl) (di_seq (de_var 1)) rfl (fun _ _ _ _ _ _ _ c => (dg_name (i := 5) c rfl (by first | exact Or.inl rfl | exact Or.inr rfl))) (fun _ _ _ _ _ _ _ c => (dts_one (dt_cmp (od_notinA c) (db_var 5) (db_var 4)))) (fun _ _ _ _ _ _ _ c => (de_var 5)))))))))
      (dss_one (ds_ret (de_callT cd_tuple (nb c) boot_tuple (dbs_cons (db_var 2) dbs_nil))))))), ?_⟩
  obtain ⟨bs, rfl, hl, hb, hq⟩ := hc
  walk_at "r"
  refine ⟨by rw [List.length_map]; omega, ?_⟩
  walk_at "r"
  rw [List.length_map, Int.toNat_natCast, rangeN]
  refine ⟨fun m ρ => ∃ (left done : List Nat) (s3 s4 s5 s6 : Sl), ρ = [.val (.list (bs.map encB)), .val (.list (left.map nI)), .own (.list (done.map nI)), s3, s4, s5, s6] ∧ (∀ i ∈ left, i < bs.length) ∧ left.length + done.length ≤ 100 ∧ (∀ L, RO bs left L → kq (encN (done ++ L))) ∧ m = left.length, ⟨_, List.range bs.length, [], .non, .non, .non, .non, rfl, fun i hi => List.mem_range.mp hi, by simpa using hl, hq, rfl⟩, ?_⟩
  rintro m ρ ⟨left, done, s3, s4, s5, s6, rfl, hi, hln, hq, rfl⟩
  cases hle : left with
  | nil =>
    subst hle
    walk_at "r"
    have := hq [] .nil
    rw [List.append_nil] at this
    exact this
  | cons a r =>
    rw [← hle]
    have hne : left ≠ [] := by rw [hle]; exact fun z => nomatch z
    walk_at "r"
    refine brn.tt (by rw [hle]; rfl) ?_
    walk_at "r"
    refine lc_map [.val (.list (bs.map encB)), .val (.list (left.map nI)), .own (.list (done.map nI)), s3, s4, .non, s6] rfl left nI (fun i => Dn.prD (kx bs i)) rfl (by omega) ?_ ?_
    · intro i hii G0 H0 k hk
      walk_at "r"
      rw [bx_at (hi i hii)]
      walk_at "r"
      exact hk _ rfl
    · walk_at "r"
      rw [show (left.map fun i => Dn.prD (kx bs i)) = (left.map (kx bs)).map Dn.prD by rw [List.map_map]; rfl]
      refine .inr ⟨by simpa using hne, alike_prs _, dep_prs _, ?_⟩
      intro m hm hmin
      obtain ⟨p, hp, rfl⟩ := List.mem_map.mp hm
      obtain ⟨st, hst, rfl⟩ := List.mem_map.mp hp
      have hmin' : ∀ i ∈ left, (bx bs st).1 < (bx bs i).1 ∨ ((bx bs st).1 = (bx bs i).1 ∧ st ≤ i) := fun i hii => by
        have := hmin (Dn.prD (kx bs i)) (List.mem_map_of_mem (List.mem_map_of_mem hii))
        rw [show PySem.W.dataLt (Dn.prD (kx bs i)) (Dn.prD (kx bs st)) = _ from PySem.W.dataLt_ii _ _ _ _] at this
        have := of_decide_eq_false this
        simp only [kx] at this
        omega
      have hsb := hi st hst
      walk_at "r"
      refine lc_fm [.val (.list (bs.map encB)), .val (.list (left.map nI)), .own (.list (done.map nI)), .val (nI st), s4, .non, s6] rfl left nI (fun i => if (bx bs i).1 < (bx bs st).2.2.1 then some (nI i) else none) rfl (by omega) ?_ ?_
      · intro i hii G0 H0 k k0 hk hk0
        walk_at "r"
        rw [bx_at (hi i hii)]
        walk_at "r"
        rw [bx_at hsb]
        walk_at "r"
        refine brn.of (fun g => ?_) fun g => ?_
        · have g := of_decide_eq_true g
          exact hk _ _ (if_pos (by omega)) rfl
        · have g := of_decide_eq_false g
          exact hk0 _ (if_neg (by omega)) rfl
      · walk_at "r"
        rw [fm_filter (fun i => (bx bs i).1 < (bx bs st).2.2.1) nI left]
        generalize hcol : (left.filter fun i => decide ((bx bs i).1 < (bx bs st).2.2.1)) = col
        have hci : ∀ i ∈ col, i < bs.length := fun i hic => by rw [← hcol] at hic; exact hi i (List.mem_filter.mp hic).1
        have hcl : col.length ≤ left.length := by rw [← hcol]; exact List.length_filter_le _ _
        have hstc : st ∈ col := by
          rw [← hcol]
          refine List.mem_filter.mpr ⟨hst, decide_eq_true ?_⟩
          have := hb (bx bs st) (by unfold bx; rw [List.getD_eq_getElem?_getD, List.getElem?_eq_getElem hsb]; exact List.getElem_mem hsb)
          exact this
        refine lc_map [.val (.list (bs.map encB)), .val (.list (left.map nI)), .own (.list (done.map nI)), .val (nI st), .val (.list (col.map nI)), .non, s6] rfl col nI (fun i => Dn.prD (kt bs i)) rfl (by omega) ?_ ?_
        · intro i hii G0 H0 k hk
          walk_at "r"
          rw [bx_at (hci i hii)]
          walk_at "r"
          exact hk _ rfl
        · walk_at "r"
          refine .inl (.inr (.inr ⟨col.map (kt bs), by rw [List.map_map]; rfl, ?_⟩))
          intro ps' hperm hsrt
          obtain ⟨cs, hcs, rfl⟩ := sort_idx hperm
          have hcsl := hcs.length_eq
          walk_at "r"
          refine lc_map [.val (.list (bs.map encB)), .val (.list (left.map nI)), .own (.list (done.map nI)), .val (nI st), .val (.list (col.map nI)), .non, .non] rfl cs (fun i => Dn.prD (kt bs i)) nI (by rw [List.map_map]; rfl) (by omega) ?_ ?_
          · intro i hii G0 H0 k hk
            walk_at "r"
            exact hk _ rfl
          · walk_at "r"
            refine ⟨by simp; omega, ?_⟩
            walk_at "r"
            refine lc_fm [.val (.list (bs.map encB)), .val (.list (left.map nI)), .own (.list ((done ++ cs).map nI)), .val (nI st), .val (.list (cs.map nI)), .non, .non] (by rw [List.map_append]; rfl) left nI (fun i => if i ∉ cs then some (nI i) else none) rfl (by omega) ?_ ?_
            · intro i hii G0 H0 k k0 hk hk0
              walk_at "r"
              refine ⟨List.all_eq_true.mpr fun d hd => (by obtain ⟨j, _, rfl⟩ := List.mem_map.mp hd; rfl), ?_⟩
              walk_at "r"
              rw [any_eqvN]
              refine brn.of (fun g => ?_) fun g => ?_
              · have g : i ∉ cs := by simpa using g
                exact hk _ _ (if_pos g) rfl
              · have g : i ∈ cs := by simpa using g
                exact hk0 _ (if_neg fun z => z g) rfl
            · walk_at "r"
              rw [fm_filter (fun i => i ∉ cs) nI left]
              have hsc : st ∈ cs := hcs.mem_iff.mpr hstc
              have hfl : (left.filter fun i => decide (i ∉ cs)).length < left.length :=
                List.length_filter_lt_length_iff_exists.mpr ⟨st, hst, by simpa using hsc⟩
              have hfs : (left.filter fun i => decide (i ∉ cs)).length + cs.length ≤ left.length := by
                have h1 := filt_len (fun i => decide ((bx bs i).1 < (bx bs st).2.2.1)) left
                rw [hcol] at h1
                have h2 : (left.filter fun i => decide (i ∉ cs)) = left.filter fun i => !decide ((bx bs i).1 < (bx bs st).2.2.1) := by
                  refine List.filter_congr fun i hii => ?_
                  rw [Bool.eq_iff_iff]
                  simp only [decide_eq_true_iff, Bool.not_eq_true', decide_eq_false_iff_not]
                  rw [hcs.mem_iff, ← hcol, List.mem_filter]
                  simp [hii]
                rw [h2]
                omega
              refine ⟨_, hfl, left.filter (fun i => decide (i ∉ cs)), done ++ cs, _, _, _, _, rfl, fun i hii => hi i (List.mem_filter.mp hii).1, ?_, fun L hL => ?_, rfl⟩
              · rw [List.length_append]; omega
              · rw [List.append_assoc]
                refine hq _ (.step left st cs L hst hmin' (by rw [hcol]; exact hcs) ?_ hL)
                exact (List.pairwise_map.mp hsrt).imp fun {i j} h => by
                  unfold leP kt at h
                  simp only at h
                  omega
end
end K16
namespace K16
open PySem PySem.Spec PyProof.Rows L2 Dn
local macro_rules | `(tactic| walk_at "r") => `(tactic| ((conv => whnf); (repeat ((first | refine And.intro rfl ?_ | refine And.intro cm_l ?_ | refine And.intro cm_r ?_ | refine And.intro (by decide) ?_ | refine And.intro (cdv_lt (a := 64) (by decide) (by decide)) ?_ | refine And.intro (by omega) ?_ | refine And.intro (cm_r (by omega)) ?_ | refine And.intro (cdv_lt (a := 60) (by omega) (by omega)) ?_); (conv => whnf)))))


def nx (n : Nat) (r : List Nat) : Nat := r.headD n
def Pt (n : Nat) : Nat → List Nat → Prop
  | f, [] => f = n
  | f, a :: r => a = f ∧ f < nx n r ∧ nx n r ≤ n ∧ Pt n (nx n r) r
def sq (a : Nat) : Nat := a * a
def pr (xs : List Nat) : List Nat → Nat
  | [] => 0
  | a :: r => sq (seg xs a (nx xs.length r)) + pr xs r
def MinP (xs : List Nat) (l f c : Nat) : Prop := (∃ st, Pt xs.length f st ∧ st.length = l ∧ pr xs st = c) ∧ ∀ st, Pt xs.length f st → st.length = l → c ≤ pr xs st
theorem pt_len {n : Nat} : ∀ {f : Nat} {st : List Nat}, Pt n f st → f + st.length ≤ n
  | f, [], h => by have : f = n := h; simp; omega
  | f, a :: r, ⟨_, h1, h2, h3⟩ => by
    have h4 := pt_len h3
    have h1 : f < nx n r := h1
    rw [List.length_cons]; omega
theorem pt_ex {n : Nat} : ∀ (l f : Nat), 1 ≤ l → f + l ≤ n → ∃ st, Pt n f st ∧ st.length = l
  | 0, _, h, _ => absurd h (by omega)
  | 1, f, _, h => ⟨[f], ⟨rfl, by show f < n; omega, Nat.le_refl n, rfl⟩, rfl⟩
  | l + 2, f, _, h => by
    obtain ⟨st, h1, h2⟩ := pt_ex (n := n) (l + 1) (f + 1) (by omega) (by omega)
    cases st with
    | nil => simp at h2
    | cons a r =>
      have ha : a = f + 1 := h1.1
      subst ha
      exact ⟨f :: (f + 1) :: r, ⟨rfl, by show f < f + 1; omega, by show f + 1 ≤ n; omega, h1⟩, by simpa using h2⟩
theorem minP_ex {xs : List Nat} {f : Nat} {st : List Nat} (h : Pt xs.length f st) : ∃ c, MinP xs st.length f c := by
  have : ∀ (N : Nat) (s : List Nat), Pt xs.length f s → s.length = st.length → pr xs s ≤ N → ∃ c, MinP xs st.length f c := by
    intro N
    induction N with
    | zero => intro s h1 h2 h3; exact ⟨pr xs s, ⟨s, h1, h2, rfl⟩, fun t _ _ => by omega⟩
    | succ N ih =>
      intro s h1 h2 h3
      by_cases hx : ∃ t, Pt xs.length f t ∧ t.length = st.length ∧ pr xs t ≤ N
      · obtain ⟨t, a, b, c⟩ := hx
        exact ih t a b c
      · refine ⟨pr xs s, ⟨s, h1, h2, rfl⟩, fun t a b => ?_⟩
        rcases Nat.lt_or_ge N (pr xs t) with z | z
        · omega
        · exact absurd ⟨t, a, b, z⟩ hx
  exact this _ st h rfl (Nat.le_refl _)
theorem minP_uniq {xs : List Nat} {l f c c' : Nat} (h : MinP xs l f c) (h' : MinP xs l f c') : c = c' := by
  obtain ⟨⟨s, a1, a2, a3⟩, a4⟩ := h
  obtain ⟨⟨t, b1, b2, b3⟩, b4⟩ := h'
  have := a4 t b1 b2
  have := b4 s a1 a2
  omega
theorem minP_0 {xs : List Nat} {f c : Nat} : MinP xs 0 f c ↔ f = xs.length ∧ c = 0 := by
  constructor
  · rintro ⟨⟨s, a1, a2, a3⟩, _⟩
    cases s with
    | nil => exact ⟨a1, a3.symm⟩
    | cons _ _ => cases a2
  · rintro ⟨rfl, rfl⟩
    exact ⟨⟨[], rfl, rfl, rfl⟩, fun _ _ _ => Nat.zero_le _⟩
theorem pt_cons {n f l : Nat} {st : List Nat} (h : Pt n f st) (hl : st.length = l + 1) : ∃ r, st = f :: r ∧ f < nx n r ∧ nx n r ≤ n ∧ Pt n (nx n r) r ∧ r.length = l := by
  cases st with
  | nil => cases hl
  | cons a r =>
    obtain ⟨rfl, h1, h2, h3⟩ := h
    exact ⟨r, rfl, h1, h2, h3, by simpa using hl⟩
theorem nx_of {n e : Nat} {r : List Nat} (h : Pt n e r) : nx n r = e := by
  cases r with
  | nil => exact (show e = n from h).symm
  | cons a r => exact h.1
theorem minP_step {xs : List Nat} {l f e c0 : Nat} (h1 : f < e) (h2 : e ≤ xs.length) (h3 : MinP xs l e c0) (h4 : ∀ e' c', f < e' → MinP xs l e' c' → c0 + sq (seg xs f e) ≤ c' + sq (seg xs f e')) : MinP xs (l + 1) f (c0 + sq (seg xs f e)) := by
  obtain ⟨⟨s, a1, a2, a3⟩, a4⟩ := h3
  refine ⟨⟨f :: s, ⟨rfl, by rw [nx_of a1]; exact h1, by rw [nx_of a1]; exact h2, by rw [nx_of a1]; exact a1⟩, by simp [a2], ?_⟩, fun t b1 b2 => ?_⟩
  · show sq (seg xs f (nx xs.length s)) + pr xs s = _
    rw [nx_of a1, a3]; omega
  · obtain ⟨r, rfl, q1, q2, q3, q4⟩ := pt_cons b1 b2
    obtain ⟨c', hc'⟩ := minP_ex q3
    rw [q4] at hc'
    have := h4 _ c' q1 hc'
    have := hc'.2 r q3 q4
    show c0 + sq (seg xs f e) ≤ sq (seg xs f (nx xs.length r)) + pr xs r
    omega
/-- one place of the table -/
def RowAt (xs : List Nat) (ps : List (D × D)) (l f : Nat) : Prop :=
  (∀ c, MinP xs l f c → ∃ x, dget ps (key2 f l) = some (.tuple [nI c, x])) ∧
  ∀ v, dget ps (key2 f l) = some v → ∃ c x, v = .tuple [nI c, x] ∧ MinP xs l f c ∧ (1 ≤ l → ∃ e c0, x = nI e ∧ f < e ∧ e ≤ xs.length ∧ MinP xs (l - 1) e c0 ∧ c = c0 + sq (seg xs f e))
def Part (xs : List Nat) (ps : List (D × D)) (l f e : Nat) : Prop :=
  (dget ps (key2 f l) = none ∧ ∀ e' c', f < e' → e' < e → ¬ MinP xs (l - 1) e' c') ∨
  ∃ c e0 c0, dget ps (key2 f l) = some (.tuple [nI c, nI e0]) ∧ f < e0 ∧ e0 ≤ xs.length ∧ MinP xs (l - 1) e0 c0 ∧ c = c0 + sq (seg xs f e0) ∧ ∀ e' c', f < e' → e' < e → MinP xs (l - 1) e' c' → c ≤ c' + sq (seg xs f e')
theorem minP_le {xs : List Nat} {l f c : Nat} (h : MinP xs l f c) : f + l ≤ xs.length := by
  obtain ⟨⟨s, a1, a2, _⟩, _⟩ := h
  have := pt_len a1
  omega
theorem row_of {xs : List Nat} {ps : List (D × D)} {l f : Nat} (hl : 1 ≤ l) (h : Part xs ps l f (xs.length - l + 2)) (hn : l ≤ xs.length) : RowAt xs ps l f := by
  have all : ∀ e' c', f < e' → MinP xs (l - 1) e' c' → e' < xs.length - l + 2 := fun e' c' _ h => by have := minP_le h; omega
  have el : l - 1 + 1 = l := by omega
  rcases h with ⟨h1, h2⟩ | ⟨c, e0, c0, h1, h2, h3, h4, h5, h6⟩
  · refine ⟨fun c hc => ?_, fun v hv => ?_⟩
    · obtain ⟨⟨s, a1, a2, _⟩, _⟩ := hc
      obtain ⟨r, rfl, q1, q2, q3, q4⟩ := pt_cons a1 (l := l - 1) (by omega)
      obtain ⟨c', hc'⟩ := minP_ex q3
      rw [q4] at hc'
      exact absurd hc' (h2 _ _ q1 (all _ _ q1 hc'))
    · rw [h1] at hv; cases hv
  · have hm : MinP xs l f c := by
      have := minP_step (l := l - 1) h2 h3 h4 fun e' c' g1 g2 => by rw [← h5]; exact h6 e' c' g1 (all e' c' g1 g2) g2
      rw [el, ← h5] at this
      exact this
    refine ⟨fun c' hc' => ?_, fun v hv => ?_⟩
    · rw [minP_uniq hc' hm]; exact ⟨_, h1⟩
    · rw [h1] at hv
      cases hv
      exact ⟨c, _, rfl, hm, fun _ => ⟨e0, c0, rfl, h2, h3, h4, h5⟩⟩
theorem pr_hts (xs : List Nat) : ∀ (st : List Nat), ((hts xs st).map sq).sum = pr xs st
  | [] => rfl
  | [a] => by show (sq (seg xs a xs.length) + 0) = sq (seg xs a xs.length) + 0; rfl
  | a :: b :: r => by
    have ih := pr_hts xs (b :: r)
    show sq (seg xs a b) + ((hts xs (b :: r)).map sq).sum = sq (seg xs a b) + pr xs (b :: r)
    rw [ih]
theorem row_put {xs : List Nat} {ps : List (D × D)} {l f a l0 : Nat} {v : D} (hne : ¬ (f = a ∧ l = l0)) (h : RowAt xs ps l f) : RowAt xs (dput ps (key2 a l0) v) l f := by
  have e : dget (dput ps (key2 a l0) v) (key2 f l) = dget ps (key2 f l) := by rw [dget_put2, if_neg hne]
  unfold RowAt
  rw [e]
  exact h
theorem seg_succ {xs : List Nat} {a b : Nat} (h : a ≤ b) (hb : b < xs.length) : seg xs a (b + 1) = seg xs a b + xs[b] := by
  unfold seg
  rw [List.take_succ_eq_append_getElem hb, List.drop_append_of_le_length (by rw [List.length_take]; omega), List.sum_append]; simp
theorem seg_self (xs : List Nat) (a : Nat) : seg xs a a = 0 := by unfold seg; rw [List.drop_eq_nil_of_le (by rw [List.length_take]; omega)]; rfl
theorem seg_le {xs : List Nat} (h : Blk xs) (a b : Nat) : seg xs a b ≤ 60000000 := by
  unfold seg
  have h1 := drop_sum_le a (xs.take b)
  have h2 := take_sum_le b xs
  have := h.sum
  omega
def c_evenest (C : Addr) : DC := fun ds Q E => ∃ (xs : List Nat) (c : Nat), ds = [encN xs, nI c] ∧ Blk xs ∧ 1 ≤ c ∧ c ≤ 100 ∧ (xs.length < c → E (.plain C)) ∧ (c ≤ xs.length → ∀ m st, MinP xs c 0 m → Pt xs.length 0 st → st.length = c → pr xs st = m → Q (.tuple [nI m, encN st]))
theorem len_evenest {C : Addr} : ∀ ds kq ke, c_evenest C ds kq ke → ds.length = 2 := by rintro _ _ _ ⟨xs, c, rfl, _⟩; rfl
section
variable {P : Program} {w : World} {K : PySem.W.Frag} {mg : Str → Option Value} {base : Heap} {T : List Addr}
abbrev s_evenest : Stmt := topS 16
theorem sc_evenest : FnScope ["blocks", "columns", "many", "best", "left", "first", "found", "size", "end", "rest", "cost"] ["blocks", "columns"] (defScope s_evenest) := ⟨rfl, rfl, rfl, by decide +kernel, rfl, by decide +kernel, by decide +kernel⟩
theorem ok_evenest {f : Addr} {fd : FuncData} (F : Fun K "evenest" "evenest" s_evenest f fd) (hm : mg "evenest" = some (.ref f)) (hb : Binds K fd ["blocks", "columns"] []) (bl : ∀ x : Str, bnames.contains x = true → mg x = none) {C_TooLarge : Addr} (x_TooLarge : ExcF K mg "TooLarge" C_TooLarge) {C_NoSuch : Addr} (x_NoSuch : ExcF K mg "NoSuch" C_NoSuch) (k_MOST_BLOCKS : ConI mg "MOST_BLOCKS" 60) : Pf P w K mg base T 1 "evenest" 2 (c_evenest C_NoSuch) := by
  refine pf_of (k := 0) F sc_evenest rfl hm hb bl (len_evenest) fun A outer s H G E ds kq ke hc c tk => ?_
  refine ⟨_, (dss_cons (ds_set (i := 2) c rfl (Or.inl rfl) (de_callB cd_lenA (nb c) PySem.boot_len (dbs_cons (db_var 0) dbs_nil)))
      (dss_cons (ds_if (dt_cmp (od_gtG c) (db_var 2) (de_conI k_MOST_BLOCKS).toB) (dss_one (ds_raise x_TooLarge c tk)) dss_nil)
      (dss_cons (ds_if (dw_or (dt_cmp (od_ltG c) (db_var 2) (db_var 1)) (dw_or1 (dt_cmp (od_ltG c) (db_var 1) de_int.toB))).t (dss_one (ds_raise x_NoSuch c tk)) dss_nil)
      (dss_cons (ds_setF (i := 3) c rfl (Or.inl rfl) (df_disp c (dps_cons c (fun _ _ c => (de_tup (da_cons (de_var 2) (da_cons de_int da_nil)))) (fun _ _ c => (de_tup (da_cons de_int (da_cons de_non da_nil)))) dps_nil)))
      (dss_cons (ds_for c (di_range2 (nb c) (dbs_cons de_int.toB (dbs_cons (de_bin od_add (db_var 1) de_int.toB).toB dbs_nil))) (dg_name (i := 4) c rfl (by first | exact Or.inl rfl | exact Or.inr rfl)) (dss_one (ds_for c (di_range3 (nb c) (dbs_cons (de_bin od_sub (db_var 2) (db_var 4)).toB (dbs_cons (de_neg de_int.toB).toB (dbs_cons (de_neg de_int.toB).toB dbs_nil)))) (dg_name (i := 5) c rfl (by first | exact Or.inl rfl | exact Or.inr rfl)) (dss_cons (ds_set (i := 7) c rfl (Or.inl rfl) de_int)
          (dss_one (ds_for c (di_range2 (nb c) (dbs_cons (de_bin od_add (db_var 5) de_int.toB).toB (dbs_cons (de_bin od_add (de_bin od_sub (db_var 2) (db_var 4)).toB de_int.toB).toB dbs_nil))) (dg_name (i := 8) c rfl (by first | exact Or.inl rfl | exact Or.inr rfl)) (dss_cons (ds_aug (i := 7) c rfl (Or.inl rfl) od_iadd (de_ixA c (db_var 0) (de_bin od_sub (db_var 8) de_int.toB).toB).toB)
            (dss_cons (ds_set (i := 9) c rfl (Or.inl rfl) (de_get1 c (db_var 3) (de_tup (da_cons (de_var 8) (da_cons (de_bin od_sub (db_var 4) de_int.toB) da_nil)))))
            (dss_one (ds_if (dt_cmp od_isn (db_var 9) de_non.toB) (dss_cons (ds_set (i := 10) c rfl (Or.inl rfl) (de_bin od_add (de_ixA c (db_var 9) de_int.toB).toB (de_bin od_mulA (db_var 7) (db_var 7)).toB))
              (dss_one (ds_if (dw_or (dt_cmp (od_notinA c) (de_tup (da_cons (de_var 5) (da_cons (de_var 4) da_nil))).toB (db_var 3)) (dw_or1 (dt_cmp (od_leG c) (db_var 10) (de_ixA c (de_ixA c (db_var 3) (de_tup (da_cons (de_var 5) (da_cons (de_var 4) da_nil))).toB).toB de_int.toB).toB))).t (dss_one (ds_putA (i := 3) c (de_tup (da_cons (de_var 10) (da_cons (de_var 8) da_nil))) (de_tup (da_cons (de_var 5) (da_cons (de_var 4) da_nil))))) dss_nil))) dss_nil))))))))))
      (dss_cons (ds_mix2 (i := 6) (j := 5) c rfl rfl (by decide) rfl rfl (dm_own c (df_lst da_nil) (fun _ _ c => (dm_val de_int dm_nil))))
      (dss_cons (ds_for c (di_range3 (nb c) (dbs_cons (db_var 1) (dbs_cons de_int.toB (dbs_cons (de_neg de_int.toB).toB dbs_nil)))) (dg_name (i := 4) c rfl (by first | exact Or.inl rfl | exact Or.inr rfl)) (dss_cons (ds_app (i := 6) (de_var 5))
        (dss_one (ds_set (i := 5) c rfl (Or.inl rfl) (de_ixA c (de_ixA c (db_var 3) (de_tup (da_cons (de_var 5) (da_cons (de_var 4) da_nil))).toB).toB de_int.toB)))))
      (dss_one (ds_ret (de_tup (da_cons (de_ixA c (de_ixA c (db_var 3) (de_tup (da_cons de_int (da_cons (de_var 1) da_nil))).toB).toB de_int.toB) (da_cons (de_callT cd_tuple (nb c) boot_tuple (dbs_cons (db_var 6) dbs_nil)) da_nil)))))))))))), ?_⟩
  obtain ⟨xs, c, rfl, hB, hc1, hc2, hE, hq⟩ := hc
  have hl := hB.1
  walk_at "r"
  rw [List.length_map]
  refine brn.ff (decide_eq_false (by omega)) ?_
  walk_at "r"
  refine brn.of (fun g => ?_) fun g => ?_
  · walk_at "r"
    exact hE (by have := of_decide_eq_true g; omega)
  have g := of_decide_eq_false g
  have hq := hq (by omega)
  walk_at "r"
  refine brn.ff (decide_eq_false (by omega)) ?_
  walk_at "r"
  intro G0 H0
  walk_at "r"
  refine ⟨by simp, ?_⟩
  walk_at "r"
  rw [show (((c : Nat) : Int) + 1 - 1).toNat = c by omega]
  refine ⟨fun r ρ => ∃ (l n : Nat) (ps : List (D × D)) (s4 s5 s6 s7 s8 s9 s10 : Sl), ρ = [.val (encN xs), .val (nI c), .val (nI xs.length), .own (.dict ps), s4, s5, s6, s7, s8, s9, s10] ∧ r = rangeD ((l + 1 : Nat) : Int) 1 n ∧ l + n = c ∧ AllT true ps ∧ ps.length ≤ 1 + l * 8000 ∧ (∀ l' ≤ l, ∀ f, RowAt xs ps l' f) ∧ (∀ l', l < l' → ∀ f, dget ps (key2 f l') = none),
    ⟨0, c, [(key2 xs.length 0, .tuple [.int 0, .none])], .non, .non, .non, .non, .non, .non, .non, rfl, rfl, by omega, ?_, by simp, ?_, ?_⟩, ?_, ?_⟩
  · intro p hp
    rw [List.mem_singleton.mp hp]; rfl
  · intro l' hl' f
    obtain rfl : l' = 0 := by omega
    refine ⟨fun m hm => ?_, fun v hv => ?_⟩
    · obtain ⟨rfl, rfl⟩ := minP_0.mp hm
      exact ⟨.none, by rw [dget_cons, if_pos rfl]; rfl⟩
    · rw [dget_cons] at hv
      by_cases h : dkOf (key2 xs.length 0) = dkOf (key2 f 0)
      · rw [if_pos h] at hv
        cases hv
        obtain ⟨rfl, _⟩ := (key2_inj ..).mp h
        exact ⟨0, .none, rfl, minP_0.mpr ⟨rfl, rfl⟩, fun z => absurd z (by omega)⟩
      · rw [if_neg h, dget_nil] at hv; cases hv
  · intro l' hl' f
    rw [dget_cons, if_neg fun z => absurd ((key2_inj ..).mp z).2 (by omega)]; rfl
  · rintro x r ρ ⟨l, n, ps, s4, s5, s6, s7, s8, s9, s10, rfl, hr, hln, hT, hpl, hR, hN⟩
    obtain ⟨n, rfl, rfl, rfl⟩ := rangeD_cons hr
    walk_at "r"
    refine ⟨xs.length - l, rgc_dn ⟨by omega, by omega⟩ ⟨by decide, by decide⟩ (by rw [if_pos (by omega)]; omega), ?_⟩
    walk_at "r"
    refine ⟨fun r ρ => ∃ (m : Nat) (ps : List (D × D)) (s5 s7 s8 s9 s10 : Sl), ρ = [.val (encN xs), .val (nI c), .val (nI xs.length), .own (.dict ps), .val (nI (l + 1)), s5, s6, s7, s8, s9, s10] ∧ r = rangeD ((m : Int) - 1) (-1) m ∧ m ≤ xs.length - l ∧ AllT true ps ∧ ps.length ≤ 1 + l * 8000 + (xs.length - l - m) * 70 ∧ (∀ l' ≤ l, ∀ f, RowAt xs ps l' f) ∧ (∀ l', l + 1 < l' → ∀ f, dget ps (key2 f l') = none) ∧ (∀ f, m ≤ f → RowAt xs ps (l + 1) f) ∧ (∀ f, f < m → dget ps (key2 f (l + 1)) = none),
      ⟨xs.length - l, ps, s5, s7, s8, s9, s10, rfl, ?_, Nat.le_refl _, hT, by omega, hR, fun l' h => hN l' (by omega), fun f hf => ?_, fun f _ => hN _ (by omega) f⟩, ?_, ?_⟩
    · rw [show ((xs.length : Nat) : Int) - ((l + 1 : Nat) : Int) = ((xs.length - l : Nat) : Int) - 1 by omega]
    · refine ⟨fun m hm => ?_, fun v hv => ?_⟩
      · exact absurd (minP_le hm) (by omega)
      · rw [hN _ (by omega)] at hv; cases hv
    · rintro x r ρ ⟨m, ps, s5, s7, s8, s9, s10, rfl, hr, hm, hT, hpl, hR, hN, hR1, hN1⟩
      obtain ⟨m', rfl, rfl, rfl⟩ := rangeD_cons hr
      clear hr
      rw [show (((m' + 1 : Nat) : Int) - 1) = (m' : Int) by omega]
      walk_at "r"
      rw [show ((((xs.length : Nat) : Int) - ((l + 1 : Nat) : Int) + 2) - ((m' : Int) + 1)).toNat = xs.length - l - m' by omega]
      refine ⟨fun r ρ => ∃ (e k : Nat) (ps : List (D × D)) (s8 s9 s10 : Sl), ρ = [.val (encN xs), .val (nI c), .val (nI xs.length), .own (.dict ps), .val (nI (l + 1)), .val (nI m'), s6, .val (nI (seg xs m' e)), s8, s9, s10] ∧ r = rangeD ((e : Int) + 1) 1 k ∧ e + k = xs.length - l ∧ m' ≤ e ∧ AllT true ps ∧ ps.length ≤ 1 + l * 8000 + (xs.length - l - (m' + 1)) * 70 + (e - m') ∧ (∀ l' ≤ l, ∀ f, RowAt xs ps l' f) ∧ (∀ l', l + 1 < l' → ∀ f, dget ps (key2 f l') = none) ∧ (∀ f, m' < f → RowAt xs ps (l + 1) f) ∧ (∀ f, f < m' → dget ps (key2 f (l + 1)) = none) ∧ Part xs ps (l + 1) m' (e + 1),
        ⟨m', xs.length - l - m', ps, s8, s9, s10, by rw [seg_self]; rfl, rfl, by omega, Nat.le_refl _, hT, by omega, hR, hN, fun f hf => hR1 f (by omega), fun f hf => hN1 f (by omega), .inl ⟨hN1 m' (by omega), fun e' c' h1 h2 => absurd h1 (by omega)⟩⟩, ?_, ?_⟩
      · rintro x r ρ ⟨e, k, ps, s8, s9, s10, rfl, hr, hek, hme, hT, hpl, hR, hN, hR1, hN1, hP⟩
        obtain ⟨k, rfl, rfl, rfl⟩ := rangeD_cons hr
        clear hr
        have hex : e < xs.length := by omega
        have hsl := seg_le hB m' (e + 1)
        have hss := seg_succ (xs := xs) hme hex
        walk_at "r"
        rw [show ((e : Int) + 1 - 1) = (e : Int) by omega, at_mapN xs e hex]
        walk_at "r"
        have ek : PyData.tuple [PyData.int ((e : Int) + 1), PyData.int (((l + 1 : Nat) : Int) - 1)] = key2 (e + 1) l := by
          rw [show (((l + 1 : Nat) : Int) - 1) = (l : Int) by omega]; rfl
        rw [ek]
        refine ⟨hT.ok rfl rfl, ?_⟩
        have hss' : ((seg xs m' e : Nat) : Int) + ((xs[e] : Nat) : Int) = ((seg xs m' (e + 1) : Nat) : Int) := by rw [hss]; rfl
        rw [hss']
        cases hd : dget ps (key2 (e + 1) l) with
        | none =>
          walk_at "r"
          refine ⟨e + 1, k, ps, _, _, _, rfl, rfl, by omega, by omega, hT, by omega, hR, hN, hR1, hN1, ?_⟩
          have no : ∀ c', ¬ MinP xs l (e + 1) c' := fun c' h => by
            obtain ⟨x, hx⟩ := (hR l (Nat.le_refl _) (e + 1)).1 c' h
            rw [hd] at hx; cases hx
          rcases hP with ⟨p1, p2⟩ | ⟨cc, e0, c0, p1, p2, p3, p4, p5, p6⟩
          · refine .inl ⟨p1, fun e' c' h1 h2 => ?_⟩
            by_cases he : e' = e + 1
            · subst he; exact no c'
            · exact p2 e' c' h1 (by omega)
          · refine .inr ⟨cc, e0, c0, p1, p2, p3, p4, p5, fun e' c' h1 h2 h3 => ?_⟩
            by_cases he : e' = e + 1
            · subst he; exact absurd h3 (no c')
            · exact p6 e' c' h1 (by omega) h3
        | some v =>
          obtain ⟨cm, x, rfl, hm, _⟩ := (hR l (Nat.le_refl _) (e + 1)).2 v hd
          have hsq : ((seg xs m' (e + 1) : Nat) : Int) * ((seg xs m' (e + 1) : Nat) : Int) = ((sq (seg xs m' (e + 1)) : Nat) : Int) := by unfold sq; rw [Int.natCast_mul]
          walk_at "r"
          rw [hsq]
          have ek2 : PyData.tuple [nI m', nI (l + 1)] = key2 m' (l + 1) := rfl
          have eE : PyData.tuple [PyData.int (((cm : Nat) : Int) + ((sq (seg xs m' (e + 1)) : Nat) : Int)), PyData.int ((e : Int) + 1)] = .tuple [nI (cm + sq (seg xs m' (e + 1))), nI (e + 1)] := rfl
          have put : ∀ (s9' : Sl), (∀ e' c', m' < e' → e' < e + 2 → MinP xs l e' c' → cm + sq (seg xs m' (e + 1)) ≤ c' + sq (seg xs m' e')) →
              ∃ (e_1 k_1 : Nat) (ps_1 : List (D × D)) (s8 s9 s10 : Sl), [Sl.val (encN xs), .val (nI c), .val (nI xs.length), .own (.dict (dput ps (key2 m' (l + 1)) (.tuple [nI (cm + sq (seg xs m' (e + 1))), nI (e + 1)]))), .val (nI (l + 1)), .val (nI m'), s6, .val (nI (seg xs m' (e + 1))), .val (nI (e + 1)), s9', .val (nI (cm + sq (seg xs m' (e + 1))))] =
                [.val (encN xs), .val (nI c), .val (nI xs.length), .own (.dict ps_1), .val (nI (l + 1)), .val (nI m'), s6, .val (nI (seg xs m' e_1)), s8, s9, s10] ∧ rangeD ((e : Int) + 1 + 1) 1 k = rangeD ((e_1 : Int) + 1) 1 k_1 ∧ e_1 + k_1 = xs.length - l ∧ m' ≤ e_1 ∧ AllT true ps_1 ∧ ps_1.length ≤ 1 + l * 8000 + (xs.length - l - (m' + 1)) * 70 + (e_1 - m') ∧ (∀ l' ≤ l, ∀ f, RowAt xs ps_1 l' f) ∧ (∀ l', l + 1 < l' → ∀ f, dget ps_1 (key2 f l') = none) ∧ (∀ f, m' < f → RowAt xs ps_1 (l + 1) f) ∧ (∀ f, f < m' → dget ps_1 (key2 f (l + 1)) = none) ∧ Part xs ps_1 (l + 1) m' (e_1 + 1) := by
            intro s9' hbest
            have hld := length_dput ps (key2 m' (l + 1)) (.tuple [nI (cm + sq (seg xs m' (e + 1))), nI (e + 1)])
            refine ⟨e + 1, k, _, _, _, _, rfl, rfl, by omega, by omega, hT.dput rfl, by omega, fun l' hl' f => row_put (by omega) (hR l' hl' f), fun l' hl' f => ?_, fun f hf => row_put (by omega) (hR1 f hf), fun f hf => ?_, ?_⟩
            · rw [dget_put2, if_neg (by omega)]; exact hN l' hl' f
            · rw [dget_put2, if_neg (by omega)]; exact hN1 f hf
            · exact .inr ⟨_, e + 1, cm, by rw [dget_put2, if_pos ⟨rfl, rfl⟩], by omega, by omega, hm, rfl, fun e' c' h1 h2 h3 => hbest e' c' h1 h2 h3⟩
          rw [ek2]
          refine ⟨hT.ok rfl rfl, ?_⟩
          rcases hP with ⟨p1, p2⟩ | ⟨cc, e0, c0, p1, p2, p3, p4, p5, p6⟩
          · rw [p1]
            walk_at "r"
            rw [ek2]
            refine ⟨hT.ok rfl rfl, by omega, ?_⟩
            refine put _ fun e' c' h1 h2 h3 => ?_
            by_cases he : e' = e + 1
            · subst he; rw [minP_uniq h3 hm]; exact Nat.le_refl _
            · exact absurd h3 (p2 e' c' h1 (by omega))
          · rw [p1]
            walk_at "r"
            rw [ek2]
            refine ⟨hT.ok rfl rfl, ?_⟩
            rw [p1]
            walk_at "r"
            refine brn.of (fun g1 => ?_) fun g1 => ?_
            · have g1 : cm + sq (seg xs m' (e + 1)) ≤ cc := by have := of_decide_eq_true g1; omega
              walk_at "r"
              rw [ek2]
              refine ⟨hT.ok rfl rfl, by omega, ?_⟩
              refine put _ fun e' c' h1 h2 h3 => ?_
              by_cases he : e' = e + 1
              · subst he; rw [minP_uniq h3 hm]; exact Nat.le_refl _
              · exact Nat.le_trans g1 (p6 e' c' h1 (by omega) h3)
            · have g1 : cc < cm + sq (seg xs m' (e + 1)) := by have := of_decide_eq_false g1; omega
              refine ⟨e + 1, k, ps, _, _, _, rfl, rfl, by omega, by omega, hT, by omega, hR, hN, hR1, hN1, ?_⟩
              refine .inr ⟨cc, e0, c0, p1, p2, p3, p4, p5, fun e' c' h1 h2 h3 => ?_⟩
              by_cases he : e' = e + 1
              · subst he; rw [minP_uniq h3 hm]; omega
              · exact p6 e' c' h1 (by omega) h3
      · rintro ρ ⟨e, k, ps, s8, s9, s10, rfl, hr, hek, hme, hT, hpl, hR, hN, hR1, hN1, hP⟩
        cases rangeD_nil hr
        have he : e + 1 = xs.length - (l + 1) + 2 := by omega
        rw [he] at hP
        have hrow := row_of (by omega) hP (by omega)
        refine ⟨m', ps, _, _, _, _, _, rfl, by rw [show ((m' : Int) + -1) = (m' : Int) - 1 by omega], by omega, hT, by omega, hR, hN, fun f hf => ?_, fun f hf => hN1 f hf⟩
        by_cases hf' : f = m'
        · subst hf'; exact hrow
        · exact hR1 f (by omega)
    · rintro ρ ⟨m, ps, s5, s7, s8, s9, s10, rfl, hr, hm, hT, hpl, hR, hN, hR1, hN1⟩
      cases rangeD_nil hr
      refine ⟨l + 1, n, ps, _, _, _, _, _, _, _, rfl, rfl, by omega, hT, by omega, fun l' hl' f => ?_, fun l' hl' f => hN l' (by omega) f⟩
      by_cases hl2 : l' = l + 1
      · subst hl2; exact hR1 f (Nat.zero_le _)
      · exact hR l' (by omega) f
  · rintro ρ ⟨l, n, ps, s4, s5, s6, s7, s8, s9, s10, rfl, hr, hln, hT, hpl, hR, hN⟩
    cases rangeD_nil hr
    obtain rfl : l = c := by omega
    obtain ⟨st0, hst0, hl0⟩ := pt_ex (n := xs.length) l 0 hc1 (by omega)
    obtain ⟨m0, hm0⟩ := minP_ex hst0
    rw [hl0] at hm0
    have hq := fun st => hq m0 st hm0
    obtain ⟨x0, hx0⟩ := (hR l (Nat.le_refl _) 0).1 m0 hm0
    walk_at "r"
    intro _ _
    walk_at "r"
    refine ⟨l, rgc_dn ⟨by omega, by omega⟩ ⟨by decide, by decide⟩ (by rw [if_pos (by omega)]; omega), ?_⟩
    walk_at "r"
    refine ⟨fun r ρ => ∃ (m f cf : Nat) (done : List Nat) (s4 : Sl) (fS : D), ρ = [.val (encN xs), .val (nI l), .val (nI xs.length), .own (.dict ps), s4, .val fS, .own (.list (done.map nI)), s7, s8, s9, s10] ∧ r = rangeD (m : Int) (-1) m ∧ done.length + m = l ∧ MinP xs m f cf ∧ (1 ≤ m → fS = nI f) ∧ (m = 0 → f = xs.length) ∧ (∀ st, Pt xs.length f st → st.length = m → pr xs st = cf → kq (.tuple [nI m0, encN (done ++ st)])),
      ⟨l, 0, m0, [], s4, nI 0, rfl, rfl, by simp, hm0, fun _ => rfl, fun z => absurd z (by omega), hq⟩, ?_, ?_⟩
    · rintro x r ρ ⟨m, f, cf, done, s4, fS, rfl, hr, hdm, hmf, hfS, _, hk⟩
      obtain ⟨m, rfl, rfl, rfl⟩ := rangeD_cons hr
      clear hr
      obtain rfl := hfS (by omega)
      obtain ⟨x, hx⟩ := (hR (m + 1) (by omega) f).1 cf hmf
      obtain ⟨c1, x1, e1, e2, e3⟩ := (hR (m + 1) (by omega) f).2 _ hx
      obtain ⟨e, c0, rfl, h1, h2, h3, h4⟩ := e3 (by omega)
      obtain ⟨-, e4⟩ := List.cons.inj (PyData.tuple.inj e1)
      obtain ⟨rfl, -⟩ := List.cons.inj e4
      have ec := minP_uniq hmf e2
      walk_at "r"
      refine ⟨by rw [List.length_map]; omega, ?_⟩
      walk_at "r"
      have ek2 : PyData.tuple [nI f, PyData.int ((m + 1 : Nat) : Int)] = key2 f (m + 1) := rfl
      rw [ek2]
      refine ⟨hT.ok rfl rfl, ?_⟩
      rw [hx]
      walk_at "r"
      refine ⟨m, e, c0, done ++ [f], _, nI e, by rw [List.map_append]; rfl, by rw [show (((m + 1 : Nat) : Int) + -1) = (m : Int) by omega], by simp; omega, h3, fun _ => rfl, fun z => ?_, fun st g1 g2 g3 => ?_⟩
      · subst z; exact (minP_0.mp h3).1
      · have := hk (f :: st) ⟨rfl, by rw [nx_of g1]; exact h1, by rw [nx_of g1]; exact h2, by rw [nx_of g1]; exact g1⟩ (by simp [g2]) (by
          show sq (seg xs f (nx xs.length st)) + pr xs st = _
          rw [nx_of g1, g3, ec, h4]; omega)
        rw [List.append_assoc]
        exact this
    · rintro ρ ⟨m, f, cf, done, s4, fS, rfl, hr, hdm, hmf, hfS, hf0, hk⟩
      cases rangeD_nil hr
      have := hk [] (hf0 rfl) rfl (by have := (minP_0.mp hmf).2; rw [this]; rfl)
      walk_at "r"
      have ek2 : PyData.tuple [PyData.int 0, nI l] = key2 0 l := rfl
      rw [ek2]
      refine ⟨hT.ok rfl rfl, ?_⟩
      rw [hx0]
      walk_at "r"
      rw [List.append_nil] at this
      exact this
end
end K16
namespace K16
open PySem PySem.Spec PyProof.Rows L2 Dn
local macro_rules | `(tactic| walk_at "r") => `(tactic| ((conv => whnf); (repeat ((first | refine And.intro rfl ?_ | refine And.intro cm_l ?_ | refine And.intro cm_r ?_ | refine And.intro (by decide) ?_ | refine And.intro (cdv_lt (a := 64) (by decide) (by decide)) ?_ | refine And.intro (by omega) ?_ | refine And.intro (cm_r (by omega)) ?_ | refine And.intro (cdv_lt (a := 60) (by omega) (by omega)) ?_); (conv => whnf)))))


def encE : Option (Nat × List Nat) → D
  | none => .none
  | some (m, st) => .tuple [nI m, encN st]
def c__law_evenest : DC := fun ds Q _ => ∃ (xs : List Nat) (c : Nat), ds = [encN xs, nI c] ∧ Blk xs ∧ 1 ≤ c ∧ c ≤ 100 ∧ ∀ o : Option (Nat × List Nat), (o = none ∧ xs.length < c) ∨ (∃ m st, o = some (m, st) ∧ c ≤ xs.length ∧ MinP xs c 0 m ∧ Pt xs.length 0 st ∧ st.length = c ∧ pr xs st = m) → Q (encE o)
theorem len__law_evenest : ∀ ds kq ke, c__law_evenest ds kq ke → ds.length = 2 := by rintro _ _ _ ⟨xs, c, rfl, _⟩; rfl
/-! ### pages -/
def posW (room c g : Nat) : Nat → Nat
  | 0 => 0
  | k + 1 => posW room c g k + wid room c k + g
theorem posW_eq (room c g : Nat) : ∀ k, posW room c g k = k * (room / c) + min k (room % c) + k * g
  | 0 => by simp [posW]
  | k + 1 => by
    rw [posW, posW_eq room c g k]
    unfold wid
    rw [Nat.succ_mul, Nat.succ_mul]
    split <;> omega
theorem wids_eq (room c g : Nat) : ∀ n k, wids room c g n k (posW room c g k) = (List.range' k n).map fun k => (posW room c g k, wid room c k)
  | 0, _ => rfl
  | n + 1, k => by
    rw [wids, List.range'_succ, List.map_cons]
    have := wids_eq room c g n (k + 1)
    rw [posW] at this
    rw [this]
def pre : Nat → List Nat → List Nat
  | _, [] => []
  | h, x :: xs => h :: pre (h + x) xs
theorem pre_ge {n : Nat} : ∀ {h : Nat} {xs : List Nat}, n ≤ h → (pre h xs).filter (fun a => decide (a < n)) = []
  | _, [], _ => rfl
  | h, x :: xs, hn => by
    rw [pre, List.filter_cons, if_neg (by rw [decide_eq_false (by omega)]; decide)]
    exact pre_ge (by omega)
theorem thr_eq {n : Nat} : ∀ {h : Nat} {xs : List Nat}, n ≤ h + xs.sum → thr n h xs = some ((pre h xs).filter fun a => decide (a < n))
  | h, [], hn => by
    unfold thr
    rw [if_neg (by simp at hn; omega)]; rfl
  | h, x :: xs, hn => by
    rw [thr]
    by_cases g : n ≤ h
    · rw [if_pos g, pre_ge g]
    · rw [if_neg g, thr_eq (by rw [List.sum_cons] at hn; omega), pre, List.filter_cons, if_pos (decide_eq_true (by omega))]; rfl
theorem pre_eq (h : Nat) : ∀ xs : List Nat, pre h xs = (List.range xs.length).map fun k => h + (xs.take k).sum
  | [] => rfl
  | x :: xs => by
    rw [pre, pre_eq (h + x) xs, List.length_cons, List.range_succ_eq_map, List.map_cons, List.map_map]
    simp [Function.comp_def, Nat.add_assoc]
def c__law_pages : DCM := fun d ds Q => ds = [] ∧ isSt d ∧ ∀ d', isSt d' → Q (.bool true) d'
theorem len__law_pages : ∀ d ds kq, c__law_pages d ds kq → ds.length = 0 := by rintro _ _ _ ⟨rfl, _⟩; rfl
section
variable {P : Program} {w : World} {K : PySem.W.Frag} {mg : Str → Option Value} {base : Heap} {T : List Addr}
abbrev s__law_evenest : Stmt := topS 34
theorem sc__law_evenest : FnScope ["blocks", "columns"] ["blocks", "columns"] (defScope s__law_evenest) := ⟨rfl, rfl, rfl, by decide +kernel, rfl, by decide +kernel, by decide +kernel⟩
theorem ok__law_evenest {f : Addr} {fd : FuncData} (F : Fun K "_law_evenest" "_law_evenest" s__law_evenest f fd) (hm : mg "_law_evenest" = some (.ref f)) (hb : Binds K fd ["blocks", "columns"] []) (bl : ∀ x : Str, bnames.contains x = true → mg x = none) {C_NoSuch : Addr} (x_NoSuch : ExcF K mg "NoSuch" C_NoSuch) (p_evenest : Pf P w K mg base T 1 "evenest" 2 (c_evenest C_NoSuch)) : Pf P w K mg base T 2 "_law_evenest" 2 c__law_evenest := by
  refine pf_of (k := 1) F sc__law_evenest rfl hm hb bl (len__law_evenest) fun A outer s H G E ds kq ke hc c tk => ?_
  refine ⟨_, (dss_one (ds_try c tk ⟨rfl, by decide, .inl x_NoSuch.g⟩ rfl rfl (fun _ _ _ _ c tk => (dss_one (ds_ret (de_call p_evenest c (da_cons (de_var 0) (da_cons (de_var 1) da_nil)))))) (fun _ _ => (dss_one (ds_ret de_non))))), ?_⟩
  obtain ⟨xs, c, rfl, hB, h1, h2, hq⟩ := hc
  walk_at "r"
  intro B
  walk_at "r"
  refine ⟨xs, c, rfl, hB, h1, h2, fun z => ?_, fun z m st a1 a2 a3 a4 => hq (some (m, st)) (.inr ⟨m, st, rfl, z, a1, a2, a3, a4⟩)⟩
  walk_at "r"
  refine ⟨true, x_NoSuch.xm, fun _ => ?_, fun z => nomatch z⟩
  walk_at "r"
  exact hq none (.inl ⟨rfl, z⟩)
abbrev s__law_pages : Stmt := topS 38
theorem sc__law_pages : FnScope ["state", "wide", "columns", "gutter", "rows", "page", "block", "ratio", "right", "heights", "lines", "threads", "left", "top", "k"] ["state"] (defScope s__law_pages) := ⟨rfl, rfl, rfl, by decide +kernel, rfl, by decide +kernel, by decide +kernel⟩
theorem ok__law_pages {f : Addr} {fd : FuncData} (F : Fun K "_law_pages" "_law_pages" s__law_pages f fd) (hm : mg "_law_pages" = some (.ref f)) (hb : Binds K fd ["state"] []) (bl : ∀ x : Str, bnames.contains x = true → mg x = none) {C_NoSuch : Addr} (p__law_draw : PfM P w K mg base T 1 "_law_draw" 2 c__law_draw) (p_widths_for : Pf P w K mg base T 1 "widths_for" 3 (c_widths_for C_NoSuch)) (p_margins_of : Pf P w K mg base T 1 "margins_of" 3 (c_margins_of C_NoSuch)) (p_opposite : Pf P w K mg base T 1 "opposite" 3 c_opposite) (p_threads_of : Pf P w K mg base T 1 "threads_of" 2 (c_threads_of C_NoSuch)) : PfM P w K mg base T 2 "_law_pages" 1 c__law_pages := by
  refine pf_ofM (k := 1) F sc__law_pages rfl hm hb bl (len__law_pages) fun A outer s H G a E d ds kq hc c tk => ?_
  refine ⟨_, (dss_cons (ds_set (i := 1) c rfl (Or.inl rfl) (de_bin od_add de_int.toB (de_callM (i := 0) p__law_draw c (da_cons de_int da_nil)).toB))
      (dss_cons (ds_set (i := 2) c rfl (Or.inl rfl) (de_bin od_add de_int.toB (de_callM (i := 0) p__law_draw c (da_cons de_int da_nil)).toB))
      (dss_cons (ds_set (i := 3) c rfl (Or.inr rfl) (de_callM (i := 0) p__law_draw c (da_cons de_int da_nil)))
      (dss_cons (ds_set (i := 4) c rfl (Or.inr rfl) (de_call p_widths_for c (da_cons (de_bin od_add (db_var 1) (de_bin od_mulA (db_var 2) de_int.toB).toB) (da_cons (de_var 2) (da_cons (de_var 3) da_nil)))))
      (dss_cons (ds_if (dw_or (dt_cmp (od_ne c) (de_ixA c (de_ixA c (db_var 4) de_int.toB).toB de_int.toB).toB de_int.toB) (dw_or (dt_cmp (od_ne c) (de_bin od_add (de_ixA c (de_ixA c (db_var 4) (de_neg de_int.toB).toB).toB de_int.toB).toB (de_ixA c (de_ixA c (db_var 4) (de_neg de_int.toB).toB).toB de_int.toB).toB).toB (de_bin od_add (db_var 1) (de_bin od_mulA (db_var 2) de_int.toB).toB).toB) (dw_or1 (dt_cmp (od_gtG c) (de_bin od_sub (de_ixA c (de_ixA c (db_var 4) de_int.toB).toB de_int.toB).toB (de_ixA c (de_ixA c (db_var 4) (de_neg de_int.toB).toB).toB de_int.toB).toB).toB de_int.toB)))).t (dss_one (ds_ret de_bl)) dss_nil)
      (dss_cons (ds_cut (ds_if (dt_tru (de_callB (cd_any c) (nb c) boot_any (dbs_cons (df_lc (own := [("k", 14)]) c (di_range1 (nb c) (dbs_cons (de_bin od_sub (db_var 2) de_int.toB).toB dbs_nil)) rfl (fun _ _ _ _ _ _ _ c => (dg_name (i := 14) c rfl (by first | exact Or.inl rfl | exact Or.inr rfl))) (fun _ _ _ _ _ _ _ c => dts_nil) (fun _ _ _ _ _ _ _ c => (de_or (de_cmp (od_ne c) (de_ixA c (de_ixA c (db_var 4) (de_bin od_add (db_var 14) de_int.toB).toB).toB de_int.toB).toB (de_bin od_add (de_bin od_add (de_ixA c (de_ixA c (db_var 4) (db_var 14)).toB de_int.toB).toB (de_ixA c (de_ixA c (db_var 4) (db_var 14)).toB de_int.toB).toB).toB (db_var 3)).toB) (de_one (de_cmp (od_gtG c) (de_ixA c (de_ixA c (db_var 4) (de_bin od_add (db_var 14) de_int.toB).toB).toB de_int.toB).toB (de_ixA c (de_ixA c (db_var 4) (db_var 14)).toB de_int.toB).toB))))).toE.toB dbs_nil)).toB) (dss_one (ds_ret de_bl)) dss_nil))
      (dss_cons (ds_set (i := 5) c rfl (Or.inl rfl) (de_tup (da_cons (de_bin od_add de_int.toB (de_callM (i := 0) p__law_draw c (da_cons de_int da_nil)).toB) (da_cons (de_bin od_add de_int.toB (de_callM (i := 0) p__law_draw c (da_cons de_int da_nil)).toB) da_nil))))
      (dss_cons (ds_set (i := 6) c rfl (Or.inl rfl) (de_tup (da_cons (de_bin od_add de_int.toB (de_callM (i := 0) p__law_draw c (da_cons de_int da_nil)).toB) (da_cons (de_bin od_add de_int.toB (de_callM (i := 0) p__law_draw c (da_cons de_int da_nil)).toB) da_nil))))
      (dss_cons (ds_set (i := 7) c rfl (Or.inl rfl) (de_tup (da_cons (de_bin od_add de_int.toB (de_callM (i := 0) p__law_draw c (da_cons de_int da_nil)).toB) (da_cons (de_bin od_add de_int.toB (de_callM (i := 0) p__law_draw c (da_cons de_int da_nil)).toB) (da_cons (de_bin od_add de_int.toB (de_callM (i := 0) p__law_draw c (da_cons de_int da_nil)).toB) (da_cons (de_bin od_add de_int.toB (de_callM (i := 0) p__law_draw c (da_cons de_int da_nil)).toB) da_nil))))))
      (dss_cons (ds_asg (de_call p_margins_of c (da_cons (de_var 5) (da_cons (de_var 6) (da_cons (de_var 7) da_nil)))) (dg_tup (n := 2) c (dgs_cons (dg_name (i := 12) c rfl (by first | exact Or.inl rfl | exact Or.inr rfl)) (dgs_cons (dg_name (i := 13) c rfl (by first | exact Or.inl rfl | exact Or.inr rfl)) dgs_nil))))
      (dss_cons (ds_set (i := 8) c rfl (Or.inl rfl) (de_bin od_sub (de_bin od_sub (de_ixA c (db_var 5) de_int.toB).toB (de_ixA c (db_var 6) de_int.toB).toB).toB (db_var 12)))
      (dss_cons (ds_cut (ds_if (dw_or (dt_cmp (od_ltG c) (db_var 12) de_int.toB) (dw_or (dt_cmp (od_ltG c) (db_var 8) de_int.toB) (dw_or1 (dt_niRg c (de_bin od_sub (de_bin od_mulA (db_var 8) (de_ixA c (db_var 7) de_int.toB).toB).toB (de_bin od_mulA (db_var 12) (de_ixA c (db_var 7) de_int.toB).toB).toB) (da_cons (de_bin od_add (de_ixA c (db_var 7) de_int.toB).toB (de_ixA c (db_var 7) de_int.toB).toB) da_nil))))).t (dss_one (ds_ret de_bl)) dss_nil))
      (dss_cons (ds_cut (ds_if (dw_or (dt_cmp (od_ne c) (de_call p_opposite c (da_cons (de_var 5) (da_cons (de_var 6) (da_cons (de_tup (da_cons (de_var 12) (da_cons (de_var 13) da_nil))) da_nil)))).toB (de_tup (da_cons (de_var 8) (da_cons (de_var 13) da_nil))).toB) (dw_or1 (dt_cmp (od_ne c) (de_call p_opposite c (da_cons (de_var 5) (da_cons (de_var 6) (da_cons (de_tup (da_cons (de_var 8) (da_cons (de_var 13) da_nil))) da_nil)))).toB (de_tup (da_cons (de_var 12) (da_cons (de_var 13) da_nil))).toB))).t (dss_one (ds_ret de_bl)) dss_nil))
      (dss_cons (ds_set (i := 9) c rfl (Or.inr rfl) (de_callT cd_tuple (nb c) boot_tuple (dbs_cons (df_lc (own := [("k", 14)]) c (di_range1 (nb c) (dbs_cons (de_bin od_add de_int.toB (de_callM (i := 0) p__law_draw c (da_cons de_int da_nil)).toB).toB dbs_nil)) rfl (fun _ _ _ _ _ _ _ c => (dg_name (i := 14) c rfl (by first | exact Or.inl rfl | exact Or.inr rfl))) (fun _ _ _ _ _ _ _ c => dts_nil) (fun _ _ _ _ _ _ _ c => (de_bin od_add de_int.toB (de_callM (i := 0) p__law_draw c (da_cons de_int da_nil)).toB))).toE.toB dbs_nil)))
      (dss_cons (ds_set (i := 10) c rfl (Or.inr rfl) (de_bin od_add de_int.toB (de_callM (i := 0) p__law_draw c (da_cons (de_callB (cd_sumA c) (nb c) boot_sum (dbs_cons (db_var 9) dbs_nil)) da_nil)).toB))
      (dss_cons (ds_set (i := 11) c rfl (Or.inl rfl) (de_call p_threads_of c (da_cons (de_var 9) (da_cons (de_var 10) da_nil))))
      (dss_one (ds_ret (de_cmp (od_eq c) (db_var 11) (de_callT cd_tuple (nb c) boot_tuple (dbs_cons (df_lc (own := [("k", 14)]) c (di_range1 (nb c) (dbs_cons (de_callB cd_lenA (nb c) PySem.boot_len (dbs_cons (db_var 9) dbs_nil)).toB dbs_nil)) rfl (fun _ _ _ _ _ _ _ c => (dg_name (i := 14) c rfl (by first | exact Or.inl rfl | exact Or.inr rfl))) (fun _ _ _ _ _ _ _ c => (dts_one (dt_cmp (od_ltG c) (de_callB (cd_sumA c) (nb c) boot_sum (dbs_cons (de_slice (db_var 9) dp_none (dp_some (db_var 14))).toB dbs_nil)).toB (db_var 10)))) (fun _ _ _ _ _ _ _ c => (de_callB (cd_sumA c) (nb c) boot_sum (dbs_cons (de_slice (db_var 9) dp_none (dp_some (db_var 14))).toB dbs_nil)))).toE.toB dbs_nil)).toB))))))))))))))))))), ?_⟩
  obtain ⟨rfl, hst, hq⟩ := hc
  walk_at "r"
  refine drawN (by decide) (by decide) hst fun wd0 d hwd hst => ?_
  walk_at "r"
  refine drawN (by decide) (by decide) hst fun c0 d hc0 hst => ?_
  walk_at "r"
  refine drawN (by decide) (by decide) hst fun g d hg hst => ?_
  walk_at "r"
  have hc0 : c0 < 4 := by omega
  have hg : g < 3 := by omega
  have hwd : wd0 < 60 := by omega
  have hgc : g * (1 + c0 - 1) ≤ 2 * (1 + c0 - 1) := Nat.mul_le_mul_right _ (by omega)
  generalize hcc : 1 + c0 = c at hgc
  refine ⟨5 + wd0 + c * 3, c, g, ?_, by omega, by omega, by omega, by omega, by omega, ?_⟩
  · rw [← hcc]
    show _ = [PyData.int ((5 + wd0 + (1 + c0) * 3 : Nat) : Int), .int ((1 + c0 : Nat) : Int), .int (g : Int)]
    rw [show (((5 + wd0 + (1 + c0) * 3 : Nat) : Int)) = 5 + (wd0 : Int) + (1 + (c0 : Int)) * 3 by omega, show (((1 + c0 : Nat) : Int)) = 1 + (c0 : Int) by omega]
  have hW0 : (5 : Int) + (wd0 : Int) + (1 + (c0 : Int)) * 3 = ((5 + wd0 + c * 3 : Nat) : Int) := by omega
  generalize hroom : 5 + wd0 + c * 3 - g * (c - 1) = room
  have hLe : wids room c g c 0 0 = (List.range' 0 c).map fun k => (posW room c g k, wid room c k) := wids_eq room c g c 0
  have hLl : (wids room c g c 0 0).length = c := by rw [hLe, List.length_map, List.length_range']
  have hLk : ∀ k, k < c → (wids room c g c 0 0)[k]? = some (posW room c g k, wid room c k) := fun k hk => by
    rw [hLe, List.getElem?_map, List.getElem?_range' (by omega)]; simp
  have hpos := posW_eq room c g
  have hrm := Nat.mod_lt room (show c > 0 by omega)
  have hdm := Nat.div_add_mod room c
  generalize wids room c g c 0 0 = L at hLe hLl hLk
  walk_at "r"
  rw [at_z0, List.getElem?_map, hLk 0 (by omega)]
  walk_at "r"
  have hLm : 0 < (L.map encP).length := by rw [List.length_map]; omega
  have hcm : c - 1 + 1 = c := by omega
  have hcg : c * g = g * (c - 1) + g := by
    conv => lhs; rw [← hcm, Nat.succ_mul, Nat.mul_comm]
  have hlast : posW room c g (c - 1) + wid room c (c - 1) = 5 + wd0 + c * 3 := by
    have h1 : posW room c g (c - 1 + 1) = posW room c g (c - 1) + wid room c (c - 1) + g := rfl
    rw [hcm, hpos c] at h1
    have : min c (room % c) = room % c := by omega
    rw [this] at h1
    omega
  have hwb : ∀ k, room / c ≤ wid room c k ∧ wid room c k ≤ room / c + 1 := fun k => by unfold wid; split <;> omega
  have hwm : ∀ k, wid room c (k + 1) ≤ wid room c k := fun k => by unfold wid; split <;> split <;> omega
  rw [at_m1 _ hLm, List.length_map, hLl, List.getElem?_map, hLk (c - 1) (by omega)]
  walk_at "r"
  rw [at_m1 _ hLm, List.length_map, hLl, List.getElem?_map, hLk (c - 1) (by omega)]
  walk_at "r"
  refine brn.ff (ne_same (d := .int ((posW room c g (c - 1) : Int) + (wid room c (c - 1) : Int))) (e := .int (5 + (wd0 : Int) + (1 + (c0 : Int)) * 3 )) (by congr 1; omega) rfl) ?_
  walk_at "r"
  rw [at_z0, List.getElem?_map, hLk 0 (by omega)]
  walk_at "r"
  rw [at_m1 _ hLm, List.length_map, hLl, List.getElem?_map, hLk (c - 1) (by omega)]
  walk_at "r"
  refine brn.ff (decide_eq_false (by have h1 := hwb 0; have h2 := hwb (c - 1); show ¬ ((wid room c 0 : Nat) : Int) - ((wid room c (c - 1) : Nat) : Int) > 1; omega)) ?_
  walk_at "r"
  refine ⟨fun ρ => ∃ (d : D) (b1 b2 b3 b4 : Sl), isSt d ∧ ρ = .own d :: b1 :: b2 :: b3 :: b4 :: List.replicate 10 .non, ?_, ?_⟩
  · walk_at "r"
    rw [show (1 + (c0 : Int) - 1).toNat = c - 1 by omega, rangeN]
    refine lc_map [.own d, .val (.int (5 + (wd0 : Int))), .val (.int (1 + (c0 : Int))), .val (nI g), .val (.tuple (L.map encP)), .non, .non, .non, .non, .non, .non, .non, .non, .non, .non] rfl (List.range (c - 1)) nI (fun _ => .bool false) rfl (by rw [List.length_range]; omega) ?_ ?_
    · intro k hk G0 H0 kk hkk
      have hk := List.mem_range.mp hk
      have e1 : L2.atI (L.map encP) ((k : Int) + 1) = some (encP (posW room c g (k + 1), wid room c (k + 1))) := by
        rw [show (k : Int) + 1 = ((k + 1 : Nat) : Int) from rfl, at_nat, List.getElem?_map, hLk (k + 1) (by omega)]; rfl
      have e0 : L2.atI (L.map encP) (k : Int) = some (encP (posW room c g k, wid room c k)) := by
        rw [at_nat, List.getElem?_map, hLk k (by omega)]; rfl
      walk_at "r"
      rw [e1]
      walk_at "r"
      rw [e0]
      walk_at "r"
      rw [e0]
      walk_at "r"
      refine brn.ff (ne_same (d := nI (posW room c g (k + 1))) (e := .int ((posW room c g k : Int) + (wid room c k : Int) + (g : Int))) rfl rfl) ?_
      walk_at "r"
      rw [e1]
      walk_at "r"
      rw [e0]
      walk_at "r"
      rw [decide_eq_false (by have := hwm k; show ¬ ((wid room c (k + 1) : Nat) : Int) > ((wid room c k : Nat) : Int); omega)]
      exact hkk _ rfl
    · walk_at "r"
      rw [boolsOf_map]
      walk_at "r"
      refine brn.ff (by simp) ?_
      exact ⟨d, _, _, _, _, hst, rfl⟩
  rintro ρ ⟨d, b1, b2, b3, b4, hst, rfl⟩
  clear hLe hLl hLk hpos hrm hdm hLm hcm hcg hlast hwb hwm hW0 hroom hwd hcc hgc hc0 hg
  walk_at "r"
  refine drawN (by decide) (by decide) hst fun p0 d hp0 hst => ?_
  walk_at "r"
  refine drawN (by decide) (by decide) hst fun p1 d hp1 hst => ?_
  walk_at "r"
  refine drawN (by decide) (by decide) hst fun q0 d hq0 hst => ?_
  walk_at "r"
  refine drawN (by decide) (by decide) hst fun q1 d hq1 hst => ?_
  walk_at "r"
  refine drawN (by decide) (by decide) hst fun r0 d hr0 hst => ?_
  walk_at "r"
  refine drawN (by decide) (by decide) hst fun r1 d hr1 hst => ?_
  walk_at "r"
  refine drawN (by decide) (by decide) hst fun r2 d hr2 hst => ?_
  walk_at "r"
  refine drawN (by decide) (by decide) hst fun r3 d hr3 hst => ?_
  walk_at "r"
  have hp0 : p0 < 20 := by omega
  have hp1 : p1 < 20 := by omega
  have hq0 : q0 < 20 := by omega
  have hq1 : q1 < 30 := by omega
  have hr0 : r0 < 3 := by omega
  have hr1 : r1 < 3 := by omega
  have hr2 : r2 < 3 := by omega
  have hr3 : r3 < 3 := by omega
  refine ⟨30 + p0, 40 + p1, 10 + q0, 10 + q1, 1 + r0, 1 + r1, 1 + r2, 1 + r3, rfl, by omega, by omega, by omega, by omega, by omega, by omega, by omega, by omega, by omega, by omega, by omega, by omega, ?_⟩
  have hl1 := Nat.div_add_mod ((30 + p0 - (10 + q0)) * (1 + r0)) (1 + r0 + (1 + r1))
  have hl2 := Nat.mod_lt ((30 + p0 - (10 + q0)) * (1 + r0)) (show 1 + r0 + (1 + r1) > 0 by omega)
  have hl3 : (30 + p0 - (10 + q0)) * (1 + r0) / (1 + r0 + (1 + r1)) ≤ 30 + p0 - (10 + q0) := Nat.div_le_of_le_mul (by rw [Nat.mul_comm]; exact Nat.mul_le_mul_right _ (by omega))
  generalize (30 + p0 - (10 + q0)) * (1 + r0) / (1 + r0 + (1 + r1)) = l at hl1 hl3 ⊢
  generalize (40 + p1 - (10 + q1)) * (1 + r2) / (1 + r2 + (1 + r3)) = t
  walk_at "r"
  refine ⟨fun ρ => ρ = .own d :: b1 :: b2 :: b3 :: b4 :: .val (encP (30 + p0, 40 + p1)) :: .val (encP (10 + q0, 10 + q1)) :: .val (.tuple [nI (1 + r0), nI (1 + r1), nI (1 + r2), nI (1 + r3)]) :: .val (.int (((30 + p0 : Nat) : Int) - ((10 + q0 : Nat) : Int) - (l : Int))) :: .non :: .non :: .non :: .val (nI l) :: .val (nI t) :: .non :: [], ?_, ?_⟩
  · walk_at "r"
    refine brn.ff (decide_eq_false (by show ¬ ((30 : Int) + (p0 : Int) - (10 + (q0 : Int)) - ((l : Nat) : Int)) < 0; omega)) ?_
    have hW : ((30 + p0 - (10 + q0) : Nat) : Int) = 30 + (p0 : Int) - (10 + (q0 : Int)) := by omega
    have h := congrArg (fun n : Nat => (n : Int)) hl1
    simp only [Int.natCast_add, Int.natCast_mul, hW, Int.natCast_one] at h
    generalize hm : (30 + p0 - (10 + q0)) * (1 + r0) % (1 + r0 + (1 + r1)) = mm at h hl2
    have key : ((30 : Int) + (p0 : Int) - (10 + (q0 : Int)) - (l : Int)) * (1 + (r0 : Int)) - (l : Int) * (1 + (r1 : Int)) = (mm : Int) := by grind
    walk_at "r"
    refine brn.ff ?_ ?_
    · show (if true = true then !decide ((0 : Int) ≤ ((30 : Int) + (p0 : Int) - (10 + (q0 : Int)) - (l : Int)) * (1 + (r0 : Int)) - (l : Int) * (1 + (r1 : Int)) ∧ ((30 : Int) + (p0 : Int) - (10 + (q0 : Int)) - (l : Int)) * (1 + (r0 : Int)) - (l : Int) * (1 + (r1 : Int)) < 1 + (r0 : Int) + (1 + (r1 : Int))) else _) = false
      rw [if_pos rfl, key, decide_eq_true ⟨by omega, by omega⟩]; rfl
    · rfl
  rintro ρ rfl
  clear hl1 hl2 hl3
  walk_at "r"
  refine ⟨fun ρ => ∃ (c1 c2 c3 c4 c5 c6 c7 c8 : Sl), ρ = .own d :: c1 :: c2 :: c3 :: c4 :: c5 :: c6 :: c7 :: c8 :: .non :: .non :: .non :: .val (nI l) :: .val (nI t) :: .non :: [], ?_, ?_⟩
  · walk_at "r"
    refine ⟨30 + p0, 40 + p1, 10 + q0, 10 + q1, l, t, rfl, ?_⟩
    walk_at "r"
    refine brn.ff (ne_same (d := .tuple [.int (((30 + p0 : Nat) : Int) - ((10 + q0 : Nat) : Int) - (l : Int)), .int (t : Int)]) (e := .tuple [.int (((30 + p0 : Nat) : Int) - ((10 + q0 : Nat) : Int) - (l : Int)), nI t]) rfl rfl) ?_
    walk_at "r"
    refine ⟨30 + p0, 40 + p1, 10 + q0, 10 + q1, _, t, rfl, ?_⟩
    walk_at "r"
    refine brn.ff (ne_same (d := .tuple [.int (((30 + p0 : Nat) : Int) - ((10 + q0 : Nat) : Int) - (((30 + p0 : Nat) : Int) - ((10 + q0 : Nat) : Int) - (l : Int))), .int (t : Int)]) (e := .tuple [nI l, nI t]) (by congr 3; omega) rfl) ?_
    exact ⟨_, _, _, _, _, _, _, _, rfl⟩
  rintro ρ ⟨c1, c2, c3, c4, c5, c6, c7, c8, rfl⟩
  clear hp0 hp1 hq0 hq1 hr0 hr1 hr2 hr3
  walk_at "r"
  refine drawN (by decide) (by decide) hst fun hn d hhn hst => ?_
  walk_at "r"
  rw [show (1 + (hn : Int)).toNat = 1 + hn by omega, rangeN]
  have hhn : hn < 4 := by omega
  refine lc_st (fun d => .own d :: c1 :: c2 :: c3 :: c4 :: c5 :: c6 :: c7 :: c8 :: .non :: .non :: .non :: .val (nI l) :: .val (nI t) :: .non :: []) (List.range (1 + hn)) nI nI (fun _ v => 1 ≤ v ∧ v ≤ 6) hst rfl rfl (by rw [List.length_range]; omega) ?_ ?_
  · intro x hx d hst G0 H0 k hk
    walk_at "r"
    refine drawN (by decide) (by decide) hst fun r d' hr hst => ?_
    exact hk (1 + r) d' _ ⟨by omega, by omega⟩ hst rfl
  · intro vs d hv hst
    have hvl := hv.length
    rw [List.length_range] at hvl
    have hvb : ∀ v ∈ vs, 1 ≤ v ∧ v ≤ 6 := fun v hm => by obtain ⟨_, _, h⟩ := hv.mem v hm; exact h
    have hB : Blk vs := ⟨by omega, fun v hm => by have := hvb v hm; omega⟩
    have hs1 : 1 ≤ vs.sum := by
      cases vs with
      | nil => simp at hvl; omega
      | cons v vs => have := hvb v List.mem_cons_self; rw [List.sum_cons]; omega
    have hs2 : vs.sum ≤ 24 := by
      have := sum_bd (b := 6) (xs := vs) fun v hm => (hvb v hm).2
      omega
    walk_at "r"
    rw [intsOf_N]
    walk_at "r"
    rw [sum_cast]
    refine drawN (by omega) (by omega) hst fun r d hr hst => ?_
    walk_at "r"
    refine ⟨vs, 1 + r, rfl, hB, ?_⟩
    rw [thr_eq (by omega)]
    walk_at "r"
    rw [List.length_map]
    refine ⟨by omega, ?_⟩
    walk_at "r"
    rw [Int.toNat_natCast, rangeN]
    refine lc_fm (.own d :: c1 :: c2 :: c3 :: c4 :: c5 :: c6 :: c7 :: c8 :: .val (encN vs) :: .val (.int (1 + (r : Int))) :: .val (encN ((pre 0 vs).filter fun a => decide (a < 1 + r))) :: .val (nI l) :: .val (nI t) :: .non :: []) rfl (List.range vs.length) nI (fun k => if (vs.take k).sum < 1 + r then some (nI (vs.take k).sum) else none) rfl (by rw [List.length_range]; omega) ?_ ?_
    · intro k hk G0 H0 kk k0 hkk hk0
      have e3 : Dn.cutD (vs.map nI) none (some (k : Int)) = (vs.take k).map nI := by rw [cut_to, List.map_take]
      walk_at "r"
      rw [e3, intsOf_N]
      walk_at "r"
      rw [sum_cast]
      refine brn.of (fun g => ?_) fun g => ?_
      · have g : (vs.take k).sum < 1 + r := by have := of_decide_eq_true g; omega
        walk_at "r"
        rw [e3, intsOf_N]
        walk_at "r"
        rw [sum_cast]
        exact hkk _ _ (if_pos g) rfl
      · have g : ¬ (vs.take k).sum < 1 + r := by have := of_decide_eq_false g; omega
        exact hk0 _ (if_neg g) rfl
    · walk_at "r"
      have e4 : PyData.tuple ((List.range vs.length).filterMap fun k => if (vs.take k).sum < 1 + r then some (nI (vs.take k).sum) else none) = encN ((pre 0 vs).filter fun a => decide (a < 1 + r)) := by
        rw [fm_filter (fun k => (vs.take k).sum < 1 + r) (fun k => nI (vs.take k).sum), pre_eq, List.filter_map]
        unfold encN
        rw [List.map_map]
        simp [Function.comp_def]
      rw [e4]
      refine ⟨dep_N 18 _, dep_N 18 _, ?_⟩
      rw [eqv_N rfl]
      walk_at "r"
      exact hq _ hst
end
end K16
namespace K16
open PySem PySem.Spec PyProof.Rows L2 Dn
local macro_rules | `(tactic| walk_at "r") => `(tactic| ((conv => whnf); (repeat ((first | refine And.intro rfl ?_ | refine And.intro cm_l ?_ | refine And.intro cm_r ?_ | refine And.intro (by decide) ?_ | refine And.intro (cdv_lt (a := 64) (by decide) (by decide)) ?_ | refine And.intro (by omega) ?_ | refine And.intro (cm_r (by omega)) ?_ | refine And.intro (cdv_lt (a := 60) (by omega) (by omega)) ?_); (conv => whnf)))))


/-! ### boxes on a page -/
def boxC (c r w : Nat) : Box := (c * 10, r * 10, c * 10 + 4 + w, r * 10 + 5)
/-- a grid: column by column, row by row -/
def GridOk (bs : List Box) : Prop := (∀ b ∈ bs, ∃ c r w, b = boxC c r w ∧ w < 5) ∧ bs.Pairwise (fun a b => a.1 < b.1 ∨ (a.1 = b.1 ∧ a.2.1 < b.2.1))
theorem grid_meet {a b : Box} (ha : ∃ c r w, a = boxC c r w ∧ w < 5) (hb : ∃ c r w, b = boxC c r w ∧ w < 5) (h : a.1 < b.1 ∨ (a.1 = b.1 ∧ a.2.1 < b.2.1)) : meet a b = false := by
  obtain ⟨c, r, w, rfl, hw⟩ := ha
  obtain ⟨c', r', w', rfl, hw'⟩ := hb
  simp only [boxC] at h
  unfold meet boxC
  simp only
  rcases h with h | ⟨h, h2⟩
  · rw [decide_eq_false (show ¬ c' * 10 < c * 10 + 4 + w by omega)]; simp
  · rw [decide_eq_false (show ¬ r' * 10 < r * 10 + 5 by omega)]; simp
/-- order of the places -/
def ltB (a b : Box) : Prop := a.1 < b.1 ∨ (a.1 = b.1 ∧ a.2.1 < b.2.1)
theorem ltB_trans {a b c : Box} (h1 : ltB a b) (h2 : ltB b c) : ltB a c := by unfold ltB at *; omega
theorem ltB_irr {a : Box} (h : ltB a a) : False := by unfold ltB at h; omega
/-- the order of reading is the order of the places -/
theorem ro_sorted {bs : List Box} {left L : List Nat} (h : RO bs left L) : (∀ i ∈ left, ∃ c r w, bx bs i = boxC c r w ∧ w < 5) → left.Nodup → (∀ i ∈ left, ∀ j ∈ left, i ≠ j → ltB (bx bs i) (bx bs j) ∨ ltB (bx bs j) (bx bs i)) → L.Perm left ∧ L.Pairwise (fun i j => ltB (bx bs i) (bx bs j)) := by
  induction h with
  | nil => intro _ _ _; exact ⟨.refl _, .nil⟩
  | step left st cs rest hst hmin hcs hsrt _ ih =>
    intro hg hnd htot
    have hcm : ∀ i, i ∈ cs ↔ i ∈ left ∧ (bx bs i).1 < (bx bs st).2.2.1 := fun i => by
      rw [hcs.mem_iff, List.mem_filter, decide_eq_true_iff]
    obtain ⟨i1, i2⟩ := ih (fun i hi => hg i (List.mem_filter.mp hi).1) (hnd.filter _) fun i hi j hj => htot i (List.mem_filter.mp hi).1 j (List.mem_filter.mp hj).1
    have hcol : ∀ i ∈ cs, (bx bs i).1 = (bx bs st).1 := fun i hi => by
      obtain ⟨h1, h2⟩ := (hcm i).mp hi
      obtain ⟨c, r, w, e, hw⟩ := hg i h1
      obtain ⟨c', r', w', e', hw'⟩ := hg st hst
      have := hmin i h1
      rw [e, e'] at this h2 ⊢
      simp only [boxC] at this h2 ⊢
      omega
    have hcnd : cs.Nodup := hcs.nodup_iff.mpr (hnd.filter _)
    refine ⟨?_, List.pairwise_append.mpr ⟨?_, i2, fun i hi j hj => ?_⟩⟩
    · have h1 : (cs ++ rest).Perm (cs ++ left.filter fun i => decide (i ∉ cs)) := i1.append_left cs
      refine h1.trans ?_
      have h2 : (left.filter fun i => decide (i ∈ cs)).Perm cs := by
        have : (left.filter fun i => decide (i ∈ cs)) = left.filter fun i => decide ((bx bs i).1 < (bx bs st).2.2.1) := by
          refine List.filter_congr fun i hi => ?_
          rw [Bool.eq_iff_iff, decide_eq_true_iff, decide_eq_true_iff, hcm]
          simp [hi]
        rw [this]
        exact hcs.symm
      have h3 : ((left.filter fun i => decide (i ∈ cs)) ++ left.filter fun i => !decide (i ∈ cs)).Perm left := List.filter_append_perm _ _
      have h4 : (left.filter fun i => !decide (i ∈ cs)) = left.filter fun i => decide (i ∉ cs) := by
        refine List.filter_congr fun i _ => ?_
        simp
      rw [h4] at h3
      exact (h2.symm.append_right _).trans h3
    · refine (hsrt.and (List.pairwise_iff_forall_sublist.mpr fun {i j} h => ?_ : cs.Pairwise fun i j => i ∈ cs ∧ j ∈ cs ∧ i ≠ j)).imp fun {i j} ⟨h1, h2, h3, h4⟩ => ?_
      · have hs := List.Sublist.subset h
        refine ⟨hs List.mem_cons_self, hs (List.mem_cons_of_mem _ List.mem_cons_self), fun z => ?_⟩
        subst z
        have := h.nodup hcnd
        simp at this
      · have e1 := hcol i h2
        have e2 := hcol j h3
        rcases htot i ((hcm i).mp h2).1 j ((hcm j).mp h3).1 h4 with q | q
        · exact q
        · unfold ltB at *; omega
    · have hjl := i1.mem_iff.mp hj
      obtain ⟨hj1, hj2⟩ := List.mem_filter.mp hjl
      have hj2 : j ∉ cs := by simpa using hj2
      have hjx : ¬ (bx bs j).1 < (bx bs st).2.2.1 := fun z => hj2 ((hcm j).mpr ⟨hj1, z⟩)
      have e1 := hcol i hi
      obtain ⟨c', r', w', e', hw'⟩ := hg st hst
      left
      rw [e1]
      rw [e'] at hjx ⊢
      simp only [boxC] at hjx ⊢
      omega
/-- there is one such order only -/
theorem sort_one {bs : List Box} : ∀ {L M : List Nat}, L.Perm M → L.Pairwise (fun i j => ltB (bx bs i) (bx bs j)) → M.Pairwise (fun i j => ltB (bx bs i) (bx bs j)) → L = M
  | [], M, hp, _, _ => by rw [List.Perm.eq_nil hp.symm]
  | a :: L, M, hp, h1, h2 => by
    cases M with
    | nil => exact absurd hp.eq_nil (by simp)
    | cons b M =>
      have hab : a = b := by
        rcases List.mem_cons.mp (hp.mem_iff.mp (List.mem_cons_self (a := a) (l := L))) with q | q
        · exact q
        · rcases List.mem_cons.mp (hp.mem_iff.mpr (List.mem_cons_self (a := b) (l := M))) with q2 | q2
          · exact q2.symm
          · exact (ltB_irr (ltB_trans ((List.pairwise_cons.mp h1).1 b q2) ((List.pairwise_cons.mp h2).1 a q))).elim
      subst hab
      rw [sort_one (List.Perm.cons_inv hp) (List.pairwise_cons.mp h1).2 (List.pairwise_cons.mp h2).2]
theorem All2.pairwise {α β : Type} {P : β → α → Prop} {R : β → β → Prop} {S : α → α → Prop} (hs : ∀ x y v u, P x v → P y u → R x y → S v u) {xs : List β} {vs : List α} (h : All2 P xs vs) (hp : xs.Pairwise R) : vs.Pairwise S := by
  induction h with
  | nil => exact .nil
  | cons p t ih =>
    obtain ⟨h1, h2⟩ := List.pairwise_cons.mp hp
    refine List.pairwise_cons.mpr ⟨fun u hu => ?_, ih h2⟩
    obtain ⟨y, hy, q⟩ := t.mem u hu
    exact hs _ _ _ _ p q (h1 y hy)
def c__law_boxes : DCM := fun d ds Q => ds = [] ∧ isSt d ∧ ∀ d', isSt d' → Q (.bool true) d'
theorem len__law_boxes : ∀ d ds kq, c__law_boxes d ds kq → ds.length = 0 := by rintro _ _ _ ⟨rfl, _⟩; rfl
theorem bx_get {bs : List Box} {i : Nat} (h : i < bs.length) : bx bs i = bs[i] := by
  unfold bx
  rw [List.getD_eq_getElem?_getD, List.getElem?_eq_getElem h]; rfl
theorem pw_get {bs : List Box} (h : bs.Pairwise ltB) {i j : Nat} (hij : i < j) (hj : j < bs.length) : ltB (bx bs i) (bx bs j) := by
  rw [bx_get (show i < bs.length by omega), bx_get hj]
  exact List.pairwise_iff_getElem.mp h i j (by omega) hj hij
theorem ro_grid {bs : List Box} (hg : ∀ b ∈ bs, ∃ c r w, b = boxC c r w ∧ w < 5) (hp : bs.Pairwise ltB) {L : List Nat} (h : RO bs (List.range bs.length) L) : L = List.range bs.length := by
  have hgx : ∀ i ∈ List.range bs.length, ∃ c r w, bx bs i = boxC c r w ∧ w < 5 := fun i hi => by
    rw [bx_get (List.mem_range.mp hi)]; exact hg _ (List.getElem_mem _)
  obtain ⟨h1, h2⟩ := ro_sorted h hgx List.nodup_range fun i hi j hj hij => by
    have hi := List.mem_range.mp hi
    have hj := List.mem_range.mp hj
    rcases Nat.lt_or_ge i j with z | z
    · exact .inl (pw_get hp z hj)
    · exact .inr (pw_get hp (by omega) hi)
  refine sort_one h1 h2 ?_
  refine List.pairwise_iff_getElem.mpr fun i j hi hj hij => ?_
  rw [List.length_range] at hi hj
  rw [List.getElem_range, List.getElem_range]
  exact pw_get hp hij hj
theorem bx_rev {bs : List Box} {i : Nat} (h : i < bs.length) : bx bs.reverse i = bx bs (bs.length - 1 - i) := by
  rw [bx_get (by rw [List.length_reverse]; exact h), bx_get (by omega), List.getElem_reverse]
theorem ro_turned {bs : List Box} (hg : ∀ b ∈ bs, ∃ c r w, b = boxC c r w ∧ w < 5) (hp : bs.Pairwise ltB) {L : List Nat} (h : RO bs.reverse (List.range bs.reverse.length) L) : L = (List.range bs.length).reverse := by
  rw [List.length_reverse] at h
  have hgx : ∀ i ∈ List.range bs.length, ∃ c r w, bx bs.reverse i = boxC c r w ∧ w < 5 := fun i hi => by
    have hi := List.mem_range.mp hi
    rw [bx_rev hi, bx_get (by omega)]; exact hg _ (List.getElem_mem _)
  obtain ⟨h1, h2⟩ := ro_sorted h hgx List.nodup_range fun i hi j hj hij => by
    have hi := List.mem_range.mp hi
    have hj := List.mem_range.mp hj
    rw [bx_rev hi, bx_rev hj]
    rcases Nat.lt_or_ge i j with z | z
    · exact .inr (pw_get hp (by omega) (by omega))
    · exact .inl (pw_get hp (by omega) (by omega))
  refine sort_one (h1.trans (List.reverse_perm _).symm) h2 ?_
  refine List.pairwise_iff_getElem.mpr fun i j hi hj hij => ?_
  rw [List.length_reverse, List.length_range] at hi hj
  rw [List.getElem_reverse, List.getElem_reverse, List.getElem_range, List.getElem_range, List.length_range, bx_rev (by omega), bx_rev (by omega)]
  exact pw_get hp (by omega) (by omega)
theorem no_meet {bs : List Box} (hg : ∀ b ∈ bs, ∃ c r w, b = boxC c r w ∧ w < 5) (hp : bs.Pairwise ltB) {i j : Nat} (hij : i < j) (hj : j < bs.length) : meet (bs[i]'(by omega)) bs[j] = false := by
  refine grid_meet (hg _ (List.getElem_mem _)) (hg _ (List.getElem_mem _)) ?_
  exact List.pairwise_iff_getElem.mp hp i j (by omega) hj hij
theorem fm_grid {bs : List Box} (hg : ∀ b ∈ bs, ∃ c r w, b = boxC c r w ∧ w < 5) (hp : bs.Pairwise ltB) {r : Option (Nat × Nat)} (h : fmOk bs r) : r = none := by
  cases r with
  | none => rfl
  | some p =>
    obtain ⟨hi, hj, hij, hm, _⟩ := h
    rw [no_meet hg hp hij hj] at hm
    cases hm
theorem fm_other {bs : List Box} {b' : Box} (hg : ∀ b ∈ bs, ∃ c r w, b = boxC c r w ∧ w < 5) (hp : bs.Pairwise ltB) (h0 : 0 < bs.length) (hm : meet bs[0] b' = true) {r : Option (Nat × Nat)} (h : fmOk (bs ++ [b']) r) : r = some (0, bs.length) := by
  have gl : ∀ i (h : i < bs.length), (bs ++ [b'])[i]'(by simp; omega) = bs[i] := fun i h => List.getElem_append_left h
  have gr : (bs ++ [b'])[bs.length]'(by simp) = b' := by simp
  cases r with
  | none =>
    have := h 0 bs.length h0 (by simp) (by simp)
    rw [gl 0 h0, gr, hm] at this
    cases this
  | some p =>
    obtain ⟨i, j⟩ := p
    obtain ⟨hi, hj, hij, hmm, h1, _⟩ := h
    simp at hi hj
    have ej : j = bs.length := by
      rcases Nat.lt_or_ge j bs.length with z | z
      · rw [gl i (by omega), gl j z, no_meet hg hp hij z] at hmm; cases hmm
      · omega
    subst ej
    have ei : i = 0 := by
      rcases Nat.eq_zero_or_pos i with z | z
      · exact z
      · have := h1 0 z
        rw [gl 0 h0, gr, hm] at this; cases this
    rw [ei]
section
variable {P : Program} {w : World} {K : PySem.W.Frag} {mg : Str → Option Value} {base : Heap} {T : List Addr}
abbrev s__law_boxes : Stmt := topS 39
theorem sc__law_boxes : FnScope ["state", "grid", "column", "order", "turned", "other", "k", "row"] ["state"] (defScope s__law_boxes) := ⟨rfl, rfl, rfl, by decide +kernel, rfl, by decide +kernel, by decide +kernel⟩
theorem ok__law_boxes {f : Addr} {fd : FuncData} (F : Fun K "_law_boxes" "_law_boxes" s__law_boxes f fd) (hm : mg "_law_boxes" = some (.ref f)) (hb : Binds K fd ["state"] []) (bl : ∀ x : Str, bnames.contains x = true → mg x = none) (p__law_draw : PfM P w K mg base T 1 "_law_draw" 2 c__law_draw) (p_read_order : Pf P w K mg base T 1 "read_order" 1 c_read_order) (p_first_meeting : Pf P w K mg base T 2 "first_meeting" 1 c_first_meeting) (p__law_same : Pf P w K mg base T 1 "_law_same" 2 c__law_same) (p_do_meet : Pf P w K mg base T 1 "do_meet" 2 c_do_meet) : PfM P w K mg base T 3 "_law_boxes" 1 c__law_boxes := by
  refine pf_ofM (k := 2) F sc__law_boxes rfl hm hb bl (len__law_boxes) fun A outer s H G a E d ds kq hc c tk => ?_
  refine ⟨_, (dss_cons (ds_set (i := 1) c rfl (Or.inr rfl) (df_lst da_nil).toE)
      (dss_cons (ds_cut (ds_for c (di_range1 (nb c) (dbs_cons (de_bin od_add de_int.toB (de_callM (i := 0) p__law_draw c (da_cons de_int da_nil)).toB).toB dbs_nil)) (dg_name (i := 2) c rfl (by first | exact Or.inl rfl | exact Or.inr rfl)) (dss_one (ds_set (i := 1) c rfl (Or.inr rfl) (de_bin od_add (db_var 1) (df_lc (own := [("row", 7)]) c (di_range1 (nb c) (dbs_cons (de_bin od_add de_int.toB (de_callM (i := 0) p__law_draw c (da_cons de_int da_nil)).toB).toB dbs_nil)) rfl (fun _ _ _ _ _ _ _ c => (dg_name (i := 7) c rfl (by first | exact Or.inl rfl | exact Or.inr rfl))) (fun _ _ _ _ _ _ _ c => dts_nil) (fun _ _ _ _ _ _ _ c => (de_tup (da_cons (de_bin od_mulA (db_var 2) de_int.toB) (da_cons (de_bin od_mulA (db_var 7) de_int.toB) (da_cons (de_bin od_add (de_bin od_add (de_bin od_mulA (db_var 2) de_int.toB).toB de_int.toB).toB (de_callM (i := 0) p__law_draw c (da_cons de_int da_nil)).toB) (da_cons (de_bin od_add (de_bin od_mulA (db_var 7) de_int.toB).toB de_int.toB) da_nil))))))).toE.toB)))))
      (dss_cons (ds_setLc (i := 3) (own := [("k", 6)]) c rfl rfl (sw_true rfl rfl rfl rfl) (di_range1 (nb c) (dbs_cons (de_callB cd_lenA (nb c) PySem.boot_len (dbs_cons (db_var 1) dbs_nil)).toB dbs_nil)) rfl (fun _ _ _ _ _ _ _ c => (dg_name (i := 6) c rfl (by first | exact Or.inl rfl | exact Or.inr rfl))) (fun _ _ _ _ _ _ _ c => dts_nil) (fun _ _ _ _ _ _ _ c => (de_var 6)))
      (dss_cons (ds_setLc (i := 4) (own := [("k", 6)]) c rfl rfl (sw_true rfl rfl rfl rfl) (di_range1 (nb c) (dbs_cons (de_callB cd_lenA (nb c) PySem.boot_len (dbs_cons (db_var 1) dbs_nil)).toB dbs_nil)) rfl (fun _ _ _ _ _ _ _ c => (dg_name (i := 6) c rfl (by first | exact Or.inl rfl | exact Or.inr rfl))) (fun _ _ _ _ _ _ _ c => dts_nil) (fun _ _ _ _ _ _ _ c => (de_ixA c (db_var 1) (de_bin od_sub (de_bin od_sub (de_callB cd_lenA (nb c) PySem.boot_len (dbs_cons (db_var 1) dbs_nil)).toB de_int.toB).toB (db_var 6)).toB)))
      (dss_cons (ds_if (dw_or (dt_cmp (od_ne c) (de_call p_read_order c (da_cons (de_var 1) da_nil)).toB (de_callT cd_tuple (nb c) boot_tuple (dbs_cons (db_var 3) dbs_nil)).toB) (dw_or (dt_cmp (od_ne c) (de_call p_read_order c (da_cons (de_var 4) da_nil)).toB (de_tupR c (de_var 3)).toB) (dw_or1 (dt_cmp od_isn (de_call p_first_meeting c (da_cons (de_var 1) da_nil)).toB de_non.toB)))).t (dss_one (ds_ret de_bl)) dss_nil)
      (dss_cons (ds_set (i := 5) c rfl (Or.inl rfl) (de_bin od_add (db_var 1) (df_lst (da_cons (de_tup (da_cons (de_bin od_add (de_ixA c (de_ixA c (db_var 1) de_int.toB).toB de_int.toB).toB de_int.toB) (da_cons (de_bin od_add (de_ixA c (de_ixA c (db_var 1) de_int.toB).toB de_int.toB).toB de_int.toB) (da_cons (de_bin od_add (de_ixA c (de_ixA c (db_var 1) de_int.toB).toB de_int.toB).toB de_int.toB) (da_cons (de_bin od_add (de_ixA c (de_ixA c (db_var 1) de_int.toB).toB de_int.toB).toB de_int.toB) da_nil))))) da_nil)).toE.toB))
      (dss_one (ds_ret (de_and (de_cmp (od_eq c) (de_call p_first_meeting c (da_cons (de_var 5) da_nil)).toB (de_tup (da_cons de_int (da_cons (de_callB cd_lenA (nb c) PySem.boot_len (dbs_cons (db_var 1) dbs_nil)) da_nil))).toB) (de_and (de_call p__law_same c (da_cons (de_call p_do_meet c (da_cons (de_ixA c (db_var 5) de_int.toB) (da_cons (de_ixA c (db_var 5) (de_neg de_int.toB).toB) da_nil))) (da_cons de_bl da_nil))) (de_one (de_call p__law_same c (da_cons (de_call p_do_meet c (da_cons (de_tup (da_cons de_int (da_cons de_int (da_cons de_int (da_cons de_int da_nil))))) (da_cons (de_tup (da_cons de_int (da_cons de_int (da_cons de_int (da_cons de_int da_nil))))) da_nil))) (da_cons de_bl da_nil)))))))))))))), ?_⟩
  obtain ⟨rfl, hst, hq⟩ := hc
  walk_at "r"
  refine ⟨fun ρ => ∃ (d : D) (bs : List Box) (s2 s7 : Sl), isSt d ∧ (∀ b ∈ bs, ∃ c r w, b = boxC c r w ∧ w < 5) ∧ bs.Pairwise ltB ∧ 0 < bs.length ∧ bs.length ≤ 9 ∧ ρ = [.own d, .val (.list (bs.map encB)), s2, .non, .non, .non, .non, s7], ?_, ?_⟩
  · refine drawN (by decide) (by decide) hst fun nc d hnc hst => ?_
    walk_at "r"
    rw [show (1 + (nc : Int)).toNat = 1 + nc by omega]
    refine ⟨fun r ρ => ∃ (d : D) (c n : Nat) (bs : List Box) (s2 s7 : Sl), isSt d ∧ r = rangeD (c : Nat) 1 n ∧ c + n = 1 + nc ∧ (∀ b ∈ bs, ∃ c r w, b = boxC c r w ∧ w < 5) ∧ bs.Pairwise ltB ∧ (∀ b ∈ bs, b.1 < c * 10) ∧ (1 ≤ c → 0 < bs.length) ∧ bs.length ≤ 3 * c ∧ ρ = [.own d, .val (.list (bs.map encB)), s2, .non, .non, .non, .non, s7], ⟨d, 0, 1 + nc, [], .non, .non, hst, rfl, by omega, fun b hb => (nomatch hb), .nil, fun b hb => (nomatch hb), fun z => absurd z (by omega), by simp, rfl⟩, ?_, ?_⟩
    · rintro x r ρ ⟨d, c, n, bs, s2, s7, hst, hr, hcn, hg, hp, hlt, h0, hl, rfl⟩
      obtain ⟨n, rfl, rfl, rfl⟩ := rangeD_cons hr
      walk_at "r"
      refine drawN (by decide) (by decide) hst fun nr d hnr hst => ?_
      walk_at "r"
      rw [show (1 + (nr : Int)).toNat = 1 + nr by omega, rangeN]
      refine lc_st (fun d => [.own d, .val (.list (bs.map encB)), .val (nI c), .non, .non, .non, .non, .non]) (List.range (1 + nr)) nI encB (fun x v => ∃ w, v = boxC c x w ∧ w < 5) hst rfl rfl (by rw [List.length_range]; omega) ?_ ?_
      · intro x hx d hst G0 H0 k hk
        walk_at "r"
        refine drawN (by decide) (by decide) hst fun w d' hw hst => ?_
        walk_at "r"
        exact hk (boxC c x w) d' _ ⟨w, rfl, by omega⟩ hst rfl
      · intro vs d hv hst
        have hvl := hv.length
        rw [List.length_range] at hvl
        have hvb : ∀ v ∈ vs, ∃ x w, v = boxC c x w ∧ w < 5 := fun v hm => by obtain ⟨x, _, w, h1, h2⟩ := hv.mem v hm; exact ⟨x, w, h1, h2⟩
        have hvp : vs.Pairwise ltB := K16.All2.pairwise (R := (· < ·)) (by
          rintro x y v u ⟨w, rfl, _⟩ ⟨w', rfl, _⟩ hxy
          exact .inr ⟨rfl, by simp only [boxC]; omega⟩) hv List.pairwise_lt_range
        walk_at "r"
        refine ⟨by simp; omega, ?_⟩
        walk_at "r"
        refine ⟨d, c + 1, n, bs ++ vs, _, _, hst, by rw [show ((c : Nat) : Int) + 1 = ((c + 1 : Nat) : Int) by omega], by omega, fun b hb => ?_, List.pairwise_append.mpr ⟨hp, hvp, fun a ha b hb => ?_⟩, fun b hb => ?_, fun _ => by simp; omega, by simp; omega, by rw [List.map_append]; rfl⟩
        · rcases List.mem_append.mp hb with z | z
          · exact hg b z
          · obtain ⟨x, w, e, h⟩ := hvb b z; exact ⟨c, x, w, e, h⟩
        · obtain ⟨x, w, rfl, _⟩ := hvb b hb
          have := hlt a ha
          exact .inl (by simp only [boxC]; omega)
        · rcases List.mem_append.mp hb with z | z
          · have := hlt b z; omega
          · obtain ⟨x, w, rfl, _⟩ := hvb b z
            simp only [boxC]; omega
    · rintro ρ ⟨d, c, n, bs, s2, s7, hst, hr, hcn, hg, hp, hlt, h0, hl, rfl⟩
      cases rangeD_nil hr
      exact ⟨d, bs, s2, s7, hst, hg, hp, h0 (by omega), by omega, rfl⟩
  rintro ρ ⟨d, bs, s2, s7, hst, hg, hp, h0, hl, rfl⟩
  walk_at "r"
  rw [List.length_map]
  refine ⟨by omega, ?_⟩
  walk_at "r"
  rw [Int.toNat_natCast, rangeN]
  refine lc_map [.own d, .val (.list (bs.map encB)), s2, .non, .non, .non, .non, s7] rfl (List.range bs.length) nI nI rfl (by rw [List.length_range]; omega) ?_ ?_
  · intro x hx G0 H0 k hk
    walk_at "r"
    exact hk _ rfl
  walk_at "r"
  rw [List.length_map]
  refine ⟨by omega, ?_⟩
  walk_at "r"
  rw [Int.toNat_natCast, rangeN]
  refine lc_map [.own d, .val (.list (bs.map encB)), s2, .val (.list ((List.range bs.length).map nI)), .non, .non, .non, s7] rfl (List.range bs.length) nI (fun k => encB (bx bs (bs.length - 1 - k))) rfl (by rw [List.length_range]; omega) ?_ ?_
  · intro x hx G0 H0 k hk
    have hx := List.mem_range.mp hx
    walk_at "r"
    rw [List.length_map, show ((bs.length : Nat) : Int) - 1 - (x : Int) = ((bs.length - 1 - x : Nat) : Int) by omega, bx_at (by omega)]
    walk_at "r"
    exact hk _ rfl
  have hrev : ((List.range bs.length).map fun k => encB (bx bs (bs.length - 1 - k))) = bs.reverse.map encB := by
    apply List.ext_getElem
    · simp
    · intro i h1 h2
      simp at h1 h2
      rw [List.getElem_map, List.getElem_map, List.getElem_range, List.getElem_reverse, bx_get (by omega)]
  rw [hrev]
  walk_at "r"
  have hpos : ∀ b ∈ bs, b.1 < b.2.2.1 := fun b hb => by
    obtain ⟨c, r, w, rfl, _⟩ := hg b hb
    simp only [boxC]; omega
  refine ⟨bs, rfl, by omega, hpos, fun L hL => ?_⟩
  rw [ro_grid hg hp hL]
  walk_at "r"
  refine ⟨dep_N 18 _, dep_N 18 _, ?_⟩
  walk_at "r"
  refine brn.ff (ne_same (d := encN (List.range bs.length)) (e := encN (List.range bs.length)) rfl (dep_N 18 _)) ?_
  walk_at "r"
  refine ⟨bs.reverse, rfl, by simp; omega, fun b hb => hpos b (List.mem_reverse.mp hb), fun L hL => ?_⟩
  rw [ro_turned hg hp hL]
  walk_at "r"
  have e5 : PyData.tuple ((List.range bs.length).map nI).reverse = encN (List.range bs.length).reverse := by unfold encN; rw [List.map_reverse]
  rw [e5]
  refine ⟨dep_N 18 _, dep_N 18 _, ?_⟩
  walk_at "r"
  refine brn.ff (ne_same (d := encN (List.range bs.length).reverse) (e := encN (List.range bs.length).reverse) rfl (dep_N 18 _)) ?_
  walk_at "r"
  refine ⟨bs, rfl, by omega, fun r hr => ?_⟩
  obtain rfl := fm_grid hg hp hr
  walk_at "r"
  have hb0 : L2.atI (bs.map encB) 0 = some (encB bs[0]) := by
    rw [at_z0, List.getElem?_map, List.getElem?_eq_getElem h0]; rfl
  rw [hb0]
  walk_at "r"
  rw [hb0]
  walk_at "r"
  rw [hb0]
  walk_at "r"
  rw [hb0]
  walk_at "r"
  refine ⟨by simp; omega, ?_⟩
  have hmeet : meet bs[0] (bs[0].1 + 1, bs[0].2.1 + 1, bs[0].1 + 2, bs[0].2.1 + 2) = true := by
    obtain ⟨c, r, w, e, hw⟩ := hg bs[0] (List.getElem_mem _)
    rw [e]
    unfold meet boxC
    simp only
    rw [decide_eq_true (by omega), decide_eq_true (by omega), decide_eq_true (by omega), decide_eq_true (by omega)]; rfl
  generalize hb' : ((bs[0].1 + 1, bs[0].2.1 + 1, bs[0].1 + 2, bs[0].2.1 + 2) : Box) = b' at hmeet
  have eO : bs.map encB ++ [PyData.tuple [PyData.int ((bs[0].1 : Int) + 1), PyData.int ((bs[0].2.1 : Int) + 1), PyData.int ((bs[0].1 : Int) + 2), PyData.int ((bs[0].2.1 : Int) + 2)]] = (bs ++ [b']).map encB := by
    rw [List.map_append, ← hb']; rfl
  rw [eO]
  walk_at "r"
  refine ⟨bs ++ [b'], rfl, by simp; omega, fun r hr => ?_⟩
  obtain rfl := fm_other hg hp h0 hmeet hr
  walk_at "r"
  refine brn.tt (eq_same (d := encP (0, bs.length)) (e := .tuple [.int 0, .int (((bs.map encB).length : Nat) : Int)]) (by rw [List.length_map]; rfl) rfl) ?_
  walk_at "r"
  have hO0 : L2.atI ((bs ++ [b']).map encB) 0 = some (encB bs[0]) := by
    rw [at_z0, List.getElem?_map, List.getElem?_append_left h0, List.getElem?_eq_getElem h0]; rfl
  have hO1 : L2.atI ((bs ++ [b']).map encB) (-1) = some (encB b') := by
    rw [at_m1 _ (by simp), List.getElem?_map]; simp
  rw [hO0]
  walk_at "r"
  rw [hO1]
  walk_at "r"
  refine ⟨bs[0], b', rfl, ?_⟩
  rw [hmeet]
  walk_at "r"
  refine ⟨true, true, rfl, ?_⟩
  walk_at "r"
  refine ⟨(0, 0, 5, 5), (5, 0, 9, 5), rfl, ?_⟩
  walk_at "r"
  refine ⟨false, false, rfl, ?_⟩
  walk_at "r"
  exact hq _ hst
end
end K16
namespace K16
open PySem PySem.Spec PyProof.Rows L2 Dn
local macro_rules | `(tactic| walk_at "r") => `(tactic| ((conv => whnf); (repeat ((first | refine And.intro rfl ?_ | refine And.intro cm_l ?_ | refine And.intro cm_r ?_ | refine And.intro (by decide) ?_ | refine And.intro (cdv_lt (a := 64) (by decide) (by decide)) ?_ | refine And.intro (by omega) ?_ | refine And.intro (cm_r (by omega)) ?_ | refine And.intro (cdv_lt (a := 60) (by omega) (by omega)) ?_); (conv => whnf)))))


abbrev Fig := (Nat × Nat) × Nat
def pgs (Z : List Fig) (p : Nat) : Nat := ((Z.filter fun z => decide (z.2 = p)).map fun z => z.1.2).sum
theorem fl_len {n H p h : Nat} {ws : List (Nat × Nat)} {told : List Nat} (F : FL n H p h ws told) : told.length = ws.length := by
  induction F with
  | nil => rfl
  | page p h cnt ws told hc hs hr hm _ ih => rw [List.length_append, List.length_replicate, ih, List.length_drop]; omega
theorem fl_ge {n H p h : Nat} {ws : List (Nat × Nat)} {told : List Nat} (F : FL n H p h ws told) : ∀ t ∈ told, p ≤ t := by
  induction F with
  | nil => intro t ht; cases ht
  | page p h cnt ws told hc hs hr hm _ ih =>
    intro t ht
    rcases List.mem_append.mp ht with z | z
    · have := (List.mem_replicate.mp z).2; omega
    · have := ih t z; omega
theorem fl_sorted {n H p h : Nat} {ws : List (Nat × Nat)} {told : List Nat} (F : FL n H p h ws told) : told.Pairwise (· ≤ ·) := by
  induction F with
  | nil => exact .nil
  | page p h cnt ws told hc hs hr hm F ih =>
    refine List.pairwise_append.mpr ⟨List.pairwise_replicate.mpr (.inr (Nat.le_refl _)), ih, fun a ha b hb => ?_⟩
    have := (List.mem_replicate.mp ha).2
    have := fl_ge F b hb
    omega
theorem fl_bd {n H p h : Nat} {ws : List (Nat × Nat)} {told : List Nat} (F : FL n H p h ws told) : ∀ t ∈ told, t ≤ p + (n - h) + ws.length := by
  induction F with
  | nil => intro t ht; cases ht
  | page p h cnt ws told hc hs hr hm F ih =>
    intro t ht
    rcases List.mem_append.mp ht with z | z
    · have := (List.mem_replicate.mp z).2; omega
    · have := ih t z; omega
theorem filter_none {α : Type} {p : α → Bool} {l : List α} (h : ∀ x ∈ l, p x = false) : l.filter p = [] := by
  rw [List.filter_eq_nil_iff]
  intro x hx
  rw [h x hx]; decide
theorem fl_step {n H p h : Nat} {ws : List (Nat × Nat)} {told : List Nat} (F : FL n H p h ws told) (Z0 : List Fig) (h0 : ∀ z ∈ Z0, z.2 < p) :
    ∃ (Z1 : List Fig) (ws' : List (Nat × Nat)) (told' : List Nat), Z0 ++ ws.zip told = Z1 ++ ws'.zip told' ∧ (∀ z ∈ Z1, z.2 < p + 1) ∧ pgs (Z0 ++ ws.zip told) p ≤ H ∧ (∀ z ∈ Z0 ++ ws.zip told, z.2 = p → z.1.1 < h ∨ n ≤ h) ∧ FL n H (p + 1) (min n (h + (H - pgs (Z0 ++ ws.zip told) p))) ws' told' := by
  have hZ0 : Z0.filter (fun z => decide (z.2 = p)) = [] := filter_none fun z hz => by have := h0 z hz; exact decide_eq_false (by omega)
  cases F with
  | nil =>
    refine ⟨Z0, [], [], rfl, fun z hz => by have := h0 z hz; omega, ?_, fun z hz e => ?_, .nil _ _⟩
    · unfold pgs; simp [hZ0]
    · simp at hz; have := h0 z hz; omega
  | page _ _ cnt _ told' hc hs hr hm F' =>
    have hzip : ws.zip (List.replicate cnt p ++ told') = (ws.take cnt).map (fun f => (f, p)) ++ (ws.drop cnt).zip told' := by
      conv => lhs; rw [← List.take_append_drop cnt ws]
      have hl : (ws.take cnt).length = (List.replicate cnt p).length := by rw [List.length_take, List.length_replicate]; omega
      rw [List.zip_append hl]
      congr 1
      apply List.ext_getElem
      · simp
      · intro i h1 h2
        simp
    have hge := fl_ge F'
    have hlast : ((ws.drop cnt).zip told').filter (fun z => decide (z.2 = p)) = [] := filter_none fun z hz => by
      have := hge z.2 (List.of_mem_zip hz).2
      exact decide_eq_false (by omega)
    have hmid : ((ws.take cnt).map fun f => ((f, p) : Fig)).filter (fun z => decide (z.2 = p)) = (ws.take cnt).map fun f => (f, p) := by
      rw [List.filter_eq_self]
      intro z hz
      obtain ⟨f, _, rfl⟩ := List.mem_map.mp hz
      exact decide_eq_true rfl
    have hp : pgs (Z0 ++ ws.zip (List.replicate cnt p ++ told')) p = szs (ws.take cnt) := by
      unfold pgs
      rw [hzip, List.filter_append, List.filter_append, hZ0, hmid, hlast, List.nil_append, List.append_nil, List.map_map]
      rfl
    refine ⟨Z0 ++ (ws.take cnt).map (fun f => (f, p)), ws.drop cnt, told', by rw [hzip, List.append_assoc], fun z hz => ?_, by rw [hp]; exact hs, fun z hz e => ?_, by rw [hp]; exact F'⟩
    · rcases List.mem_append.mp hz with q | q
      · have := h0 z q; omega
      · obtain ⟨f, _, rfl⟩ := List.mem_map.mp q
        simp
    · rw [hzip] at hz
      rcases List.mem_append.mp hz with q | q
      · have := h0 z q; omega
      · rcases List.mem_append.mp q with q | q
        · obtain ⟨f, hf, rfl⟩ := List.mem_map.mp q
          exact hr f hf
        · have := hge z.2 (List.of_mem_zip q).2
          omega
def c__law_figures : DCM := fun d ds Q => ds = [] ∧ isSt d ∧ ∀ d', isSt d' → Q (.bool true) d'
theorem len__law_figures : ∀ d ds kq, c__law_figures d ds kq → ds.length = 0 := by rintro _ _ _ ⟨rfl, _⟩; rfl
section
variable {P : Program} {w : World} {K : PySem.W.Frag} {mg : Str → Option Value} {base : Heap} {T : List Addr}
abbrev s__law_figures : Stmt := topS 37
theorem sc__law_figures : FnScope ["state", "lines", "height", "figures", "told", "pages", "here", "page", "high", "row", "k"] ["state"] (defScope s__law_figures) := ⟨rfl, rfl, rfl, by decide +kernel, rfl, by decide +kernel, by decide +kernel⟩
theorem ok__law_figures {f : Addr} {fd : FuncData} (F : Fun K "_law_figures" "_law_figures" s__law_figures f fd) (hm : mg "_law_figures" = some (.ref f)) (hb : Binds K fd ["state"] []) (bl : ∀ x : Str, bnames.contains x = true → mg x = none) {C_NoSuch : Addr} (p__law_draw : PfM P w K mg base T 1 "_law_draw" 2 c__law_draw) (p_floats_of : Pf P w K mg base T 2 "floats_of" 3 (c_floats_of C_NoSuch)) : PfM P w K mg base T 3 "_law_figures" 1 c__law_figures := by
  refine pf_ofM (k := 2) F sc__law_figures rfl hm hb bl (len__law_figures) fun A outer s H G a E d ds kq hc c tk => ?_
  refine ⟨_, (dss_cons (ds_set (i := 1) c rfl (Or.inr rfl) (de_callM (i := 0) p__law_draw c (da_cons de_int da_nil)))
      (dss_cons (ds_set (i := 2) c rfl (Or.inr rfl) (de_bin od_add de_int.toB (de_callM (i := 0) p__law_draw c (da_cons de_int da_nil)).toB))
      (dss_cons (ds_set (i := 3) c rfl (Or.inr rfl) (de_callT cd_tuple (nb c) boot_tuple (dbs_cons (df_lc (own := [("row", 9)]) c (di_seq (de_callB (cd_sortB c) (nb c) boot_sorted (dbs_cons (df_lc (own := [("k", 10)]) c (di_range1 (nb c) (dbs_cons (de_callM (i := 0) p__law_draw c (da_cons de_int da_nil)).toB dbs_nil)) rfl (fun _ _ _ _ _ _ _ c => (dg_name (i := 10) c rfl (by first | exact Or.inl rfl | exact Or.inr rfl))) (fun _ _ _ _ _ _ _ c => dts_nil) (fun _ _ _ _ _ _ _ c => (de_callM (i := 0) p__law_draw c (da_cons (de_bin od_add (db_var 1) de_int.toB) da_nil)))).toE.toB dbs_nil))) rfl (fun _ _ _ _ _ _ _ c => (dg_name (i := 9) c rfl (by first | exact Or.inl rfl | exact Or.inr rfl))) (fun _ _ _ _ _ _ _ c => dts_nil) (fun _ _ _ _ _ _ _ c => (de_tup (da_cons (de_var 9) (da_cons (de_bin od_add de_int.toB (de_callM (i := 0) p__law_draw c (da_cons (de_var 2) da_nil)).toB) da_nil))))).toE.toB dbs_nil)))
      (dss_cons (ds_set (i := 4) c rfl (Or.inr rfl) (de_call p_floats_of c (da_cons (de_var 1) (da_cons (de_var 3) (da_cons (de_var 2) da_nil)))))
      (dss_cons (ds_if (dw_or (dt_cmp (od_ne c) (de_callB cd_lenA (nb c) PySem.boot_len (dbs_cons (db_var 4) dbs_nil)).toB (de_callB cd_lenA (nb c) PySem.boot_len (dbs_cons (db_var 3) dbs_nil)).toB) (dw_or1 (dt_cmp (od_ne c) (df_list c (db_var 4)).toE.toB (de_callB (cd_sortB c) (nb c) boot_sorted (dbs_cons (db_var 4) dbs_nil)).toB))).t (dss_one (ds_ret de_bl)) dss_nil)
      (dss_cons (ds_set (i := 5) c rfl (Or.inl rfl) (de_bin od_add (de_callB (cd_maxB c) (nb c) boot_max (dbs_cons (de_bin od_add (df_list c (db_var 4)).toE.toB (df_lst (da_cons de_int da_nil)).toE.toB).toB dbs_nil)).toB de_int.toB))
      (dss_cons (ds_set (i := 6) c rfl (Or.inr rfl) de_int)
      (dss_cons (ds_for c (di_range1 (nb c) (dbs_cons (db_var 5) dbs_nil)) (dg_name (i := 7) c rfl (by first | exact Or.inl rfl | exact Or.inr rfl)) (dss_cons (ds_set (i := 8) c rfl (Or.inl rfl) (de_callB (cd_sumA c) (nb c) boot_sum (dbs_cons (df_lc (own := [("k", 10)]) c (di_range1 (nb c) (dbs_cons (de_callB cd_lenA (nb c) PySem.boot_len (dbs_cons (db_var 3) dbs_nil)).toB dbs_nil)) rfl (fun _ _ _ _ _ _ _ c => (dg_name (i := 10) c rfl (by first | exact Or.inl rfl | exact Or.inr rfl))) (fun _ _ _ _ _ _ _ c => (dts_one (dt_cmp (od_eq c) (de_ixA c (db_var 4) (db_var 10)).toB (db_var 7)))) (fun _ _ _ _ _ _ _ c => (de_ixA c (de_ixA c (db_var 3) (db_var 10)).toB de_int.toB))).toE.toB dbs_nil)))
        (dss_cons (ds_if (dw_or (dt_cmp (od_gtG c) (db_var 8) (db_var 2)) (dw_or1 (dt_tru (de_callB (cd_any c) (nb c) boot_any (dbs_cons (df_lc (own := [("k", 10)]) c (di_range1 (nb c) (dbs_cons (de_callB cd_lenA (nb c) PySem.boot_len (dbs_cons (db_var 3) dbs_nil)).toB dbs_nil)) rfl (fun _ _ _ _ _ _ _ c => (dg_name (i := 10) c rfl (by first | exact Or.inl rfl | exact Or.inr rfl))) (fun _ _ _ _ _ _ _ c => dts_nil) (fun _ _ _ _ _ _ _ c => (de_and (de_cmp (od_eq c) (de_ixA c (db_var 4) (db_var 10)).toB (db_var 7)) (de_and (de_cmp (od_geG c) (de_ixA c (de_ixA c (db_var 3) (db_var 10)).toB de_int.toB).toB (db_var 6)) (de_one (de_cmp (od_ltG c) (db_var 6) (db_var 1))))))).toE.toB dbs_nil)).toB))).t (dss_one (ds_ret de_bl)) dss_nil)
        (dss_one (ds_set (i := 6) c rfl (Or.inr rfl) (de_callB (cd_minB c) (nb c) boot_min (dbs_cons (db_var 1) (dbs_cons (de_bin od_sub (de_bin od_add (db_var 6) (db_var 2)).toB (db_var 8)).toB dbs_nil))))))))
      (dss_one (ds_ret de_bl)))))))))), ?_⟩
  obtain ⟨rfl, hst, hq⟩ := hc
  walk_at "r"
  refine drawN (by decide) (by decide) hst fun n d hn hst => ?_
  walk_at "r"
  refine drawN (by decide) (by decide) hst fun H0 d hH hst => ?_
  walk_at "r"
  refine drawN (by decide) (by decide) hst fun m d hm hst => ?_
  have hn : n < 25 := by omega
  have hH : H0 < 8 := by omega
  have hm : m < 4 := by omega
  walk_at "r"
  rw [show ((m : Int)).toNat = m by omega, rangeN]
  refine lc_st (fun d => .own d :: .val (nI n) :: .val (.int (3 + (H0 : Int))) :: .non :: .non :: .non :: .non :: .non :: .non :: .non :: .non :: []) (List.range m) nI nI (fun _ v => v ≤ n) hst rfl rfl (by rw [List.length_range]; omega) ?_ ?_
  · intro x hx d hst G0 H0 k hk
    walk_at "r"
    refine drawN (by omega) (by omega) hst fun r d' hr hst => ?_
    exact hk r d' _ (by omega) hst rfl
  intro vs d hv hst
  have hvl := hv.length
  rw [List.length_range] at hvl
  have hvb : ∀ v ∈ vs, v ≤ n := fun v hm => by obtain ⟨_, _, h⟩ := hv.mem v hm; exact h
  walk_at "r"
  refine .inl (sortA_N fun ys hperm hsort => ?_)
  have hyl := hperm.length_eq
  walk_at "r"
  refine lc_st (fun d => .own d :: .val (nI n) :: .val (.int (3 + (H0 : Int))) :: .non :: .non :: .non :: .non :: .non :: .non :: .non :: .non :: []) ys nI encP (fun row f => f.1 = row ∧ 1 ≤ f.2 ∧ f.2 ≤ 3 + H0) hst rfl rfl (by omega) ?_ ?_
  · intro x hx d hst G0 H0' k hk
    walk_at "r"
    refine drawN (by omega) (by omega) hst fun r d' hr hst => ?_
    walk_at "r"
    exact hk (x, 1 + r) d' _ ⟨rfl, by simp, by simp only; omega⟩ hst rfl
  intro ws d hw hst
  have hwl := hw.length
  have hwb : ∀ f ∈ ws, f.2 ≤ 3 + H0 ∧ 1 ≤ f.2 := fun v hm => by obtain ⟨_, _, _, h1, h2⟩ := hw.mem v hm; exact ⟨h2, h1⟩
  walk_at "r"
  refine ⟨n, 3 + H0, ws, by rw [show ((3 : Int) + (H0 : Int)) = ((3 + H0 : Nat) : Int) by omega]; rfl, by omega, by omega, by omega, by omega, hwb, fun told F => ?_⟩
  have htl := fl_len F
  walk_at "r"
  rw [List.length_map, List.length_map]
  refine brn.of (fun g => absurd g (by rw [htl]; simp [PyData.eqv])) fun _ => ?_
  walk_at "r"
  refine sortG_N2 fun zs hz1 hz2 => ?_
  cases sortN_one hz1 hz2 (fl_sorted F)
  walk_at "r"
  have hdl : dep 20 (PyData.list (told.map nI)) = true := dep_lst (n := 19) fun x hx => by obtain ⟨y, _, rfl⟩ := List.mem_map.mp hx; rfl
  refine ⟨hdl, hdl, ?_⟩
  refine brn.ff (ne_same rfl hdl) ?_
  walk_at "r"
  refine ⟨by rw [List.length_map, htl]; show ws.length + 1 ≤ _; omega, ?_⟩
  walk_at "r"
  refine .inl ?_
  rw [show told.map nI ++ [PyData.int 0] = (told ++ [0]).map nI by rw [List.map_append]; rfl]
  show optD (intsOf ((told ++ [0]).map nI)) _
  rw [intsOf_N]
  refine ⟨by simp, fun mx hmx hmy => ?_⟩
  obtain ⟨M, hM, rfl⟩ := List.mem_map.mp hmx
  have hMx : ∀ t ∈ told, t ≤ M := fun t ht => by have := hmy _ (List.mem_map.mpr ⟨t, List.mem_append_left _ ht, rfl⟩); omega
  walk_at "r"
  have hMb : M ≤ 100 := by
    rcases List.mem_append.mp hM with z | z
    · have := fl_bd F M z; omega
    · have := List.mem_singleton.mp z; omega
  refine ⟨by omega, ?_⟩
  rw [show (((M : Nat) : Int) + 1).toNat = M + 1 by omega]
  refine ⟨fun r ρ => ∃ (p c h : Nat) (s7 s8 : Sl) (Z0 : List Fig) (ws' : List (Nat × Nat)) (told' : List Nat), r = rangeD (p : Nat) 1 c ∧ p + c = M + 1 ∧ ws.zip told = Z0 ++ ws'.zip told' ∧ (∀ z ∈ Z0, z.2 < p) ∧ h ≤ n ∧ FL n (3 + H0) p h ws' told' ∧ ρ = [.own d, .val (nI n), .val (.int (3 + (H0 : Int))), .val (encS ws), .val (encN told), .val (.int ((M : Int) + 1)), .val (nI h), s7, s8, .non, .non], ⟨0, M + 1, 0, .non, .non, [], ws, told, rfl, by omega, rfl, fun z hz => (nomatch hz), by omega, F, rfl⟩, ?_, ?_⟩
  · rintro x r ρ ⟨p, c, h, s7, s8, Z0, ws', told', hr, hpc, hz, hz0, hh, F', rfl⟩
    obtain ⟨c, rfl, rfl, rfl⟩ := rangeD_cons hr
    obtain ⟨Z1, ws1, told1, k1, k2, k3, k4, k5⟩ := fl_step F' Z0 hz0
    rw [← hz] at k1 k3 k4 k5
    have hZl : (ws.zip told).length = ws.length := by rw [List.length_zip]; omega
    walk_at "r"
    rw [List.length_map]
    refine ⟨by omega, ?_⟩
    walk_at "r"
    rw [Int.toNat_natCast, rangeN]
    have hget : ∀ k (h1 : k < ws.length) (h2 : k < told.length), (ws.zip told)[k]? = some (ws[k], told[k]) := fun k h1 h2 => by
      rw [List.getElem?_eq_getElem (by omega), List.getElem_zip]
    refine lc_fm [.own d, .val (nI n), .val (.int (3 + (H0 : Int))), .val (encS ws), .val (encN told), .val (.int ((M : Int) + 1)), .val (nI h), .val (nI p), s8, .non, .non] rfl (List.range ws.length) nI (fun k => ((ws.zip told)[k]?).bind fun z => if z.2 = p then some (nI z.1.2) else none) rfl (by rw [List.length_range]; omega) ?_ ?_
    · intro k hk G0 H0 kk k0 hkk hk0
      have h1 := List.mem_range.mp hk
      have h2 : k < told.length := by omega
      have e0 := hget k h1 h2
      walk_at "r"
      rw [at_mapN told k h2]
      walk_at "r"
      rw [eqvN]
      refine brn.of (fun g => ?_) fun g => ?_
      · walk_at "r"
        rw [at_map encP ws k h1]
        walk_at "r"
        exact hkk _ _ (by rw [e0]; exact if_pos (of_decide_eq_true g)) rfl
      · exact hk0 _ (by rw [e0]; exact if_neg (of_decide_eq_false g)) rfl
    rw [show List.range ws.length = List.range (ws.zip told).length by rw [hZl], range_fm, fm_filter]
    walk_at "r"
    rw [show ((ws.zip told).filter fun x => decide (x.2 = p)).map (fun z => nI z.1.2) = (((ws.zip told).filter fun x => decide (x.2 = p)).map fun z => z.1.2).map nI by rw [List.map_map]; rfl, intsOf_N]
    walk_at "r"
    rw [sum_cast]
    change pgs (ws.zip told) p ≤ 3 + H0 at k3
    generalize hG : (((ws.zip told).filter fun x => decide (x.2 = p)).map fun z => z.1.2).sum = G
    have hG' : pgs (ws.zip told) p = G := hG
    rw [hG'] at k3 k5
    rw [decide_eq_false (by omega)]
    walk_at "r"
    rw [List.length_map]
    refine ⟨by omega, ?_⟩
    walk_at "r"
    rw [Int.toNat_natCast, rangeN]
    refine lc_map [.own d, .val (nI n), .val (.int (3 + (H0 : Int))), .val (encS ws), .val (encN told), .val (.int ((M : Int) + 1)), .val (nI h), .val (nI p), .val (nI G), .non, .non] rfl (List.range ws.length) nI (fun _ => .bool false) rfl (by rw [List.length_range]; omega) ?_ ?_
    · intro k hk G0 H0 kk hkk
      have h1 := List.mem_range.mp hk
      have h2 : k < told.length := by omega
      have e0 := hget k h1 h2
      walk_at "r"
      rw [at_mapN told k h2]
      walk_at "r"
      rw [eqvN]
      by_cases hp : told[k] = p
      · have hz := k4 (ws[k], told[k]) (List.mem_of_getElem? e0) hp
        rw [decide_eq_true hp]
        walk_at "r"
        rw [at_map encP ws k h1]
        walk_at "r"
        by_cases hr : ws[k].1 ≥ h
        · have hnh : n ≤ h := by simp only at hz; omega
          rw [decide_eq_true (show ((ws[k].1 : Nat) : Int) ≥ ((h : Nat) : Int) by omega)]
          walk_at "r"
          rw [decide_eq_false (show ¬ ((h : Nat) : Int) < ((n : Nat) : Int) by omega)]
          exact hkk _ rfl
        · rw [decide_eq_false (show ¬ ((ws[k].1 : Nat) : Int) ≥ ((h : Nat) : Int) by omega)]
          exact hkk _ rfl
      · rw [decide_eq_false hp]
        exact hkk _ rfl
    · walk_at "r"
      rw [boolsOf_map]
      walk_at "r"
      refine brn.ff (by simp) ?_
      walk_at "r"
      have eh : (if ((h : Nat) : Int) + (3 + ((H0 : Nat) : Int)) - ((G : Nat) : Int) < ((n : Nat) : Int) then ((h : Nat) : Int) + (3 + ((H0 : Nat) : Int)) - ((G : Nat) : Int) else ((n : Nat) : Int)) = ((min n (h + (3 + H0 - G)) : Nat) : Int) := by split <;> omega
      rw [eh]
      exact ⟨p + 1, c, min n (h + (3 + H0 - G)), _, _, Z1, ws1, told1, by rw [show ((p : Nat) : Int) + 1 = ((p + 1 : Nat) : Int) by omega], by omega, k1, k2, by omega, k5, rfl⟩
  · rintro ρ ⟨p, c, h, s7, s8, Z0, ws', told', hr, hpc, hz, hz0, hh, F', rfl⟩
    walk_at "r"
    exact hq d hst
end
end K16
namespace K16
open PySem PySem.Spec PyProof.Rows L2 Dn
local macro_rules | `(tactic| walk_at "r") => `(tactic| ((conv => whnf); (repeat ((first | refine And.intro rfl ?_ | refine And.intro cm_l ?_ | refine And.intro cm_r ?_ | refine And.intro (by decide) ?_ | refine And.intro (cdv_lt (a := 64) (by decide) (by decide)) ?_ | refine And.intro (by omega) ?_ | refine And.intro (cm_r (by omega)) ?_ | refine And.intro (cdv_lt (a := 60) (by omega) (by omega)) ?_); (conv => whnf)))))


theorem dv_add (a b m : Int) : Rat.divInt (a + b) m = Rat.divInt a m + Rat.divInt b m := by
  rw [Rat.divInt_eq_div, Rat.divInt_eq_div, Rat.divInt_eq_div, Rat.intCast_add, Rat.div_def, Rat.div_def, Rat.div_def, Rat.add_mul]
theorem dv_mul {a m : Int} (h : m ≠ 0) : Rat.divInt (a * m) m = (a : Rat) := by
  have := Rat.divInt_mul_right (n := a) (d := 1) h
  rw [Int.one_mul] at this
  rw [this, Rat.divInt_eq_div, show ((1 : Int) : Rat) = 1 from rfl, Rat.div_def, show (1 : Rat)⁻¹ = 1 by decide +kernel, Rat.mul_one]
def stN (M room : Int) (g : Nat × Nat) : Int := g.1 * M + g.2 * room
theorem st_sum (M room : Int) : ∀ (gl : List (Nat × Nat)) (a : Int), (gl.map fun g => Rat.divInt (stN M room g) M).foldl (· + ·) (Rat.divInt a M) = Rat.divInt (a + (((gl.map (·.1)).sum : Nat) : Int) * M + ((szs gl : Nat) : Int) * room) M
  | [], a => by simp [szs]
  | g :: gl, a => by
    rw [List.map_cons, List.foldl_cons, ← dv_add, st_sum M room gl]
    congr 1
    have : szs (g :: gl) = g.2 + szs gl := by unfold szs; simp
    rw [this, List.map_cons, List.sum_cons, stN]
    grind
theorem st_all {M room : Int} {gl : List (Nat × Nat)} (hM : M ≠ 0) (h : ((szs gl : Nat) : Int) * room = M * room) : (gl.map fun g => Rat.divInt (stN M room g) M).foldl (· + ·) 0 = (((((gl.map (·.1)).sum : Nat) : Int) + room : Int) : Rat) := by
  have := st_sum M room gl 0
  rw [Rat.zero_divInt] at this
  rw [this, Int.zero_add, h, Int.mul_comm M room, ← Int.add_mul, dv_mul hM]
theorem st_less {M room : Int} {g : Nat × Nat} (hM : M ≠ 0) : Rat.divInt (stN M room g) M - (((g.1 : Nat) : Int) : Rat) = Rat.divInt (g.2 * room) M := by
  rw [stN, dv_add, dv_mul hM]
  grind
theorem pickD {A B C : Prop} {Q : D → Prop} {x y : D} (h : ∀ v, (v = x ∧ A) ∨ (v = y ∧ B ∧ C) → Q v) : (A → Q x) ∧ (B → C → Q y) := ⟨fun a => h x (.inl ⟨rfl, a⟩), fun b c => h y (.inr ⟨rfl, b, c⟩)⟩
theorem grid_len (z : Nat) : ∀ (h : Nat) (xs : List Nat), (grid z h xs).length = xs.length
  | _, [] => rfl
  | h, x :: xs => by show (grid z _ xs).length + 1 = _; rw [grid_len z _ xs]; rfl
theorem ceil_dvd (z h : Nat) : z ∣ ceiL z h := Nat.dvd_mul_left ..
theorem ceil_bd {z h : Nat} (hz : 1 ≤ z) : h ≤ ceiL z h ∧ ceiL z h < h + z := by
  unfold ceiL
  have h1 := Nat.div_add_mod (h + z - 1) z
  have h2 := Nat.mod_lt (h + z - 1) (show z > 0 by omega)
  rw [Nat.mul_comm] at h1
  omega
theorem grid_get (z : Nat) : ∀ (h : Nat) (xs : List Nat) (k : Nat) (hk : k < xs.length), z ∣ h → ∃ a, z ∣ a ∧ (grid z h xs)[k]? = some a ∧ (k + 1 < xs.length → (grid z h xs)[k + 1]? = some (ceiL z (a + xs[k])))
  | h, x :: xs, 0, _, hd => ⟨h, hd, rfl, fun h2 => by
      cases xs with
      | nil => simp at h2
      | cons y ys => rfl⟩
  | h, x :: xs, k + 1, hk, hd => by
    obtain ⟨a, h1, h2, h3⟩ := grid_get z (ceiL z (h + x)) xs k (by simpa using hk) (ceil_dvd z _)
    exact ⟨a, h1, h2, fun q => h3 (by simpa using q)⟩
theorem wst_eq (z : Nat) : ∀ (h : Nat) (xs : List Nat), 0 < xs.length → ∃ l, (grid z h xs)[xs.length - 1]? = some l ∧ wst (grid z h xs) xs = (l : Int) - h - (xs.dropLast.sum : Nat)
  | h, [x], _ => ⟨h, rfl, by simp [grid, wst]⟩
  | h, x :: y :: r, _ => by
    obtain ⟨l, h1, h2⟩ := wst_eq z (ceiL z (h + x)) (y :: r) (by simp)
    refine ⟨l, h1, ?_⟩
    have e : wst (grid z h (x :: y :: r)) (x :: y :: r) = ((ceiL z (h + x) : Nat) : Int) - h - x + wst (grid z (ceiL z (h + x)) (y :: r)) (y :: r) := rfl
    rw [e, h2, List.dropLast_cons₂, List.sum_cons]
    omega
theorem sbs_len : ∀ (h : Nat) (l : List (Nat × Nat)), (sbs h l).length = l.length
  | _, [] => rfl
  | h, p :: r => by show (sbs _ r).length + 1 = _; rw [sbs_len _ r]; rfl
def mxs (l : List (Nat × Nat)) (j : Nat) : Nat := max (l.getD j (0, 0)).1 (l.getD j (0, 0)).2
theorem sbs_get : ∀ (h : Nat) (l : List (Nat × Nat)) (k : Nat), k < l.length → (sbs h l)[k]? = some (h + ((List.range k).map (mxs l)).sum)
  | h, p :: r, 0, _ => rfl
  | h, p :: r, k + 1, hk => by
    have := sbs_get (h + max p.1 p.2) r k (by simpa using hk)
    show (sbs (h + max p.1 p.2) r)[k]? = _
    rw [this, List.range_succ_eq_map, List.map_cons, List.map_map, List.sum_cons]
    have e : mxs (p :: r) ∘ Nat.succ = mxs r := rfl
    rw [e, show mxs (p :: r) 0 = max p.1 p.2 from rfl]
    congr 1; omega
theorem sbs_eq (l : List (Nat × Nat)) : sbs 0 l = (List.range l.length).map fun k => ((List.range k).map (mxs l)).sum := by
  apply List.ext_getElem?
  intro k
  by_cases hk : k < l.length
  · rw [sbs_get 0 l k hk, Nat.zero_add]
    simp [hk]
  · rw [List.getElem?_eq_none (by rw [sbs_len]; omega), List.getElem?_eq_none (by simp; omega)]
def c__law_spaces : DCM := fun d ds Q => ∃ bs : List Nat, ds = [encN bs] ∧ isSt d ∧ bs.length ≤ 12 ∧ (∀ b ∈ bs, 1 ≤ b ∧ b ≤ 9) ∧ ∀ d', isSt d' → Q (.bool true) d'
theorem len__law_spaces : ∀ d ds kq, c__law_spaces d ds kq → ds.length = 1 := by rintro _ _ _ ⟨bs, rfl, _⟩; rfl
section
variable {P : Program} {w : World} {K : PySem.W.Frag} {mg : Str → Option Value} {base : Heap} {T : List Addr}
abbrev s__law_spaces : Stmt := topS 36
theorem sc__law_spaces : FnScope ["state", "blocks", "glues", "room", "height", "told", "stretch", "lead", "starts", "wasted", "other", "beside", "k", "glue", "block", "start", "j"] ["state", "blocks"] (defScope s__law_spaces) := ⟨rfl, rfl, rfl, by decide +kernel, rfl, by decide +kernel, by decide +kernel⟩
theorem ok__law_spaces {f : Addr} {fd : FuncData} (F : Fun K "_law_spaces" "_law_spaces" s__law_spaces f fd) (hm : mg "_law_spaces" = some (.ref f)) (hb : Binds K fd ["state", "blocks"] []) (bl : ∀ x : Str, bnames.contains x = true → mg x = none) {C_NoSuch : Addr} (p__law_draw : PfM P w K mg base T 1 "_law_draw" 2 c__law_draw) (p__law_stretched : Pf P w K mg base T 4 "_law_stretched" 3 c__law_stretched) (p_plus : Pf P w K mg base T 3 "plus" 2 c_plus) (p_sum_of : Pf P w K mg base T 4 "sum_of" 1 c_sum_of) (p_minus : Pf P w K mg base T 3 "minus" 2 c_minus) (p_fraction : Pf P w K mg base T 2 "fraction" 2 (c_fraction C_NoSuch)) (p_on_grid : Pf P w K mg base T 1 "on_grid" 2 c_on_grid) (p_side_by_side : Pf P w K mg base T 1 "side_by_side" 2 c_side_by_side) (p_wasted_on_grid : Pf P w K mg base T 2 "wasted_on_grid" 2 c_wasted_on_grid) : PfM P w K mg base T 5 "_law_spaces" 2 c__law_spaces := by
  refine pf_ofM (k := 4) F sc__law_spaces rfl hm hb bl (len__law_spaces) fun A outer s H G a E d ds kq hc c tk => ?_
  refine ⟨_, (dss_cons (ds_set (i := 2) c rfl (Or.inr rfl) (de_callT cd_tuple (nb c) boot_tuple (dbs_cons (df_lc (own := [("k", 12)]) c (di_range1 (nb c) (dbs_cons (de_callM (i := 0) p__law_draw c (da_cons de_int da_nil)).toB dbs_nil)) rfl (fun _ _ _ _ _ _ _ c => (dg_name (i := 12) c rfl (by first | exact Or.inl rfl | exact Or.inr rfl))) (fun _ _ _ _ _ _ _ c => dts_nil) (fun _ _ _ _ _ _ _ c => (de_tup (da_cons (de_callM (i := 0) p__law_draw c (da_cons de_int da_nil)) (da_cons (de_callM (i := 0) p__law_draw c (da_cons de_int da_nil)) da_nil))))).toE.toB dbs_nil)))
      (dss_cons (ds_set (i := 3) c rfl (Or.inr rfl) (de_bin od_sub (de_callM (i := 0) p__law_draw c (da_cons de_int da_nil)).toB de_int.toB))
      (dss_cons (ds_set (i := 4) c rfl (Or.inl rfl) (de_bin od_add (de_bin od_add (de_callB (cd_sumA c) (nb c) boot_sum (dbs_cons (db_var 1) dbs_nil)).toB (de_callB (cd_sumA c) (nb c) boot_sum (dbs_cons (df_lc (own := [("glue", 13)]) c (di_seq (de_var 2)) rfl (fun _ _ _ _ _ _ _ c => (dg_name (i := 13) c rfl (by first | exact Or.inl rfl | exact Or.inr rfl))) (fun _ _ _ _ _ _ _ c => dts_nil) (fun _ _ _ _ _ _ _ c => (de_ixA c (db_var 13) de_int.toB))).toE.toB dbs_nil)).toB).toB (db_var 3)))
      (dss_cons (ds_set (i := 5) c rfl (Or.inr rfl) (de_call p__law_stretched c (da_cons (de_var 1) (da_cons (de_var 2) (da_cons (de_var 4) da_nil)))))
      (dss_cons (ds_set (i := 6) c rfl (Or.inr rfl) (de_callB (cd_sumA c) (nb c) boot_sum (dbs_cons (df_lc (own := [("glue", 13)]) c (di_seq (de_var 2)) rfl (fun _ _ _ _ _ _ _ c => (dg_name (i := 13) c rfl (by first | exact Or.inl rfl | exact Or.inr rfl))) (fun _ _ _ _ _ _ _ c => dts_nil) (fun _ _ _ _ _ _ _ c => (de_ixA c (db_var 13) de_int.toB))).toE.toB dbs_nil)))
      (dss_cons (ds_cut (ds_if (dt_cmp (od_ne c) (de_cmp od_is (db_var 5) de_non.toB).toB (de_or (de_cmp (od_ltG c) (db_var 3) de_int.toB) (de_one (de_and (de_cmp (od_gtG c) (db_var 3) de_int.toB) (de_one (de_cmp (od_eq c) (db_var 6) de_int.toB))))).toB) (dss_one (ds_ret de_bl)) dss_nil))
      (dss_cons (ds_cut (ds_if (dt_cmp od_isn (db_var 5) de_non.toB) (dss_cons (ds_if (dw_and (dt_cmp (od_ne c) (de_call p_plus c (da_cons (de_call p_sum_of c (da_cons (de_var 5) da_nil)) (da_cons (de_tup (da_cons (de_callB (cd_sumA c) (nb c) boot_sum (dbs_cons (db_var 1) dbs_nil)) (da_cons de_int da_nil))) da_nil))).toB (de_tup (da_cons (de_var 4) (da_cons de_int da_nil))).toB) (dw_and1 (dw_or (dt_cmp (od_gtG c) (db_var 6) de_int.toB) (dw_or1 (dt_cmp (od_eq c) (db_var 3) de_int.toB))).t)).t (dss_one (ds_ret de_bl)) dss_nil)
        (dss_one (ds_if (dt_tru (de_callB (cd_any c) (nb c) boot_any (dbs_cons (df_lc (own := [("k", 12)]) c (di_range1 (nb c) (dbs_cons (de_callB cd_lenA (nb c) PySem.boot_len (dbs_cons (db_var 2) dbs_nil)).toB dbs_nil)) rfl (fun _ _ _ _ _ _ _ c => (dg_name (i := 12) c rfl (by first | exact Or.inl rfl | exact Or.inr rfl))) (fun _ _ _ _ _ _ _ c => dts_nil) (fun _ _ _ _ _ _ _ c => (de_cmp (od_ne c) (de_call p_minus c (da_cons (de_ixA c (db_var 5) (db_var 12)) (da_cons (de_tup (da_cons (de_ixA c (de_ixA c (db_var 2) (db_var 12)).toB de_int.toB) (da_cons de_int da_nil))) da_nil))).toB (de_call p_fraction c (da_cons (de_bin od_mulA (de_ixA c (de_ixA c (db_var 2) (db_var 12)).toB de_int.toB).toB (db_var 3)) (da_cons (de_callB (cd_maxB c) (nb c) boot_max (dbs_cons de_int.toB (dbs_cons (db_var 6) dbs_nil))) da_nil))).toB))).toE.toB dbs_nil)).toB) (dss_one (ds_ret de_bl)) dss_nil))) dss_nil))
      (dss_cons (ds_set (i := 7) c rfl (Or.inr rfl) (de_bin od_add de_int.toB (de_callM (i := 0) p__law_draw c (da_cons de_int da_nil)).toB))
      (dss_cons (ds_set (i := 8) c rfl (Or.inr rfl) (de_call p_on_grid c (da_cons (de_var 1) (da_cons (de_var 7) da_nil))))
      (dss_cons (ds_if (dw_or (dt_tru (de_callB (cd_any c) (nb c) boot_any (dbs_cons (df_lc (own := [("start", 15)]) c (di_seq (de_var 8)) rfl (fun _ _ _ _ _ _ _ c => (dg_name (i := 15) c rfl (by first | exact Or.inl rfl | exact Or.inr rfl))) (fun _ _ _ _ _ _ _ c => dts_nil) (fun _ _ _ _ _ _ _ c => (de_cmp (od_ne c) (de_bin od_mod (de_callT cd_int (nb c) boot_int (dbs_cons (db_var 15) dbs_nil)).toB (db_var 7)).toB de_int.toB))).toE.toB dbs_nil)).toB) (dw_or1 (dt_tru (de_callB (cd_any c) (nb c) boot_any (dbs_cons (df_lc (own := [("k", 12)]) c (di_range1 (nb c) (dbs_cons (de_bin od_sub (de_callB cd_lenA (nb c) PySem.boot_len (dbs_cons (db_var 8) dbs_nil)).toB de_int.toB).toB dbs_nil)) rfl (fun _ _ _ _ _ _ _ c => (dg_name (i := 12) c rfl (by first | exact Or.inl rfl | exact Or.inr rfl))) (fun _ _ _ _ _ _ _ c => dts_nil) (fun _ _ _ _ _ _ _ c => (de_niRg c (de_bin od_sub (de_bin od_sub (de_ixA c (db_var 8) (de_bin od_add (db_var 12) de_int.toB).toB).toB (de_ixA c (db_var 8) (db_var 12)).toB).toB (de_ixA c (db_var 1) (db_var 12)).toB) (da_cons (de_var 7) da_nil)))).toE.toB dbs_nil)).toB))).t (dss_one (ds_ret de_bl)) dss_nil)
      (dss_cons (ds_cut (ds_set (i := 9) c rfl (Or.inl rfl) (de_if (dt_cmp (od_gtG c) (de_callB cd_lenA (nb c) PySem.boot_len (dbs_cons (db_var 1) dbs_nil)).toB de_int.toB) (de_bin od_sub (de_ixA c (db_var 8) (de_neg de_int.toB).toB).toB (de_callB (cd_sumA c) (nb c) boot_sum (dbs_cons (de_slice (db_var 1) dp_none (dp_some (de_neg de_int.toB).toB)).toB dbs_nil)).toB) de_int)))
      (dss_cons (ds_set (i := 10) c rfl (Or.inr rfl) (de_callT cd_tuple (nb c) boot_tuple (dbs_cons (df_lc (own := [("block", 14)]) c (di_seq (de_var 1)) rfl (fun _ _ _ _ _ _ _ c => (dg_name (i := 14) c rfl (by first | exact Or.inl rfl | exact Or.inr rfl))) (fun _ _ _ _ _ _ _ c => dts_nil) (fun _ _ _ _ _ _ _ c => (de_bin od_add de_int.toB (de_callM (i := 0) p__law_draw c (da_cons de_int da_nil)).toB))).toE.toB dbs_nil)))
      (dss_cons (ds_set (i := 11) c rfl (Or.inl rfl) (de_call p_side_by_side c (da_cons (de_var 1) (da_cons (de_var 10) da_nil))))
      (dss_one (ds_ret (de_and (de_cmp (od_eq c) (de_call p_wasted_on_grid c (da_cons (de_var 1) (da_cons (de_var 7) da_nil))).toB (db_var 9)) (de_one (de_cmp (od_eq c) (db_var 11) (de_callT cd_tuple (nb c) boot_tuple (dbs_cons (df_lc (own := [("k", 12)]) c (di_range1 (nb c) (dbs_cons (de_callB cd_lenA (nb c) PySem.boot_len (dbs_cons (db_var 1) dbs_nil)).toB dbs_nil)) rfl (fun _ _ _ _ _ _ _ c => (dg_name (i := 12) c rfl (by first | exact Or.inl rfl | exact Or.inr rfl))) (fun _ _ _ _ _ _ _ c => dts_nil) (fun _ _ _ _ _ _ _ c => (de_callB (cd_sumA c) (nb c) boot_sum (dbs_cons (df_lc (own := [("j", 16)]) c (di_range1 (nb c) (dbs_cons (db_var 12) dbs_nil)) rfl (fun _ _ _ _ _ _ _ c => (dg_name (i := 16) c rfl (by first | exact Or.inl rfl | exact Or.inr rfl))) (fun _ _ _ _ _ _ _ c => dts_nil) (fun _ _ _ _ _ _ _ c => (de_callB (cd_maxB c) (nb c) boot_max (dbs_cons (de_ixA c (db_var 1) (db_var 16)).toB (dbs_cons (de_ixA c (db_var 10) (db_var 16)).toB dbs_nil))))).toE.toB dbs_nil)))).toE.toB dbs_nil)).toB)))))))))))))))))), ?_⟩
  obtain ⟨bs, rfl, hst, hbl, hbb, hq⟩ := hc
  have hB : Blk bs := ⟨by omega, fun b hb => by have := hbb b hb; omega⟩
  have hbs : bs.sum ≤ 108 := by
    have := sum_bd (b := 9) (xs := bs) fun b hb => (hbb b hb).2
    omega
  walk_at "r"
  refine drawN (by decide) (by decide) hst fun m d hm hst => ?_
  have hm : m < 5 := by omega
  walk_at "r"
  rw [show ((m : Int)).toNat = m by omega, rangeN]
  refine lc_st (fun d => [.own d, .val (encN bs), .non, .non, .non, .non, .non, .non, .non, .non, .non, .non, .non, .non, .non, .non, .non]) (List.range m) nI encP (fun _ g => g.1 < 4 ∧ g.2 < 4) hst rfl rfl (by rw [List.length_range]; omega) ?_ ?_
  · intro x hx d hst G0 H0 k hk
    walk_at "r"
    refine drawN (by decide) (by decide) hst fun r d hr hst => ?_
    walk_at "r"
    refine drawN (by decide) (by decide) hst fun r' d' hr' hst => ?_
    walk_at "r"
    exact hk (r, r') d' _ ⟨by simp only; omega, by simp only; omega⟩ hst rfl
  intro gl d hv hst
  have hgl := hv.length
  rw [List.length_range] at hgl
  have hgb : ∀ g ∈ gl, g.1 < 4 ∧ g.2 < 4 := fun v hm => by obtain ⟨_, _, h⟩ := hv.mem v hm; exact h
  have hs1 : (gl.map (·.1)).sum ≤ 12 := by
    have := sum_bd (b := 3) (xs := gl.map (·.1)) fun x hx => by obtain ⟨g, hm, rfl⟩ := List.mem_map.mp hx; have := hgb g hm; omega
    rw [List.length_map] at this; omega
  have hs2 : szs gl ≤ 12 := by
    have := sum_bd (b := 3) (xs := gl.map (·.2)) fun x hx => by obtain ⟨g, hm, rfl⟩ := List.mem_map.mp hx; have := hgb g hm; omega
    rw [List.length_map] at this; unfold szs; omega
  walk_at "r"
  refine drawN (by decide) (by decide) hst fun r0 d hr0 hst => ?_
  have hr0 : r0 < 20 := by omega
  walk_at "r"
  rw [intsOf_N]
  walk_at "r"
  rw [sum_cast]
  generalize hroom : ((r0 : Nat) : Int) - 3 = room
  refine lc_map [.own d, .val (encN bs), .val (encS gl), .val (.int room), .non, .non, .non, .non, .non, .non, .non, .non, .non, .non, .non, .non, .non] rfl gl encP (fun g => nI g.1) rfl (by omega) ?_ ?_
  · rintro ⟨s, m⟩ hp G0 H0 k hk
    walk_at "r"
    exact hk _ rfl
  walk_at "r"
  rw [show (gl.map fun g => nI g.1) = (gl.map (·.1)).map nI by rw [List.map_map]; rfl, intsOf_N]
  walk_at "r"
  rw [sum_cast]
  generalize hS1 : (gl.map (·.1)).sum = S1 at hs1
  have erm : rooM bs gl ((bs.sum : Nat) + (S1 : Nat) + room) = room := by unfold rooM; rw [hS1]; omega
  refine ⟨bs, gl, _, rfl, hB, by omega, fun g hg => by have := hgb g hg; omega, by omega, by omega, ?_⟩
  rw [erm]
  intro v hv
  walk_at "r"
  refine lc_map [.own d, .val (encN bs), .val (encS gl), .val (.int room), .val (.int ((bs.sum : Nat) + (S1 : Nat) + room)), .val v, .non, .non, .non, .non, .non, .non, .non, .non, .non, .non, .non] rfl gl encP (fun g => nI g.2) rfl (by omega) ?_ ?_
  · rintro ⟨s, m⟩ hp G0 H0 k hk
    walk_at "r"
    exact hk _ rfl
  walk_at "r"
  rw [show (gl.map fun g => nI g.2) = (gl.map (·.2)).map nI by rw [List.map_map]; rfl, intsOf_N]
  walk_at "r"
  rw [sum_cast]
  change (v = PyData.none ∧ _) ∨ (v = _ ∧ 0 ≤ room ∧ _) at hv
  generalize hS2 : szs gl = S2 at hs2 hv
  have hS2' : (gl.map (·.2)).sum = S2 := hS2
  rw [hS2']
  refine ⟨fun ρ => ρ = [.own d, .val (encN bs), .val (encS gl), .val (.int room), .val (.int ((bs.sum : Nat) + (S1 : Nat) + room)), .val v, .val (nI S2), .non, .non, .non, .non, .non, .non, .non, .non, .non, .non], ?_, ?_⟩
  · rcases hv with ⟨rfl, hv⟩ | ⟨rfl, hv1, hv2⟩
    · by_cases h0 : room < 0
      · walk_at "r"
        rw [decide_eq_true h0]
        walk_at "r"
        rfl
      · obtain ⟨h1, h2⟩ : 0 < room ∧ S2 = 0 := by omega
        subst h2
        walk_at "r"
        rw [decide_eq_false h0]
        walk_at "r"
        rw [decide_eq_true (show room > 0 from h1)]
        walk_at "r"
        rfl
    · walk_at "r"
      rw [decide_eq_false (show ¬ room < 0 by omega)]
      walk_at "r"
      by_cases h1 : room > 0
      · rw [decide_eq_true h1]
        walk_at "r"
        rw [eqvI, decide_eq_false (show ¬ ((S2 : Nat) : Int) = 0 by omega)]
        walk_at "r"
        rfl
      · rw [decide_eq_false h1]
        walk_at "r"
        rfl
  rintro ρ rfl
  walk_at "r"
  refine ⟨fun ρ => ρ = [.own d, .val (encN bs), .val (encS gl), .val (.int room), .val (.int ((bs.sum : Nat) + (S1 : Nat) + room)), .val v, .val (nI S2), .non, .non, .non, .non, .non, .non, .non, .non, .non, .non], ?_, ?_⟩
  · rcases hv with ⟨rfl, hv⟩ | ⟨rfl, hv1, hv2⟩
    · walk_at "r"
    · have hM : ((max S2 1 : Nat) : Int) ≠ 0 := by omega
      have hst0 : ∀ g, encSt S2 room g = encQ (Rat.divInt (stN ((max S2 1 : Nat) : Int) room g) ((max S2 1 : Nat) : Int)) := fun g => rfl
      have hrs : ((S2 : Nat) : Int) * room = ((max S2 1 : Nat) : Int) * room := by
        rcases hv2 with z | z
        · rw [z]; simp
        · rw [show max S2 1 = S2 by omega]
      have hall := st_all (gl := gl) (room := room) hM (by rw [hS2]; exact hrs)
      have hbd : ∀ g ∈ gl, Bd 41 (Rat.divInt (stN ((max S2 1 : Nat) : Int) room g) ((max S2 1 : Nat) : Int)) := fun g hg => by
        have hb := hgb g hg
        have e1 := nat_mul_lt (a := 5) (b := 5) (i := (g.1 : Int)) (j := ((max S2 1 : Nat) : Int)) (by omega) (by omega)
        have e2 := nat_mul_lt (a := 5) (b := 5) (i := (g.2 : Int)) (j := room) (by omega) (by omega)
        exact bd_divInt hM (lt_pow_mono (nat_add_lt e1 e2) (by decide)) (by omega)
      walk_at "r"
      refine ⟨false, gl.map fun g => Rat.divInt (stN ((max S2 1 : Nat) : Int) room g) ((max S2 1 : Nat) : Int), ?_, by rw [List.length_map]; omega, fun q hq => by obtain ⟨g, hg, rfl⟩ := List.mem_map.mp hq; exact hbd g hg, ?_⟩
      · unfold encL
        rw [List.map_map]
        rfl
      rw [hall, hS1]
      walk_at "r"
      rw [intsOf_N]
      walk_at "r"
      rw [sum_cast]
      refine ⟨_, (((bs.sum : Nat) : Int) : Rat), rfl, ?_, ?_, ?_⟩
      · exact ⟨by show ((S1 : Int) + room).natAbs < _; exact lt_pow_mono (b := 1000) (a := 10) (by omega) (by decide), by show 1 < 2 ^ 1000; decide +kernel⟩
      · exact ⟨by show ((bs.sum : Nat) : Int).natAbs < _; exact lt_pow_mono (b := 1000) (a := 10) (by omega) (by decide), by show 1 < 2 ^ 1000; decide +kernel⟩
      walk_at "r"
      have eh : encQ ((((S1 : Nat) : Int) + room : Int) + (((bs.sum : Nat) : Int) : Rat)) = PyData.tuple [.int ((bs.sum : Nat) + (S1 : Nat) + room), .int 1] := by
        rw [← Rat.intCast_add, show ((S1 : Nat) : Int) + room + ((bs.sum : Nat) : Int) = (bs.sum : Nat) + (S1 : Nat) + room by omega]
        rfl
      rw [ne_same eh rfl]
      walk_at "r"
      rw [List.length_map]
      refine ⟨by omega, ?_⟩
      walk_at "r"
      rw [Int.toNat_natCast, rangeN]
      refine lc_map [.own d, .val (encN bs), .val (encS gl), .val (.int room), .val (.int ((bs.sum : Nat) + (S1 : Nat) + room)), .val (.tuple (gl.map (encSt S2 room))), .val (nI S2), .non, .non, .non, .non, .non, .non, .non, .non, .non, .non] rfl (List.range gl.length) nI (fun _ => .bool false) rfl (by rw [List.length_range]; omega) ?_ ?_
      · intro k hk G0 H0 kk hkk
        have h1 := List.mem_range.mp hk
        have hb := hgb gl[k] (List.getElem_mem h1)
        walk_at "r"
        rw [at_map (encSt S2 room) gl k h1]
        walk_at "r"
        rw [at_map encP gl k h1]
        walk_at "r"
        refine ⟨_, (((gl[k].1 : Nat) : Int) : Rat), rfl, (hbd gl[k] (List.getElem_mem h1)).mono (by decide), ?_, ?_⟩
        · exact ⟨by show ((gl[k].1 : Nat) : Int).natAbs < _; exact lt_pow_mono (b := 1000) (a := 10) (by omega) (by decide), by show 1 < 2 ^ 1000; decide +kernel⟩
        have hless : Rat.divInt (((gl[k].1 : Nat) : Int) * ((max S2 1 : Nat) : Int) + ((gl[k].2 : Nat) : Int) * room) ((max S2 1 : Nat) : Int) - (((gl[k].1 : Nat) : Int) : Rat) = Rat.divInt (gl[k].2 * room) ((max S2 1 : Nat) : Int) := st_less hM
        walk_at "r"
        rw [hless]
        rw [at_map encP gl k h1]
        walk_at "r"
        have emx : (if ((S2 : Nat) : Int) > 1 then ((S2 : Nat) : Int) else 1) = ((max S2 1 : Nat) : Int) := by split <;> omega
        refine ⟨((gl[k].2 : Nat) : Int) * room, ((max S2 1 : Nat) : Int), by rw [emx], ?_, ?_, fun z => absurd z hM, fun _ => ?_⟩
        · exact lt_pow_mono (nat_mul_lt (a := 5) (b := 5) (i := (gl[k].2 : Int)) (j := room) (by omega) (by omega)) (by decide)
        · exact lt_pow_mono (b := 3000) (a := 10) (by omega) (by decide)
        walk_at "r"
        rw [ne_same (e := encQ (Rat.divInt (((gl[k].2 : Nat) : Int) * room) ((max S2 1 : Nat) : Int))) rfl rfl]
        exact hkk _ rfl
      · walk_at "r"
        rw [boolsOf_map]
        walk_at "r"
        exact brn.ff (by simp) rfl
  rintro ρ rfl
  walk_at "r"
  clear hv
  generalize (((bs.sum : Nat) : Int) + (S1 : Nat) + room) = hgt
  refine drawN (by decide) (by decide) hst fun z0 d hz0 hst => ?_
  have hz0 : z0 < 6 := by omega
  walk_at "r"
  refine ⟨bs, 1 + z0, rfl, hB, by omega, by omega, ?_⟩
  walk_at "r"
  generalize hgr : grid (1 + z0) 0 bs = gr
  have hgrl : gr.length = bs.length := by rw [← hgr, grid_len]
  have hgg := grid_get (1 + z0) 0 bs
  rw [hgr] at hgg
  have hdv : ∀ a ∈ gr, (1 + z0) ∣ a := fun a ha => by
    obtain ⟨k, hk, e⟩ := List.mem_iff_getElem.mp ha
    obtain ⟨b, h1, h2, _⟩ := hgg k (by omega) (Nat.dvd_zero _)
    rw [List.getElem?_eq_getElem hk, e] at h2
    cases h2; exact h1
  have hR : ∀ {Q : Ro → Prop}, Q [.own d, .val (encN bs), .val (encS gl), .val (.int room), .val (.int hgt), .val v, .val (nI S2), .val (.int (1 + (z0 : Int))), .val (encN gr), .non, .non, .non, .non, .non, .non, .non, .non] → Q [.own d, .val (encN bs), .val (encS gl), .val (.int room), .val (.int hgt), .val v, .val (nI S2), .val (.int (1 + (z0 : Int))), .val (encN gr), .non, .non, .non, .non, .non, .non, .non, .non] := fun h => h
  refine lc_map [.own d, .val (encN bs), .val (encS gl), .val (.int room), .val (.int hgt), .val v, .val (nI S2), .val (.int (1 + (z0 : Int))), .val (encN gr), .non, .non, .non, .non, .non, .non, .non, .non] rfl gr nI (fun _ => .bool false) rfl (by omega) ?_ ?_
  · intro a ha G0 H0 k hk
    walk_at "r"
    have e : ((a : Nat) : Int).fmod (1 + (z0 : Int)) = 0 := by
      rw [show (1 + (z0 : Int)) = ((1 + z0 : Nat) : Int) by omega, fmod_nat, Nat.mod_eq_zero_of_dvd (hdv a ha)]; rfl
    rw [e]
    exact hk _ rfl
  walk_at "r"
  rw [boolsOf_map]
  walk_at "r"
  rw [show (gr.map fun _ => false).any id = false by simp]
  walk_at "r"
  rw [List.length_map, hgrl]
  refine ⟨by omega, ?_⟩
  walk_at "r"
  rw [show (((bs.length : Nat) : Int) - 1).toNat = bs.length - 1 by omega, rangeN]
  refine lc_map [.own d, .val (encN bs), .val (encS gl), .val (.int room), .val (.int hgt), .val v, .val (nI S2), .val (.int (1 + (z0 : Int))), .val (encN gr), .non, .non, .non, .non, .non, .non, .non, .non] rfl (List.range (bs.length - 1)) nI (fun _ => .bool false) rfl (by rw [List.length_range]; omega) ?_ ?_
  · intro k hk G0 H0 kk hkk
    have h1 := List.mem_range.mp hk
    obtain ⟨a, q1, q2, q3⟩ := hgg k (by omega) (Nat.dvd_zero _)
    have q3 := q3 (by omega)
    have hcb := ceil_bd (z := 1 + z0) (h := a + bs[k]) (by omega)
    generalize ceiL (1 + z0) (a + bs[k]) = cc at q3 hcb
    have e0 : L2.atI (gr.map nI) (k : Int) = some (nI a) := by rw [at_nat, List.getElem?_map, q2]; rfl
    have e1 : L2.atI (gr.map nI) ((k : Int) + 1) = some (nI cc) := by rw [show (k : Int) + 1 = ((k + 1 : Nat) : Int) from rfl, at_nat, List.getElem?_map, q3]; rfl
    walk_at "r"
    rw [e1]
    walk_at "r"
    rw [e0]
    walk_at "r"
    rw [at_mapN bs k (by omega)]
    walk_at "r"
    rw [if_pos rfl, decide_eq_true (by show (0 : Int) ≤ _ ∧ _ < 1 + (z0 : Int); omega)]
    exact hkk _ rfl
  walk_at "r"
  rw [boolsOf_map]
  walk_at "r"
  refine brn.ff (by simp) ?_
  walk_at "r"
  refine ⟨fun ρ => ρ = [.own d, .val (encN bs), .val (encS gl), .val (.int room), .val (.int hgt), .val v, .val (nI S2), .val (.int (1 + (z0 : Int))), .val (encN gr), .val (.int (wst gr bs)), .non, .non, .non, .non, .non, .non, .non], ?_, ?_⟩
  · walk_at "r"
    rw [List.length_map]
    by_cases h0 : 0 < bs.length
    · rw [decide_eq_true (show ((bs.length : Nat) : Int) > 0 by omega)]
      obtain ⟨l, w1, w2⟩ := wst_eq (1 + z0) 0 bs h0
      rw [hgr] at w1 w2
      walk_at "r"
      rw [at_m1 _ (by rw [List.length_map]; omega), List.getElem?_map, List.length_map, hgrl, w1]
      walk_at "r"
      rw [cut_m1, ← List.map_dropLast, intsOf_N]
      walk_at "r"
      rw [sum_cast, w2]
      simp
    · rw [decide_eq_false (show ¬ ((bs.length : Nat) : Int) > 0 by omega)]
      cases bs with
      | nil =>
        subst hgr
        walk_at "r"
        rfl
      | cons b bs => simp at h0
  rintro ρ rfl
  clear hgg hdv
  walk_at "r"
  refine lc_st (fun d => [.own d, .val (encN bs), .val (encS gl), .val (.int room), .val (.int hgt), .val v, .val (nI S2), .val (.int (1 + (z0 : Int))), .val (encN gr), .val (.int (wst gr bs)), .non, .non, .non, .non, .non, .non, .non]) bs nI nI (fun _ v => 1 ≤ v ∧ v ≤ 9) hst rfl rfl (by omega) ?_ ?_
  · intro x hx d hst G0 H0 k hk
    walk_at "r"
    refine drawN (by decide) (by decide) hst fun r d' hr hst => ?_
    walk_at "r"
    exact hk (1 + r) d' _ ⟨by omega, by omega⟩ hst rfl
  intro os d hv hst
  have hol := hv.length
  have hob : ∀ v ∈ os, 1 ≤ v ∧ v ≤ 9 := fun v hm => by obtain ⟨_, _, h⟩ := hv.mem v hm; exact h
  have hB2 : Blk os := ⟨by omega, fun b hb => by have := hob b hb; omega⟩
  walk_at "r"
  refine ⟨bs, os, rfl, hB, hB2, ?_⟩
  walk_at "r"
  refine ⟨bs, 1 + z0, rfl, hB, by omega, by omega, ?_⟩
  rw [hgr]
  walk_at "r"
  rw [eqvI, decide_eq_true rfl]
  walk_at "r"
  rw [List.length_map]
  refine ⟨by omega, ?_⟩
  walk_at "r"
  rw [Int.toNat_natCast, rangeN]
  have hzl : (bs.zip os).length = bs.length := by rw [List.length_zip]; omega
  refine lc_map [.own d, .val (encN bs), .val (encS gl), .val (.int room), .val (.int hgt), .val v, .val (nI S2), .val (.int (1 + (z0 : Int))), .val (encN gr), .val (.int (wst gr bs)), .val (encN os), .val (encN (sbs 0 (bs.zip os))), .non, .non, .non, .non, .non] rfl (List.range bs.length) nI (fun k => nI (((List.range k).map (mxs (bs.zip os))).sum)) rfl (by rw [List.length_range]; omega) ?_ ?_
  · intro k hk G0 H0 kk hkk
    have h1 := List.mem_range.mp hk
    walk_at "r"
    rw [Int.toNat_natCast, rangeN]
    refine lc_map [.own d, .val (encN bs), .val (encS gl), .val (.int room), .val (.int hgt), .val v, .val (nI S2), .val (.int (1 + (z0 : Int))), .val (encN gr), .val (.int (wst gr bs)), .val (encN os), .val (encN (sbs 0 (bs.zip os))), .val (nI k), .non, .non, .non, .non] rfl (List.range k) nI (fun j => nI (mxs (bs.zip os) j)) rfl (by rw [List.length_range]; omega) ?_ ?_
    · intro j hj G0 H0 kk hkk
      have h2 := List.mem_range.mp hj
      walk_at "r"
      rw [at_mapN bs j (by omega)]
      walk_at "r"
      rw [at_mapN os j (by omega)]
      walk_at "r"
      have em : (if ((os[j] : Nat) : Int) > ((bs[j] : Nat) : Int) then ((os[j] : Nat) : Int) else ((bs[j] : Nat) : Int)) = ((mxs (bs.zip os) j : Nat) : Int) := by
        unfold mxs
        rw [List.getD_eq_getElem?_getD, List.getElem?_eq_getElem (by omega), List.getElem_zip]
        simp only [Option.getD_some]
        split <;> omega
      rw [em]
      exact hkk _ rfl
    walk_at "r"
    rw [show ((List.range k).map fun j => nI (mxs (bs.zip os) j)) = ((List.range k).map (mxs (bs.zip os))).map nI by rw [List.map_map]; rfl, intsOf_N]
    walk_at "r"
    rw [sum_cast]
    exact hkk _ rfl
  walk_at "r"
  have e9 : PyData.tuple ((List.range bs.length).map fun k => nI (((List.range k).map (mxs (bs.zip os))).sum)) = encN (sbs 0 (bs.zip os)) := by
    rw [sbs_eq, hzl]
    unfold encN
    rw [List.map_map]; rfl
  rw [e9]
  refine ⟨dep_N 18 _, dep_N 18 _, ?_⟩
  rw [eqv_N rfl]
  walk_at "r"
  exact hq _ hst
end
end K16
namespace K16
open PySem PySem.Spec PyProof.Rows L2 Dn
local macro_rules | `(tactic| walk_at "r") => `(tactic| ((conv => whnf); (repeat ((first | refine And.intro rfl ?_ | refine And.intro cm_l ?_ | refine And.intro cm_r ?_ | refine And.intro (by decide) ?_ | refine And.intro (cdv_lt (a := 64) (by decide) (by decide)) ?_ | refine And.intro (by omega) ?_ | refine And.intro (cm_r (by omega)) ?_ | refine And.intro (cdv_lt (a := 60) (by omega) (by omega)) ?_); (conv => whnf)))))


theorem hts_cons (xs : List Nat) (a : Nat) (r : List Nat) : hts xs (a :: r) = seg xs a (nx xs.length r) :: hts xs r := by
  cases r with
  | nil => rfl
  | cons b r => rfl
theorem hts_len (xs st : List Nat) : (hts xs st).length ≤ st.length := by unfold hts; rw [List.length_map, List.length_zip]; omega
theorem seg_eq (xs : List Nat) (a n : Nat) : seg xs a (a + n) = ((xs.drop a).take n).sum := by
  unfold seg
  rw [List.drop_take, show a + n - a = n by omega]
theorem gr_hts {h : Nat} {xs : List Nat} : ∀ (m p : Nat) (st : List Nat), xs.length - p = m → p ≤ xs.length → gr h p (xs.drop p) = some st →
    (nx xs.length st = p) ∧ (hts xs st).sum = (xs.drop p).sum ∧ (∀ a ∈ hts xs st, a ≤ h) ∧ (∀ a ∈ st, a ≤ xs.length) ∧ st.length ≤ xs.length - p := by
  intro m
  induction m using Nat.strongRecOn with
  | _ m ih =>
    intro p st hm hp e
    by_cases hx : xs.drop p = []
    · rw [hx, gr_nil] at e
      cases e
      have : xs.length ≤ p := List.drop_eq_nil_iff.mp hx
      rw [hx]
      exact ⟨by show xs.length = p; omega, rfl, fun a ha => (nomatch ha), fun a ha => (nomatch ha), Nat.zero_le _⟩
    · by_cases h0 : fitN h (xs.drop p) = 0
      · rw [gr_no hx h0] at e; cases e
      · rw [gr_go hx h0] at e
        obtain ⟨st', e1, rfl⟩ := Option.map_eq_some_iff.mp e
        have hf := fitN_le h (xs.drop p)
        have hs := fitN_sum h (xs.drop p)
        generalize fitN h (xs.drop p) = n at *
        rw [List.length_drop] at hf
        rw [List.drop_drop] at e1
        obtain ⟨i1, i2, i3, i4, i5⟩ := ih (xs.length - (p + n)) (by omega) (p + n) st' rfl (by omega) e1
        have hsum : (xs.drop p).sum = ((xs.drop p).take n).sum + (xs.drop (p + n)).sum := by
          conv => lhs; rw [← List.take_append_drop n (xs.drop p)]
          rw [List.sum_append, List.drop_drop]
        rw [hts_cons, i1, seg_eq]
        refine ⟨rfl, by rw [List.sum_cons, i2, hsum], fun a ha => ?_, fun a ha => ?_, by rw [List.length_cons]; omega⟩
        · rcases List.mem_cons.mp ha with rfl | ha
          · exact hs
          · exact i3 a ha
        · rcases List.mem_cons.mp ha with rfl | ha
          · exact hp
          · exact i4 a ha
theorem pt_mem {n : Nat} : ∀ {f : Nat} {st : List Nat}, Pt n f st → ∀ a ∈ st, a ≤ n
  | f, [], _, a, ha => (nomatch ha)
  | f, b :: r, ⟨h1, h2, h3, h4⟩, a, ha => by
    rcases List.mem_cons.mp ha with rfl | ha
    · omega
    · exact pt_mem h4 a ha
theorem pt_inc {n : Nat} : ∀ (st : List Nat), st.Pairwise (· < ·) → (∀ a ∈ st, a < n) → Pt n (nx n st) st
  | [], _, _ => rfl
  | a :: r, h1, h2 => by
    have ih := pt_inc r (List.pairwise_cons.mp h1).2 fun b hb => h2 b (List.mem_cons_of_mem _ hb)
    have ha := h2 a List.mem_cons_self
    refine ⟨rfl, ?_, ?_, ih⟩
    · cases r with
      | nil => exact ha
      | cons b r => exact (List.pairwise_cons.mp h1).1 b List.mem_cons_self
    · cases r with
      | nil => exact Nat.le_refl _
      | cons b r => exact Nat.le_of_lt (h2 b (List.mem_cons_of_mem _ List.mem_cons_self))
theorem drawn_pt {n : Nat} {os : List (Option Nat)} (h : All2 (fun (j : Nat) (o : Option Nat) => (o = some j) ∨ (o = none ∧ j ≠ 0)) (List.range n) os) : Pt n 0 (os.filterMap id) := by
  have key : ∀ (xs : List Nat) (os : List (Option Nat)), All2 (fun (j : Nat) (o : Option Nat) => (o = some j) ∨ (o = none ∧ j ≠ 0)) xs os → (os.filterMap id).Sublist xs := by
    intro xs os h
    induction h with
    | nil => exact .slnil
    | cons h _ ih =>
      rcases h with rfl | ⟨rfl, _⟩
      · exact ih.cons₂ _
      · exact ih.cons _
  have hs := key _ _ h
  have h1 : (os.filterMap id).Pairwise (· < ·) := List.pairwise_lt_range.sublist hs
  have h2 : ∀ a ∈ os.filterMap id, a < n := fun a ha => List.mem_range.mp (hs.subset ha)
  have := pt_inc _ h1 h2
  have e : nx n (os.filterMap id) = 0 := by
    cases n with
    | zero =>
      have : os.filterMap id = [] := by
        have := hs.subset
        cases e : os.filterMap id with
        | nil => rfl
        | cons a r => have := h2 a (by rw [e]; exact List.mem_cons_self); omega
      rw [this]; rfl
    | succ n =>
      rw [List.range_succ_eq_map] at h
      cases h with
      | cons h _ =>
        rcases h with rfl | ⟨_, z⟩
        · rfl
        · exact absurd rfl z
  rw [e] at this
  exact this
theorem least_mono {xs : List Nat} {c L L' : Nat} (h : IsLeast xs c L) (h' : IsLeast xs (c + 1) L') : L' ≤ L := by
  rcases Nat.lt_or_ge L L' with z | z
  · exact absurd (Cov.mono (Nat.le_refl _) (by omega) h.2.2.1) (h'.2.2.2.1 L z h.2.1)
  · exact z
theorem blk_yes {xs : List Nat} (h : ∀ x ∈ xs, 1 ≤ x) : ((xs.map nI).all fun x => isInt x (some 1) none) = true := by
  rw [List.all_eq_true]
  intro x hx
  obtain ⟨y, hy, rfl⟩ := List.mem_map.mp hx
  have := h y hy
  show (geO (some 1) ((y : Nat) : Int) && leO none ((y : Nat) : Int)) = true
  rw [geO_some, leO_none, decide_eq_true (by omega)]; rfl
theorem blk_no (xs : List D) : ((xs ++ [PyData.int 0]).all fun x => isInt x (some 1) none) = false := by
  rw [List.all_append]
  rw [show ([PyData.int 0].all fun x => isInt x (some 1) none) = false by rfl, Bool.and_false]
section
variable {P : Program} {w : World} {K : PySem.W.Frag} {mg : Str → Option Value} {base : Heap} {T : List Addr}
abbrev s_law : Stmt := topS 40
theorem sc_law : FnScope ["script", "state", "blocks", "columns", "least", "full", "less", "best", "k", "starts", "price", "j", "high"] ["script"] (defScope s_law) := ⟨rfl, rfl, rfl, by decide +kernel, rfl, by decide +kernel, by decide +kernel⟩
theorem ok_law {f : Addr} {fd : FuncData} (F : Fun K "law" "law" s_law f fd) (bl : ∀ x : Str, bnames.contains x = true → mg x = none) (p__law_draw : PfM P w K mg base T 1 "_law_draw" 2 c__law_draw) (p_least_height : Pf P w K mg base T 2 "least_height" 2 c_least_height) (p__law_greedy : Pf P w K mg base T 2 "_law_greedy" 2 c__law_greedy) (p__law_same : Pf P w K mg base T 1 "_law_same" 2 c__law_same) (p_are_blocks : Pf P w K mg base T 3 "are_blocks" 1 c_are_blocks) (p_heights_of : Pf P w K mg base T 1 "heights_of" 2 c_heights_of) (p__law_evenest : Pf P w K mg base T 2 "_law_evenest" 2 c__law_evenest) (p__law_spaces : PfM P w K mg base T 5 "_law_spaces" 2 c__law_spaces) (p__law_figures : PfM P w K mg base T 3 "_law_figures" 1 c__law_figures) (p__law_pages : PfM P w K mg base T 2 "_law_pages" 1 c__law_pages) (p__law_boxes : PfM P w K mg base T 3 "_law_boxes" 1 c__law_boxes) : FnOk P w K mg base CX0 6 f fd ["script"] (spLawD K T) := by
  refine law_ok (k := 5) F sc_law bl fun cdv A outer s H E ns hns c tk => ?_
  refine ⟨_, (dss_cons (ds_setF (i := 1) c rfl (Or.inr rfl) (df_lst (da_cons de_int (da_cons de_int (da_cons (df_listS (i := 0) c).toE (da_cons de_int da_nil))))))
      (dss_cons (ds_set (i := 2) c rfl (Or.inl rfl) (de_callT cd_tuple (nb c) boot_tuple (dbs_cons (df_lc (own := [("k", 8)]) c (di_range1 (nb c) (dbs_cons (de_callM (i := 1) p__law_draw c (da_cons de_int da_nil)).toB dbs_nil)) rfl (fun _ _ _ _ _ _ _ c => (dg_name (i := 8) c rfl (by first | exact Or.inl rfl | exact Or.inr rfl))) (fun _ _ _ _ _ _ _ c => dts_nil) (fun _ _ _ _ _ _ _ c => (de_bin od_add de_int.toB (de_callM (i := 1) p__law_draw c (da_cons de_int da_nil)).toB))).toE.toB dbs_nil)))
      (dss_cons (ds_set (i := 3) c rfl (Or.inl rfl) (de_bin od_add de_int.toB (de_callM (i := 1) p__law_draw c (da_cons de_int da_nil)).toB))
      (dss_cons (ds_set (i := 4) c rfl (Or.inl rfl) (de_call p_least_height c (da_cons (de_var 2) (da_cons (de_var 3) da_nil))))
      (dss_cons (ds_set (i := 5) c rfl (Or.inl rfl) (de_call p__law_greedy c (da_cons (de_var 2) (da_cons (de_var 4) da_nil))))
      (dss_cons (ds_if (dw_or (dt_not (dt_tru (de_call p__law_same c (da_cons (de_call p_are_blocks c (da_cons (de_var 2) da_nil)) (da_cons de_bl da_nil))).toB)) (dw_or (dt_not (dt_tru (de_call p__law_same c (da_cons (de_call p_are_blocks c (da_cons (de_bin od_add (db_var 2) (de_tup (da_cons de_int da_nil)).toB) da_nil)) (da_cons de_bl da_nil))).toB)) (dw_or (dt_cmp od_is (db_var 5) de_non.toB) (dw_or1 (dt_cmp (od_gtG c) (de_callB cd_lenA (nb c) PySem.boot_len (dbs_cons (db_var 5) dbs_nil)).toB (db_var 3)))))).t (dss_one (ds_ret de_bl)) dss_nil)
      (dss_cons (ds_set (i := 6) c rfl (Or.inl rfl) (de_call p__law_greedy c (da_cons (de_var 2) (da_cons (de_bin od_sub (db_var 4) de_int.toB) da_nil))))
      (dss_cons (ds_cut (ds_if (dw_or (dw_and (dt_cmp (od_gtG c) (de_callB cd_lenA (nb c) PySem.boot_len (dbs_cons (db_var 2) dbs_nil)).toB de_int.toB) (dw_and (dt_cmp od_isn (db_var 6) de_non.toB) (dw_and1 (dt_cmp (od_leG c) (de_callB cd_lenA (nb c) PySem.boot_len (dbs_cons (db_var 6) dbs_nil)).toB (db_var 3))))).t (dw_or1 (dt_cmp (od_ne c) (de_cmp od_is (db_var 6) de_non.toB).toB (de_and (de_cmp (od_gtG c) (de_callB cd_lenA (nb c) PySem.boot_len (dbs_cons (db_var 2) dbs_nil)).toB de_int.toB) (de_one (de_cmp (od_ltG c) (de_bin od_sub (db_var 4) de_int.toB).toB (de_callB (cd_maxB c) (nb c) boot_max (dbs_cons (db_var 2) dbs_nil)).toB))).toB))).t (dss_one (ds_ret de_bl)) dss_nil))
      (dss_cons (ds_if (dw_or (dt_cmp (od_ne c) (de_callB (cd_sumA c) (nb c) boot_sum (dbs_cons (de_call p_heights_of c (da_cons (de_var 2) (da_cons (de_var 5) da_nil))).toB dbs_nil)).toB (de_callB (cd_sumA c) (nb c) boot_sum (dbs_cons (db_var 2) dbs_nil)).toB) (dw_or (dt_cmp (od_gtG c) (de_callB (cd_maxB c) (nb c) boot_max (dbs_cons (de_bin od_add (de_call p_heights_of c (da_cons (de_var 2) (da_cons (de_var 5) da_nil))).toB (de_tup (da_cons de_int da_nil)).toB).toB dbs_nil)).toB (db_var 4)) (dw_or1 (dt_cmp (od_gtG c) (de_call p_least_height c (da_cons (de_var 2) (da_cons (de_bin od_add (db_var 3) de_int.toB) da_nil))).toB (db_var 4))))).t (dss_one (ds_ret de_bl)) dss_nil)
      (dss_cons (ds_set (i := 7) c rfl (Or.inl rfl) (de_call p__law_evenest c (da_cons (de_var 2) (da_cons (de_var 3) da_nil))))
      (dss_cons (ds_cut (ds_if (dt_cmp (od_ne c) (de_cmp od_is (db_var 7) de_non.toB).toB (de_cmp (od_ltG c) (de_callB cd_lenA (nb c) PySem.boot_len (dbs_cons (db_var 2) dbs_nil)).toB (db_var 3)).toB) (dss_one (ds_ret de_bl)) dss_nil))
      (dss_cons (ds_for c (di_range1 (nb c) (dbs_cons de_int.toB dbs_nil)) (dg_name (i := 8) c rfl (by first | exact Or.inl rfl | exact Or.inr rfl)) (dss_cons (ds_cut (ds_set (i := 9) c rfl (Or.inl rfl) (de_if (dw_or (dt_cmp (od_gtG c) (db_var 8) de_int.toB) (dw_or1 (dt_cmp od_is (db_var 7) de_non.toB))).t (de_callT cd_tuple (nb c) boot_tuple (dbs_cons (df_lc (own := [("j", 11)]) c (di_range1 (nb c) (dbs_cons (de_callB cd_lenA (nb c) PySem.boot_len (dbs_cons (db_var 2) dbs_nil)).toB dbs_nil)) rfl (fun _ _ _ _ _ _ _ c => (dg_name (i := 11) c rfl (by first | exact Or.inl rfl | exact Or.inr rfl))) (fun _ _ _ _ _ _ _ c => (dts_one (dw_or (dt_cmp (od_eq c) (db_var 11) de_int.toB) (dw_or1 (dt_cmp (od_eq c) (de_callM (i := 1) p__law_draw c (da_cons de_int da_nil)).toB de_int.toB))).t)) (fun _ _ _ _ _ _ _ c => (de_var 11))).toE.toB dbs_nil)) (de_ixA c (db_var 7) de_int.toB))))
        (dss_one (ds_if (dw_and (dt_cmp od_isn (db_var 7) de_non.toB) (dw_and1 (dt_cmp (od_eq c) (de_callB cd_lenA (nb c) PySem.boot_len (dbs_cons (db_var 9) dbs_nil)).toB (db_var 3)))).t (dss_cons (ds_set (i := 10) c rfl (Or.inl rfl) (de_callB (cd_sumA c) (nb c) boot_sum (dbs_cons (df_lc (own := [("high", 12)]) c (di_seq (de_call p_heights_of c (da_cons (de_var 2) (da_cons (de_var 9) da_nil)))) rfl (fun _ _ _ _ _ _ _ c => (dg_name (i := 12) c rfl (by first | exact Or.inl rfl | exact Or.inr rfl))) (fun _ _ _ _ _ _ _ c => dts_nil) (fun _ _ _ _ _ _ _ c => (de_bin od_mulA (db_var 12) (db_var 12)))).toE.toB dbs_nil)))
          (dss_one (ds_if (dw_or (dt_cmp (od_ltG c) (db_var 10) (de_ixA c (db_var 7) de_int.toB).toB) (dw_or1 (dw_and (dt_cmp (od_eq c) (db_var 8) de_int.toB) (dw_and1 (dt_cmp (od_ne c) (db_var 10) (de_ixA c (db_var 7) de_int.toB).toB))).t)).t (dss_one (ds_ret de_bl)) dss_nil))) dss_nil))))
      (dss_one (ds_ret (de_and (de_callM (i := 1) p__law_spaces c (da_cons (de_var 2) da_nil)) (de_and (de_callM (i := 1) p__law_figures c da_nil) (de_and (de_callM (i := 1) p__law_pages c da_nil) (de_one (de_callM (i := 1) p__law_boxes c da_nil))))))))))))))))))), ?_⟩
  walk_at "r"
  have hst0 : isSt (PyData.list [PyData.int 0, PyData.int 0, PyData.list (ns.map PyData.int), PyData.int 1]) := ⟨0, 0, ns, 1, rfl⟩
  have hsc : ∃ sc : Sl, sc = Sl.val (.list (ns.map PyData.int)) := ⟨_, rfl⟩
  refine drawN (by decide) (by decide) hst0 fun nb d hnb hst => ?_
  have hnb : nb < 13 := by omega
  walk_at "r"
  rw [Int.toNat_natCast, rangeN]
  refine lc_st (fun d => .seq (ns.map .int) :: .own d :: List.replicate 11 .non) (List.range nb) nI nI (fun _ v => 1 ≤ v ∧ v ≤ 9) hst rfl rfl (by rw [List.length_range]; omega) ?_ ?_
  · intro x hx d hst G0 H0 k hk
    walk_at "r"
    refine drawN (by decide) (by decide) hst fun r d' hr hst => ?_
    walk_at "r"
    exact hk (1 + r) d' _ ⟨by omega, by omega⟩ hst rfl
  intro xs d hv hst
  have hxl := hv.length
  rw [List.length_range] at hxl
  have hxb : ∀ v ∈ xs, 1 ≤ v ∧ v ≤ 9 := fun v hm => by obtain ⟨_, _, h⟩ := hv.mem v hm; exact h
  have hB : Blk xs := ⟨by omega, fun b hb => by have := hxb b hb; omega⟩
  have hxs : xs.sum ≤ 108 := by
    have := sum_bd (b := 9) (xs := xs) fun b hb => (hxb b hb).2
    omega
  walk_at "r"
  refine drawN (by decide) (by decide) hst fun c0 d hc0 hst => ?_
  have hc0 : c0 < 5 := by omega
  walk_at "r"
  rw [show (1 + ((c0 : Nat) : Int)) = ((1 + c0 : Nat) : Int) by omega]
  generalize hc : 1 + c0 = c
  refine ⟨xs, c, rfl, hB, by omega, fun L hL => ?_⟩
  walk_at "r"
  refine ⟨xs, L, rfl, hB, by have := hL.2.2.2.2; omega, ?_⟩
  obtain ⟨full, hfull⟩ := gr_some (h := L) xs.length xs 0 rfl hL.2.1
  rw [Int.toNat_natCast, hfull]
  have hfl := cov_gr c xs 0 full hL.2.2.1 hfull
  obtain ⟨hg1, hg2, hg3, hg4, hg5⟩ := gr_hts (h := L) (xs := xs) xs.length 0 full (by omega) (Nat.zero_le _) (by rw [List.drop_zero]; exact hfull)
  rw [List.drop_zero] at hg2
  walk_at "r"
  refine ⟨_, rfl, ?_⟩
  rw [blk_yes fun x hx => (hxb x hx).1]
  walk_at "r"
  refine ⟨true, true, rfl, ?_⟩
  rw [decide_eq_true rfl]
  walk_at "r"
  rw [List.length_map]
  refine ⟨by show xs.length + 1 ≤ _; omega, ?_⟩
  walk_at "r"
  refine ⟨_, rfl, ?_⟩
  rw [blk_no]
  walk_at "r"
  refine ⟨false, false, rfl, ?_⟩
  rw [decide_eq_true rfl]
  walk_at "r"
  rw [List.length_map, decide_eq_false (by omega)]
  walk_at "r"
  refine ⟨xs, (L : Int) - 1, rfl, hB, by have := hL.2.2.2.2; omega, ?_⟩
  generalize hless : gr (((L : Nat) : Int) - 1).toNat 0 xs = less
  walk_at "r"
  have hn0 : 0 < xs.length → ∃ x ∈ xs, ∀ y ∈ xs, y ≤ x := fun h => mostN (by intro z; subst z; simp at h)
  have hLe0 : 0 < xs.length → 1 ≤ L := fun h => by
    obtain ⟨x, hx, _⟩ := hn0 h
    have := hL.2.1 x hx
    have := (hxb x hx).1
    omega
  have hL1 : less = none → 0 < xs.length ∧ ∃ x ∈ xs, ((L : Nat) : Int) - 1 < x := fun e => by
    subst e
    have hx0 : 0 < xs.length := by
      cases xs with
      | nil => rw [gr_nil] at hless; cases hless
      | cons a r => simp
    refine ⟨hx0, ?_⟩
    by_cases hx : ∃ x ∈ xs, ((L : Nat) : Int) - 1 < x
    · exact hx
    · obtain ⟨st, e⟩ := gr_some (h := (((L : Nat) : Int) - 1).toNat) xs.length xs 0 rfl fun x hm => by
        rcases Int.lt_or_le (((L : Nat) : Int) - 1) (x : Int) with z | z
        · exact absurd ⟨x, hm, z⟩ hx
        · omega
      rw [e] at hless; cases hless
  have hL2 : ∀ st, less = some st → (∀ x ∈ xs, x ≤ L - 1) ∧ (0 < xs.length → ¬ st.length ≤ c) := fun st e => by
    subst e
    have ha := gr_all xs.length xs 0 st rfl hless
    rw [show (((L : Nat) : Int) - 1).toNat = L - 1 by omega] at ha hless
    refine ⟨ha, fun h0 h1 => ?_⟩
    exact hL.2.2.2.1 (L - 1) (by have := hLe0 h0; omega) ha (Cov.mono (Nat.le_refl _) h1 (gr_cov xs.length xs 0 st rfl hless))
  refine ⟨fun ρ => ρ = [.seq (ns.map .int), .own d, .val (encN xs), .val (nI c), .val (nI L), .val (encN full), .val (encG less), .non, .non, .non, .non, .non, .non], ?_, ?_⟩
  · by_cases h0 : 0 < xs.length
    · walk_at "r"
      rw [List.length_map, decide_eq_true (show ((xs.length : Nat) : Int) > 0 by omega)]
      cases less with
      | none =>
        obtain ⟨_, x, hx1, hx2⟩ := hL1 rfl
        walk_at "r"
        rw [List.length_map, decide_eq_true (show ((xs.length : Nat) : Int) > 0 by omega)]
        walk_at "r"
        refine .inl ?_
        show optD (intsOf (xs.map nI)) _
        rw [intsOf_N]
        refine ⟨by simpa using h0, fun mx hmx hmy => ?_⟩
        have hmx2 := hmy x (List.mem_map.mpr ⟨x, hx1, rfl⟩)
        walk_at "r"
        rw [decide_eq_true (by omega)]
        walk_at "r"
        rfl
      | some st =>
        obtain ⟨b1, b2⟩ := hL2 st rfl
        have b2 := b2 h0
        walk_at "r"
        rw [List.length_map, decide_eq_false (by omega)]
        walk_at "r"
        rw [List.length_map, decide_eq_true (show ((xs.length : Nat) : Int) > 0 by omega)]
        walk_at "r"
        refine .inl ?_
        show optD (intsOf (xs.map nI)) _
        rw [intsOf_N]
        refine ⟨by simpa using h0, fun mx hmx hmy => ?_⟩
        obtain ⟨M, hM, rfl⟩ := List.mem_map.mp hmx
        have := b1 M hM
        have := hLe0 h0
        walk_at "r"
        rw [decide_eq_false (by omega)]
        walk_at "r"
        rfl
    · walk_at "r"
      rw [List.length_map, decide_eq_false (show ¬ ((xs.length : Nat) : Int) > 0 by omega)]
      cases less with
      | none => exact absurd (hL1 rfl).1 h0
      | some st =>
        walk_at "r"
        rw [List.length_map, decide_eq_false (show ¬ ((xs.length : Nat) : Int) > 0 by omega)]
        walk_at "r"
        rfl
  rintro ρ rfl
  clear hL1 hL2
  walk_at "r"
  refine ⟨xs, full, rfl, hB, by omega, hg4, ?_⟩
  walk_at "r"
  rw [intsOf_N]
  walk_at "r"
  rw [intsOf_N]
  walk_at "r"
  rw [sum_cast, sum_cast, hg2, eqvI, decide_eq_true rfl]
  walk_at "r"
  refine ⟨xs, full, rfl, hB, by omega, hg4, ?_⟩
  walk_at "r"
  have hhl : (hts xs full).length ≤ full.length := by unfold hts; rw [List.length_map, List.length_zip]; omega
  rw [List.length_map]
  refine ⟨by show (hts xs full).length + 1 ≤ _; omega, ?_⟩
  walk_at "r"
  refine .inl ?_
  rw [show (hts xs full).map nI ++ [PyData.int 0] = ((hts xs full) ++ [0]).map nI by rw [List.map_append]; rfl]
  show optD (intsOf ((hts xs full ++ [0]).map nI)) _
  rw [intsOf_N]
  refine ⟨by simp, fun mx hmx _ => ?_⟩
  obtain ⟨M, hM, rfl⟩ := List.mem_map.mp hmx
  have hML : M ≤ L := by
    rcases List.mem_append.mp hM with z | z
    · exact hg3 M z
    · have := List.mem_singleton.mp z; omega
  walk_at "r"
  rw [decide_eq_false (by omega)]
  walk_at "r"
  refine ⟨xs, c + 1, rfl, hB, by omega, fun L' hL' => ?_⟩
  have hLL := least_mono hL hL'
  walk_at "r"
  rw [decide_eq_false (show ¬ ((L' : Nat) : Int) > ((L : Nat) : Int) by omega)]
  walk_at "r"
  refine ⟨xs, c, rfl, hB, by omega, by omega, fun o ho => ?_⟩
  walk_at "r"
  clear hg2 hg3 hM hmx
  generalize encG less = gd
  refine ⟨fun ρ => ρ = [.seq (ns.map .int), .own d, .val (encN xs), .val (nI c), .val (nI L), .val (encN full), .val gd, .val (encE o), .non, .non, .non, .non, .non], ?_, ?_⟩
  · rcases ho with ⟨rfl, h0⟩ | ⟨m, st, rfl, h0, _⟩
    · walk_at "r"
      rw [List.length_map, decide_eq_true (by omega)]
      walk_at "r"
      rfl
    · walk_at "r"
      rw [List.length_map, decide_eq_false (by omega)]
      walk_at "r"
      rfl
  rintro ρ rfl
  walk_at "r"
  refine ⟨fun r ρ => ∃ (d : D) (k n : Nat) (s8 s9 s10 : Sl), isSt d ∧ r = rangeD (k : Nat) 1 n ∧ k + n = 6 ∧ ρ = [.seq (ns.map .int), .own d, .val (encN xs), .val (nI c), .val (nI L), .val (encN full), .val gd, .val (encE o), s8, s9, s10, .non, .non], ⟨d, 0, 6, .non, .non, .non, hst, rfl, rfl, rfl⟩, ?_, ?_⟩
  · rintro x r ρ ⟨d, k, n, s8, s9, s10, hst, hr, hkn, rfl⟩
    obtain ⟨n, rfl, rfl, rfl⟩ := rangeD_cons hr
    walk_at "r"
    refine ⟨fun ρ => ∃ (d : D) (sts : List Nat), isSt d ∧ Pt xs.length 0 sts ∧ (k = 0 → ∀ m st, o = some (m, st) → sts = st) ∧ ρ = [.seq (ns.map .int), .own d, .val (encN xs), .val (nI c), .val (nI L), .val (encN full), .val gd, .val (encE o), .val (nI k), .val (encN sts), s10, .non, .non], ?_, ?_⟩
    · walk_at "r"
      by_cases hk : k = 0
      · subst hk
        rw [decide_eq_false (by omega)]
        cases o with
        | none =>
          walk_at "r"
          rw [List.length_map]
          refine ⟨by omega, ?_⟩
          walk_at "r"
          rw [Int.toNat_natCast, rangeN]
          refine lc_stf (fun d => [.seq (ns.map .int), .own d, .val (encN xs), .val (nI c), .val (nI L), .val (encN full), .val gd, .val (encE none), .val (nI 0), s9, s10, .non, .non]) (List.range xs.length) nI nI (fun j o => o = some j ∨ (o = none ∧ j ≠ 0)) hst rfl rfl (by rw [List.length_range]; omega) ?_ ?_
          · intro j hj d hst G0 H0 kk k0 hkk hk0
            walk_at "r"
            rw [show PyData.eqv (nI j) (.int 0) = decide (j = 0) from eqvN j 0]
            by_cases hj0 : j = 0
            · rw [decide_eq_true hj0]
              walk_at "r"
              exact hkk j d _ (.inl rfl) hst rfl
            · rw [decide_eq_false hj0]
              walk_at "r"
              refine drawN (by decide) (by decide) hst fun r d hr hst => ?_
              walk_at "r"
              rw [show PyData.eqv (.int ((r : Nat) : Int)) (.int 0) = decide (r = 0) from eqvN r 0]
              by_cases hr0 : r = 0
              · rw [decide_eq_true hr0]
                walk_at "r"
                exact hkk j d _ (.inl rfl) hst rfl
              · rw [decide_eq_false hr0]
                walk_at "r"
                exact hk0 d _ (.inr ⟨rfl, hj0⟩) hst rfl
          intro os d hv hst
          walk_at "r"
          exact ⟨d, _, hst, drawn_pt hv, fun _ m st z => (nomatch z), rfl⟩
        | some p =>
          obtain ⟨m, st⟩ := p
          rcases ho with ⟨z, _⟩ | ⟨m', st', z, h0, hmin, hp0, hl0, hpr⟩
          · cases z
          · cases z
            walk_at "r"
            exact ⟨d, st, hst, hp0, fun _ m' st' z => by cases z; rfl, rfl⟩
      · rw [decide_eq_true (by omega)]
        walk_at "r"
        rw [List.length_map]
        refine ⟨by omega, ?_⟩
        walk_at "r"
        rw [Int.toNat_natCast, rangeN]
        refine lc_stf (fun d => [.seq (ns.map .int), .own d, .val (encN xs), .val (nI c), .val (nI L), .val (encN full), .val gd, .val (encE o), .val (nI k), s9, s10, .non, .non]) (List.range xs.length) nI nI (fun j o => o = some j ∨ (o = none ∧ j ≠ 0)) hst rfl rfl (by rw [List.length_range]; omega) ?_ ?_
        · intro j hj d hst G0 H0 kk k0 hkk hk0
          walk_at "r"
          rw [show PyData.eqv (nI j) (.int 0) = decide (j = 0) from eqvN j 0]
          by_cases hj0 : j = 0
          · rw [decide_eq_true hj0]
            walk_at "r"
            exact hkk j d _ (.inl rfl) hst rfl
          · rw [decide_eq_false hj0]
            walk_at "r"
            refine drawN (by decide) (by decide) hst fun r d hr hst => ?_
            walk_at "r"
            rw [show PyData.eqv (.int ((r : Nat) : Int)) (.int 0) = decide (r = 0) from eqvN r 0]
            by_cases hr0 : r = 0
            · rw [decide_eq_true hr0]
              walk_at "r"
              exact hkk j d _ (.inl rfl) hst rfl
            · rw [decide_eq_false hr0]
              walk_at "r"
              exact hk0 d _ (.inr ⟨rfl, hj0⟩) hst rfl
        intro os d hv hst
        walk_at "r"
        exact ⟨d, _, hst, drawn_pt hv, fun z => absurd z hk, rfl⟩
    rintro ρ ⟨d, sts, hst, hpt, hk0, rfl⟩
    have hpl := pt_len hpt
    walk_at "r"
    rcases ho with ⟨rfl, h0⟩ | ⟨m, st, rfl, h0, hmin, hp0, hl0, hpr⟩
    · walk_at "r"
      exact ⟨d, k + 1, n, _, _, _, hst, by rw [show ((k : Nat) : Int) + 1 = ((k + 1 : Nat) : Int) by omega], by omega, rfl⟩
    · walk_at "r"
      rw [List.length_map, show PyData.eqv (.int ((sts.length : Nat) : Int)) (nI c) = decide (sts.length = c) from eqvN _ _]
      by_cases hlen : sts.length = c
      · rw [decide_eq_true hlen]
        walk_at "r"
        refine ⟨xs, sts, rfl, hB, by omega, pt_mem hpt, ?_⟩
        walk_at "r"
        refine lc_map [.seq (ns.map .int), .own d, .val (encN xs), .val (nI c), .val (nI L), .val (encN full), .val gd, .val (encE (some (m, st))), .val (nI k), .val (encN sts), s10, .non, .non] rfl (hts xs sts) nI (fun a => nI (sq a)) rfl (by have := hts_len xs sts; omega) ?_ ?_
        · intro a ha G0 H0 kk hkk
          have hab : a ≤ 60000000 := by
            obtain ⟨p, _, rfl⟩ := List.mem_map.mp ha
            exact seg_le hB _ _
          walk_at "r"
          rw [show ((a : Nat) : Int) * ((a : Nat) : Int) = ((sq a : Nat) : Int) from (Int.natCast_mul a a).symm]
          exact hkk _ rfl
        walk_at "r"
        rw [show ((hts xs sts).map fun a => nI (sq a)) = ((hts xs sts).map sq).map nI by rw [List.map_map]; rfl, intsOf_N]
        walk_at "r"
        rw [sum_cast, pr_hts]
        have hle := hmin.2 sts hpt hlen
        walk_at "r"
        rw [decide_eq_false (by omega)]
        walk_at "r"
        rw [show PyData.eqv (nI k) (.int 0) = decide (k = 0) from eqvN k 0]
        by_cases hk : k = 0
        · cases hk0 hk m st rfl
          rw [decide_eq_true hk, hpr]
          walk_at "r"
          rw [show PyData.eqv (.int ((m : Nat) : Int)) (nI m) = decide (m = m) from eqvN m m, decide_eq_true rfl]
          walk_at "r"
          exact ⟨d, k + 1, n, _, _, _, hst, by rw [show ((k : Nat) : Int) + 1 = ((k + 1 : Nat) : Int) by omega], by omega, rfl⟩
        · rw [decide_eq_false hk]
          walk_at "r"
          exact ⟨d, k + 1, n, _, _, _, hst, by rw [show ((k : Nat) : Int) + 1 = ((k + 1 : Nat) : Int) by omega], by omega, rfl⟩
      · rw [decide_eq_false hlen]
        walk_at "r"
        exact ⟨d, k + 1, n, _, _, _, hst, by rw [show ((k : Nat) : Int) + 1 = ((k + 1 : Nat) : Int) by omega], by omega, rfl⟩
  · rintro ρ ⟨d, k, n, s8, s9, s10, hst, hr, hkn, rfl⟩
    walk_at "r"
    refine ⟨xs, rfl, hst, by omega, hxb, fun d hst => ?_⟩
    walk_at "r"
    intro d hst
    walk_at "r"
    intro d hst
    walk_at "r"
    intro d hst
    rfl
end
end K16
namespace K16
open PySem PySem.Spec PyProof.Rows L2 Dn
def d_is_integer : He.DefD := ⟨("is_integer", none), "is_integer", "is_integer", defArgs s_is_integer, defBody s_is_integer, defScope s_is_integer, [], []⟩
def d_common_divisor : He.DefD := ⟨("common_divisor", none), "common_divisor", "common_divisor", defArgs s_common_divisor, defBody s_common_divisor, defScope s_common_divisor, [], []⟩
def d_fraction : He.DefD := ⟨("fraction", none), "fraction", "fraction", defArgs s_fraction, defBody s_fraction, defScope s_fraction, [], []⟩
def d_plus : He.DefD := ⟨("plus", none), "plus", "plus", defArgs s_plus, defBody s_plus, defScope s_plus, [], []⟩
def d_minus : He.DefD := ⟨("minus", none), "minus", "minus", defArgs s_minus, defBody s_minus, defScope s_minus, [], []⟩
def d_sum_of : He.DefD := ⟨("sum_of", none), "sum_of", "sum_of", defArgs s_sum_of, defBody s_sum_of, defScope s_sum_of, [], []⟩
def d_are_blocks : He.DefD := ⟨("are_blocks", none), "are_blocks", "are_blocks", defArgs s_are_blocks, defBody s_are_blocks, defScope s_are_blocks, [], []⟩
def d_least_height : He.DefD := ⟨("least_height", none), "least_height", "least_height", defArgs s_least_height, defBody s_least_height, defScope s_least_height, [], []⟩
def d_greedy : He.DefD := ⟨("greedy", none), "greedy", "greedy", defArgs s_greedy, defBody s_greedy, defScope s_greedy, [], []⟩
def d_evenest : He.DefD := ⟨("evenest", none), "evenest", "evenest", defArgs s_evenest, defBody s_evenest, defScope s_evenest, [], []⟩
def d_heights_of : He.DefD := ⟨("heights_of", none), "heights_of", "heights_of", defArgs s_heights_of, defBody s_heights_of, defScope s_heights_of, [], []⟩
def d_stretched : He.DefD := ⟨("stretched", none), "stretched", "stretched", defArgs s_stretched, defBody s_stretched, defScope s_stretched, [], []⟩
def d_on_grid : He.DefD := ⟨("on_grid", none), "on_grid", "on_grid", defArgs s_on_grid, defBody s_on_grid, defScope s_on_grid, [], []⟩
def d_wasted_on_grid : He.DefD := ⟨("wasted_on_grid", none), "wasted_on_grid", "wasted_on_grid", defArgs s_wasted_on_grid, defBody s_wasted_on_grid, defScope s_wasted_on_grid, [], []⟩
def d_side_by_side : He.DefD := ⟨("side_by_side", none), "side_by_side", "side_by_side", defArgs s_side_by_side, defBody s_side_by_side, defScope s_side_by_side, [], []⟩
def d_floats_of : He.DefD := ⟨("floats_of", none), "floats_of", "floats_of", defArgs s_floats_of, defBody s_floats_of, defScope s_floats_of, [], []⟩
def d_widths_for : He.DefD := ⟨("widths_for", none), "widths_for", "widths_for", defArgs s_widths_for, defBody s_widths_for, defScope s_widths_for, [], []⟩
def d_margins_of : He.DefD := ⟨("margins_of", none), "margins_of", "margins_of", defArgs s_margins_of, defBody s_margins_of, defScope s_margins_of, [], []⟩
def d_opposite : He.DefD := ⟨("opposite", none), "opposite", "opposite", defArgs s_opposite, defBody s_opposite, defScope s_opposite, [], []⟩
def d_read_order : He.DefD := ⟨("read_order", none), "read_order", "read_order", defArgs s_read_order, defBody s_read_order, defScope s_read_order, [], []⟩
def d_do_meet : He.DefD := ⟨("do_meet", none), "do_meet", "do_meet", defArgs s_do_meet, defBody s_do_meet, defScope s_do_meet, [], []⟩
def d_first_meeting : He.DefD := ⟨("first_meeting", none), "first_meeting", "first_meeting", defArgs s_first_meeting, defBody s_first_meeting, defScope s_first_meeting, [], []⟩
def d_threads_of : He.DefD := ⟨("threads_of", none), "threads_of", "threads_of", defArgs s_threads_of, defBody s_threads_of, defScope s_threads_of, [], []⟩
def d__law_draw : He.DefD := ⟨("_law_draw", none), "_law_draw", "_law_draw", defArgs s__law_draw, defBody s__law_draw, defScope s__law_draw, [], []⟩
def d__law_same : He.DefD := ⟨("_law_same", none), "_law_same", "_law_same", defArgs s__law_same, defBody s__law_same, defScope s__law_same, [], []⟩
def d__law_greedy : He.DefD := ⟨("_law_greedy", none), "_law_greedy", "_law_greedy", defArgs s__law_greedy, defBody s__law_greedy, defScope s__law_greedy, [], []⟩
def d__law_evenest : He.DefD := ⟨("_law_evenest", none), "_law_evenest", "_law_evenest", defArgs s__law_evenest, defBody s__law_evenest, defScope s__law_evenest, [], []⟩
def d__law_stretched : He.DefD := ⟨("_law_stretched", none), "_law_stretched", "_law_stretched", defArgs s__law_stretched, defBody s__law_stretched, defScope s__law_stretched, [], []⟩
def d__law_spaces : He.DefD := ⟨("_law_spaces", none), "_law_spaces", "_law_spaces", defArgs s__law_spaces, defBody s__law_spaces, defScope s__law_spaces, [], []⟩
def d__law_figures : He.DefD := ⟨("_law_figures", none), "_law_figures", "_law_figures", defArgs s__law_figures, defBody s__law_figures, defScope s__law_figures, [], []⟩
def d__law_pages : He.DefD := ⟨("_law_pages", none), "_law_pages", "_law_pages", defArgs s__law_pages, defBody s__law_pages, defScope s__law_pages, [], []⟩
def d__law_boxes : He.DefD := ⟨("_law_boxes", none), "_law_boxes", "_law_boxes", defArgs s__law_boxes, defBody s__law_boxes, defScope s__law_boxes, [], []⟩
def d_law : He.DefD := ⟨("law", none), "law", "law", defArgs s_law, defBody s_law, defScope s_law, [], []⟩
def fn : List He.DefD := ([d_is_integer, d_common_divisor, d_fraction, d_plus, d_minus, d_sum_of, d_are_blocks, d_least_height, d_greedy, d_evenest, d_heights_of, d_stretched, d_on_grid, d_wasted_on_grid, d_side_by_side, d_floats_of, d_widths_for, d_margins_of, d_opposite, d_read_order, d_do_meet, d_first_meeting, d_threads_of, d__law_draw, d__law_same, d__law_greedy, d__law_evenest, d__law_stretched, d__law_spaces, d__law_figures] ++ [d__law_pages, d__law_boxes, d_law])
def fa : List He.Fa := ([.glo "is_integer", .glo "common_divisor", .glo "fraction", .glo "plus", .glo "minus", .glo "sum_of", .glo "are_blocks", .glo "least_height", .glo "greedy", .glo "evenest", .glo "heights_of", .glo "stretched", .glo "on_grid", .glo "wasted_on_grid", .glo "side_by_side", .glo "floats_of", .glo "widths_for", .glo "margins_of", .glo "opposite", .glo "read_order", .glo "do_meet", .glo "first_meeting", .glo "threads_of", .glo "_law_draw", .glo "_law_same", .glo "_law_greedy", .glo "_law_evenest", .glo "_law_stretched", .glo "_law_spaces", .glo "_law_figures"] ++ [.glo "_law_pages", .glo "_law_boxes", .glo "law", .free "len", .free "range", .free "int", .free "isinstance", .free "sum", .free "any", .free "all", .free "enumerate", .free "sorted", .free "list", .free "tuple", .free "str", .free "max", .free "min", .free "zip", .free "dict", .free "abs", .free "reversed", .free "bool", .free "super", .free "ValueError", .glo "NoSuch", .exc "NoSuch", .exm "NoSuch" "NoSuch" true, .glo "TooLarge", .exc "TooLarge", .exm "TooLarge" "TooLarge" true] ++ [.int "MOST_BLOCKS" (60)])
def tf : List He.Defn := [("are_blocks", none), ("floats_of", none)]
abbrev Rw : PySem.W.OpenRow := PySem.W.OpenLaw.row PySem.Challenge.rw_linesfitted_k16_columns_that_no_others_b
abbrev hk : PySem.W.Hook := He.hookX 4 fa fn [] tf (fun _ => true)
def ob (s : PySem.W.SharedT) : He.AlX := He.obsX 4 fa fn [] tf (fun _ => true) (HandSHeadRun.getT s)
theorem ob_eq (s : PySem.W.SharedT) : ob s = hk.obs s.abs := He.obsX_eq (HandSHeadRun.getT_eq s)
def loose : List Str := ((["__name__", "LinesfittedError", "TooLarge", "NoSuch", "is_integer", "common_divisor", "fraction", "plus", "minus", "sum_of", "MOST_BLOCKS", "are_blocks", "least_height", "greedy", "evenest", "heights_of", "stretched", "on_grid", "wasted_on_grid", "side_by_side", "floats_of", "widths_for", "margins_of", "opposite", "read_order", "do_meet", "first_meeting", "threads_of", "_law_draw", "_law_same"] : List Str) ++ (["_law_greedy", "_law_evenest", "_law_stretched", "_law_spaces", "_law_figures", "_law_pages", "_law_boxes"] : List Str))
theorem run (w : World) : HandSHeadRun.RunEq Rw (PySem.W.view Rw.prog [40]) hk ob 4000 loose w := by
  intro os
  kernel_rfl
theorem gen_ofD {K : PySem.W.Frag} {x q : Str} {st : Stmt} {fd : FuncData} {p : He.Defn} {mg : Str → Option Value} {base : Heap} (F : FunD K x q (defArgs st) (defBody st) (defScope st) [] [] (He.fAd K p) fd) (hp : p ∈ tf) (hT : ∀ r ∈ tf.map (He.cT K), LamX.TabB base mg r.1 r.2) : GenT mg base ((tf.map (He.cT K)).map (·.2)) fd := by
  obtain ⟨oc, od, dV, kV, doc, pm, an, cdv, ct, osl, rfl, lk, hcd, _, _⟩ := F.ex
  obtain ⟨c, rfl⟩ := He.codeIn_ref hcd
  have e : He.codeOf K p = c := He.codeOf_eq lk rfl
  have hm : He.cT K p ∈ tf.map (He.cT K) := List.mem_map.mpr ⟨p, hp, rfl⟩
  have ht := hT _ hm
  refine ⟨c, (He.cT K p).2, rfl, List.mem_map.mpr ⟨_, hm, rfl⟩, ?_⟩
  have e1 : (He.cT K p).1 = c := e
  rw [e1] at ht
  exact ⟨ht.code, ht.bm, ht.gP⟩
theorem facts {P : Program} {w : World} {K : PySem.W.Frag} {h : Heap} {mg : Str → Option Value} {f : Addr} (X : K.In h) (G : h.Ns mainGlobals mg) (hfa : mg ("law" : Str) = some (.ref f)) (c : He.SaysD fa fn K) :
    ∃ fd : FuncData, (∀ (s : Shared) (v : Value), BindsTo s fd ⟨[v], []⟩ [("script", v)]) ∧ ∀ base : Heap, K.In base → base.Ns mainGlobals mg → (∀ p ∈ tf.map (He.cT K), LamX.TabB base mg p.1 p.2) → FnOk P w K mg base CX0 6 f fd ["script"] (spLawT K ((tf.map (He.cT K)).map (·.2))) := by
  have bl : ∀ x : Str, bnames.contains x = true → mg x = none := names_free fun x hx => by
    simp only [bnames, List.mem_cons, List.not_mem_nil, or_false] at hx
    rcases hx with rfl | rfl | rfl | rfl | rfl | rfl | rfl | rfl | rfl | rfl | rfl | rfl | rfl | rfl | rfl | rfl | rfl | rfl | rfl | rfl | rfl
    · exact He.free_ok X G (c.fact 33 (f := .free "len") rfl)
    · exact He.free_ok X G (c.fact 34 (f := .free "range") rfl)
    · exact He.free_ok X G (c.fact 35 (f := .free "int") rfl)
    · exact He.free_ok X G (c.fact 36 (f := .free "isinstance") rfl)
    · exact He.free_ok X G (c.fact 37 (f := .free "sum") rfl)
    · exact He.free_ok X G (c.fact 38 (f := .free "any") rfl)
    · exact He.free_ok X G (c.fact 39 (f := .free "all") rfl)
    · exact He.free_ok X G (c.fact 40 (f := .free "enumerate") rfl)
    · exact He.free_ok X G (c.fact 41 (f := .free "sorted") rfl)
    · exact He.free_ok X G (c.fact 42 (f := .free "list") rfl)
    · exact He.free_ok X G (c.fact 43 (f := .free "tuple") rfl)
    · exact He.free_ok X G (c.fact 44 (f := .free "str") rfl)
    · exact He.free_ok X G (c.fact 45 (f := .free "max") rfl)
    · exact He.free_ok X G (c.fact 46 (f := .free "min") rfl)
    · exact He.free_ok X G (c.fact 47 (f := .free "zip") rfl)
    · exact He.free_ok X G (c.fact 48 (f := .free "dict") rfl)
    · exact He.free_ok X G (c.fact 49 (f := .free "abs") rfl)
    · exact He.free_ok X G (c.fact 50 (f := .free "reversed") rfl)
    · exact He.free_ok X G (c.fact 51 (f := .free "bool") rfl)
    · exact He.free_ok X G (c.fact 52 (f := .free "super") rfl)
    · exact He.free_ok X G (c.fact 53 (f := .free "ValueError") rfl)
  have e_NoSuch := He.exc_ok (c.fact 55 (f := .exc "NoSuch") rfl)
  have x_NoSuch : ExcF K mg "NoSuch" (He.ga K "NoSuch") := ⟨He.glo_ok X G (c.fact 54 (f := .glo "NoSuch") rfl), e_NoSuch.1, e_NoSuch.2.1, e_NoSuch.2.2.1, e_NoSuch.2.2.2, He.exm_ok (c.fact 56 (f := .exm "NoSuch" "NoSuch" true) rfl)⟩
  have e_TooLarge := He.exc_ok (c.fact 58 (f := .exc "TooLarge") rfl)
  have x_TooLarge : ExcF K mg "TooLarge" (He.ga K "TooLarge") := ⟨He.glo_ok X G (c.fact 57 (f := .glo "TooLarge") rfl), e_TooLarge.1, e_TooLarge.2.1, e_TooLarge.2.2.1, e_TooLarge.2.2.2, He.exm_ok (c.fact 59 (f := .exm "TooLarge" "TooLarge" true) rfl)⟩
  have k_MOST_BLOCKS : ConI mg "MOST_BLOCKS" (60) := ⟨He.int_ok X G (c.fact 60 (f := .int "MOST_BLOCKS" (60)) rfl)⟩
  obtain ⟨fd_is_integer, D_is_integer⟩ := c.def_ 0 (d := d_is_integer) rfl
  have F_is_integer := fun_ofD (st := s_is_integer) D_is_integer
  have a_is_integer : mg "is_integer" = _ := He.glo_ok X G (c.fact 0 (f := .glo "is_integer") rfl)
  have b_is_integer := F_is_integer.binds (ps := ["value", "low", "high"]) fun _ _ _ _ _ _ us hl => match us, hl with | [_, _, _], _ => rfl
  obtain ⟨fd_common_divisor, D_common_divisor⟩ := c.def_ 1 (d := d_common_divisor) rfl
  have F_common_divisor := fun_ofD (st := s_common_divisor) D_common_divisor
  have a_common_divisor : mg "common_divisor" = _ := He.glo_ok X G (c.fact 1 (f := .glo "common_divisor") rfl)
  have b_common_divisor := F_common_divisor.binds (ps := ["one", "two"]) fun _ _ _ _ _ _ us hl => match us, hl with | [_, _], _ => rfl
  obtain ⟨fd_fraction, D_fraction⟩ := c.def_ 2 (d := d_fraction) rfl
  have F_fraction := fun_ofD (st := s_fraction) D_fraction
  have a_fraction : mg "fraction" = _ := He.glo_ok X G (c.fact 2 (f := .glo "fraction") rfl)
  have b_fraction := F_fraction.binds (ps := ["over", "under"]) fun _ _ _ _ _ _ us hl => match us, hl with | [_, _], _ => rfl
  obtain ⟨fd_plus, D_plus⟩ := c.def_ 3 (d := d_plus) rfl
  have F_plus := fun_ofD (st := s_plus) D_plus
  have a_plus : mg "plus" = _ := He.glo_ok X G (c.fact 3 (f := .glo "plus") rfl)
  have b_plus := F_plus.binds (ps := ["one", "two"]) fun _ _ _ _ _ _ us hl => match us, hl with | [_, _], _ => rfl
  obtain ⟨fd_minus, D_minus⟩ := c.def_ 4 (d := d_minus) rfl
  have F_minus := fun_ofD (st := s_minus) D_minus
  have a_minus : mg "minus" = _ := He.glo_ok X G (c.fact 4 (f := .glo "minus") rfl)
  have b_minus := F_minus.binds (ps := ["one", "two"]) fun _ _ _ _ _ _ us hl => match us, hl with | [_, _], _ => rfl
  obtain ⟨fd_sum_of, D_sum_of⟩ := c.def_ 5 (d := d_sum_of) rfl
  have F_sum_of := fun_ofD (st := s_sum_of) D_sum_of
  have a_sum_of : mg "sum_of" = _ := He.glo_ok X G (c.fact 5 (f := .glo "sum_of") rfl)
  have b_sum_of := F_sum_of.binds (ps := ["values"]) fun _ _ _ _ _ _ us hl => match us, hl with | [_], _ => rfl
  obtain ⟨fd_are_blocks, D_are_blocks⟩ := c.def_ 6 (d := d_are_blocks) rfl
  have F_are_blocks := fun_ofD (st := s_are_blocks) D_are_blocks
  have a_are_blocks : mg "are_blocks" = _ := He.glo_ok X G (c.fact 6 (f := .glo "are_blocks") rfl)
  have b_are_blocks := F_are_blocks.binds (ps := ["value"]) fun _ _ _ _ _ _ us hl => match us, hl with | [_], _ => rfl
  obtain ⟨fd_least_height, D_least_height⟩ := c.def_ 7 (d := d_least_height) rfl
  have F_least_height := fun_ofD (st := s_least_height) D_least_height
  have a_least_height : mg "least_height" = _ := He.glo_ok X G (c.fact 7 (f := .glo "least_height") rfl)
  have b_least_height := F_least_height.binds (ps := ["blocks", "columns"]) fun _ _ _ _ _ _ us hl => match us, hl with | [_, _], _ => rfl
  obtain ⟨fd_greedy, D_greedy⟩ := c.def_ 8 (d := d_greedy) rfl
  have F_greedy := fun_ofD (st := s_greedy) D_greedy
  have a_greedy : mg "greedy" = _ := He.glo_ok X G (c.fact 8 (f := .glo "greedy") rfl)
  have b_greedy := F_greedy.binds (ps := ["blocks", "height"]) fun _ _ _ _ _ _ us hl => match us, hl with | [_, _], _ => rfl
  obtain ⟨fd_evenest, D_evenest⟩ := c.def_ 9 (d := d_evenest) rfl
  have F_evenest := fun_ofD (st := s_evenest) D_evenest
  have a_evenest : mg "evenest" = _ := He.glo_ok X G (c.fact 9 (f := .glo "evenest") rfl)
  have b_evenest := F_evenest.binds (ps := ["blocks", "columns"]) fun _ _ _ _ _ _ us hl => match us, hl with | [_, _], _ => rfl
  obtain ⟨fd_heights_of, D_heights_of⟩ := c.def_ 10 (d := d_heights_of) rfl
  have F_heights_of := fun_ofD (st := s_heights_of) D_heights_of
  have a_heights_of : mg "heights_of" = _ := He.glo_ok X G (c.fact 10 (f := .glo "heights_of") rfl)
  have b_heights_of := F_heights_of.binds (ps := ["blocks", "starts"]) fun _ _ _ _ _ _ us hl => match us, hl with | [_, _], _ => rfl
  obtain ⟨fd_stretched, D_stretched⟩ := c.def_ 11 (d := d_stretched) rfl
  have F_stretched := fun_ofD (st := s_stretched) D_stretched
  have a_stretched : mg "stretched" = _ := He.glo_ok X G (c.fact 11 (f := .glo "stretched") rfl)
  have b_stretched := F_stretched.binds (ps := ["blocks", "glues", "height"]) fun _ _ _ _ _ _ us hl => match us, hl with | [_, _, _], _ => rfl
  obtain ⟨fd_on_grid, D_on_grid⟩ := c.def_ 12 (d := d_on_grid) rfl
  have F_on_grid := fun_ofD (st := s_on_grid) D_on_grid
  have a_on_grid : mg "on_grid" = _ := He.glo_ok X G (c.fact 12 (f := .glo "on_grid") rfl)
  have b_on_grid := F_on_grid.binds (ps := ["blocks", "lead"]) fun _ _ _ _ _ _ us hl => match us, hl with | [_, _], _ => rfl
  obtain ⟨fd_wasted_on_grid, D_wasted_on_grid⟩ := c.def_ 13 (d := d_wasted_on_grid) rfl
  have F_wasted_on_grid := fun_ofD (st := s_wasted_on_grid) D_wasted_on_grid
  have a_wasted_on_grid : mg "wasted_on_grid" = _ := He.glo_ok X G (c.fact 13 (f := .glo "wasted_on_grid") rfl)
  have b_wasted_on_grid := F_wasted_on_grid.binds (ps := ["blocks", "lead"]) fun _ _ _ _ _ _ us hl => match us, hl with | [_, _], _ => rfl
  obtain ⟨fd_side_by_side, D_side_by_side⟩ := c.def_ 14 (d := d_side_by_side) rfl
  have F_side_by_side := fun_ofD (st := s_side_by_side) D_side_by_side
  have a_side_by_side : mg "side_by_side" = _ := He.glo_ok X G (c.fact 14 (f := .glo "side_by_side") rfl)
  have b_side_by_side := F_side_by_side.binds (ps := ["left", "right"]) fun _ _ _ _ _ _ us hl => match us, hl with | [_, _], _ => rfl
  obtain ⟨fd_floats_of, D_floats_of⟩ := c.def_ 15 (d := d_floats_of) rfl
  have F_floats_of := fun_ofD (st := s_floats_of) D_floats_of
  have a_floats_of : mg "floats_of" = _ := He.glo_ok X G (c.fact 15 (f := .glo "floats_of") rfl)
  have b_floats_of := F_floats_of.binds (ps := ["lines", "figures", "height"]) fun _ _ _ _ _ _ us hl => match us, hl with | [_, _, _], _ => rfl
  obtain ⟨fd_widths_for, D_widths_for⟩ := c.def_ 16 (d := d_widths_for) rfl
  have F_widths_for := fun_ofD (st := s_widths_for) D_widths_for
  have a_widths_for : mg "widths_for" = _ := He.glo_ok X G (c.fact 16 (f := .glo "widths_for") rfl)
  have b_widths_for := F_widths_for.binds (ps := ["wide", "columns", "gutter"]) fun _ _ _ _ _ _ us hl => match us, hl with | [_, _, _], _ => rfl
  obtain ⟨fd_margins_of, D_margins_of⟩ := c.def_ 17 (d := d_margins_of) rfl
  have F_margins_of := fun_ofD (st := s_margins_of) D_margins_of
  have a_margins_of : mg "margins_of" = _ := He.glo_ok X G (c.fact 17 (f := .glo "margins_of") rfl)
  have b_margins_of := F_margins_of.binds (ps := ["page", "block", "ratio"]) fun _ _ _ _ _ _ us hl => match us, hl with | [_, _, _], _ => rfl
  obtain ⟨fd_opposite, D_opposite⟩ := c.def_ 18 (d := d_opposite) rfl
  have F_opposite := fun_ofD (st := s_opposite) D_opposite
  have a_opposite : mg "opposite" = _ := He.glo_ok X G (c.fact 18 (f := .glo "opposite") rfl)
  have b_opposite := F_opposite.binds (ps := ["page", "block", "place"]) fun _ _ _ _ _ _ us hl => match us, hl with | [_, _, _], _ => rfl
  obtain ⟨fd_read_order, D_read_order⟩ := c.def_ 19 (d := d_read_order) rfl
  have F_read_order := fun_ofD (st := s_read_order) D_read_order
  have a_read_order : mg "read_order" = _ := He.glo_ok X G (c.fact 19 (f := .glo "read_order") rfl)
  have b_read_order := F_read_order.binds (ps := ["boxes"]) fun _ _ _ _ _ _ us hl => match us, hl with | [_], _ => rfl
  obtain ⟨fd_do_meet, D_do_meet⟩ := c.def_ 20 (d := d_do_meet) rfl
  have F_do_meet := fun_ofD (st := s_do_meet) D_do_meet
  have a_do_meet : mg "do_meet" = _ := He.glo_ok X G (c.fact 20 (f := .glo "do_meet") rfl)
  have b_do_meet := F_do_meet.binds (ps := ["one", "two"]) fun _ _ _ _ _ _ us hl => match us, hl with | [_, _], _ => rfl
  obtain ⟨fd_first_meeting, D_first_meeting⟩ := c.def_ 21 (d := d_first_meeting) rfl
  have F_first_meeting := fun_ofD (st := s_first_meeting) D_first_meeting
  have a_first_meeting : mg "first_meeting" = _ := He.glo_ok X G (c.fact 21 (f := .glo "first_meeting") rfl)
  have b_first_meeting := F_first_meeting.binds (ps := ["boxes"]) fun _ _ _ _ _ _ us hl => match us, hl with | [_], _ => rfl
  obtain ⟨fd_threads_of, D_threads_of⟩ := c.def_ 22 (d := d_threads_of) rfl
  have F_threads_of := fun_ofD (st := s_threads_of) D_threads_of
  have a_threads_of : mg "threads_of" = _ := He.glo_ok X G (c.fact 22 (f := .glo "threads_of") rfl)
  have b_threads_of := F_threads_of.binds (ps := ["columns", "lines"]) fun _ _ _ _ _ _ us hl => match us, hl with | [_, _], _ => rfl
  obtain ⟨fd__law_draw, D__law_draw⟩ := c.def_ 23 (d := d__law_draw) rfl
  have F__law_draw := fun_ofD (st := s__law_draw) D__law_draw
  have a__law_draw : mg "_law_draw" = _ := He.glo_ok X G (c.fact 23 (f := .glo "_law_draw") rfl)
  have b__law_draw := F__law_draw.binds (ps := ["state", "limit"]) fun _ _ _ _ _ _ us hl => match us, hl with | [_, _], _ => rfl
  obtain ⟨fd__law_same, D__law_same⟩ := c.def_ 24 (d := d__law_same) rfl
  have F__law_same := fun_ofD (st := s__law_same) D__law_same
  have a__law_same : mg "_law_same" = _ := He.glo_ok X G (c.fact 24 (f := .glo "_law_same") rfl)
  have b__law_same := F__law_same.binds (ps := ["told", "due"]) fun _ _ _ _ _ _ us hl => match us, hl with | [_, _], _ => rfl
  obtain ⟨fd__law_greedy, D__law_greedy⟩ := c.def_ 25 (d := d__law_greedy) rfl
  have F__law_greedy := fun_ofD (st := s__law_greedy) D__law_greedy
  have a__law_greedy : mg "_law_greedy" = _ := He.glo_ok X G (c.fact 25 (f := .glo "_law_greedy") rfl)
  have b__law_greedy := F__law_greedy.binds (ps := ["blocks", "height"]) fun _ _ _ _ _ _ us hl => match us, hl with | [_, _], _ => rfl
  obtain ⟨fd__law_evenest, D__law_evenest⟩ := c.def_ 26 (d := d__law_evenest) rfl
  have F__law_evenest := fun_ofD (st := s__law_evenest) D__law_evenest
  have a__law_evenest : mg "_law_evenest" = _ := He.glo_ok X G (c.fact 26 (f := .glo "_law_evenest") rfl)
  have b__law_evenest := F__law_evenest.binds (ps := ["blocks", "columns"]) fun _ _ _ _ _ _ us hl => match us, hl with | [_, _], _ => rfl
  obtain ⟨fd__law_stretched, D__law_stretched⟩ := c.def_ 27 (d := d__law_stretched) rfl
  have F__law_stretched := fun_ofD (st := s__law_stretched) D__law_stretched
  have a__law_stretched : mg "_law_stretched" = _ := He.glo_ok X G (c.fact 27 (f := .glo "_law_stretched") rfl)
  have b__law_stretched := F__law_stretched.binds (ps := ["blocks", "glues", "height"]) fun _ _ _ _ _ _ us hl => match us, hl with | [_, _, _], _ => rfl
  obtain ⟨fd__law_spaces, D__law_spaces⟩ := c.def_ 28 (d := d__law_spaces) rfl
  have F__law_spaces := fun_ofD (st := s__law_spaces) D__law_spaces
  have a__law_spaces : mg "_law_spaces" = _ := He.glo_ok X G (c.fact 28 (f := .glo "_law_spaces") rfl)
  have b__law_spaces := F__law_spaces.binds (ps := ["state", "blocks"]) fun _ _ _ _ _ _ us hl => match us, hl with | [_, _], _ => rfl
  obtain ⟨fd__law_figures, D__law_figures⟩ := c.def_ 29 (d := d__law_figures) rfl
  have F__law_figures := fun_ofD (st := s__law_figures) D__law_figures
  have a__law_figures : mg "_law_figures" = _ := He.glo_ok X G (c.fact 29 (f := .glo "_law_figures") rfl)
  have b__law_figures := F__law_figures.binds (ps := ["state"]) fun _ _ _ _ _ _ us hl => match us, hl with | [_], _ => rfl
  obtain ⟨fd__law_pages, D__law_pages⟩ := c.def_ 30 (d := d__law_pages) rfl
  have F__law_pages := fun_ofD (st := s__law_pages) D__law_pages
  have a__law_pages : mg "_law_pages" = _ := He.glo_ok X G (c.fact 30 (f := .glo "_law_pages") rfl)
  have b__law_pages := F__law_pages.binds (ps := ["state"]) fun _ _ _ _ _ _ us hl => match us, hl with | [_], _ => rfl
  obtain ⟨fd__law_boxes, D__law_boxes⟩ := c.def_ 31 (d := d__law_boxes) rfl
  have F__law_boxes := fun_ofD (st := s__law_boxes) D__law_boxes
  have a__law_boxes : mg "_law_boxes" = _ := He.glo_ok X G (c.fact 31 (f := .glo "_law_boxes") rfl)
  have b__law_boxes := F__law_boxes.binds (ps := ["state"]) fun _ _ _ _ _ _ us hl => match us, hl with | [_], _ => rfl
  obtain ⟨fd_law, D_law⟩ := c.def_ 32 (d := d_law) rfl
  have F_law := fun_ofD (st := s_law) D_law
  have a_law : mg "law" = _ := He.glo_ok X G (c.fact 32 (f := .glo "law") rfl)
  have e := hfa.symm.trans a_law
  cases e
  have b := FunD.bindsA (ps := ["script"]) D_law fun _ _ _ _ _ _ us hl => match us, hl with | [_], _ => rfl
  refine ⟨fd_law, fun s v => b s [v] rfl, fun base _ _ hT => fnok_tab ?_⟩
  have g_are_blocks := gen_ofD (st := s_are_blocks) D_are_blocks (by decide) hT
  have g_floats_of := gen_ofD (st := s_floats_of) D_floats_of (by decide) hT
  have p_is_integer := ok_is_integer (P := P) (w := w) (base := base) (T := (tf.map (He.cT K)).map (·.2)) F_is_integer a_is_integer b_is_integer bl
  have p_common_divisor := ok_common_divisor (P := P) (w := w) (base := base) (T := (tf.map (He.cT K)).map (·.2)) F_common_divisor a_common_divisor b_common_divisor bl
  have p_greedy := ok_greedy (P := P) (w := w) (base := base) (T := (tf.map (He.cT K)).map (·.2)) F_greedy a_greedy b_greedy bl x_NoSuch
  have p_evenest := ok_evenest (P := P) (w := w) (base := base) (T := (tf.map (He.cT K)).map (·.2)) F_evenest a_evenest b_evenest bl x_TooLarge x_NoSuch k_MOST_BLOCKS
  have p_heights_of := ok_heights_of (P := P) (w := w) (base := base) (T := (tf.map (He.cT K)).map (·.2)) F_heights_of a_heights_of b_heights_of bl
  have p_on_grid := ok_on_grid (P := P) (w := w) (base := base) (T := (tf.map (He.cT K)).map (·.2)) F_on_grid a_on_grid b_on_grid bl
  have p_side_by_side := ok_side_by_side (P := P) (w := w) (base := base) (T := (tf.map (He.cT K)).map (·.2)) F_side_by_side a_side_by_side b_side_by_side bl
  have p_widths_for := ok_widths_for (P := P) (w := w) (base := base) (T := (tf.map (He.cT K)).map (·.2)) F_widths_for a_widths_for b_widths_for bl x_NoSuch
  have p_margins_of := ok_margins_of (P := P) (w := w) (base := base) (T := (tf.map (He.cT K)).map (·.2)) F_margins_of a_margins_of b_margins_of bl x_NoSuch
  have p_opposite := ok_opposite (P := P) (w := w) (base := base) (T := (tf.map (He.cT K)).map (·.2)) F_opposite a_opposite b_opposite bl
  have p_read_order := ok_read_order (P := P) (w := w) (base := base) (T := (tf.map (He.cT K)).map (·.2)) F_read_order a_read_order b_read_order bl
  have p_do_meet := ok_do_meet (P := P) (w := w) (base := base) (T := (tf.map (He.cT K)).map (·.2)) F_do_meet a_do_meet b_do_meet bl
  have p_threads_of := ok_threads_of (P := P) (w := w) (base := base) (T := (tf.map (He.cT K)).map (·.2)) F_threads_of a_threads_of b_threads_of bl x_NoSuch
  have p__law_draw := ok__law_draw (P := P) (w := w) (base := base) (T := (tf.map (He.cT K)).map (·.2)) F__law_draw a__law_draw b__law_draw bl
  have p__law_same := ok__law_same (P := P) (w := w) (base := base) (T := (tf.map (He.cT K)).map (·.2)) F__law_same a__law_same b__law_same bl
  have p_fraction := ok_fraction (P := P) (w := w) (base := base) (T := (tf.map (He.cT K)).map (·.2)) F_fraction a_fraction b_fraction bl x_NoSuch p_common_divisor
  have p_least_height := ok_least_height (P := P) (w := w) (base := base) (T := (tf.map (He.cT K)).map (·.2)) F_least_height a_least_height b_least_height bl p_greedy
  have p_wasted_on_grid := ok_wasted_on_grid (P := P) (w := w) (base := base) (T := (tf.map (He.cT K)).map (·.2)) F_wasted_on_grid a_wasted_on_grid b_wasted_on_grid bl p_on_grid
  have p_floats_of := ok_floats_of (P := P) (w := w) (base := base) (T := (tf.map (He.cT K)).map (·.2)) F_floats_of a_floats_of b_floats_of bl x_NoSuch g_floats_of
  have p_first_meeting := ok_first_meeting (P := P) (w := w) (base := base) (T := (tf.map (He.cT K)).map (·.2)) F_first_meeting a_first_meeting b_first_meeting bl p_do_meet
  have p__law_greedy := ok__law_greedy (P := P) (w := w) (base := base) (T := (tf.map (He.cT K)).map (·.2)) F__law_greedy a__law_greedy b__law_greedy bl x_NoSuch p_greedy
  have p__law_evenest := ok__law_evenest (P := P) (w := w) (base := base) (T := (tf.map (He.cT K)).map (·.2)) F__law_evenest a__law_evenest b__law_evenest bl x_NoSuch p_evenest
  have p__law_pages := ok__law_pages (P := P) (w := w) (base := base) (T := (tf.map (He.cT K)).map (·.2)) F__law_pages a__law_pages b__law_pages bl p__law_draw p_widths_for p_margins_of p_opposite p_threads_of
  have p_plus := ok_plus (P := P) (w := w) (base := base) (T := (tf.map (He.cT K)).map (·.2)) F_plus a_plus b_plus bl p_fraction
  have p_minus := ok_minus (P := P) (w := w) (base := base) (T := (tf.map (He.cT K)).map (·.2)) F_minus a_minus b_minus bl p_fraction
  have p_are_blocks := ok_are_blocks (P := P) (w := w) (base := base) (T := (tf.map (He.cT K)).map (·.2)) F_are_blocks a_are_blocks b_are_blocks bl g_are_blocks p_is_integer
  have p_stretched := ok_stretched (P := P) (w := w) (base := base) (T := (tf.map (He.cT K)).map (·.2)) F_stretched a_stretched b_stretched bl x_NoSuch p_fraction
  have p__law_figures := ok__law_figures (P := P) (w := w) (base := base) (T := (tf.map (He.cT K)).map (·.2)) F__law_figures a__law_figures b__law_figures bl p__law_draw p_floats_of
  have p__law_boxes := ok__law_boxes (P := P) (w := w) (base := base) (T := (tf.map (He.cT K)).map (·.2)) F__law_boxes a__law_boxes b__law_boxes bl p__law_draw p_read_order p_first_meeting p__law_same p_do_meet
  have p_sum_of := ok_sum_of (P := P) (w := w) (base := base) (T := (tf.map (He.cT K)).map (·.2)) F_sum_of a_sum_of b_sum_of bl p_plus
  have p__law_stretched := ok__law_stretched (P := P) (w := w) (base := base) (T := (tf.map (He.cT K)).map (·.2)) F__law_stretched a__law_stretched b__law_stretched bl x_NoSuch p_stretched
  have p__law_spaces := ok__law_spaces (P := P) (w := w) (base := base) (T := (tf.map (He.cT K)).map (·.2)) F__law_spaces a__law_spaces b__law_spaces bl p__law_draw p__law_stretched p_plus p_sum_of p_minus p_fraction p_on_grid p_side_by_side p_wasted_on_grid
  exact ok_law F_law bl p__law_draw p_least_height p__law_greedy p__law_same p_are_blocks p_heights_of p__law_evenest p__law_spaces p__law_figures p__law_pages p__law_boxes
end K16
open PySem PySem.W PySem.Calls PyProof.Rows
set_option maxRecDepth 100000 in
set_option maxHeartbeats 0 in
theorem PySem.Challenge.cw_linesfitted_k16_columns_that_no_others_b_holds : PySem.Challenge.rw_linesfitted_k16_columns_that_no_others_b.Holds := by
  w_on; o_law
  refine HandSHeadRun.head_any (r := OpenLaw.row PySem.Challenge.rw_linesfitted_k16_columns_that_no_others_b) (q := view (OpenLaw.row PySem.Challenge.rw_linesfitted_k16_columns_that_no_others_b).prog [40]) (H := K16.hk) (ob := K16.ob) (M := 4000) (loose := K16.loose) (d := HandSHeadRun.topDef (OpenLaw.row PySem.Challenge.rw_linesfitted_k16_columns_that_no_others_b).prog 40) (kwd := []) K16.ob_eq
    (by kernel_rfl) (fun s => by kernel_rfl) K16.run (by kernel_rfl) (by kernel_rfl) (by kernel_rfl) (by rfl) (by first | assumption | decide +kernel) (by decide +kernel) ⟨rfl, rfl, rfl, rfl, rfl, by decide +kernel⟩ ?hw ?hc
  case hw => w_witness2
  case hc =>
    refine LamX.walk_ofTsE (l := PySem.Challenge.rw_linesfitted_k16_columns_that_no_others_b) (n := 63) (k := 6) (x := "script") (CX := fun _ => L2.CX0) rfl (by decide) (by kernel_rfl) ⟨rfl, by decide, by decide⟩ ?F (fun _ _ _ _ _ z => z)
    intro w mg fa h Y G hmg0
    obtain ⟨K, KX, c⟩ := Y
    have hmg : mg ("law" : PySem.Str) = some (.ref fa) := by
      have e : (HandSHeadRun.topDef (OpenLaw.row PySem.Challenge.rw_linesfitted_k16_columns_that_no_others_b).prog 40).name = ("law" : PySem.Str) := by kernel_rfl
      rw [← e]
      exact hmg0
    obtain ⟨fd, hb, hF⟩ := K16.facts (P := (PySem.Challenge.rw_linesfitted_k16_columns_that_no_others_b).prog) (w := w) KX G hmg c.t.d
    refine ⟨K, KX, fd, K16.tf.map (He.cT K), Dn.spLawT K ((K16.tf.map (He.cT K)).map (·.2)), ?_, ?_, ?_, hb, ?_, hF⟩
    · intro p hp
      obtain ⟨q, hq, rfl⟩ := List.mem_map.mp hp
      exact c.empty q hq
    · intro p hp
      obtain ⟨q, hq, rfl⟩ := List.mem_map.mp hp
      exact c.out q hq
    · intro p hp
      obtain ⟨q, hq, rfl⟩ := List.mem_map.mp hp
      exact PySem.W.codeHd_of_K KX (c.hd q hq)
    · intro H a ns hl _ hT hS
      refine ⟨fun P hP => ?_, a, ns, rfl, hS, hl, fun _ => rfl⟩
      obtain ⟨p, hp, rfl⟩ := List.mem_map.mp hP
      exact hT p hp
