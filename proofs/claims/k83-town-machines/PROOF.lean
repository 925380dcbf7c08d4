import PyProof.Rows.All
import Wide.All
import OpenK.AllK
import Wide.FinOn
import HandS.ForMost
import HandS.ForExc
import HandS.IsInst
import HandS.TupAny
import HandS.Deep
import HandS.Conv
import HandS.Rev
import HandS.CallSlots
import HandS.Wide
import HandS.SortInts
import HandS.Gcd
import HandS.Style
import HandS.Walk
import HandS.FStr
import HandS.Defaults
import HandS.ExcOwn
import HandS.MakeKw
import HandS.MakeKwOnly
import HandS.WordsExc
import PySem.Challenge.RW_rareslips_k83_town_machines
set_option Elab.async false
set_option linter.all false
set_option maxRecDepth 100000
set_option maxHeartbeats 4000000
set_option autoImplicit false
/-! PuA: data without a heap, how a value in the heap stands for such data, and what a statement's run keeps. -/
namespace Pu
open PySem PySem.Spec PyProof.Rows L2
abbrev Frg := PySem.W.Frag

/-- plain data -/
inductive D where
  | non | bl (b : Bool) | int (i : Int) | str (x : Str)
  | lst (xs : List D) | tup (xs : List D) | frl (xs : List D) | ins (c : Str) (ns : List Str) (xs : List D)

inductive Res (α : Type) where
  | ok (a : α) | exc (c : Str) (ns : List Str) (ds : List D) | stuck
def Res.bind {α β : Type} : Res α → (α → Res β) → Res β
  | .ok a, f => f a
  | .exc c ns ds, _ => .exc c ns ds
  | .stuck, _ => .stuck
instance : Monad Res where
  pure := .ok
  bind := Res.bind
def Res.ofO {α : Type} : Option α → Res α
  | some a => .ok a
  | none => .stuck

abbrev ClT := Str → Option Addr

mutual
def Rep (K : Frg) (Cl : ClT) (H : Hp) : D → V → Prop
  | .non, v => v = .non
  | .bl b, v => v = .bl b
  | .int i, v => v = .int i
  | .str x, v => v = .str x
  | .lst ds, v => ∃ a xs, v = .ref a ∧ H a = some (.lst xs) ∧ Reps K Cl H ds xs
  | .frl ds, v => ∃ a xs, v = .ref a ∧ SqL K H a xs ∧ Reps K Cl H ds xs
  | .tup ds, v => ∃ a xs, v = .ref a ∧ SqT K H a xs ∧ Reps K Cl H ds xs
  | .ins c ns ds, v => ∃ a C dx xs, v = .ref a ∧ Cl c = some C ∧ H a = some (.ins C dx (ns.zip xs)) ∧ ns.length = xs.length ∧ Reps K Cl H ds xs
def Reps (K : Frg) (Cl : ClT) (H : Hp) : List D → List V → Prop
  | [], vs => vs = []
  | d :: ds, vs => ∃ v r, vs = v :: r ∧ Rep K Cl H d v ∧ Reps K Cl H ds r
end

theorem Same.tup {K : Frg} {H H' : Hp} {a : Addr} {xs : List V} (e : Same H H') (h : SqT K H a xs) : SqT K H' a xs := by
  rcases h with (h | ⟨o, h⟩) | h
  · exact .inl (.inl (e _ _ h))
  · exact .inl (.inr ⟨o, e _ _ h⟩)
  · exact .inr h

section
variable {K : Frg} {Cl : ClT}
mutual
theorem Rep.mono {H H' : Hp} (s : Same H H') : ∀ (d : D) (v : V), Rep K Cl H d v → Rep K Cl H' d v
  | .non, _, h => by simpa only [Rep] using h
  | .bl _, _, h => by simpa only [Rep] using h
  | .int _, _, h => by simpa only [Rep] using h
  | .str _, _, h => by simpa only [Rep] using h
  | .lst ds, v, h => by
    simp only [Rep] at h ⊢
    obtain ⟨a, xs, e, q, r⟩ := h
    exact ⟨a, xs, e, s _ _ q, Reps.mono s ds xs r⟩
  | .frl ds, v, h => by
    simp only [Rep] at h ⊢
    obtain ⟨a, xs, e, q, r⟩ := h
    exact ⟨a, xs, e, s.seq q, Reps.mono s ds xs r⟩
  | .tup ds, v, h => by
    simp only [Rep] at h ⊢
    obtain ⟨a, xs, e, q, r⟩ := h
    exact ⟨a, xs, e, Same.tup s q, Reps.mono s ds xs r⟩
  | .ins c ns ds, v, h => by
    simp only [Rep] at h ⊢
    obtain ⟨a, C, dx, xs, e, c, q, l, r⟩ := h
    exact ⟨a, C, dx, xs, e, c, s _ _ q, l, Reps.mono s ds xs r⟩
theorem Reps.mono {H H' : Hp} (s : Same H H') : ∀ (ds : List D) (vs : List V), Reps K Cl H ds vs → Reps K Cl H' ds vs
  | [], _, h => by simpa only [Reps] using h
  | d :: ds, vs, h => by
    simp only [Reps] at h ⊢
    obtain ⟨v, r, e, h1, h2⟩ := h
    exact ⟨v, r, e, Rep.mono s d v h1, Reps.mono s ds r h2⟩
end
theorem Reps.nil {H : Hp} : Reps K Cl H [] [] := by simp only [Reps]
theorem Reps.cons {H : Hp} {d : D} {ds : List D} {v : V} {vs : List V} (h : Rep K Cl H d v) (t : Reps K Cl H ds vs) : Reps K Cl H (d :: ds) (v :: vs) := by
  simp only [Reps]
  exact ⟨v, vs, rfl, h, t⟩
theorem Reps.length {H : Hp} : ∀ {ds : List D} {vs : List V}, Reps K Cl H ds vs → ds.length = vs.length
  | [], vs, h => by
    simp only [Reps] at h
    subst h
    rfl
  | d :: ds, vs, h => by
    simp only [Reps] at h
    obtain ⟨v, r, rfl, _, h2⟩ := h
    rw [List.length_cons, List.length_cons, Reps.length h2]
theorem Reps.get {H : Hp} : ∀ {ds : List D} {vs : List V} {i : Nat} {d : D}, Reps K Cl H ds vs → ds[i]? = some d → ∃ v, vs[i]? = some v ∧ Rep K Cl H d v
  | [], _, i, d, _, e => by simp at e
  | d :: ds, vs, 0, d', h, e => by
    simp only [Reps] at h
    obtain ⟨v, r, rfl, h1, _⟩ := h
    simp at e
    subst e
    exact ⟨v, rfl, h1⟩
  | d :: ds, vs, i + 1, d', h, e => by
    simp only [Reps] at h
    obtain ⟨v, r, rfl, _, h2⟩ := h
    obtain ⟨w, e1, e2⟩ := Reps.get (i := i) (d := d') h2 (by simpa using e)
    exact ⟨w, by simpa using e1, e2⟩
theorem Reps.getV {H : Hp} : ∀ {ds : List D} {vs : List V} {i : Nat} {v : V}, Reps K Cl H ds vs → vs[i]? = some v → ∃ d, ds[i]? = some d ∧ Rep K Cl H d v
  | [], vs, i, v, h, e => by
    simp only [Reps] at h
    subst h
    simp at e
  | d :: ds, vs, 0, v, h, e => by
    simp only [Reps] at h
    obtain ⟨w, r, rfl, h1, _⟩ := h
    simp at e
    subst e
    exact ⟨d, rfl, h1⟩
  | d :: ds, vs, i + 1, v, h, e => by
    simp only [Reps] at h
    obtain ⟨w, r, rfl, _, h2⟩ := h
    obtain ⟨w', e1, e2⟩ := Reps.getV (i := i) (v := v) h2 (by simpa using e)
    exact ⟨w', by simpa using e1, e2⟩
theorem Reps.append {H : Hp} : ∀ {ds es : List D} {vs ws : List V}, Reps K Cl H ds vs → Reps K Cl H es ws → Reps K Cl H (ds ++ es) (vs ++ ws)
  | [], es, vs, ws, h, t => by
    simp only [Reps] at h
    subst h
    exact t
  | d :: ds, es, vs, ws, h, t => by
    simp only [Reps] at h
    obtain ⟨v, r, rfl, h1, h2⟩ := h
    exact Reps.cons h1 (Reps.append h2 t)
theorem Reps.one {H : Hp} {d : D} {v : V} (h : Rep K Cl H d v) : Reps K Cl H [d] [v] := Reps.cons h Reps.nil
theorem Reps.take {H : Hp} : ∀ {ds : List D} {vs : List V} (n : Nat), Reps K Cl H ds vs → Reps K Cl H (ds.take n) (vs.take n)
  | ds, vs, 0, _ => by simpa using Reps.nil
  | [], vs, n + 1, h => by
    simp only [Reps] at h
    subst h
    simpa using Reps.nil
  | d :: ds, vs, n + 1, h => by
    simp only [Reps] at h
    obtain ⟨v, r, rfl, h1, h2⟩ := h
    exact Reps.cons h1 (Reps.take n h2)
theorem Reps.drop {H : Hp} : ∀ {ds : List D} {vs : List V} (n : Nat), Reps K Cl H ds vs → Reps K Cl H (ds.drop n) (vs.drop n)
  | ds, vs, 0, h => by simpa using h
  | [], vs, n + 1, h => by
    simp only [Reps] at h
    subst h
    simpa using Reps.nil
  | d :: ds, vs, n + 1, h => by
    simp only [Reps] at h
    obtain ⟨v, r, rfl, h1, h2⟩ := h
    exact Reps.drop n h2
theorem Reps.set {H : Hp} {d : D} {v : V} (q : Rep K Cl H d v) : ∀ {ds : List D} {vs : List V} (n : Nat), Reps K Cl H ds vs → Reps K Cl H (ds.set n d) (vs.set n v)
  | [], vs, n, h => by
    simp only [Reps] at h
    subst h
    simpa using Reps.nil
  | e :: ds, vs, 0, h => by
    simp only [Reps] at h
    obtain ⟨w, r, rfl, h1, h2⟩ := h
    exact Reps.cons q h2
  | e :: ds, vs, n + 1, h => by
    simp only [Reps] at h
    obtain ⟨w, r, rfl, h1, h2⟩ := h
    exact Reps.cons h1 (Reps.set q n h2)
theorem Reps.reverse {H : Hp} : ∀ {ds : List D} {vs : List V}, Reps K Cl H ds vs → Reps K Cl H ds.reverse vs.reverse
  | [], vs, h => by
    simp only [Reps] at h
    subst h
    exact Reps.nil
  | d :: ds, vs, h => by
    simp only [Reps] at h
    obtain ⟨v, r, rfl, h1, h2⟩ := h
    rw [List.reverse_cons, List.reverse_cons]
    exact Reps.append (Reps.reverse h2) (Reps.one h1)
theorem Reps.dropLast {H : Hp} {ds : List D} {vs : List V} (h : Reps K Cl H ds vs) : Reps K Cl H ds.dropLast vs.dropLast := by
  rw [List.dropLast_eq_take, List.dropLast_eq_take, h.length]
  exact Reps.take _ h
theorem Reps.erase {H : Hp} : ∀ {ds : List D} {vs : List V} (n : Nat), Reps K Cl H ds vs → Reps K Cl H (ds.eraseIdx n) (vs.eraseIdx n)
  | [], vs, n, h => by
    simp only [Reps] at h
    subst h
    simpa using Reps.nil
  | d :: ds, vs, 0, h => by
    simp only [Reps] at h
    obtain ⟨v, r, rfl, h1, h2⟩ := h
    exact h2
  | d :: ds, vs, n + 1, h => by
    simp only [Reps] at h
    obtain ⟨v, r, rfl, h1, h2⟩ := h
    exact Reps.cons h1 (Reps.erase n h2)
theorem Reps.ints {H : Hp} : ∀ {ns : List Int} {vs : List V}, Reps K Cl H (ns.map D.int) vs → vs = ns.map V.int
  | [], vs, h => by simpa only [List.map_nil, Reps] using h
  | n :: ns, vs, h => by
    simp only [List.map_cons, Reps, Rep] at h
    obtain ⟨v, r, rfl, rfl, h2⟩ := h
    rw [Reps.ints h2]
    rfl
theorem Reps.of_ints {H : Hp} : ∀ (ns : List Int), Reps K Cl H (ns.map D.int) (ns.map V.int)
  | [] => Reps.nil
  | n :: ns => Reps.cons (by simp only [Rep]) (Reps.of_ints ns)
theorem Reps.strs {H : Hp} : ∀ {ns : List Str} {vs : List V}, Reps K Cl H (ns.map D.str) vs → vs = ns.map V.str
  | [], vs, h => by simpa only [List.map_nil, Reps] using h
  | n :: ns, vs, h => by
    simp only [List.map_cons, Reps, Rep] at h
    obtain ⟨v, r, rfl, rfl, h2⟩ := h
    rw [Reps.strs h2]
    rfl
end

/-! ### heaps: G what may be shared, inside H, all that is tracked -/
structure Ext (G H G' H' : Hp) : Prop where
  sub : Same H H'
  vis : Same G G'
  low : Same G' H'
  hid : ∀ a, G a = none → H a ≠ none → G' a = none
section
variable {G H G1 H1 G2 H2 : Hp} {p : Addr} {o : HO}
theorem Ext.refl (s : Same G H) : Ext G H G H := ⟨Same.refl _, Same.refl _, s, fun _ e _ => e⟩
theorem Same.some {H H' : Hp} (s : Same H H') {a : Addr} (h : H a ≠ none) : H' a ≠ none := by
  cases e : H a with
  | none => exact absurd e h
  | some o => rw [s a o e]; exact fun z => by cases z
theorem Ext.trans (a : Ext G H G1 H1) (b : Ext G1 H1 G2 H2) : Ext G H G2 H2 :=
  ⟨a.sub.trans b.sub, a.vis.trans b.vis, b.low, fun x e n => b.hid x (a.hid x e n) (Same.some a.sub n)⟩
theorem same_upd (h : H p = none) : Same H (upd H p o) := fun b u e => by
  rw [upd_ne (ne_of_none e h)]
  exact e
theorem Ext.new (s : Same G H) (h : H p = none) : Ext G H (upd G p o) (upd H p o) := by
  have g : G p = none := Same.free s h
  refine ⟨same_upd h, same_upd g, fun b u e => ?_, fun a e n => ?_⟩
  · by_cases q : b = p
    · subst q
      rw [upd_same] at e ⊢
      exact e
    · rw [upd_ne q] at e ⊢
      exact s b u e
  · have q : a ≠ p := fun z => n (z ▸ h)
    rw [upd_ne q]
    exact e
/-- an object that only G did not see is shared now -/
theorem Ext.show (s : Same G H) (g : G p = none) (h : H p = some o) : Same (upd G p o) H := fun b u e => by
  by_cases q : b = p
  · subst q
    rw [upd_same] at e
    cases e
    exact h
  · rw [upd_ne q] at e
    exact s b u e
end

/-! ### the slots of a frame -/
inductive Sl where
  | no | val (d : D) | own (ds : List D) | obj (c : Str) (ns : List Str) (ds : List D)
abbrev Ro := List Sl

/-- what stood when a frame was entered: what might be shared, and where its own new object (if any) lies -/
structure GX where
  g : Hp
  x : Addr
structure Sim (K : Frg) (Cl : ClT) (G0 : GX) (H0 G H : Hp) (ρ : Ro) (σ : L2.St) : Prop where
  ext : Ext G0.g H0 G H
  len : ρ.length = σ.length
  val : ∀ (i : Nat) (d : D), ρ[i]? = some (.val d) → ∃ v, σ[i]? = some (some v) ∧ Rep K Cl G d v
  own : ∀ (i : Nat) (ds : List D), ρ[i]? = some (.own ds) → ∃ a xs, σ[i]? = some (some (V.ref a)) ∧ H0 a = none ∧ G a = none ∧ H a = some (.lst xs) ∧ Reps K Cl G ds xs
  sep : ∀ (i j : Nat) (ds es : List D), i ≠ j → ρ[i]? = some (.own ds) → ρ[j]? = some (.own es) → σ[i]? ≠ σ[j]?
  obj : ∀ (i : Nat) (c : Str) (ns : List Str) (ds : List D), ρ[i]? = some (.obj c ns ds) → ∃ a C dx xs, σ[i]? = some (some (V.ref a)) ∧ Cl c = some C ∧ (H0 a = none ∧ a = G0.x) ∧ G a = none ∧ H a = some (.ins C dx (ns.zip xs)) ∧ ns.length = xs.length ∧ Reps K Cl G ds xs
  one : ∀ (i j : Nat) (c c' : Str) (ns ns' : List Str) (ds es : List D), ρ[i]? = some (.obj c ns ds) → ρ[j]? = some (.obj c' ns' es) → i = j
section
variable {K : Frg} {Cl : ClT} {G0 : GX} {H0 G H G' H' : Hp} {ρ : Ro} {σ : L2.St}
theorem Sim.low (s : Sim K Cl G0 H0 G H ρ σ) : Same G H := s.ext.low
theorem Sim.grow (s : Sim K Cl G0 H0 G H ρ σ) (e : Ext G H G' H') : Sim K Cl G0 H0 G' H' ρ σ where
  ext := s.ext.trans e
  len := s.len
  val := fun i d q => by
    obtain ⟨v, h1, h2⟩ := s.val i d q
    exact ⟨v, h1, h2.mono e.vis⟩
  own := fun i ds q => by
    obtain ⟨a, xs, h1, h2, h3, h4, h5⟩ := s.own i ds q
    exact ⟨a, xs, h1, h2, e.hid a h3 (by rw [h4]; exact fun z => by cases z), e.sub _ _ h4, h5.mono e.vis⟩
  sep := s.sep
  obj := fun i c ns ds q => by
    obtain ⟨a, C, dx, xs, h1, h2, h3, h4, h5, h6, h7⟩ := s.obj i c ns ds q
    exact ⟨a, C, dx, xs, h1, h2, h3, e.hid a h4 (by rw [h5]; exact fun z => by cases z), e.sub _ _ h5, h6, h7.mono e.vis⟩
  one := s.one
/-- a slot that is written holds what was written -/
theorem set_get {ρ : Ro} {i j : Nat} {x y : Sl} (q : (ρ.set i x)[j]? = some y) : (i = j ∧ y = x ∧ i < ρ.length) ∨ (i ≠ j ∧ ρ[j]? = some y) := by
  by_cases h : i = j
  · subst h
    have hl : i < ρ.length := by
      have := (List.getElem?_eq_some_iff.mp q).1
      rwa [List.length_set] at this
    rw [List.getElem?_set_self hl] at q
    cases q
    exact .inl ⟨rfl, rfl, hl⟩
  · rw [List.getElem?_set_ne h] at q
    exact .inr ⟨h, q⟩
/-- a slot is written with shared data -/
theorem Sim.put (s : Sim K Cl G0 H0 G H ρ σ) (i : Nat) {d : D} {v : V} (r : Rep K Cl G d v) : Sim K Cl G0 H0 G H (ρ.set i (.val d)) (σ.set i (some v)) where
  ext := s.ext
  len := by rw [List.length_set, List.length_set, s.len]
  val := fun j e q => by
    by_cases h : i = j
    · subst h
      have hl : i < ρ.length := by
        have := (List.getElem?_eq_some_iff.mp q).1
        rwa [List.length_set] at this
      rw [List.getElem?_set_self hl] at q
      cases q
      exact ⟨v, List.getElem?_set_self (by rw [← s.len]; exact hl), r⟩
    · rw [List.getElem?_set_ne h] at q ⊢
      exact s.val j e q
  own := fun j e q => by
    by_cases h : i = j
    · subst h
      have hl : i < ρ.length := by
        have := (List.getElem?_eq_some_iff.mp q).1
        rwa [List.length_set] at this
      rw [List.getElem?_set_self hl] at q
      cases q
    · rw [List.getElem?_set_ne h] at q ⊢
      exact s.own j e q
  sep := fun j k ds es n q1 q2 => by
    have hj : i ≠ j := fun h => by
      subst h
      have hl : i < ρ.length := by
        have := (List.getElem?_eq_some_iff.mp q1).1
        rwa [List.length_set] at this
      rw [List.getElem?_set_self hl] at q1
      cases q1
    have hk : i ≠ k := fun h => by
      subst h
      have hl : i < ρ.length := by
        have := (List.getElem?_eq_some_iff.mp q2).1
        rwa [List.length_set] at this
      rw [List.getElem?_set_self hl] at q2
      cases q2
    rw [List.getElem?_set_ne hj] at q1 ⊢
    rw [List.getElem?_set_ne hk] at q2 ⊢
    exact s.sep j k ds es n q1 q2
  obj := fun j c ns ds q => by
    rcases set_get q with ⟨_, z, _⟩ | ⟨n, q⟩
    · cases z
    · obtain ⟨a, C, dx, xs, h1, h2⟩ := s.obj j c ns ds q
      exact ⟨a, C, dx, xs, by rw [List.getElem?_set_ne n]; exact h1, h2⟩
  one := fun j k c c' ns ns' ds es q1 q2 => by
    rcases set_get q1 with ⟨_, z, _⟩ | ⟨n, q1⟩
    · cases z
    · rcases set_get q2 with ⟨_, z, _⟩ | ⟨n, q2⟩
      · cases z
      · exact s.one j k c c' ns ns' ds es q1 q2
/-- the list of a slot is changed -/
theorem Sim.chg (s : Sim K Cl G0 H0 G H ρ σ) {i : Nat} {ds es : List D} {a : Addr} {xs ys : List V} (hi : ρ[i]? = some (.own ds)) (ha : σ[i]? = some (some (V.ref a))) (hx : H a = some (.lst xs)) (r : Reps K Cl G es ys) :
    Sim K Cl G0 H0 G (upd H a (.lst ys)) (ρ.set i (.own es)) σ := by
  obtain ⟨a', xs', h1, h2, h3, h4, h5⟩ := s.own i ds hi
  rw [ha] at h1
  cases h1
  have hl : i < ρ.length := (List.getElem?_eq_some_iff.mp hi).1
  have nm : ∀ (j : Nat) (fs : List D), j ≠ i → ρ[j]? = some (.own fs) → σ[j]? ≠ some (some (V.ref a)) := fun j fs n q z => s.sep j i fs ds n q hi (z.trans ha.symm)
  refine ⟨⟨fun b u e => ?_, s.ext.vis, fun b u e => ?_, fun b e n => s.ext.hid b e n⟩, by rw [List.length_set, s.len], fun j e q => ?_, fun j e q => ?_, fun j k e1 e2 n q1 q2 => ?_, fun j c ns ds q => ?_, fun j k c c' ns ns' ds es q1 q2 => ?_⟩
  · rw [upd_ne (ne_of_none e h2)]
    exact s.ext.sub b u e
  · rw [upd_ne (ne_of_none e h3)]
    exact s.low b u e
  · by_cases h : i = j
    · subst h
      rw [List.getElem?_set_self hl] at q
      cases q
    · rw [List.getElem?_set_ne h] at q
      exact s.val j e q
  · by_cases h : i = j
    · subst h
      rw [List.getElem?_set_self hl] at q
      cases q
      exact ⟨a, ys, ha, h2, h3, upd_same, r⟩
    · rw [List.getElem?_set_ne h] at q
      obtain ⟨b, zs, g1, g2, g3, g4, g5⟩ := s.own j e q
      have nb : b ≠ a := fun z => nm j e (Ne.symm h) q (by rw [g1, z])
      exact ⟨b, zs, g1, g2, g3, by rw [upd_ne nb]; exact g4, g5⟩
  · have f1 : ∃ fs, ρ[j]? = some (.own fs) := by
      by_cases h : i = j
      · subst h; exact ⟨ds, hi⟩
      · rw [List.getElem?_set_ne h] at q1; exact ⟨e1, q1⟩
    have f2 : ∃ fs, ρ[k]? = some (.own fs) := by
      by_cases h : i = k
      · subst h; exact ⟨ds, hi⟩
      · rw [List.getElem?_set_ne h] at q2; exact ⟨e2, q2⟩
    obtain ⟨fs, f1⟩ := f1
    obtain ⟨gs, f2⟩ := f2
    exact s.sep j k fs gs n f1 f2
  · rcases set_get q with ⟨_, z, _⟩ | ⟨n, q⟩
    · cases z
    · obtain ⟨b, C, dx, zs, g1, g2, g3, g4, g5, g6⟩ := s.obj j c ns ds q
      exact ⟨b, C, dx, zs, g1, g2, g3, g4, by rw [upd_ne (ne_of g5 hx (by intro z; cases z))]; exact g5, g6⟩
  · rcases set_get q1 with ⟨_, z, _⟩ | ⟨n, q1⟩
    · cases z
    · rcases set_get q2 with ⟨_, z, _⟩ | ⟨n, q2⟩
      · cases z
      · exact s.one j k c c' ns ns' ds es q1 q2
/-- a field is stored in the object of a slot -/
theorem Sim.chgObj (s : Sim K Cl G0 H0 G H ρ σ) {i : Nat} {c : Str} {ns ns' : List Str} {ds es : List D} {a C dx : Addr} {xs ys : List V} (hi : ρ[i]? = some (.obj c ns ds)) (ha : σ[i]? = some (some (V.ref a))) (hC : Cl c = some C) (hx : H a = some (.ins C dx (ns.zip xs)))
    (hl : ns'.length = ys.length) (r : Reps K Cl G es ys) : Sim K Cl G0 H0 G (upd H a (.ins C dx (ns'.zip ys))) (ρ.set i (.obj c ns' es)) σ := by
  obtain ⟨a', C', dx', xs', h1, h2, h3, h4, h5, h6, h7⟩ := s.obj i c ns ds hi
  rw [ha] at h1
  cases h1
  have hlen : i < ρ.length := (List.getElem?_eq_some_iff.mp hi).1
  refine ⟨⟨fun b u e => ?_, s.ext.vis, fun b u e => ?_, fun b e n => s.ext.hid b e n⟩, by rw [List.length_set, s.len], fun j e q => ?_, fun j e q => ?_, fun j k e1 e2 n q1 q2 => ?_, fun j c2 ns2 ds2 q => ?_, fun j k c1 c2 ns1 ns2 ds1 ds2 q1 q2 => ?_⟩
  · rw [upd_ne (ne_of_none e h3.1)]
    exact s.ext.sub b u e
  · rw [upd_ne (ne_of_none e h4)]
    exact s.low b u e
  · rcases set_get q with ⟨_, z, _⟩ | ⟨n, q⟩
    · cases z
    · exact s.val j e q
  · rcases set_get q with ⟨_, z, _⟩ | ⟨n, q⟩
    · cases z
    · obtain ⟨b, zs, g1, g2, g3, g4, g5⟩ := s.own j e q
      exact ⟨b, zs, g1, g2, g3, by rw [upd_ne (ne_of g4 hx (by intro z; cases z))]; exact g4, g5⟩
  · rcases set_get q1 with ⟨_, z, _⟩ | ⟨_, q1⟩
    · cases z
    · rcases set_get q2 with ⟨_, z, _⟩ | ⟨_, q2⟩
      · cases z
      · exact s.sep j k e1 e2 n q1 q2
  · rcases set_get q with ⟨e, z, _⟩ | ⟨n, q⟩
    · subst e
      cases z
      exact ⟨a, C, dx, ys, ha, hC, h3, h4, upd_same, hl, r⟩
    · exact absurd (s.one i j c c2 ns ns2 ds ds2 hi q) n
  · have f1 : ∃ c3 ns3 ds3, ρ[j]? = some (.obj c3 ns3 ds3) := by
      rcases set_get q1 with ⟨e, _, _⟩ | ⟨_, q1⟩
      · subst e; exact ⟨_, _, _, hi⟩
      · exact ⟨_, _, _, q1⟩
    have f2 : ∃ c3 ns3 ds3, ρ[k]? = some (.obj c3 ns3 ds3) := by
      rcases set_get q2 with ⟨e, _, _⟩ | ⟨_, q2⟩
      · subst e; exact ⟨_, _, _, hi⟩
      · exact ⟨_, _, _, q2⟩
    obtain ⟨_, _, _, f1⟩ := f1
    obtain ⟨_, _, _, f2⟩ := f2
    exact s.one j k _ _ _ _ _ _ f1 f2
/-- the list of a slot is shared from now on -/
def pub1 (ρ : Ro) (i : Nat) : Ro := match ρ[i]? with
  | some (.own ds) => ρ.set i (.val (.lst ds))
  | _ => ρ
theorem Sim.pub1 (s : Sim K Cl G0 H0 G H ρ σ) (i : Nat) : ∃ G', Sim K Cl G0 H0 G' H (pub1 ρ i) σ ∧ Same G G' := by
  unfold Pu.pub1
  split
  · rename_i ds hi
    obtain ⟨a, xs, h1, h2, h3, h4, h5⟩ := s.own i ds hi
    have hl : i < ρ.length := (List.getElem?_eq_some_iff.mp hi).1
    have sg : Same G (upd G a (.lst xs)) := same_upd h3
    refine ⟨upd G a (.lst xs), ⟨⟨s.ext.sub, s.ext.vis.trans sg, Ext.show s.low h3 h4, fun b e n => ?_⟩, by rw [List.length_set, s.len], fun j e q => ?_, fun j e q => ?_, fun j k e1 e2 n q1 q2 => ?_, fun j c ns es q => ?_, fun j k c c' ns ns' ds es q1 q2 => ?_⟩, sg⟩
    · rw [upd_ne (fun z => n (by rw [z]; exact h2))]
      exact s.ext.hid b e n
    · by_cases h : i = j
      · subst h
        rw [List.getElem?_set_self hl] at q
        cases q
        refine ⟨V.ref a, h1, ?_⟩
        simp only [Rep]
        exact ⟨a, xs, rfl, upd_same, h5.mono sg⟩
      · rw [List.getElem?_set_ne h] at q
        obtain ⟨v, g1, g2⟩ := s.val j e q
        exact ⟨v, g1, g2.mono sg⟩
    · by_cases h : i = j
      · subst h
        rw [List.getElem?_set_self hl] at q
        cases q
      · rw [List.getElem?_set_ne h] at q
        obtain ⟨b, zs, g1, g2, g3, g4, g5⟩ := s.own j e q
        have nb : b ≠ a := fun z => s.sep j i e ds (Ne.symm h) q hi (by rw [g1, h1, z])
        exact ⟨b, zs, g1, g2, by rw [upd_ne nb]; exact g3, g4, g5.mono sg⟩
    · have hj : i ≠ j := fun h => by
        subst h
        rw [List.getElem?_set_self hl] at q1
        cases q1
      have hk : i ≠ k := fun h => by
        subst h
        rw [List.getElem?_set_self hl] at q2
        cases q2
      rw [List.getElem?_set_ne hj] at q1
      rw [List.getElem?_set_ne hk] at q2
      exact s.sep j k e1 e2 n q1 q2
    · rcases set_get q with ⟨_, z, _⟩ | ⟨n, q⟩
      · cases z
      · obtain ⟨b, C, dx, zs, g1, g2, g3, g4, g5, g6, g7⟩ := s.obj j c ns es q
        exact ⟨b, C, dx, zs, g1, g2, g3, by rw [upd_ne (ne_of g5 h4 (by intro z; cases z))]; exact g4, g5, g6, g7.mono sg⟩
    · rcases set_get q1 with ⟨_, z, _⟩ | ⟨_, q1⟩
      · cases z
      · rcases set_get q2 with ⟨_, z, _⟩ | ⟨_, q2⟩
        · cases z
        · exact s.one j k c c' ns ns' ds es q1 q2
  · exact ⟨G, s, Same.refl _⟩
def pubs : List Nat → Ro → Ro
  | [], ρ => ρ
  | i :: is, ρ => pubs is (Pu.pub1 ρ i)
theorem Sim.pubs : ∀ (is : List Nat) {G : Hp} {ρ : Ro}, Sim K Cl G0 H0 G H ρ σ → ∃ G', Sim K Cl G0 H0 G' H (pubs is ρ) σ ∧ Same G G'
  | [], G, ρ, s => ⟨G, s, Same.refl _⟩
  | i :: is, G, ρ, s => by
    obtain ⟨G1, s1, k1⟩ := s.pub1 i
    obtain ⟨G2, s2, k2⟩ := Sim.pubs is s1
    exact ⟨G2, s2, k1.trans k2⟩
/-- a slot holds a list that an expression has just made -/
theorem Sim.putNew (s : Sim K Cl G0 H0 G H ρ σ) (i : Nat) {p : Addr} {ds : List D} {xs : List V} (e : Ext G H G' H') (hp : H p = none) (gp : G' p = none) (hx : H' p = some (.lst xs)) (r : Reps K Cl G' ds xs) :
    Sim K Cl G0 H0 G' H' (ρ.set i (.own ds)) (σ.set i (some (V.ref p))) := by
  have t := s.grow e
  have h0 : H0 p = none := Same.free s.ext.sub hp
  have other : ∀ (j : Nat) (es : List D), ρ[j]? = some (.own es) → σ[j]? ≠ some (some (V.ref p)) := fun j es q z => by
    obtain ⟨a, xs', h1, _, _, h4, _⟩ := s.own j es q
    rw [h1] at z
    cases z
    rw [hp] at h4
    cases h4
  have atI : ∀ (q : Sl), (ρ.set i (.own ds))[i]? = some q → i < ρ.length := fun q e => by
    have := (List.getElem?_eq_some_iff.mp e).1
    rwa [List.length_set] at this
  refine ⟨t.ext, by rw [List.length_set, List.length_set, s.len], fun j e q => ?_, fun j e q => ?_, fun j k e1 e2 n q1 q2 => ?_, fun j c ns es q => ?_, fun j k c c' ns ns' ds es q1 q2 => ?_⟩
  · by_cases h : i = j
    · subst h
      rw [List.getElem?_set_self (atI _ q)] at q
      cases q
    · rw [List.getElem?_set_ne h] at q ⊢
      exact t.val j e q
  · by_cases h : i = j
    · subst h
      have hl := atI _ q
      rw [List.getElem?_set_self hl] at q
      cases q
      exact ⟨p, xs, List.getElem?_set_self (by rw [← s.len]; exact hl), h0, gp, hx, r⟩
    · rw [List.getElem?_set_ne h] at q ⊢
      exact t.own j e q
  · by_cases hj : i = j
    · subst hj
      have hl := atI _ q1
      rw [List.getElem?_set_ne n] at q2 ⊢
      rw [List.getElem?_set_self (by rw [← s.len]; exact hl)]
      exact fun z => other k e2 q2 z.symm
    · by_cases hk : i = k
      · subst hk
        have hl := atI _ q2
        rw [List.getElem?_set_ne (Ne.symm n)] at q1 ⊢
        rw [List.getElem?_set_self (by rw [← s.len]; exact hl)]
        exact other j e1 q1
      · rw [List.getElem?_set_ne hj] at q1 ⊢
        rw [List.getElem?_set_ne hk] at q2 ⊢
        exact s.sep j k e1 e2 n q1 q2
  · rcases set_get q with ⟨_, z, _⟩ | ⟨n, q⟩
    · cases z
    · obtain ⟨b, C, dx, zs, g1, g2⟩ := t.obj j c ns es q
      exact ⟨b, C, dx, zs, by rw [List.getElem?_set_ne n]; exact g1, g2⟩
  · rcases set_get q1 with ⟨_, z, _⟩ | ⟨_, q1⟩
    · cases z
    · rcases set_get q2 with ⟨_, z, _⟩ | ⟨_, q2⟩
      · cases z
      · exact s.one j k c c' ns ns' ds es q1 q2
end
end Pu
/-! PuB: what is wanted behind an expression, a test, a list of arguments, a statement, where the data that it gives are known. -/
namespace Pu
open PySem PySem.Spec PyProof.Rows L2

/-- shared, or a list of a frame's own at the top -/
def RepB (K : Frg) (Cl : ClT) (G H : Hp) (d : D) (v : V) : Prop :=
  Rep K Cl G d v ∨ (∃ ds a xs, d = .lst ds ∧ v = .ref a ∧ H a = some (.lst xs) ∧ Reps K Cl G ds xs) ∨
    ∃ c ns ds a C dx xs, d = .ins c ns ds ∧ v = .ref a ∧ Cl c = some C ∧ H a = some (.ins C dx (ns.zip xs)) ∧ ns.length = xs.length ∧ Reps K Cl G ds xs
def ExcAt (K : Frg) (Cl : ClT) (G H : Hp) (c : Str) (ns : List Str) (ds : List D) (cls : Value) (dd : Option Addr) : Prop :=
  ∃ C, Cl c = some C ∧ cls = .ref C ∧ ((ns = [] ∧ ds = [] ∧ dd = none) ∨ ∃ x xs, dd = some x ∧ H x = some (.xd (ns.zip xs)) ∧ ns.length = xs.length ∧ Reps K Cl G ds xs)
section
variable {K : Frg} {Cl : ClT} {G H G' H' : Hp}
theorem RepB.of {d : D} {v : V} (h : Rep K Cl G d v) : RepB K Cl G H d v := .inl h
theorem RepB.grow {d : D} {v : V} (e : Ext G H G' H') (h : RepB K Cl G H d v) : RepB K Cl G' H' d v := by
  rcases h with h | ⟨ds, a, xs, e1, e2, h1, h2⟩ | ⟨c, ns, ds, a, C, dx, xs, e1, e2, h0, h1, h2, h3⟩
  · exact .inl (h.mono e.vis)
  · exact .inr (.inl ⟨ds, a, xs, e1, e2, e.sub _ _ h1, h2.mono e.vis⟩)
  · exact .inr (.inr ⟨c, ns, ds, a, C, dx, xs, e1, e2, h0, e.sub _ _ h1, h2, h3.mono e.vis⟩)
theorem RepB.lst {ds : List D} {v : V} (s : Same G H) (h : RepB K Cl G H (.lst ds) v) : ∃ a xs, v = .ref a ∧ H a = some (.lst xs) ∧ Reps K Cl G ds xs := by
  rcases h with h | ⟨ds', a, xs, e1, e2, h1, h2⟩ | ⟨c', ns', ds', a, C, dx, xs, e1, e2, h0, h1, h2, h3⟩
  · simp only [Rep] at h
    obtain ⟨a, xs, e, q, r⟩ := h
    exact ⟨a, xs, e, s _ _ q, r⟩
  · cases e1
    exact ⟨a, xs, e2, h1, h2⟩
  · cases e1
theorem RepB.tup {ds : List D} {v : V} (s : Same G H) (h : RepB K Cl G H (.tup ds) v) : ∃ a xs, v = .ref a ∧ SqT K H a xs ∧ Reps K Cl G ds xs ∧ SqT K G a xs := by
  rcases h with h | ⟨ds', a, xs, e1, e2, h1, h2⟩ | ⟨c', ns', ds', a, C, dx, xs, e1, e2, h0, h1, h2, h3⟩
  · simp only [Rep] at h
    obtain ⟨a, xs, e, q, r⟩ := h
    exact ⟨a, xs, e, Same.tup s q, r, q⟩
  · cases e1
  · cases e1
theorem RepB.frl {ds : List D} {v : V} (s : Same G H) (h : RepB K Cl G H (.frl ds) v) : ∃ a xs, v = .ref a ∧ SqL K H a xs ∧ Reps K Cl G ds xs := by
  rcases h with h | ⟨ds', a, xs, e1, e2, h1, h2⟩ | ⟨c', ns', ds', a, C, dx, xs, e1, e2, h0, h1, h2, h3⟩
  · simp only [Rep] at h
    obtain ⟨a, xs, e, q, r⟩ := h
    exact ⟨a, xs, e, s.seq q, r⟩
  · cases e1
  · cases e1
theorem RepB.int {i : Int} {v : V} (h : RepB K Cl G H (.int i) v) : v = .int i := by
  rcases h with h | ⟨ds', a, xs, e1, e2, h1, h2⟩ | ⟨c', ns', ds', a, C, dx, xs, e1, e2, h0, h1, h2, h3⟩
  · simpa only [Rep] using h
  · cases e1
  · cases e1
theorem RepB.bl {i : Bool} {v : V} (h : RepB K Cl G H (.bl i) v) : v = .bl i := by
  rcases h with h | ⟨ds', a, xs, e1, e2, h1, h2⟩ | ⟨c', ns', ds', a, C, dx, xs, e1, e2, h0, h1, h2, h3⟩
  · simpa only [Rep] using h
  · cases e1
  · cases e1
theorem RepB.str {i : Str} {v : V} (h : RepB K Cl G H (.str i) v) : v = .str i := by
  rcases h with h | ⟨ds', a, xs, e1, e2, h1, h2⟩ | ⟨c', ns', ds', a, C, dx, xs, e1, e2, h0, h1, h2, h3⟩
  · simpa only [Rep] using h
  · cases e1
  · cases e1
theorem RepB.non {v : V} (h : RepB K Cl G H .non v) : v = .non := by
  rcases h with h | ⟨ds', a, xs, e1, e2, h1, h2⟩ | ⟨c', ns', ds', a, C, dx, xs, e1, e2, h0, h1, h2, h3⟩
  · simpa only [Rep] using h
  · cases e1
  · cases e1
theorem RepB.ins {c : Str} {ns : List Str} {ds : List D} {v : V} (s : Same G H) (h : RepB K Cl G H (.ins c ns ds) v) :
    ∃ a C dx xs, v = .ref a ∧ Cl c = some C ∧ H a = some (.ins C dx (ns.zip xs)) ∧ ns.length = xs.length ∧ Reps K Cl G ds xs := by
  rcases h with h | ⟨ds', a, xs, e1, e2, h1, h2⟩ | ⟨c', ns', ds', a, C, dx, xs, e1, e2, h0, h1, h2, h3⟩
  · simp only [Rep] at h
    obtain ⟨a, C, dx, xs, e, c, q, l, r⟩ := h
    exact ⟨a, C, dx, xs, e, c, s _ _ q, l, r⟩
  · cases e1
  · cases e1
    exact ⟨a, C, dx, xs, e2, h0, h1, h2, h3⟩
theorem ExcAt.grow {c : Str} {ns : List Str} {ds : List D} {cls : Value} {dd : Option Addr} (e : Ext G H G' H') (h : ExcAt K Cl G H c ns ds cls dd) : ExcAt K Cl G' H' c ns ds cls dd := by
  obtain ⟨C, h1, h2, h3⟩ := h
  refine ⟨C, h1, h2, ?_⟩
  rcases h3 with h3 | ⟨x, xs, q1, q2, q3, q4⟩
  · exact .inl h3
  · exact .inr ⟨x, xs, q1, e.sub _ _ q2, q3, q4.mono e.vis⟩
end

/-! ### what is wanted behind an expression -/
section
variable (K : Frg) (Cl : ClT) (W : WX) (G H : Hp) (σ : L2.St)
def PostX (c : Str) (ns : List Str) (ds : List D) : Prop := ∀ cls dd G' H', Ext G H G' H' → ExcAt K Cl G' H' c ns ds cls dd → W cls dd σ H'
def PostE (r : Res D) (Q : VK) : Prop := match r with
  | .ok d => ∀ v G' H', Ext G H G' H' → Rep K Cl G' d v → Q v H'
  | .exc c ns ds => PostX K Cl W G H σ c ns ds
  | .stuck => False
def PostB (r : Res D) (Q : VK) : Prop := match r with
  | .ok d => ∀ v G' H', Ext G H G' H' → RepB K Cl G' H' d v → Q v H'
  | .exc c ns ds => PostX K Cl W G H σ c ns ds
  | .stuck => False
def PostT (r : Res D) (Q : Bool → Hp → Prop) : Prop := match r with
  | .ok (.bl b) => ∀ G' H', Ext G H G' H' → Q b H'
  | .ok _ => False
  | .exc c ns ds => PostX K Cl W G H σ c ns ds
  | .stuck => False
def PostA (r : Res (List D)) (Q : List V → Hp → Prop) : Prop := match r with
  | .ok ds => ∀ vs G' H', Ext G H G' H' → Reps K Cl G' ds vs → Q vs H'
  | .exc c ns ds => PostX K Cl W G H σ c ns ds
  | .stuck => False
end
/-- a list that is new -/
def PostF (K : Frg) (Cl : ClT) (W : WX) (G H : Hp) (σ : L2.St) (r : Res D) (Q : VK) : Prop := match r with
  | .ok (.lst ds) => ∀ p xs G' H', Ext G H G' H' → G' p = none → H p = none → H' p = some (.lst xs) → Reps K Cl G' ds xs → Q (.ref p) H'
  | .ok _ => False
  | .exc c ns ds => PostX K Cl W G H σ c ns ds
  | .stuck => False
inductive RepBs (K : Frg) (Cl : ClT) (G H : Hp) : List D → List V → Prop where
  | nil : RepBs K Cl G H [] []
  | cons {d : D} {ds : List D} {v : V} {vs : List V} (h : RepB K Cl G H d v) (t : RepBs K Cl G H ds vs) : RepBs K Cl G H (d :: ds) (v :: vs)
theorem RepBs.grow {K : Frg} {Cl : ClT} {G H G' H' : Hp} (e : Ext G H G' H') : ∀ {ds : List D} {vs : List V}, RepBs K Cl G H ds vs → RepBs K Cl G' H' ds vs
  | _, _, .nil => .nil
  | _, _, .cons h t => .cons (h.grow e) (t.grow e)
section
variable (K : Frg) (Cl : ClT) (W : WX) (G H : Hp) (σ : L2.St)
def PostAB (r : Res (List D)) (Q : List V → Hp → Prop) : Prop := match r with
  | .ok ds => ∀ vs G' H', Ext G H G' H' → RepBs K Cl G' H' ds vs → Q vs H'
  | .exc c ns ds => PostX K Cl W G H σ c ns ds
  | .stuck => False
end
section
variable {K : Frg} {Cl : ClT} {W : WX} {G H G1 H1 : Hp} {σ : L2.St} {r : Res D} {Q : VK}
theorem PostX.grow {c : Str} {ns : List Str} {ds : List D} (e : Ext G H G1 H1) (h : PostX K Cl W G H σ c ns ds) : PostX K Cl W G1 H1 σ c ns ds := fun cls dd G2 H2 e2 x => h cls dd G2 H2 (e.trans e2) x
theorem PostE.grow (e : Ext G H G1 H1) (h : PostE K Cl W G H σ r Q) : PostE K Cl W G1 H1 σ r Q := by
  cases r with
  | ok d => exact fun v G2 H2 e2 q => h v G2 H2 (e.trans e2) q
  | exc c ns ds => exact PostX.grow e h
  | stuck => exact h
theorem PostB.grow (e : Ext G H G1 H1) (h : PostB K Cl W G H σ r Q) : PostB K Cl W G1 H1 σ r Q := by
  cases r with
  | ok d => exact fun v G2 H2 e2 q => h v G2 H2 (e.trans e2) q
  | exc c ns ds => exact PostX.grow e h
  | stuck => exact h
theorem PostT.grow {Q : Bool → Hp → Prop} (e : Ext G H G1 H1) (h : PostT K Cl W G H σ r Q) : PostT K Cl W G1 H1 σ r Q := by
  cases r with
  | ok d =>
    cases d with
    | bl b => exact fun G2 H2 e2 => h G2 H2 (e.trans e2)
    | _ => exact h
  | exc c ns ds => exact PostX.grow e h
  | stuck => exact h
theorem PostA.grow {r : Res (List D)} {Q : List V → Hp → Prop} (e : Ext G H G1 H1) (h : PostA K Cl W G H σ r Q) : PostA K Cl W G1 H1 σ r Q := by
  cases r with
  | ok d => exact fun v G2 H2 e2 q => h v G2 H2 (e.trans e2) q
  | exc c ns ds => exact PostX.grow e h
  | stuck => exact h
theorem PostAB.grow {r : Res (List D)} {Q : List V → Hp → Prop} (e : Ext G H G1 H1) (h : PostAB K Cl W G H σ r Q) : PostAB K Cl W G1 H1 σ r Q := by
  cases r with
  | ok d => exact fun v G2 H2 e2 q => h v G2 H2 (e.trans e2) q
  | exc c ns ds => exact PostX.grow e h
  | stuck => exact h
/-- a sequence: the first, borrowed; then the rest -/
theorem PostB.seq {k : D → Res D} {R : Res D → Hp → Hp → Prop} (gr : ∀ {G H G1 H1 : Hp} {r : Res D}, Ext G H G1 H1 → R r G H → R r G1 H1) (hx : ∀ {c ns ds}, R (.exc c ns ds) G H → PostX K Cl W G H σ c ns ds) (hs : ¬ R .stuck G H)
    (h : R (r.bind k) G H) : PostB K Cl W G H σ r (fun v H1 => ∃ x G1, r = .ok x ∧ Ext G H G1 H1 ∧ RepB K Cl G1 H1 x v ∧ R (k x) G1 H1) := by
  cases r with
  | ok d => exact fun v G1 H1 e q => ⟨d, G1, rfl, e, q, gr e h⟩
  | exc c ns ds => exact hx h
  | stuck => exact hs h
theorem PostB.seqE {k : D → Res D} (h : PostE K Cl W G H σ (r.bind k) Q) : PostB K Cl W G H σ r (fun v H1 => ∃ x G1, r = .ok x ∧ Ext G H G1 H1 ∧ RepB K Cl G1 H1 x v ∧ PostE K Cl W G1 H1 σ (k x) Q) :=
  PostB.seq (R := fun r G H => PostE K Cl W G H σ r Q) (fun e h => PostE.grow e h) (fun h => h) (fun h => h) h
theorem PostE.seqE {k : D → Res D} (h : PostE K Cl W G H σ (r.bind k) Q) : PostE K Cl W G H σ r (fun v H1 => ∃ x G1, r = .ok x ∧ Ext G H G1 H1 ∧ Rep K Cl G1 x v ∧ PostE K Cl W G1 H1 σ (k x) Q) := by
  cases r with
  | ok d => exact fun v G1 H1 e q => ⟨d, G1, rfl, e, q, PostE.grow e h⟩
  | exc c ns ds => exact h
  | stuck => exact h
theorem PostB.seqT {k : D → Res D} {Q : Bool → Hp → Prop} (h : PostT K Cl W G H σ (r.bind k) Q) : PostB K Cl W G H σ r (fun v H1 => ∃ x G1, r = .ok x ∧ Ext G H G1 H1 ∧ RepB K Cl G1 H1 x v ∧ PostT K Cl W G1 H1 σ (k x) Q) :=
  PostB.seq (R := fun r G H => PostT K Cl W G H σ r Q) (fun e h => PostT.grow e h) (fun h => h) (fun h => h) h
theorem PostT.seqT {k : D → Res D} {Q : Bool → Hp → Prop} (hk : ∀ d, (∀ b, d ≠ .bl b) → ∀ {G H : Hp}, ¬ PostT K Cl W G H σ (k d) Q) (h : PostT K Cl W G H σ (r.bind k) Q) :
    PostT K Cl W G H σ r (fun b H1 => ∃ G1, r = .ok (.bl b) ∧ Ext G H G1 H1 ∧ PostT K Cl W G1 H1 σ (k (.bl b)) Q) := by
  cases r with
  | ok d =>
    cases d with
    | bl b => exact fun G1 H1 e => ⟨G1, rfl, e, PostT.grow e h⟩
    | _ => exact (hk _ (fun b z => by cases z) h).elim
  | exc c ns ds => exact h
  | stuck => exact h
theorem PostT.seqE {k : D → Res D} (hk : ∀ d, (∀ b, d ≠ .bl b) → ∀ {G H : Hp}, ¬ PostE K Cl W G H σ (k d) Q) (h : PostE K Cl W G H σ (r.bind k) Q) :
    PostT K Cl W G H σ r (fun b H1 => ∃ G1, r = .ok (.bl b) ∧ Ext G H G1 H1 ∧ PostE K Cl W G1 H1 σ (k (.bl b)) Q) := by
  cases r with
  | ok d =>
    cases d with
    | bl b => exact fun G1 H1 e => ⟨G1, rfl, e, PostE.grow e h⟩
    | _ => exact (hk _ (fun b z => by cases z) h).elim
  | exc c ns ds => exact h
  | stuck => exact h
theorem PostA.seqE {r : Res (List D)} {k : List D → Res D} (h : PostE K Cl W G H σ (r.bind k) Q) : PostA K Cl W G H σ r (fun vs H1 => ∃ xs G1, r = .ok xs ∧ Ext G H G1 H1 ∧ Reps K Cl G1 xs vs ∧ PostE K Cl W G1 H1 σ (k xs) Q) := by
  cases r with
  | ok d => exact fun v G1 H1 e q => ⟨d, G1, rfl, e, q, PostE.grow e h⟩
  | exc c ns ds => exact h
  | stuck => exact h
theorem PostAB.seqE {r : Res (List D)} {k : List D → Res D} (h : PostE K Cl W G H σ (r.bind k) Q) : PostAB K Cl W G H σ r (fun vs H1 => ∃ xs G1, r = .ok xs ∧ Ext G H G1 H1 ∧ RepBs K Cl G1 H1 xs vs ∧ PostE K Cl W G1 H1 σ (k xs) Q) := by
  cases r with
  | ok d => exact fun v G1 H1 e q => ⟨d, G1, rfl, e, q, PostE.grow e h⟩
  | exc c ns ds => exact h
  | stuck => exact h
theorem PostE.ofO {o : Option D} (h : PostE K Cl W G H σ (Res.ofO o) Q) : ∃ d, o = some d ∧ ∀ v G' H', Ext G H G' H' → Rep K Cl G' d v → Q v H' := by
  cases o with
  | none => exact h.elim
  | some d => exact ⟨d, rfl, h⟩
theorem PostE.toB (h : PostB K Cl W G H σ r Q) : PostE K Cl W G H σ r Q := by
  cases r with
  | ok d => exact fun v G1 H1 e q => h v G1 H1 e (.inl q)
  | exc c ns ds => exact h
  | stuck => exact h
end

/-- a new list is a shared one, too -/
theorem Ext.showNew {G H G' H' : Hp} {p : Addr} {xs : List V} (e : Ext G H G' H') (g : G' p = none) (h : H p = none) (hx : H' p = some (.lst xs)) : Ext G H (upd G' p (.lst xs)) H' :=
  ⟨e.sub, e.vis.trans (same_upd g), Ext.show e.low g hx, fun a q n => by
    rw [upd_ne (fun z => n (by rw [z]; exact h))]
    exact e.hid a q n⟩
theorem PostE.toF {K : Frg} {Cl : ClT} {W : WX} {G H : Hp} {σ : L2.St} {r : Res D} {Q : VK} (h : PostE K Cl W G H σ r Q) (hl : ∀ d, r = .ok d → ∃ ds, d = .lst ds) : PostF K Cl W G H σ r Q := by
  cases r with
  | exc c ns ds => exact h
  | stuck => exact h
  | ok d =>
    obtain ⟨ds, rfl⟩ := hl d rfl
    intro p xs G' H' e g hp hx r
    refine h (.ref p) _ H' (e.showNew g hp hx) ?_
    simp only [Rep]
    exact ⟨p, xs, rfl, upd_same, r.mono (same_upd g)⟩

/-! ### the readings -/
def tE (K : Frg) (Cl : ClT) (W : WX) (f : Ro → Res D) : TE := fun σ H Q => ∃ G0 H0 G ρ, Sim K Cl G0 H0 G H ρ σ ∧ PostE K Cl W G H σ (f ρ) Q
def tF (K : Frg) (Cl : ClT) (W : WX) (f : Ro → Res D) : TE := fun σ H Q => ∃ G0 H0 G ρ, Sim K Cl G0 H0 G H ρ σ ∧ PostF K Cl W G H σ (f ρ) Q
def tB (K : Frg) (Cl : ClT) (W : WX) (f : Ro → Res D) : TE := fun σ H Q => ∃ G0 H0 G ρ, Sim K Cl G0 H0 G H ρ σ ∧ PostB K Cl W G H σ (f ρ) Q
def tT (K : Frg) (Cl : ClT) (W : WX) (f : Ro → Res D) : TT := fun σ H Q => ∃ G0 H0 G ρ, Sim K Cl G0 H0 G H ρ σ ∧ PostT K Cl W G H σ (f ρ) Q
def tA (K : Frg) (Cl : ClT) (W : WX) (f : Ro → Res (List D)) : TA := fun σ H Q => ∃ G0 H0 G ρ, Sim K Cl G0 H0 G H ρ σ ∧ PostA K Cl W G H σ (f ρ) Q
def tAB (K : Frg) (Cl : ClT) (W : WX) (f : Ro → Res (List D)) : TA := fun σ H Q => ∃ G0 H0 G ρ, Sim K Cl G0 H0 G H ρ σ ∧ PostAB K Cl W G H σ (f ρ) Q

section
variable {X : Cx} {Cl : ClT} {W : WX} {a b c : Expr} {f g : Ro → Res D} {pos : Pos}
theorem PE.imp {e : Expr} {t t' : TE} (h : PE X e t) (i : ∀ σ H Q, t' σ H Q → t σ H Q) : PE X e t' := ⟨fun pins s σ H Q I q => h.run pins s σ H Q I (i _ _ _ q)⟩
theorem PT.imp {e : Expr} {t t' : TT} (h : PT X e t) (i : ∀ σ H Q, t' σ H Q → t σ H Q) : PT X e t' := ⟨fun pins s σ H Q I q => h.run pins s σ H Q I (i _ _ _ q)⟩
theorem PA.imp {e : List Expr} {t t' : TA} (h : PA X e t) (i : ∀ σ H Q, t' σ H Q → t σ H Q) : PA X e t' := ⟨fun pos pins s σ H Q I q => h.run pos pins s σ H Q I (i _ _ _ q)⟩
/-- a shared value may be borrowed -/
theorem toBor (h : PE X a (tE X.K Cl W f)) : PE X a (tB X.K Cl W f) := PE.imp h fun σ H Q ⟨G0, H0, G, ρ, s, q⟩ => ⟨G0, H0, G, ρ, s, PostE.toB q⟩

/-! two-place operations -/
def OpD (X : Cx) (Cl : ClT) (f : Value → Value → Sem Value) (F : D → D → Option D) : Prop :=
  ∀ (pins : List (Addr × Obj)) (s : Shared) (σ : L2.St) (G H : Hp) (x y d : D) (v w : V) (u1 u2 : Value) (Q : VK), Inv X pins σ H s → RelV v u1 → RelV w u2 → Same G H → RepB X.K Cl G H x v → RepB X.K Cl G H y w → F x y = some d →
    (∀ v G' H', Ext G H G' H' → Rep X.K Cl G' d v → Q v H') → wpAny (model X.prog X.w) X.A (f u1 u2) (EP X pins σ Q) X.xe s
def UnD (X : Cx) (Cl : ClT) (f : Value → Sem Value) (F : D → Option D) : Prop :=
  ∀ (pins : List (Addr × Obj)) (s : Shared) (σ : L2.St) (G H : Hp) (x d : D) (v : V) (u1 : Value) (Q : VK), Inv X pins σ H s → RelV v u1 → Same G H → RepB X.K Cl G H x v → F x = some d →
    (∀ v G' H', Ext G H G' H' → Rep X.K Cl G' d v → Q v H') → wpAny (model X.prog X.w) X.A (f u1) (EP X pins σ Q) X.xe s
def bin (f g : Ro → Res D) (F : D → D → Option D) : Ro → Res D := fun ρ => (f ρ).bind fun x => (g ρ).bind fun y => Res.ofO (F x y)
def un (f : Ro → Res D) (F : D → Option D) : Ro → Res D := fun ρ => (f ρ).bind fun x => Res.ofO (F x)
/-- two expressions, borrowed, in a row -/
theorem two {σ : L2.St} {H : Hp} {Q : VK} {F : D → D → Option D} (h : tE X.K Cl W (bin f g F) σ H Q) :
    tB X.K Cl W f σ H fun v H1 => tB X.K Cl W g σ H1 fun w H2 => ∃ x y d G2, Same G2 H2 ∧ RepB X.K Cl G2 H2 x v ∧ RepB X.K Cl G2 H2 y w ∧ F x y = some d ∧ ∀ u G' H', Ext G2 H2 G' H' → Rep X.K Cl G' d u → Q u H' := by
  obtain ⟨G0, H0, G, ρ, sim, h⟩ := h
  refine ⟨G0, H0, G, ρ, sim, ?_⟩
  have h1 := PostB.seqE (r := f ρ) h
  cases e : f ρ with
  | exc c ns ds => rw [e] at h1; exact h1
  | stuck => rw [e] at h1; exact h1
  | ok x0 =>
    rw [e] at h1
    intro v G1 H1 e1 r1
    obtain ⟨x, G1', ex, e1', r1', h2⟩ := h1 v G1 H1 e1 r1
    cases ex
    refine ⟨G0, H0, G1', ρ, sim.grow e1', ?_⟩
    have h3 := PostB.seqE (r := g ρ) h2
    cases e' : g ρ with
    | exc c ns ds => rw [e'] at h3; exact h3
    | stuck => rw [e'] at h3; exact h3
    | ok y0 =>
      rw [e'] at h3
      intro w G2 H2 e2 r2
      obtain ⟨y, G2', ey, e2', r2', h4⟩ := h3 w G2 H2 e2 r2
      obtain ⟨d, hd, hq⟩ := PostE.ofO h4
      exact ⟨x0, y, d, G2', e2'.low, r1'.grow e2', r2', hd, hq⟩
theorem rE_bin {op : Operator} {F : D → D → Option D} (ho : OpD X Cl (binaryOp op) F) (ha : PE X a (tB X.K Cl W f)) (hb : PE X b (tB X.K Cl W g)) : PE X (.BinOp a op b pos) (tE X.K Cl W (bin f g F)) := by
  refine ⟨fun pins s σ H Q I h => ?_⟩
  refine wpAny_BinOp (binT ha hb I (two h) fun v u s2 x y H2 I2 rx ry q => ?_)
  obtain ⟨x', y', d, G2, sm, r1, r2, hd, hq⟩ := q
  exact ho pins s2 σ G2 H2 x' y' d x y v u Q I2 rx ry sm r1 r2 hd hq
theorem rE_cmp {op : CmpOp} {F : D → D → Option D} (ho : OpD X Cl (compareOp op) F) (ha : PE X a (tB X.K Cl W f)) (hb : PE X b (tB X.K Cl W g)) (hm : behindInMarks op b = false) : PE X (.Compare a [op] [b] pos) (tE X.K Cl W (bin f g F)) := by
  refine ⟨fun pins s σ H Q I h => ?_⟩
  refine wpAny_Compare1 (binT ha hb I (two h) fun v u s2 x y H2 I2 rx ry q => ?_) hm
  obtain ⟨x', y', d, G2, sm, r1, r2, hd, hq⟩ := q
  exact ho pins s2 σ G2 H2 x' y' d x y v u Q I2 rx ry sm r1 r2 hd hq
/-- as a test: the answer is a truth value -/
def onlyB (F : D → D → Option D) : Prop := ∀ x y d, F x y = some d → ∃ b, d = .bl b
theorem twoT {σ : L2.St} {H : Hp} {Q : Bool → Hp → Prop} {F : D → D → Option D} (hF : onlyB F) (h : tT X.K Cl W (bin f g F) σ H Q) :
    tE X.K Cl W (bin f g F) σ H fun v H1 => ∃ c, v = .bl c ∧ Q c H1 := by
  obtain ⟨G0, H0, G, ρ, sim, h⟩ := h
  refine ⟨G0, H0, G, ρ, sim, ?_⟩
  have : ∀ d, bin f g F ρ = .ok d → ∃ b, d = .bl b := fun d e => by
    unfold bin at e
    cases e1 : f ρ with
    | exc c ns ds => rw [e1] at e; cases e
    | stuck => rw [e1] at e; cases e
    | ok x =>
      rw [e1] at e
      cases e2 : g ρ with
      | exc c ns ds => simp only [Res.bind, e2] at e; cases e
      | stuck => simp only [Res.bind, e2] at e; cases e
      | ok y =>
        simp only [Res.bind, e2] at e
        cases e3 : F x y with
        | none => rw [e3] at e; cases e
        | some d' => rw [e3] at e; cases e; exact hF x y _ e3
  cases e : bin f g F ρ with
  | exc c ns ds => rw [e] at h; exact h
  | stuck => rw [e] at h; exact h
  | ok d =>
    obtain ⟨b, rfl⟩ := this d e
    rw [e] at h
    intro v G1 H1 e1 r1
    simp only [Rep] at r1
    exact ⟨b, r1, h G1 H1 e1⟩
theorem rT_cmp {op : CmpOp} {F : D → D → Option D} (hF : onlyB F) (ho : OpD X Cl (compareOp op) F) (ha : PE X a (tB X.K Cl W f)) (hb : PE X b (tB X.K Cl W g)) (hm : behindInMarks op b = false) : PT X (.Compare a [op] [b] pos) (tT X.K Cl W (bin f g F)) := by
  refine ⟨fun pins s σ H Q I h => ?_⟩
  have h' := twoT (X := X) hF h
  have h2 := two h'
  refine wpAny_isTrue_Compare1 (thn (ha.run pins s σ H _ I h2) fun v s1 ⟨x, H1, I1, r1, q1⟩ => thn (hb.run pins s1 σ H1 _ I1 q1) fun u s2 ⟨y, H2, I2, r2, q2⟩ => ?_) hm
  obtain ⟨x', y', d, G2, sm, p1, p2, hd, hq⟩ := q2
  refine thn (ho pins s2 σ G2 H2 x' y' d x y v u _ I2 r1 r2 sm p1 p2 hd hq) fun cv s3 ⟨z, H3, I3, r3, k, e, q3⟩ => ?_
  subst e
  cases r3
  exact wpAny_truthy_bool ⟨H3, I3, q3⟩
theorem one' {σ : L2.St} {H : Hp} {Q : VK} {F : D → Option D} (h : tE X.K Cl W (un f F) σ H Q) :
    tB X.K Cl W f σ H fun v H1 => ∃ x d G1, Same G1 H1 ∧ RepB X.K Cl G1 H1 x v ∧ F x = some d ∧ ∀ u G' H', Ext G1 H1 G' H' → Rep X.K Cl G' d u → Q u H' := by
  obtain ⟨G0, H0, G, ρ, sim, h⟩ := h
  refine ⟨G0, H0, G, ρ, sim, ?_⟩
  have h1 := PostB.seqE (r := f ρ) h
  cases e : f ρ with
  | exc c ns ds => rw [e] at h1; exact h1
  | stuck => rw [e] at h1; exact h1
  | ok x0 =>
    rw [e] at h1
    intro v G1 H1 e1 r1
    obtain ⟨x, G1', ex, e1', r1', h2⟩ := h1 v G1 H1 e1 r1
    cases ex
    obtain ⟨d, hd, hq⟩ := PostE.ofO h2
    exact ⟨x0, d, G1', e1'.low, r1', hd, hq⟩
theorem rE_un {op : UnaryOp} {F : D → Option D} (ho : UnD X Cl (unaryOp op) F) (ha : PE X a (tB X.K Cl W f)) : PE X (.UnaryOp op a pos) (tE X.K Cl W (un f F)) := by
  refine ⟨fun pins s σ H Q I h => ?_⟩
  refine UnaryOp_ (thn (ha.run pins s σ H _ I (one' h)) fun v s1 ⟨x, H1, I1, r1, q1⟩ => ?_)
  obtain ⟨x', d, G1, sm, p1, hd, hq⟩ := q1
  exact ho pins s1 σ G1 H1 x' d x v Q I1 r1 sm p1 hd hq

/-! truth -/
def truD : D → Option D
  | .non => some (.bl false)
  | .bl b => some (.bl b)
  | .int i => some (.bl (i != 0))
  | .str y => if y.length ≤ sizeLine then some (.bl ((y.length : Int) != 0)) else none
  | .lst xs => some (.bl (!xs.isEmpty))
  | .frl xs => some (.bl (!xs.isEmpty))
  | .tup xs => some (.bl (!xs.isEmpty))
  | .ins _ _ _ => none
theorem isEmpty_len {α β : Type} {xs : List α} {ys : List β} (h : xs.length = ys.length) : xs.isEmpty = ys.isEmpty := by
  cases xs <;> cases ys <;> first | rfl | simp at h
theorem tru_rep {K : Frg} {G H : Hp} {x d : D} {v : V} (sm : Same G H) (r : RepB K Cl G H x v) (e : truD x = some d) : ∃ k, d = .bl k ∧ TruV K v H k := by
  cases x with
  | non => cases r.non; cases e; exact ⟨_, rfl, rfl⟩
  | bl b => cases r.bl; cases e; exact ⟨_, rfl, rfl⟩
  | int i => cases r.int; cases e; exact ⟨_, rfl, rfl⟩
  | str y =>
    cases r.str
    by_cases hy : y.length ≤ sizeLine
    · have e' := (if_pos hy).symm.trans e
      cases e'
      exact ⟨_, rfl, hy, rfl⟩
    · have e' := (if_neg hy).symm.trans e
      cases e'
  | lst xs =>
    cases e
    obtain ⟨a, ys, rfl, h1, h2⟩ := r.lst sm
    exact ⟨_, rfl, .inl ⟨ys, SqL.of h1, by rw [isEmpty_len h2.length]⟩⟩
  | frl xs =>
    cases e
    obtain ⟨a, ys, rfl, h1, h2⟩ := r.frl sm
    exact ⟨_, rfl, .inl ⟨ys, h1, by rw [isEmpty_len h2.length]⟩⟩
  | tup xs =>
    cases e
    obtain ⟨a, ys, rfl, h1, h2, _⟩ := r.tup sm
    exact ⟨_, rfl, .inr (.inl ⟨ys, h1, by rw [isEmpty_len h2.length]⟩)⟩
  | ins c ns ds => cases e
/-- an expression's truth -/
theorem rT_truth (ha : PE X a (tB X.K Cl W f)) (he : ∀ whole, isTrue a X.env whole = (do let v ← whole; standAt a.pos; holding [v] (truthy v))) : PT X a (tT X.K Cl W (un f truD)) := by
  refine PT.imp (pt_truth ha he) fun σ H Q h => ?_
  obtain ⟨G0, H0, G, ρ, sim, h⟩ := h
  refine ⟨G0, H0, G, ρ, sim, ?_⟩
  have h1 := PostB.seqT (r := f ρ) h
  cases e : f ρ with
  | exc c ns ds => rw [e] at h1; exact h1
  | stuck => rw [e] at h1; exact h1
  | ok x0 =>
    rw [e] at h1
    intro v G1 H1 e1 r1
    obtain ⟨x, G1', ex, e1', r1', h2⟩ := h1 v G1 H1 e1 r1
    cases ex
    cases e3 : truD x0 with
    | none => rw [e3] at h2; exact h2.elim
    | some d =>
      rw [e3] at h2
      obtain ⟨k, rfl, tv⟩ := tru_rep e1'.low r1' e3
      exact ⟨k, tv, h2 G1' H1 (Ext.refl e1'.low)⟩
end
end Pu
/-! PuC: operators, built-in calls, subscripts and slices over plain data, each with its rule. -/
namespace Pu
open PySem PySem.Spec PyProof.Rows L2

/-! ### the data as the library's data -/
mutual
def toPy : D → Option PyData
  | .non => some .none
  | .bl b => some (.bool b)
  | .int i => some (.int i)
  | .str x => some (.str x)
  | .lst xs => (toPys xs).map .list
  | .frl xs => (toPys xs).map .list
  | .tup xs => (toPys xs).map .tuple
  | .ins _ _ _ => none
def toPys : List D → Option (List PyData)
  | [] => some []
  | d :: ds => match toPy d, toPys ds with
    | some p, some ps => some (p :: ps)
    | _, _ => none
end
section
variable {K : Frg} {Cl : ClT} {G H : Hp}
mutual
theorem Rep.dp : ∀ (d : D) (v : V) (p : PyData), Rep K Cl H d v → toPy d = some p → Dp K H v p
  | .non, v, p, h, e => by
    simp only [Rep] at h
    simp only [toPy] at e
    cases e; subst h; exact .non
  | .bl b, v, p, h, e => by
    simp only [Rep] at h
    simp only [toPy] at e
    cases e; subst h; exact .bl b
  | .int b, v, p, h, e => by
    simp only [Rep] at h
    simp only [toPy] at e
    cases e; subst h; exact .int b
  | .str b, v, p, h, e => by
    simp only [Rep] at h
    simp only [toPy] at e
    cases e; subst h; exact .str b
  | .lst xs, v, p, h, e => by
    simp only [Rep] at h
    obtain ⟨a, ys, rfl, h1, h2⟩ := h
    simp only [toPy] at e
    obtain ⟨ps, e1, rfl⟩ := Option.map_eq_some_iff.mp e
    exact .lst (SqL.of h1) (Reps.dp xs ys ps h2 e1)
  | .frl xs, v, p, h, e => by
    simp only [Rep] at h
    obtain ⟨a, ys, rfl, h1, h2⟩ := h
    simp only [toPy] at e
    obtain ⟨ps, e1, rfl⟩ := Option.map_eq_some_iff.mp e
    exact .lst h1 (Reps.dp xs ys ps h2 e1)
  | .tup xs, v, p, h, e => by
    simp only [Rep] at h
    obtain ⟨a, ys, rfl, h1, h2⟩ := h
    simp only [toPy] at e
    obtain ⟨ps, e1, rfl⟩ := Option.map_eq_some_iff.mp e
    exact .tup h1 (Reps.dp xs ys ps h2 e1)
  | .ins _ _ _, v, p, h, e => by
    simp only [toPy] at e
    cases e
theorem Reps.dp : ∀ (ds : List D) (vs : List V) (ps : List PyData), Reps K Cl H ds vs → toPys ds = some ps → DpAll K H vs ps
  | [], vs, ps, h, e => by
    simp only [Reps] at h
    simp only [toPys] at e
    cases e; subst h; exact .nil
  | d :: ds, vs, ps, h, e => by
    simp only [Reps] at h
    obtain ⟨v, r, rfl, h1, h2⟩ := h
    simp only [toPys] at e
    cases e1 : toPy d with
    | none => rw [e1] at e; cases e
    | some p =>
      cases e2 : toPys ds with
      | none => rw [e1, e2] at e; cases e
      | some qs =>
        rw [e1, e2] at e
        cases e
        exact .cons (Rep.dp d v p h1 e1) (Reps.dp ds r qs h2 e2)
end
theorem RepB.dp {d : D} {v : V} {p : PyData} (s : Same G H) (h : RepB K Cl G H d v) (e : toPy d = some p) : Dp K H v p := by
  rcases h with h | ⟨ds, a, xs, rfl, rfl, h1, h2⟩ | ⟨c, ns, ds, a, C, dx, xs, rfl, rfl, _⟩
  · exact Rep.dp d v p (h.mono s) e
  · simp only [toPy] at e
    obtain ⟨ps, e1, rfl⟩ := Option.map_eq_some_iff.mp e
    exact .lst (SqL.of h1) (Reps.dp ds xs ps (h2.mono s) e1)
  · simp only [toPy] at e
    cases e
end

/-! ### two-place operators -/
def addD : D → D → Option D
  | .int i, .int j => some (.int (i + j))
  | .str x, .str y => if x.length + y.length ≤ sizeLine then some (.str (x ++ y)) else none
  | .lst xs, .lst ys => if xs.length + ys.length ≤ sizeLine then some (.lst (xs ++ ys)) else none
  | .tup xs, .tup ys => if xs.length + ys.length ≤ sizeLine then some (.tup (xs ++ ys)) else none
  | _, _ => none
def subD : D → D → Option D
  | .int i, .int j => some (.int (i - j))
  | _, _ => none
def mulD : D → D → Option D
  | .int i, .int j => if i.natAbs.log2 + j.natAbs.log2 < 1000000 then some (.int (i * j)) else none
  | .lst xs, .int k => if -(2 ^ 63) ≤ k ∧ k < 2 ^ 63 ∧ xs.length * k.toNat ≤ sizeLine then some (.lst (List.replicate k.toNat xs).flatten) else none
  | _, _ => none
def fdivD : D → D → Option D
  | .int i, .int j => if j ≠ 0 ∧ j.natAbs.log2 < 9000 then some (.int (i.fdiv j)) else none
  | _, _ => none
def modD : D → D → Option D
  | .int i, .int j => if j ≠ 0 then some (.int (i.fmod j)) else none
  | _, _ => none
def powD : D → D → Option D
  | .int i, .int j => if 0 ≤ j ∧ j ≤ 1000000 ∧ i.natAbs < 2 ^ 64 then some (.int (i ^ j.toNat)) else none
  | _, _ => none
def bandD : D → D → Option D
  | .int i, .int j => some (.int (Builtin.bitAnd i j))
  | _, _ => none
def shrD : D → D → Option D
  | .int i, .int j => if 0 ≤ j then some (.int (i / 2 ^ j.toNat)) else none
  | _, _ => none
def noD : D → D → Option D := fun _ _ => none
def binD : Operator → D → D → Option D
  | .Add => addD
  | .Sub => subD
  | .Mult => mulD
  | .FloorDiv => fdivD
  | .Mod => modD
  | .Pow => powD
  | .BitAnd => bandD
  | .RShift => shrD
  | _ => noD

section
variable {X : Cx} {Cl : ClT}
theorem opd_add : OpD X Cl (binaryOp .Add) addD := by
  intro pins s σ G H x y d v w u1 u2 Q I rv rw' sm r1 r2 e q
  cases x with
  | int i =>
    cases y with
    | int j =>
      cases e
      cases r1.int
      cases r2.int
      exact op_add pins s σ H _ _ u1 u2 Q I rv rw' ⟨i, j, rfl, rfl, q _ G H (Ext.refl sm) (by simp only [Rep])⟩
    | _ => cases e
  | str i =>
    cases y with
    | str j =>
      by_cases c : i.length + j.length ≤ sizeLine
      · have e' := (if_pos c).symm.trans e
        cases e'
        cases r1.str
        cases r2.str
        exact op_add_str pins s σ H _ _ u1 u2 Q I rv rw' ⟨i, j, rfl, rfl, c, q _ G H (Ext.refl sm) (by simp only [Rep])⟩
      · have e' := (if_neg c).symm.trans e
        cases e'
    | _ => cases e
  | lst xs =>
    cases y with
    | lst ys =>
      by_cases c : xs.length + ys.length ≤ sizeLine
      · have e' := (if_pos c).symm.trans e
        cases e'
        obtain ⟨a, vs, rfl, h1, h2⟩ := r1.lst sm
        obtain ⟨b, ws, rfl, h3, h4⟩ := r2.lst sm
        refine op_cat pins s σ H _ _ u1 u2 Q I rv rw' ⟨a, b, vs, ws, rfl, rfl, h1, h3, by rw [← h2.length, ← h4.length]; exact c, fun p hp => q _ _ _ (Ext.new sm hp) ?_⟩
        simp only [Rep]
        exact ⟨p, _, rfl, upd_same, (h2.append h4).mono (same_upd (Same.free sm hp))⟩
      · have e' := (if_neg c).symm.trans e
        cases e'
    | _ => cases e
  | tup xs =>
    cases y with
    | tup ys =>
      by_cases c : xs.length + ys.length ≤ sizeLine
      · have e' := (if_pos c).symm.trans e
        cases e'
        obtain ⟨a, vs, rfl, h1, h2, g1⟩ := r1.tup sm
        obtain ⟨b, ws, rfl, h3, h4, g2⟩ := r2.tup sm
        refine op_catA pins s σ H _ _ u1 u2 Q I rv rw' ⟨a, b, vs, ws, rfl, rfl, h1, h3, by rw [← h2.length, ← h4.length]; exact c, fun z => ?_, fun _ z => ?_, fun _ _ p hp => q _ _ _ (Ext.new sm hp) ?_⟩
        · subst z
          have : xs = [] := List.eq_nil_of_length_eq_zero (by rw [h2.length]; rfl)
          subst this
          refine q _ G H (Ext.refl sm) ?_
          simp only [Rep, List.nil_append]
          exact ⟨b, ws, rfl, g2, h4⟩
        · subst z
          have : ys = [] := List.eq_nil_of_length_eq_zero (by rw [h4.length]; rfl)
          subst this
          refine q _ G H (Ext.refl sm) ?_
          simp only [Rep, List.append_nil]
          exact ⟨a, vs, rfl, g1, h2⟩
        · simp only [Rep]
          exact ⟨p, _, rfl, SqT.of upd_same, (h2.append h4).mono (same_upd (Same.free sm hp))⟩
      · have e' := (if_neg c).symm.trans e
        cases e'
    | _ => cases e
  | _ => cases y <;> cases e
theorem opd_sub : OpD X Cl (binaryOp .Sub) subD := by
  intro pins s σ G H x y d v w u1 u2 Q I rv rw' sm r1 r2 e q
  cases x with
  | int i =>
    cases y with
    | int j =>
      cases e
      cases r1.int
      cases r2.int
      exact op_sub pins s σ H _ _ u1 u2 Q I rv rw' ⟨i, j, rfl, rfl, q _ G H (Ext.refl sm) (by simp only [Rep])⟩
    | _ => cases e
  | _ => cases y <;> cases e
theorem opd_mul : OpD X Cl (binaryOp .Mult) mulD := by
  intro pins s σ G H x y d v w u1 u2 Q I rv rw' sm r1 r2 e q
  cases x with
  | int i =>
    cases y with
    | int j =>
      by_cases c : i.natAbs.log2 + j.natAbs.log2 < 1000000
      · have e' := (if_pos c).symm.trans e
        cases e'
        cases r1.int
        cases r2.int
        exact op_mulW pins s σ H _ _ u1 u2 Q I rv rw' ⟨i, j, rfl, rfl, c, q _ G H (Ext.refl sm) (by simp only [Rep])⟩
      · have e' := (if_neg c).symm.trans e
        cases e'
    | _ => cases e
  | lst xs =>
    cases y with
    | int j =>
      by_cases c : -(2 ^ 63) ≤ j ∧ j < 2 ^ 63 ∧ xs.length * j.toNat ≤ sizeLine
      · have e' := (if_pos c).symm.trans e
        cases e'
        cases r2.int
        obtain ⟨a, vs, rfl, h1, h2⟩ := r1.lst sm
        refine op_rep pins s σ H _ _ u1 u2 Q I rv rw' ⟨a, j, vs, rfl, rfl, h1, c.1, c.2.1, by rw [← h2.length]; exact c.2.2, fun p hp => q _ _ _ (Ext.new sm hp) ?_⟩
        simp only [Rep]
        refine ⟨p, _, rfl, upd_same, Reps.mono (same_upd (Same.free sm hp)) _ _ ?_⟩
        have rp : ∀ k : Nat, Reps X.K Cl G (List.replicate k xs).flatten (List.replicate k vs).flatten := fun k => by
          induction k with
          | zero => simpa using Reps.nil
          | succ k ih =>
            rw [List.replicate_succ, List.replicate_succ, List.flatten_cons, List.flatten_cons]
            exact h2.append ih
        exact rp _
      · have e' := (if_neg c).symm.trans e
        cases e'
    | _ => cases e
  | _ => cases y <;> cases e
theorem opd_fdiv : OpD X Cl (binaryOp .FloorDiv) fdivD := by
  intro pins s σ G H x y d v w u1 u2 Q I rv rw' sm r1 r2 e q
  cases x with
  | int i =>
    cases y with
    | int j =>
      by_cases c : j ≠ 0 ∧ j.natAbs.log2 < 9000
      · have e' := (if_pos c).symm.trans e
        cases e'
        cases r1.int
        cases r2.int
        obtain ⟨t, rfl⟩ := rv
        obtain ⟨t', rfl⟩ := rw'
        exact floordiv_int c.1 ⟨.int _, H, I.tok _, ⟨_, rfl⟩, q _ G H (Ext.refl sm) (by simp only [Rep])⟩ (.inl (PyProof.noPylong_of_log2 c.2))
      · have e' := (if_neg c).symm.trans e
        cases e'
    | _ => cases e
  | _ => cases y <;> cases e
theorem opd_mod : OpD X Cl (binaryOp .Mod) modD := by
  intro pins s σ G H x y d v w u1 u2 Q I rv rw' sm r1 r2 e q
  cases x with
  | int i =>
    cases y with
    | int j =>
      by_cases c : j ≠ 0
      · have e' := (if_pos c).symm.trans e
        cases e'
        cases r1.int
        cases r2.int
        exact op_modN pins s σ H _ _ u1 u2 Q I rv rw' ⟨i, j, rfl, rfl, c, q _ G H (Ext.refl sm) (by simp only [Rep])⟩
      · have e' := (if_neg c).symm.trans e
        cases e'
    | _ => cases e
  | _ => cases y <;> cases e
theorem opd_pow : OpD X Cl (binaryOp .Pow) powD := by
  intro pins s σ G H x y d v w u1 u2 Q I rv rw' sm r1 r2 e q
  cases x with
  | int i =>
    cases y with
    | int j =>
      by_cases c : 0 ≤ j ∧ j ≤ 1000000 ∧ i.natAbs < 2 ^ 64
      · have e' := (if_pos c).symm.trans e
        cases e'
        cases r1.int
        cases r2.int
        exact op_pow pins s σ H _ _ u1 u2 Q I rv rw' ⟨i, j, rfl, rfl, c, q _ G H (Ext.refl sm) (by simp only [Rep])⟩
      · have e' := (if_neg c).symm.trans e
        cases e'
    | _ => cases e
  | _ => cases y <;> cases e
theorem opd_band : OpD X Cl (binaryOp .BitAnd) bandD := by
  intro pins s σ G H x y d v w u1 u2 Q I rv rw' sm r1 r2 e q
  cases x with
  | int i =>
    cases y with
    | int j =>
      cases e
      cases r1.int
      cases r2.int
      exact op_and pins s σ H _ _ u1 u2 Q I rv rw' ⟨i, j, rfl, rfl, q _ G H (Ext.refl sm) (by simp only [Rep])⟩
    | _ => cases e
  | _ => cases y <;> cases e
theorem opd_shr : OpD X Cl (binaryOp .RShift) shrD := by
  intro pins s σ G H x y d v w u1 u2 Q I rv rw' sm r1 r2 e q
  cases x with
  | int i =>
    cases y with
    | int j =>
      by_cases c : 0 ≤ j
      · have e' := (if_pos c).symm.trans e
        cases e'
        cases r1.int
        cases r2.int
        exact op_shr pins s σ H _ _ u1 u2 Q I rv rw' ⟨i, j, rfl, rfl, c, q _ G H (Ext.refl sm) (by simp only [Rep])⟩
      · have e' := (if_neg c).symm.trans e
        cases e'
    | _ => cases e
  | _ => cases y <;> cases e
theorem opd_no {f : Value → Value → Sem Value} : OpD X Cl f noD := fun _ _ _ _ _ _ _ _ _ _ _ _ _ _ _ _ _ _ _ e _ => by cases e
theorem opd_bin (o : Operator) : OpD X Cl (binaryOp o) (binD o) := by
  cases o with
  | Add => exact opd_add
  | Sub => exact opd_sub
  | Mult => exact opd_mul
  | FloorDiv => exact opd_fdiv
  | Mod => exact opd_mod
  | Pow => exact opd_pow
  | BitAnd => exact opd_band
  | RShift => exact opd_shr
  | _ => exact opd_no
def negD : D → Option D
  | .int i => some (.int (-i))
  | _ => none
theorem und_neg : UnD X Cl (unaryOp .USub) negD := by
  intro pins s σ G H x d v u1 Q I rv sm r1 e q
  cases x with
  | int i =>
    cases e
    cases r1.int
    exact un_neg pins s σ H _ u1 Q I rv ⟨i, rfl, q _ G H (Ext.refl sm) (by simp only [Rep])⟩
  | _ => cases e
end

/-! ### comparisons -/
def eqD (x y : D) : Option D := match toPy x, toPy y with
  | some a, some b => if SeqAt.shaped a = true ∧ SeqAt.shaped b = true then some (.bl (PyData.eqv a b)) else none
  | _, _ => none
def neD (x y : D) : Option D := match toPy x, toPy y with
  | some a, some b => if SeqAt.shaped a = true ∧ SeqAt.shaped b = true then some (.bl (!PyData.eqv a b)) else none
  | _, _ => none
def ltD : D → D → Option D
  | .int i, .int j => some (.bl (decide (i < j)))
  | .str i, .str j => some (.bl (decide (i.cps.toList < j.cps.toList)))
  | _, _ => none
def leD : D → D → Option D
  | .int i, .int j => some (.bl (decide (i ≤ j)))
  | _, _ => none
def gtD : D → D → Option D
  | .int i, .int j => some (.bl (decide (j < i)))
  | _, _ => none
def geD : D → D → Option D
  | .int i, .int j => some (.bl (decide (j ≤ i)))
  | _, _ => none
def isNonD : D → Bool
  | .non => true
  | _ => false
def isD : D → D → Option D
  | x, .non => some (.bl (isNonD x))
  | .bl a, .bl b => some (.bl (decide (a = b)))
  | _, _ => none
def isNotD : D → D → Option D
  | x, .non => some (.bl (!isNonD x))
  | .bl a, .bl b => some (.bl (!decide (a = b)))
  | _, _ => none
def flatD : D → Bool
  | .non => true
  | .bl _ => true
  | .int _ => true
  | .str _ => true
  | _ => false
def eqFD : D → D → Bool
  | .non, .non => true
  | .bl a, .bl b => a == b
  | .bl a, .int b => (if a then 1 else 0) == b
  | .int a, .bl b => a == (if b then 1 else 0)
  | .int a, .int b => a == b
  | .str a, .str b => a == b
  | _, _ => false
def memD (x : D) : D → Option Bool
  | .lst ys => match toPy x, toPys ys with
    | some p, some ps => if SeqAt.shaped p = true ∧ SeqAt.shaped (.list ps) = true then some (ps.any fun z => PyData.eqv z p) else none
    | _, _ => none
  | .frl ys => match toPy x, toPys ys with
    | some p, some ps => if SeqAt.shaped p = true ∧ SeqAt.shaped (.list ps) = true then some (ps.any fun z => PyData.eqv z p) else none
    | _, _ => none
  | .tup ys => if flatD x = true ∧ ys.all flatD = true then some (ys.any fun y => eqFD y x) else none
  | .str z => match x with
    | .str c => if c.cps.size = 1 then some (decide (c.cps.getD 0 0 ∈ z.cps.toList)) else none
    | _ => none
  | _ => none
def inD (x y : D) : Option D := (memD x y).map fun b => .bl b
def notInD (x y : D) : Option D := (memD x y).map fun b => .bl (!b)
def cmpD : CmpOp → D → D → Option D
  | .Eq => eqD
  | .NotEq => neD
  | .Lt => ltD
  | .LtE => leD
  | .Gt => gtD
  | .GtE => geD
  | .Is => isD
  | .IsNot => isNotD
  | .In => inD
  | .NotIn => notInD

section
variable {X : Cx} {Cl : ClT}
theorem opd_eq (hu : X.A.units + 64 < cLine) : OpD X Cl (compareOp .Eq) eqD := by
  intro pins s σ G H x y d v w u1 u2 Q I rv rw' sm r1 r2 e q
  unfold eqD at e
  cases ex : toPy x with
  | none => rw [ex] at e; cases e
  | some p =>
    cases ey : toPy y with
    | none => rw [ex, ey] at e; cases e
    | some p' =>
      rw [ex, ey] at e
      dsimp only at e
      split at e
      · rename_i c
        cases e
        exact op_eqD hu pins s σ H _ _ u1 u2 Q I rv rw' ⟨p, p', r1.dp sm ex, r2.dp sm ey, c.1, c.2, q _ G H (Ext.refl sm) (by simp only [Rep])⟩
      · cases e
theorem opd_ne (hu : X.A.units + 64 < cLine) : OpD X Cl (compareOp .NotEq) neD := by
  intro pins s σ G H x y d v w u1 u2 Q I rv rw' sm r1 r2 e q
  unfold neD at e
  cases ex : toPy x with
  | none => rw [ex] at e; cases e
  | some p =>
    cases ey : toPy y with
    | none => rw [ex, ey] at e; cases e
    | some p' =>
      rw [ex, ey] at e
      dsimp only at e
      split at e
      · rename_i c
        cases e
        exact op_neD hu pins s σ H _ _ u1 u2 Q I rv rw' ⟨p, p', r1.dp sm ex, r2.dp sm ey, c.1, c.2, q _ G H (Ext.refl sm) (by simp only [Rep])⟩
      · cases e
theorem opd_lt : OpD X Cl (compareOp .Lt) ltD := by
  intro pins s σ G H x y d v w u1 u2 Q I rv rw' sm r1 r2 e q
  cases x with
  | int i =>
    cases y with
    | int j =>
      cases e
      cases r1.int
      cases r2.int
      exact op_lt pins s σ H _ _ u1 u2 Q I rv rw' ⟨i, j, rfl, rfl, q _ G H (Ext.refl sm) (by simp only [Rep])⟩
    | _ => cases e
  | str i =>
    cases y with
    | str j =>
      cases e
      cases r1.str
      cases r2.str
      exact op_lt_str pins s σ H _ _ u1 u2 Q I rv rw' ⟨i, j, rfl, rfl, q _ G H (Ext.refl sm) (by simp only [Rep])⟩
    | _ => cases e
  | _ => cases y <;> cases e
theorem opd_le : OpD X Cl (compareOp .LtE) leD := by
  intro pins s σ G H x y d v w u1 u2 Q I rv rw' sm r1 r2 e q
  cases x with
  | int i =>
    cases y with
    | int j =>
      cases e
      cases r1.int
      cases r2.int
      exact op_le pins s σ H _ _ u1 u2 Q I rv rw' ⟨i, j, rfl, rfl, q _ G H (Ext.refl sm) (by simp only [Rep])⟩
    | _ => cases e
  | _ => cases y <;> cases e
theorem opd_gt : OpD X Cl (compareOp .Gt) gtD := by
  intro pins s σ G H x y d v w u1 u2 Q I rv rw' sm r1 r2 e q
  cases x with
  | int i =>
    cases y with
    | int j =>
      cases e
      cases r1.int
      cases r2.int
      exact op_gt pins s σ H _ _ u1 u2 Q I rv rw' ⟨i, j, rfl, rfl, q _ G H (Ext.refl sm) (by simp only [Rep])⟩
    | _ => cases e
  | _ => cases y <;> cases e
theorem opd_ge : OpD X Cl (compareOp .GtE) geD := by
  intro pins s σ G H x y d v w u1 u2 Q I rv rw' sm r1 r2 e q
  cases x with
  | int i =>
    cases y with
    | int j =>
      cases e
      cases r1.int
      cases r2.int
      exact op_ge pins s σ H _ _ u1 u2 Q I rv rw' ⟨i, j, rfl, rfl, q _ G H (Ext.refl sm) (by simp only [Rep])⟩
    | _ => cases e
  | _ => cases y <;> cases e
theorem non_of {K : Frg} {G H : Hp} {x : D} {v : V} (r : RepB K Cl G H x v) : decide (v = .non) = isNonD x := by
  cases x with
  | non => cases r.non; rfl
  | bl b => cases r.bl; rfl
  | int b => cases r.int; rfl
  | str b => cases r.str; rfl
  | lst xs =>
    rcases r with r | ⟨_, a, _, _, rfl, _⟩ | ⟨_, _, _, a, _, _, _, _, rfl, _⟩
    · simp only [Rep] at r
      obtain ⟨a, ys, rfl, _⟩ := r
      rfl
    · rfl
    · rfl
  | frl xs =>
    rcases r with r | ⟨_, a, _, _, rfl, _⟩ | ⟨_, _, _, a, _, _, _, _, rfl, _⟩
    · simp only [Rep] at r
      obtain ⟨a, ys, rfl, _⟩ := r
      rfl
    · rfl
    · rfl
  | tup xs =>
    rcases r with r | ⟨_, a, _, _, rfl, _⟩ | ⟨_, _, _, a, _, _, _, _, rfl, _⟩
    · simp only [Rep] at r
      obtain ⟨a, ys, rfl, _⟩ := r
      rfl
    · rfl
    · rfl
  | ins c ns ds =>
    rcases r with r | ⟨_, a, _, _, rfl, _⟩ | ⟨_, _, _, a, _, _, _, _, rfl, _⟩
    · simp only [Rep] at r
      obtain ⟨a, _, _, _, rfl, _⟩ := r
      rfl
    · rfl
    · rfl
theorem isD_non (x : D) : isD x .non = some (.bl (isNonD x)) := by cases x <;> rfl
theorem isNotD_non (x : D) : isNotD x .non = some (.bl (!isNonD x)) := by cases x <;> rfl
theorem opd_is : OpD X Cl (compareOp .Is) isD := by
  intro pins s σ G H x y d v w u1 u2 Q I rv rw' sm r1 r2 e q
  cases y with
  | non =>
    rw [isD_non] at e
    cases e
    cases r2.non
    refine op_isN pins s σ H _ _ u1 u2 Q I rv rw' ⟨rfl, ?_⟩
    rw [non_of r1]
    exact q _ G H (Ext.refl sm) (by simp only [Rep])
  | bl b =>
    cases x with
    | bl a =>
      cases e
      cases r1.bl
      cases r2.bl
      exact op_isBl pins s σ H _ _ u1 u2 Q I rv rw' ⟨a, b, rfl, rfl, q _ G H (Ext.refl sm) (by simp only [Rep])⟩
    | _ => cases e
  | _ => cases x <;> cases e
theorem opd_isNot : OpD X Cl (compareOp .IsNot) isNotD := by
  intro pins s σ G H x y d v w u1 u2 Q I rv rw' sm r1 r2 e q
  cases y with
  | non =>
    rw [isNotD_non] at e
    cases e
    cases r2.non
    refine op_notN pins s σ H _ _ u1 u2 Q I rv rw' ⟨rfl, ?_⟩
    rw [non_of r1]
    exact q _ G H (Ext.refl sm) (by simp only [Rep])
  | bl b =>
    cases x with
    | bl a =>
      cases e
      cases r1.bl
      cases r2.bl
      exact op_notBl pins s σ H _ _ u1 u2 Q I rv rw' ⟨a, b, rfl, rfl, q _ G H (Ext.refl sm) (by simp only [Rep])⟩
    | _ => cases e
  | _ => cases x <;> cases e
end
end Pu
/-! PuD: in, not in, subscripts, slices, built-in calls. -/
namespace Pu
open PySem PySem.Spec PyProof.Rows L2

theorem flat_rep {K : Frg} {Cl : ClT} {G H : Hp} {x : D} {v : V} (r : RepB K Cl G H x v) (f : flatD x = true) : flatV v = true := by
  cases x with
  | non => cases r.non; rfl
  | bl b => cases r.bl; rfl
  | int b => cases r.int; rfl
  | str b => cases r.str; rfl
  | _ => cases f
theorem eqF_rep {K : Frg} {Cl : ClT} {G H : Hp} {x y : D} {v w : V} (r : RepB K Cl G H x v) (r' : RepB K Cl G H y w) (f : flatD x = true) (f' : flatD y = true) : eqV v w = eqFD x y := by
  cases x with
  | non =>
    cases r.non
    cases y with
    | non => cases r'.non; rfl
    | bl b => cases r'.bl; rfl
    | int b => cases r'.int; rfl
    | str b => cases r'.str; rfl
    | _ => cases f'
  | bl b =>
    cases r.bl
    cases y with
    | non => cases r'.non; rfl
    | bl b => cases r'.bl; rfl
    | int b => cases r'.int; rfl
    | str b => cases r'.str; rfl
    | _ => cases f'
  | int b =>
    cases r.int
    cases y with
    | non => cases r'.non; rfl
    | bl b => cases r'.bl; rfl
    | int b => cases r'.int; rfl
    | str b => cases r'.str; rfl
    | _ => cases f'
  | str b =>
    cases r.str
    cases y with
    | non => cases r'.non; rfl
    | bl b => cases r'.bl; rfl
    | int b => cases r'.int; rfl
    | str b => cases r'.str; rfl
    | _ => cases f'
  | _ => cases f
theorem all_flat {K : Frg} {Cl : ClT} {G H : Hp} : ∀ {ys : List D} {ws : List V}, Reps K Cl G ys ws → ys.all flatD = true → ws.all flatV = true
  | [], ws, h, _ => by
    simp only [Reps] at h
    subst h
    rfl
  | y :: ys, ws, h, f => by
    simp only [Reps] at h
    obtain ⟨w, r, rfl, h1, h2⟩ := h
    rw [List.all_cons, Bool.and_eq_true] at f ⊢
    exact ⟨flat_rep (H := G) (.inl h1) f.1, all_flat (H := G) h2 f.2⟩
theorem in_rep {K : Frg} {Cl : ClT} {G H : Hp} {x : D} {v : V} (r : RepB K Cl G H x v) (f : flatD x = true) : ∀ {ys : List D} {ws : List V}, Reps K Cl G ys ws → ys.all flatD = true → inV v ws = ys.any fun y => eqFD y x
  | [], ws, h, _ => by
    simp only [Reps] at h
    subst h
    rfl
  | y :: ys, ws, h, g => by
    simp only [Reps] at h
    obtain ⟨w, r', rfl, h1, h2⟩ := h
    rw [List.all_cons, Bool.and_eq_true] at g
    have ih := in_rep r f h2 g.2
    unfold inV at ih ⊢
    rw [List.any_cons, List.any_cons, ih, eqF_rep (.inl h1) r g.1 f]

section
variable {X : Cx} {Cl : ClT}
theorem opd_mem {neg : Bool} {op : CmpOp} {F : D → D → Option D} (hF : ∀ x y, F x y = (memD x y).map fun b => .bl (if neg then !b else b))
    (hD : OpR X (compareOp op) (fun x y H Q => ∃ d ds, Dp X.K H x d ∧ Dp X.K H y (.list ds) ∧ SeqAt.shaped d = true ∧ SeqAt.shaped (.list ds) = true ∧ Q (.bl (if neg then !(ds.any fun z => PyData.eqv z d) else ds.any fun z => PyData.eqv z d)) H))
    (hS : OpR X (compareOp op) (rIn X.K neg))
    (hC : OpR X (compareOp op) (fun x y H Q => ∃ (c : Nat) (z : Str), x = .str ⟨#[c]⟩ ∧ y = .str z ∧ Q (.bl (if neg then !decide (c ∈ z.cps.toList) else decide (c ∈ z.cps.toList))) H)) : OpD X Cl (compareOp op) F := by
  intro pins s σ G H x y d v w u1 u2 Q I rv rw' sm r1 r2 e q
  rw [hF] at e
  obtain ⟨b, eb, rfl⟩ := Option.map_eq_some_iff.mp e
  have fin : ∀ b', b' = b → Q (.bl (if neg then !b' else b')) H := fun b' z => by
    subst z
    exact q _ G H (Ext.refl sm) (by simp only [Rep])
  have lists : ∀ (ys : List D) (ps : List PyData), toPys ys = some ps → Dp X.K H w (.list ps) → (match toPy x, toPys ys with
    | some p, some ps => if SeqAt.shaped p = true ∧ SeqAt.shaped (.list ps) = true then some (ps.any fun z => PyData.eqv z p) else none
    | _, _ => none) = some b → wpAny (model X.prog X.w) X.A (compareOp op u1 u2) (EP X pins σ Q) X.xe s := fun ys ps ey dy em => by
    cases ex : toPy x with
    | none => rw [ex] at em; cases em
    | some p =>
      rw [ex, ey] at em
      dsimp only at em
      split at em
      · rename_i c
        cases em
        exact hD pins s σ H _ _ u1 u2 Q I rv rw' ⟨p, ps, r1.dp sm ex, dy, c.1, c.2, fin _ rfl⟩
      · cases em
  cases y with
  | lst ys =>
    have eb' := eb
    unfold memD at eb'
    dsimp only at eb'
    cases ey : toPys ys with
    | none =>
      rw [ey] at eb'
      cases ex : toPy x with
      | none => rw [ex] at eb'; cases eb'
      | some p => rw [ex] at eb'; cases eb'
    | some ps => exact lists ys ps ey (r2.dp sm (by simp only [toPy, ey, Option.map_some])) eb
  | frl ys =>
    have eb' := eb
    unfold memD at eb'
    dsimp only at eb'
    cases ey : toPys ys with
    | none =>
      rw [ey] at eb'
      cases ex : toPy x with
      | none => rw [ex] at eb'; cases eb'
      | some p => rw [ex] at eb'; cases eb'
    | some ps => exact lists ys ps ey (r2.dp sm (by simp only [toPy, ey, Option.map_some])) eb
  | tup ys =>
    have eb' : (if flatD x = true ∧ ys.all flatD = true then some (ys.any fun y => eqFD y x) else none) = some b := by
      cases x <;> exact eb
    split at eb'
    · rename_i c
      cases eb'
      obtain ⟨a, ws, rfl, h1, h2, _⟩ := r2.tup sm
      refine hS pins s σ H _ _ u1 u2 Q I rv rw' ⟨a, ws, rfl, .inr h1, flat_rep r1 c.1, all_flat (H := G) h2 c.2, ?_⟩
      rw [in_rep r1 c.1 h2 c.2]
      have := fin _ rfl
      cases neg <;> exact this
    · cases eb'
  | str z =>
    cases x with
    | str c =>
      have eb' : (if c.cps.size = 1 then some (decide (c.cps.getD 0 0 ∈ z.cps.toList)) else none) = some b := eb
      split at eb'
      · rename_i hc
        cases eb'
        cases r1.str
        cases r2.str
        have ec : c = ⟨#[c.cps.getD 0 0]⟩ := by
          obtain ⟨a⟩ := c
          obtain ⟨l⟩ := a
          match l, hc with
          | [k], _ => rfl
        exact hC pins s σ H _ _ u1 u2 Q I rv rw' ⟨c.cps.getD 0 0, z, by rw [← ec], rfl, fin _ rfl⟩
      · cases eb'
    | _ => cases eb
  | _ => cases x <;> cases eb
theorem opd_in (hu : X.A.units + 65 < cLine) : OpD X Cl (compareOp .In) inD :=
  opd_mem (neg := false) (fun x y => rfl) (op_inD hu) op_in_seq op_in_sign
theorem opd_notIn (hu : X.A.units + 65 < cLine) : OpD X Cl (compareOp .NotIn) notInD :=
  opd_mem (neg := true) (fun x y => rfl) (op_notInD hu) op_notIn_seq op_notIn_sign
theorem opd_cmp (hu : X.A.units + 65 < cLine) (o : CmpOp) : OpD X Cl (compareOp o) (cmpD o) := by
  have hu' : X.A.units + 64 < cLine := by omega
  cases o with
  | Eq => exact opd_eq hu'
  | NotEq => exact opd_ne hu'
  | Lt => exact opd_lt
  | LtE => exact opd_le
  | Gt => exact opd_gt
  | GtE => exact opd_ge
  | Is => exact opd_is
  | IsNot => exact opd_isNot
  | In => exact opd_in hu
  | NotIn => exact opd_notIn hu
theorem cmp_onlyB (o : CmpOp) : onlyB (cmpD o) := by
  intro x y d e
  cases o with
  | Eq =>
    simp only [cmpD, eqD] at e
    split at e
    · split at e
      · cases e; exact ⟨_, rfl⟩
      · cases e
    · cases e
  | NotEq =>
    simp only [cmpD, neD] at e
    split at e
    · split at e
      · cases e; exact ⟨_, rfl⟩
      · cases e
    · cases e
  | Lt => cases x <;> cases y <;> first | (cases e; exact ⟨_, rfl⟩) | cases e
  | LtE => cases x <;> cases y <;> first | (cases e; exact ⟨_, rfl⟩) | cases e
  | Gt => cases x <;> cases y <;> first | (cases e; exact ⟨_, rfl⟩) | cases e
  | GtE => cases x <;> cases y <;> first | (cases e; exact ⟨_, rfl⟩) | cases e
  | Is => cases x <;> cases y <;> first | (cases e; exact ⟨_, rfl⟩) | cases e
  | IsNot => cases x <;> cases y <;> first | (cases e; exact ⟨_, rfl⟩) | cases e
  | In =>
    simp only [cmpD, inD] at e
    obtain ⟨b, _, rfl⟩ := Option.map_eq_some_iff.mp e
    exact ⟨_, rfl⟩
  | NotIn =>
    simp only [cmpD, notInD] at e
    obtain ⟨b, _, rfl⟩ := Option.map_eq_some_iff.mp e
    exact ⟨_, rfl⟩
end

/-! ### subscripts -/
def idxD : D → D → Option D
  | .lst xs, .int i => atI xs i
  | .frl xs, .int i => atI xs i
  | .tup xs, .int i => atI xs i
  | .str z, .int i => if z.length ≤ sizeLine then (atI z.cps.toList i).map fun c => .str ⟨#[c]⟩ else none
  | _, _ => none
theorem atI_rep {K : Frg} {Cl : ClT} {G : Hp} {ds : List D} {vs : List V} {i : Int} {d : D} (r : Reps K Cl G ds vs) (e : atI ds i = some d) : ∃ v, atI vs i = some v ∧ Rep K Cl G d v := by
  unfold atI at e ⊢
  rw [← r.length]
  cases h : ixN ds.length i with
  | none => rw [h] at e; cases e
  | some j =>
    rw [h] at e
    exact r.get e
section
variable {X : Cx} {Cl : ClT} {W : WX} {a b c : Expr} {f g h : Ro → Res D} {pos : Pos}
theorem rE_idx (ha : PE X a (tB X.K Cl W f)) (hb : PE X b (tB X.K Cl W g)) (hs : PlainIx b) : PE X (.Subscript a b pos) (tE X.K Cl W (bin f g idxD)) := by
  refine PE.imp (pe_ix ix_seq ha hb hs) fun σ H Q hh => ?_
  have h2 := two hh
  obtain ⟨G0, H0, G, ρ, sim, h2⟩ := h2
  refine ⟨G0, H0, G, ρ, sim, ?_⟩
  cases e : f ρ with
  | exc c ns ds => rw [e] at h2; exact h2
  | stuck => rw [e] at h2; exact h2
  | ok x0 =>
    rw [e] at h2
    intro v G1 H1 e1 r1
    obtain ⟨G0', H0', G1', ρ', sim', h3⟩ := h2 v G1 H1 e1 r1
    refine ⟨G0', H0', G1', ρ', sim', ?_⟩
    cases e' : g ρ' with
    | exc c ns ds => rw [e'] at h3; exact h3
    | stuck => rw [e'] at h3; exact h3
    | ok y0 =>
      rw [e'] at h3
      intro w G2 H2 e2 r2
      obtain ⟨x, y, d, G3, sm, p1, p2, hd, hq⟩ := h3 w G2 H2 e2 r2
      cases y with
      | int i =>
        cases p2.int
        cases x with
        | lst xs =>
          obtain ⟨a, ys, rfl, q1, q2⟩ := p1.lst sm
          obtain ⟨u, g1, g2⟩ := atI_rep q2 hd
          exact .inl ⟨a, ys, i, u, rfl, rfl, SqL.of q1, g1, hq u G3 H2 (Ext.refl sm) g2⟩
        | frl xs =>
          obtain ⟨a, ys, rfl, q1, q2⟩ := p1.frl sm
          obtain ⟨u, g1, g2⟩ := atI_rep q2 hd
          exact .inl ⟨a, ys, i, u, rfl, rfl, q1, g1, hq u G3 H2 (Ext.refl sm) g2⟩
        | tup xs =>
          obtain ⟨a, ys, rfl, q1, q2, _⟩ := p1.tup sm
          obtain ⟨u, g1, g2⟩ := atI_rep q2 hd
          exact .inr (.inl ⟨a, ys, i, u, rfl, rfl, q1, g1, hq u G3 H2 (Ext.refl sm) g2⟩)
        | str z =>
          cases p1.str
          have hd' : (if z.length ≤ sizeLine then (atI z.cps.toList i).map fun c => D.str ⟨#[c]⟩ else none) = some d := hd
          split at hd'
          · rename_i hz
            obtain ⟨cc, g1, rfl⟩ := Option.map_eq_some_iff.mp hd'
            exact .inr (.inr ⟨z, i, cc, rfl, rfl, hz, g1, hq _ G3 H2 (Ext.refl sm) (by simp only [Rep])⟩)
          · cases hd'
        | _ => cases hd
      | _ => cases x <;> cases hd

/-! ### slices -/
def cutD (xs : List D) (lo hi : Option Int) : List D := (xs.drop (HT.sIx xs.length 0 lo)).take (HT.sIx xs.length xs.length hi - HT.sIx xs.length 0 lo)
theorem cut_rep {K : Frg} {G : Hp} {ds : List D} {vs : List V} (r : Reps K Cl G ds vs) (lo hi : Option Int) : Reps K Cl G (cutD ds lo hi) (cutV vs lo hi) := by
  unfold cutD cutV
  rw [← r.length]
  exact (r.drop _).take _
def slcD (x : D) (lo hi : Option Int) : Option D := match x with
  | .lst xs => some (.lst (cutD xs lo hi))
  | .frl xs => some (.lst (cutD xs lo hi))
  | .tup xs => some (.tup (cutD xs lo hi))
  | .str z => if z.length ≤ sizeLine then some (.str (cutS z lo hi)) else none
  | _ => none
def partD : Option D → Option (Option Int)
  | none => some none
  | some (.int i) => some (some i)
  | some _ => none
/-- the parts of a slice: none where the part is left out -/
abbrev Prt := Option (Ro → Res D)
def prt (p : Prt) (ρ : Ro) (k : Option Int → Res D) : Res D := match p with
  | none => k none
  | some f => (f ρ).bind fun d => match d with
    | .int i => k (some i)
    | _ => .stuck
def slc (f : Ro → Res D) (lo hi : Prt) : Ro → Res D := fun ρ => (f ρ).bind fun x => prt lo ρ fun l => prt hi ρ fun u => Res.ofO (slcD x l u)
/-- a part's rule -/
def PrtOk (X : Cx) (Cl : ClT) (W : WX) (e : Option Expr) (p : Prt) : Prop := match e, p with
  | none, none => True
  | some e, some f => PE X e (tB X.K Cl W f)
  | _, _ => False
theorem part_run {e : Option Expr} {p : Prt} (hp : PrtOk X Cl W e p) : ∃ t, PO X e t ∧ ∀ (σ : L2.St) (H : Hp) (G0 : GX) (H0 G : Hp) (ρ : Ro) (k : Option Int → Res D) (Q : VK) (Q' : Option Int → Hp → Prop), Sim X.K Cl G0 H0 G H ρ σ → PostE X.K Cl W G H σ (prt p ρ k) Q →
    (∀ i H' G', Ext G H G' H' → PostE X.K Cl W G' H' σ (k i) Q → Q' i H') → t σ H Q' := by
  cases e with
  | none =>
    cases p with
    | none => exact ⟨tNoPart, po_none, fun σ H G0 H0 G ρ k Q Q' sim h hk => hk none H G (Ext.refl sim.low) h⟩
    | some f => exact hp.elim
  | some e =>
    cases p with
    | none => exact hp.elim
    | some f =>
      refine ⟨_, po_some hp, fun σ H G0 H0 G ρ k Q Q' sim h hk => ?_⟩
      refine ⟨G0, H0, G, ρ, sim, ?_⟩
      have h1 := PostB.seqE (r := f ρ) h
      cases e : f ρ with
      | exc c ns ds => rw [e] at h1; exact h1
      | stuck => rw [e] at h1; exact h1
      | ok x0 =>
        rw [e] at h1
        intro v G1 H1 e1 r1
        obtain ⟨x, G1', ex, e1', r1', h2⟩ := h1 v G1 H1 e1 r1
        cases ex
        cases x0 with
        | int i =>
          cases r1'.int
          exact ⟨i, rfl, hk (some i) H1 G1' e1' h2⟩
        | _ => exact h2.elim
theorem rE_slc {p2 : Pos} {lo hi : Option Expr} {pl ph : Prt} (ha : PE X a (tB X.K Cl W f)) (hl : PrtOk X Cl W lo pl) (hh : PrtOk X Cl W hi ph) : PE X (.Subscript a (.Slice lo hi none p2) pos) (tE X.K Cl W (slc f pl ph)) := by
  obtain ⟨tl, ol, ql⟩ := part_run hl
  obtain ⟨th, oh, qh⟩ := part_run hh
  refine PE.imp (pe_slice (SlR.or sl_list (SlR.or sl_tupA sl_str)) ha ol oh) fun σ H Q hq => ?_
  obtain ⟨G0, H0, G, ρ, sim, h0⟩ := hq
  refine ⟨G0, H0, G, ρ, sim, ?_⟩
  have h1 := PostB.seqE (r := f ρ) h0
  cases e : f ρ with
  | exc c ns ds => rw [e] at h1; exact h1
  | stuck => rw [e] at h1; exact h1
  | ok x0 =>
    rw [e] at h1
    intro v G1 H1 e1 r1
    obtain ⟨x, G1', ex, e1', r1', h2⟩ := h1 v G1 H1 e1 r1
    cases ex
    refine ql σ H1 G0 H0 G1' ρ _ Q _ (sim.grow e1') h2 fun l H2 G2 e2 h3 => ?_
    refine qh σ H2 G0 H0 G2 ρ _ Q _ ((sim.grow e1').grow e2) h3 fun u H3 G3 e3 h4 => ?_
    obtain ⟨d, hd, hq⟩ := PostE.ofO h4
    have r3 := (r1'.grow e2).grow e3
    have sm := e3.low
    cases x0 with
    | lst xs =>
      cases hd
      obtain ⟨a, ys, rfl, q1, q2⟩ := r3.lst sm
      refine .inl ⟨a, ys, rfl, SqL.of q1, fun p hp => hq _ _ _ (Ext.new sm hp) ?_⟩
      simp only [Rep]
      exact ⟨p, _, rfl, upd_same, (cut_rep q2 l u).mono (same_upd (Same.free sm hp))⟩
    | frl xs =>
      cases hd
      obtain ⟨a, ys, rfl, q1, q2⟩ := r3.frl sm
      refine .inl ⟨a, ys, rfl, q1, fun p hp => hq _ _ _ (Ext.new sm hp) ?_⟩
      simp only [Rep]
      exact ⟨p, _, rfl, upd_same, (cut_rep q2 l u).mono (same_upd (Same.free sm hp))⟩
    | tup xs =>
      cases hd
      obtain ⟨a, ys, rfl, q1, q2, g1⟩ := r3.tup sm
      refine .inr (.inl ⟨a, ys, rfl, q1, fun z => ?_, fun z p hp => hq _ _ _ (Ext.new sm hp) ?_⟩)
      · refine hq _ G3 H3 (Ext.refl sm) ?_
        simp only [Rep]
        have ew : cutV ys l u = ys := by
          unfold cutV
          rw [z.1, z.2, List.drop_zero, Nat.sub_zero, List.take_length]
        have := cut_rep q2 l u
        rw [ew] at this
        exact ⟨a, ys, rfl, g1, this⟩
      · simp only [Rep]
        exact ⟨p, _, rfl, SqT.of upd_same, (cut_rep q2 l u).mono (same_upd (Same.free sm hp))⟩
    | str z =>
      cases r3.str
      have hd' : (if z.length ≤ sizeLine then some (D.str (cutS z l u)) else none) = some d := hd
      split at hd'
      · rename_i hz
        cases hd'
        exact .inr (.inr ⟨z, rfl, hz, hq _ G3 H3 (Ext.refl sm) (by simp only [Rep])⟩)
      · cases hd'
    | _ => cases hd
end
end Pu
/-! PuE: built-in calls, displays, what a loop walks. -/
namespace Pu
open PySem PySem.Spec PyProof.Rows L2

/-! ### built-in calls -/
def CallD (X : Cx) (Cl : ClT) (f : Value) (F : List D → Option D) : Prop :=
  ∀ (pins : List (Addr × Obj)) (s : Shared) (σ : L2.St) (G H : Hp) (ds : List D) (d : D) (vs : List V) (us : List Value) (Q : VK), Inv X pins σ H s → Vals vs us → Same G H → RepBs X.K Cl G H ds vs → F ds = some d →
    (∀ v G' H', Ext G H G' H' → Rep X.K Cl G' d v → Q v H') → wpAny (model X.prog X.w) X.A (call f us) (EP X pins σ Q) X.xe s

def intsD : List D → Option (List Int)
  | [] => some []
  | .int i :: ds => (intsD ds).map (i :: ·)
  | _ :: _ => none
theorem intsD_rep {K : Frg} {Cl : ClT} {G : Hp} : ∀ {ds : List D} {vs : List V} {ns : List Int}, Reps K Cl G ds vs → intsD ds = some ns → vs = ns.map V.int
  | [], vs, ns, r, e => by
    simp only [Reps] at r
    cases e
    exact r
  | d :: ds, vs, ns, r, e => by
    simp only [Reps] at r
    obtain ⟨v, t, rfl, r1, r2⟩ := r
    cases d with
    | int i =>
      obtain ⟨ms, e1, rfl⟩ := Option.map_eq_some_iff.mp (show (intsD ds).map (i :: ·) = some ns from e)
      simp only [Rep] at r1
      subst r1
      rw [intsD_rep r2 e1]
      rfl
    | _ => cases e
theorem intsD_map : ∀ ns : List Int, intsD (ns.map D.int) = some ns
  | [] => rfl
  | n :: ns => by
    show (intsD (ns.map D.int)).map (n :: ·) = _
    rw [intsD_map ns]
    rfl
/-- the items of a list as ints -/
def lintsD : D → Option (List Int)
  | .lst xs => intsD xs
  | .frl xs => intsD xs
  | _ => none
theorem lints_rep {K : Frg} {Cl : ClT} {G H : Hp} {d : D} {v : V} {ns : List Int} (sm : Same G H) (r : RepB K Cl G H d v) (e : lintsD d = some ns) : ∃ a, v = .ref a ∧ SqL K H a (ns.map V.int) := by
  cases d with
  | lst xs =>
    obtain ⟨a, ys, rfl, h1, h2⟩ := r.lst sm
    rw [intsD_rep h2 e] at h1
    exact ⟨a, rfl, SqL.of h1⟩
  | frl xs =>
    obtain ⟨a, ys, rfl, h1, h2⟩ := r.frl sm
    rw [intsD_rep h2 e] at h1
    exact ⟨a, rfl, h1⟩
  | _ => cases e
def maxI : List Int → Int
  | [] => 0
  | [n] => n
  | n :: m :: ns => if maxI (m :: ns) ≤ n then n else maxI (m :: ns)
theorem maxI_mem : ∀ ns : List Int, ns ≠ [] → maxI ns ∈ ns ∧ ∀ y ∈ ns, y ≤ maxI ns
  | [], h => absurd rfl h
  | [n], _ => ⟨by simp [maxI], fun y hy => by simp at hy; subst hy; simp [maxI]⟩
  | n :: m :: ns, _ => by
    obtain ⟨h1, h2⟩ := maxI_mem (m :: ns) (by simp)
    unfold maxI
    split
    · rename_i c
      refine ⟨List.mem_cons_self, fun y hy => ?_⟩
      rcases List.mem_cons.mp hy with e | hy
      · omega
      · have := h2 y hy; omega
    · rename_i c
      refine ⟨List.mem_cons_of_mem _ h1, fun y hy => ?_⟩
      rcases List.mem_cons.mp hy with e | hy
      · omega
      · exact h2 y hy
def minI : List Int → Int
  | [] => 0
  | [n] => n
  | n :: m :: ns => if n ≤ minI (m :: ns) then n else minI (m :: ns)
theorem minI_mem : ∀ ns : List Int, ns ≠ [] → minI ns ∈ ns ∧ ∀ y ∈ ns, minI ns ≤ y
  | [], h => absurd rfl h
  | [n], _ => ⟨by simp [minI], fun y hy => by simp at hy; subst hy; simp [minI]⟩
  | n :: m :: ns, _ => by
    obtain ⟨h1, h2⟩ := minI_mem (m :: ns) (by simp)
    unfold minI
    split
    · rename_i c
      refine ⟨List.mem_cons_self, fun y hy => ?_⟩
      rcases List.mem_cons.mp hy with e | hy
      · omega
      · have := h2 y hy; omega
    · rename_i c
      refine ⟨List.mem_cons_of_mem _ h1, fun y hy => ?_⟩
      rcases List.mem_cons.mp hy with e | hy
      · omega
      · exact h2 y hy
def sortI (ns : List Int) : List Int := ns.mergeSort (fun a b => decide (a ≤ b))
theorem sortI_perm (ns : List Int) : (sortI ns).Perm ns := List.mergeSort_perm _ _
theorem sortI_sorted (ns : List Int) : (sortI ns).Pairwise (· ≤ ·) := by
  have h := List.pairwise_mergeSort (le := fun a b : Int => decide (a ≤ b)) (fun a b c h1 h2 => by simp at h1 h2 ⊢; omega) (fun a b => by simp; omega) ns
  exact h.imp fun h => by simpa using h

inductive BI where
  | len | abs | max | min | sum | sorted | int | bool | str | list | tuple
  deriving DecidableEq
def BI.name : BI → Str
  | .len => "len" | .abs => "abs" | .max => "max" | .min => "min" | .sum => "sum" | .sorted => "sorted" | .int => "int" | .bool => "bool" | .str => "str" | .list => "list" | .tuple => "tuple"
def lenD : D → Option D
  | .str y => if y.length ≤ sizeLine then some (.int y.length) else none
  | .lst xs => some (.int xs.length)
  | .frl xs => some (.int xs.length)
  | .tup xs => some (.int xs.length)
  | _ => none
def absD : D → Option D
  | .int i => some (.int (if i < 0 then -i else i))
  | _ => none
def max2D : D → D → Option D
  | .int i, .int j => some (.int (if j > i then j else i))
  | _, _ => none
def min2D : D → D → Option D
  | .int i, .int j => some (.int (if j < i then j else i))
  | _, _ => none
def maxLD (d : D) : Option D := match lintsD d with
  | some (n :: ns) => some (.int (maxI (n :: ns)))
  | _ => none
def minLD (d : D) : Option D := match lintsD d with
  | some (n :: ns) => some (.int (minI (n :: ns)))
  | _ => none
def sumD (d : D) : Option D := (lintsD d).map fun ns => .int ns.sum
def sortedD (d : D) : Option D := (lintsD d).map fun ns => .lst ((sortI ns).map D.int)
def intD : D → Option D
  | .int i => some (.int i)
  | .bl b => some (.int (if b then 1 else 0))
  | _ => none
def boolD : D → Option D
  | .int i => some (.bl (i != 0))
  | .bl b => some (.bl b)
  | _ => none
def strD : D → Option D
  | .int i => if i.natAbs.log2 < 1920 then some (.str (toString i)) else none
  | _ => none
def listD : D → Option D
  | .lst xs => some (.lst xs)
  | .frl xs => some (.lst xs)
  | .tup xs => some (.lst xs)
  | _ => none
def tupleD : D → Option D
  | .lst xs => some (.tup xs)
  | .frl xs => some (.tup xs)
  | .tup xs => some (.tup xs)
  | _ => none
def BI.fn : BI → List D → Option D
  | .len, [d] => lenD d
  | .abs, [d] => absD d
  | .max, [d, e] => max2D d e
  | .max, [d] => maxLD d
  | .min, [d, e] => min2D d e
  | .min, [d] => minLD d
  | .sum, [d] => sumD d
  | .sorted, [d] => sortedD d
  | .int, [d] => intD d
  | .bool, [d] => boolD d
  | .str, [d] => strD d
  | .list, [d] => listD d
  | .tuple, [d] => tupleD d
  | _, _ => none
def BI.val : BI → Value
  | .len => .builtin "len" | .abs => .builtin "abs" | .max => .builtin "max" | .min => .builtin "min" | .sum => .builtin "sum" | .sorted => .builtin "sorted"
  | .int => .type "int" | .bool => .type "bool" | .str => .type "str" | .list => .type "list" | .tuple => .type "tuple"
theorem RepBs.one {K : Frg} {Cl : ClT} {G H : Hp} {d : D} {vs : List V} (h : RepBs K Cl G H [d] vs) : ∃ v, vs = [v] ∧ RepB K Cl G H d v := by
  cases h with
  | cons a t => cases t; exact ⟨_, rfl, a⟩
theorem RepBs.two {K : Frg} {Cl : ClT} {G H : Hp} {d e : D} {vs : List V} (h : RepBs K Cl G H [d, e] vs) : ∃ v w, vs = [v, w] ∧ RepB K Cl G H d v ∧ RepB K Cl G H e w := by
  cases h with
  | cons a t =>
    cases t with
    | cons b t => cases t; exact ⟨_, _, rfl, a, b⟩
section
variable {X : Cx} {Cl : ClT}
theorem cd_len : CallD X Cl (.builtin "len") (BI.fn .len) := by
  intro pins s σ G H ds d vs us Q I rv sm r e q
  match ds, r, e with
  | [x], r0, e =>
    obtain ⟨v, rfl, r1⟩ := r0.one
    replace e : lenD x = some d := e
    cases x with
    | str y =>
      cases r1.str
      replace e : (if y.length ≤ sizeLine then some (D.int y.length) else none) = some d := e
      split at e
      · rename_i hz
        cases e
        exact call_len pins s σ H _ us Q I rv ⟨_, _, rfl, ⟨hz, rfl⟩, q _ G H (Ext.refl sm) (by simp only [Rep])⟩
      · cases e
    | lst xs =>
      cases e
      obtain ⟨a, ys, rfl, h1, h2⟩ := r1.lst sm
      refine call_len pins s σ H _ us Q I rv ⟨_, _, rfl, .inl ⟨ys, SqL.of h1, rfl⟩, ?_⟩
      rw [← h2.length]
      exact q _ G H (Ext.refl sm) (by simp only [Rep])
    | frl xs =>
      cases e
      obtain ⟨a, ys, rfl, h1, h2⟩ := r1.frl sm
      refine call_len pins s σ H _ us Q I rv ⟨_, _, rfl, .inl ⟨ys, h1, rfl⟩, ?_⟩
      rw [← h2.length]
      exact q _ G H (Ext.refl sm) (by simp only [Rep])
    | tup xs =>
      cases e
      obtain ⟨a, ys, rfl, h1, h2, _⟩ := r1.tup sm
      refine call_len pins s σ H _ us Q I rv ⟨_, _, rfl, .inr ⟨ys, h1, rfl⟩, ?_⟩
      rw [← h2.length]
      exact q _ G H (Ext.refl sm) (by simp only [Rep])
    | _ => cases e
  | [], _, e => cases e
  | _ :: _ :: _, _, e => cases e
theorem cd_abs : CallD X Cl (.builtin "abs") (BI.fn .abs) := by
  intro pins s σ G H ds d vs us Q I rv sm r e q
  match ds, r, e with
  | [x], r0, e =>
    obtain ⟨v, rfl, r1⟩ := r0.one
    replace e : absD x = some d := e
    cases x with
    | int i =>
      cases e
      cases r1.int
      exact call_abs pins s σ H _ us Q I rv ⟨i, rfl, q _ G H (Ext.refl sm) (by simp only [Rep])⟩
    | _ => cases e
  | [], _, e => cases e
  | _ :: _ :: _, _, e => cases e
theorem cd_max (hc : X.calm = true) : CallD X Cl (.builtin "max") (BI.fn .max) := by
  intro pins s σ G H ds d vs us Q I rv sm r e q
  match ds, r, e with
  | [x], r0, e =>
    obtain ⟨v, rfl, r1⟩ := r0.one
    replace e : maxLD x = some d := e
    unfold maxLD at e
    split at e
    · rename_i n ns hl
      cases e
      obtain ⟨a, rfl, hs⟩ := lints_rep sm r1 hl
      refine cr_max hc pins s σ H _ us Q I rv ⟨a, n :: ns, rfl, hs, by simp, fun m hm hle => ?_⟩
      obtain ⟨h1, h2⟩ := maxI_mem (n :: ns) (by simp)
      have e1 := hle _ h1
      have e2 := h2 _ hm
      have e3 : m = maxI (n :: ns) := by omega
      rw [e3]
      exact q _ G H (Ext.refl sm) (by simp only [Rep])
    · cases e
  | [x, y], r, e =>
    obtain ⟨v, w, rfl, r1, r2⟩ := r.two
    replace e : max2D x y = some d := e
    cases x with
    | int i =>
      cases y with
      | int j =>
        cases e
        cases r1.int
        cases r2.int
        exact call_max2 hc pins s σ H _ us Q I rv ⟨i, j, rfl, q _ G H (Ext.refl sm) (by simp only [Rep])⟩
      | _ => cases e
    | _ => cases y <;> cases e
  | [], _, e => cases e
  | _ :: _ :: _ :: _, _, e => cases e
theorem cd_min (hc : X.calm = true) : CallD X Cl (.builtin "min") (BI.fn .min) := by
  intro pins s σ G H ds d vs us Q I rv sm r e q
  match ds, r, e with
  | [x], r0, e =>
    obtain ⟨v, rfl, r1⟩ := r0.one
    replace e : minLD x = some d := e
    unfold minLD at e
    split at e
    · rename_i n ns hl
      cases e
      obtain ⟨a, rfl, hs⟩ := lints_rep sm r1 hl
      refine cr_min hc pins s σ H _ us Q I rv ⟨a, n :: ns, rfl, hs, by simp, fun m hm hle => ?_⟩
      obtain ⟨h1, h2⟩ := minI_mem (n :: ns) (by simp)
      have e1 := hle _ h1
      have e2 := h2 _ hm
      have e3 : m = minI (n :: ns) := by omega
      rw [e3]
      exact q _ G H (Ext.refl sm) (by simp only [Rep])
    · cases e
  | [x, y], r, e =>
    obtain ⟨v, w, rfl, r1, r2⟩ := r.two
    replace e : min2D x y = some d := e
    cases x with
    | int i =>
      cases y with
      | int j =>
        cases e
        cases r1.int
        cases r2.int
        exact call_min2 hc pins s σ H _ us Q I rv ⟨i, j, rfl, q _ G H (Ext.refl sm) (by simp only [Rep])⟩
      | _ => cases e
    | _ => cases y <;> cases e
  | [], _, e => cases e
  | _ :: _ :: _ :: _, _, e => cases e
theorem cd_sum (hc : X.calm = true) : CallD X Cl (.builtin "sum") (BI.fn .sum) := by
  intro pins s σ G H ds d vs us Q I rv sm r e q
  match ds, r, e with
  | [x], r0, e =>
    obtain ⟨v, rfl, r1⟩ := r0.one
    obtain ⟨ns, hl, rfl⟩ := Option.map_eq_some_iff.mp (show sumD x = some d from e)
    obtain ⟨a, rfl, hs⟩ := lints_rep sm r1 hl
    exact cr_sum hc pins s σ H _ us Q I rv ⟨a, ns, rfl, hs, q _ G H (Ext.refl sm) (by simp only [Rep])⟩
  | [], _, e => cases e
  | _ :: _ :: _, _, e => cases e
theorem cd_sorted : CallD X Cl (.builtin "sorted") (BI.fn .sorted) := by
  intro pins s σ G H ds d vs us Q I rv sm r e q
  match ds, r, e with
  | [x], r0, e =>
    obtain ⟨v, rfl, r1⟩ := r0.one
    obtain ⟨ns, hl, rfl⟩ := Option.map_eq_some_iff.mp (show sortedD x = some d from e)
    obtain ⟨a, rfl, hs⟩ := lints_rep sm r1 hl
    refine cr_sortedI pins s σ H _ us Q I rv ⟨a, ns, rfl, hs, fun ns' p hp hs' hn => ?_⟩
    have e1 : ns' = sortI ns := PySem.W.ksm_same (hp.trans (sortI_perm ns).symm) hs' (sortI_sorted ns)
    subst e1
    refine q _ _ _ (Ext.new sm hn) ?_
    simp only [Rep]
    exact ⟨p, _, rfl, upd_same, Reps.of_ints _⟩
  | [], _, e => cases e
  | _ :: _ :: _, _, e => cases e
theorem cd_int : CallD X Cl (.type "int") (BI.fn .int) := by
  intro pins s σ G H ds d vs us Q I rv sm r e q
  match ds, r, e with
  | [x], r0, e =>
    obtain ⟨v, rfl, r1⟩ := r0.one
    replace e : intD x = some d := e
    cases x with
    | int i =>
      cases e
      cases r1.int
      exact call_int1 pins s σ H _ us Q I rv (.inl ⟨i, rfl, q _ G H (Ext.refl sm) (by simp only [Rep])⟩)
    | bl i =>
      cases e
      cases r1.bl
      exact call_int1 pins s σ H _ us Q I rv (.inr ⟨i, rfl, q _ G H (Ext.refl sm) (by simp only [Rep])⟩)
    | _ => cases e
  | [], _, e => cases e
  | _ :: _ :: _, _, e => cases e
theorem cd_bool : CallD X Cl (.type "bool") (BI.fn .bool) := by
  intro pins s σ G H ds d vs us Q I rv sm r e q
  match ds, r, e with
  | [x], r0, e =>
    obtain ⟨v, rfl, r1⟩ := r0.one
    replace e : boolD x = some d := e
    cases x with
    | int i =>
      cases e
      cases r1.int
      exact call_bool1 pins s σ H _ us Q I rv (.inl ⟨i, rfl, q _ G H (Ext.refl sm) (by simp only [Rep])⟩)
    | bl i =>
      cases e
      cases r1.bl
      exact call_bool1 pins s σ H _ us Q I rv (.inr ⟨i, rfl, q _ G H (Ext.refl sm) (by simp only [Rep])⟩)
    | _ => cases e
  | [], _, e => cases e
  | _ :: _ :: _, _, e => cases e
theorem cd_str : CallD X Cl (.type "str") (BI.fn .str) := by
  intro pins s σ G H ds d vs us Q I rv sm r e q
  match ds, r, e with
  | [x], r0, e =>
    obtain ⟨v, rfl, r1⟩ := r0.one
    replace e : strD x = some d := e
    cases x with
    | int i =>
      cases r1.int
      replace e : (if i.natAbs.log2 < 1920 then some (D.str (toString i)) else none) = some d := e
      split at e
      · rename_i hz
        cases e
        exact call_str_int pins s σ H _ us Q I rv ⟨i, rfl, hz, q _ G H (Ext.refl sm) (by simp only [Rep])⟩
      · cases e
    | _ => cases e
  | [], _, e => cases e
  | _ :: _ :: _, _, e => cases e
theorem cd_list : CallD X Cl (.type "list") (BI.fn .list) := by
  intro pins s σ G H ds d vs us Q I rv sm r e q
  match ds, r, e with
  | [x], r0, e =>
    obtain ⟨v, rfl, r1⟩ := r0.one
    replace e : listD x = some d := e
    cases x with
    | lst xs =>
      cases e
      obtain ⟨a, ys, rfl, h1, h2⟩ := r1.lst sm
      refine call_list_of pins s σ H _ us Q I rv ⟨a, ys, rfl, .inl (SqL.of h1), fun p hp => q _ _ _ (Ext.new sm hp) ?_⟩
      simp only [Rep]
      exact ⟨p, _, rfl, upd_same, h2.mono (same_upd (Same.free sm hp))⟩
    | frl xs =>
      cases e
      obtain ⟨a, ys, rfl, h1, h2⟩ := r1.frl sm
      refine call_list_of pins s σ H _ us Q I rv ⟨a, ys, rfl, .inl h1, fun p hp => q _ _ _ (Ext.new sm hp) ?_⟩
      simp only [Rep]
      exact ⟨p, _, rfl, upd_same, h2.mono (same_upd (Same.free sm hp))⟩
    | tup xs =>
      cases e
      obtain ⟨a, ys, rfl, h1, h2, _⟩ := r1.tup sm
      refine call_list_of pins s σ H _ us Q I rv ⟨a, ys, rfl, .inr h1, fun p hp => q _ _ _ (Ext.new sm hp) ?_⟩
      simp only [Rep]
      exact ⟨p, _, rfl, upd_same, h2.mono (same_upd (Same.free sm hp))⟩
    | _ => cases e
  | [], _, e => cases e
  | _ :: _ :: _, _, e => cases e
theorem cd_tuple : CallD X Cl (.type "tuple") (BI.fn .tuple) := by
  intro pins s σ G H ds d vs us Q I rv sm r e q
  match ds, r, e with
  | [x], r0, e =>
    obtain ⟨v, rfl, r1⟩ := r0.one
    replace e : tupleD x = some d := e
    cases x with
    | lst xs =>
      cases e
      obtain ⟨a, ys, rfl, h1, h2⟩ := r1.lst sm
      refine call_tuple_of pins s σ H _ us Q I rv ⟨a, ys, rfl, .inl ⟨SqL.of h1, fun p hp => q _ _ _ (Ext.new sm hp) ?_⟩⟩
      simp only [Rep]
      exact ⟨p, _, rfl, SqT.of upd_same, h2.mono (same_upd (Same.free sm hp))⟩
    | frl xs =>
      cases e
      obtain ⟨a, ys, rfl, h1, h2⟩ := r1.frl sm
      refine call_tuple_of pins s σ H _ us Q I rv ⟨a, ys, rfl, .inl ⟨h1, fun p hp => q _ _ _ (Ext.new sm hp) ?_⟩⟩
      simp only [Rep]
      exact ⟨p, _, rfl, SqT.of upd_same, h2.mono (same_upd (Same.free sm hp))⟩
    | tup xs =>
      cases e
      obtain ⟨a, ys, rfl, h1, h2, g1⟩ := r1.tup sm
      refine call_tuple_of pins s σ H _ us Q I rv ⟨a, ys, rfl, .inr ⟨h1, q _ G H (Ext.refl sm) ?_⟩⟩
      simp only [Rep]
      exact ⟨a, ys, rfl, g1, h2⟩
    | _ => cases e
  | [], _, e => cases e
  | _ :: _ :: _, _, e => cases e
theorem cd_all (hc : X.calm = true) (b : BI) : CallD X Cl b.val b.fn := by
  cases b with
  | len => exact cd_len
  | abs => exact cd_abs
  | max => exact cd_max hc
  | min => exact cd_min hc
  | sum => exact cd_sum hc
  | sorted => exact cd_sorted
  | int => exact cd_int
  | bool => exact cd_bool
  | str => exact cd_str
  | list => exact cd_list
  | tuple => exact cd_tuple
end

/-! ### isinstance of built-in classes -/
inductive Ty where
  | int | bool | str | list | tuple
  deriving DecidableEq
def Ty.name : Ty → String
  | .int => "int" | .bool => "bool" | .str => "str" | .list => "list" | .tuple => "tuple"
def tyD : D → Option String
  | .non => some "NoneType"
  | .bl _ => some "bool"
  | .int _ => some "int"
  | .str _ => some "str"
  | .lst _ => some "list"
  | .frl _ => some "list"
  | .tup _ => some "tuple"
  | .ins _ _ _ => none
def isTy (t : Ty) : D → Option Bool
  | .non => some false
  | .bl _ => some (match t with | .bool => true | .int => true | _ => false)
  | .int _ => some (match t with | .int => true | _ => false)
  | .str _ => some (match t with | .str => true | _ => false)
  | .lst _ => some (match t with | .list => true | _ => false)
  | .frl _ => some (match t with | .list => true | _ => false)
  | .tup _ => some (match t with | .tuple => true | _ => false)
  | .ins _ _ _ => none
def isTys (ts : List Ty) (d : D) : Option Bool := match d with
  | .ins _ _ _ => none
  | d => some (ts.any fun t => (isTy t d).getD false)
theorem kitB_ty (t : Ty) : kitB "NoneType" t.name = some false ∧ kitB "bool" t.name = some (match t with | .bool => true | .int => true | _ => false) ∧ kitB "int" t.name = some (match t with | .int => true | _ => false) ∧
    kitB "str" t.name = some (match t with | .str => true | _ => false) ∧ kitB "list" t.name = some (match t with | .list => true | _ => false) ∧ kitB "tuple" t.name = some (match t with | .tuple => true | _ => false) := by
  cases t <;> decide +kernel
theorem ty_rep {K : Frg} {Cl : ClT} {G H : Hp} {d : D} {v : V} {n : String} (sm : Same G H) (r : RepB K Cl G H d v) (e : tyD d = some n) : TyX K H v (.type n) := by
  cases d with
  | non => cases e; cases r.non; exact .base .non
  | bl b => cases e; cases r.bl; exact .base (.bl b)
  | int b => cases e; cases r.int; exact .base (.int b)
  | str b => cases e; cases r.str; exact .base (.str b)
  | lst xs =>
    cases e
    obtain ⟨a, ys, rfl, h1, h2⟩ := r.lst sm
    exact .base (.lst h1)
  | frl xs =>
    cases e
    obtain ⟨a, ys, rfl, h1, h2⟩ := r.frl sm
    rcases h1 with (h1 | ⟨o, h1⟩) | ⟨o, its, n, h1, h2, _⟩
    · exact .base (.lst h1)
    · exact .base (.frz h1)
    · exact .kList h1 h2
  | tup xs =>
    cases e
    obtain ⟨a, ys, rfl, h1, h2, _⟩ := r.tup sm
    rcases h1 with (h1 | ⟨o, h1⟩) | ⟨o, its, n, h1, h2, _⟩
    · exact .base (.tup h1)
    · exact .fTuple h1
    · exact .kTuple h1 h2
  | ins c ns ds => cases e
theorem isTy_kit {K : Frg} (t : Ty) {d : D} {n : String} {b : Bool} (e : tyD d = some n) (h : isTy t d = some b) : PySem.W.kitOne K (.type n) (.type t.name) = some b := by
  obtain ⟨k1, k2, k3, k4, k5, k6⟩ := kitB_ty t
  cases d with
  | non => cases e; cases h; exact kit_ty k1
  | bl _ => cases e; cases h; exact kit_ty k2
  | int _ => cases e; cases h; exact kit_ty k3
  | str _ => cases e; cases h; exact kit_ty k4
  | lst _ => cases e; cases h; exact kit_ty k5
  | frl _ => cases e; cases h; exact kit_ty k5
  | tup _ => cases e; cases h; exact kit_ty k6
  | ins _ _ _ => cases e
theorem isTys_kit {K : Frg} {d : D} {n : String} (e : tyD d = some n) : ∀ {ts : List Ty} {b : Bool}, isTys ts d = some b → PySem.W.kitAny K (.type n) (ts.map fun t => .type t.name) = some b
  | [], b, h => by
    have : b = false := by cases d <;> first | (cases h; rfl) | cases e
    subst this
    exact kitAny_nil
  | t :: ts, b, h => by
    obtain ⟨c, hc⟩ : ∃ c, isTy t d = some c := by cases d <;> first | exact ⟨_, rfl⟩ | cases e
    obtain ⟨c', hc'⟩ : ∃ c', isTys ts d = some c' := by cases d <;> first | exact ⟨_, rfl⟩ | cases e
    have hb : b = (c || c') := by
      cases d with
      | ins _ _ _ => cases e
      | _ => cases hc; cases hc'; cases h; rfl
    refine kitAny_cons (isTy_kit t e hc) (fun z => ?_) (fun z => by rw [hb, z]; rfl)
    rw [isTys_kit e hc', hb, z]
    rfl
end Pu
/-! PuF: expressions as a small language of their own, what they are worth, and when a piece of the program's text is such an expression. -/
namespace Pu
open PySem PySem.Spec PyProof.Rows L2

inductive Tg where
  | nm (i : Nat) | tp (is : List Nat)
mutual
inductive E where
  | var (i : Nat) | non | bl (b : Bool) | int (i : Int) | str (x : Str) | glob (x : Str)
  | bin (o : Operator) (a b : E) | neg (a : E)
  | cmp (o : CmpOp) (a b : E) | cmp2 (o o2 : CmpOp) (a b c : E)
  | not_ (a : E) | ands (xs : Es) | ors (xs : Es) | ife (c a b : E)
  | call (f : Str) (xs : Es) | callk (f : Str) (xs : Es) (ks : List Str) (ys : Es)
  | bi (b : BI) (xs : Es) | isi (a : E) (ts : List Ty) | isi1 (a : E) (t : Ty)
  | fld (a : E) (f : Str) | idx (a b : E) | slc (a : E) (lo hi : Eo)
  | tup (xs : Es) | lst (xs : Es)
  | lc (own : List (Str × Nat)) (elt : E) (tg : Tg) (it : It) (c : Eo)
  | bad
  | lenm (a : E) | meth (a : E) (m : Str) (xs : Es) | gcd (xs : Es) | sqr (t : Bool) (a : E) | sq1 (t : Bool) (a : E) | sq2 (t : Bool) (a b : E) | fmt (a : E) | joined (xs : Es) | idxof (a : E) (b : E)
inductive Es where
  | nil | cons (e : E) (es : Es)
inductive Eo where
  | no | yes (e : E)
inductive It where
  | seq (e : E) | rng (a : E) | rng2 (a b : E) | rev (e : E)
end
inductive Md where
  | val | bor | tst
@[simp] def Es.len : Es → Nat
  | .nil => 0
  | .cons _ es => es.len + 1
def Es.isNil : Es → Bool
  | .nil => true
  | _ => false

/-- what the defs and the constants of the module are worth -/
structure Tab where
  fu : Nat
  fn : Str → Nat → Option (List D → Res D)
  fk : Str → Nat → List Str → Option (List D → Res D)
  gl : Str → Option D
  fd : Str → Str → Bool
  mt : Str → Str → Nat → Option (List D → Res D)
  gc : Bool

def fin (m : Md) (r : Res D) : Res D := match m with
  | .val => r
  | .bor => r
  | .tst => r.bind fun d => Res.ofO (truD d)
def getV (ρ : Ro) (i : Nat) : Res D := match ρ[i]? with
  | some (.val d) => .ok d
  | _ => .stuck
def getB (ρ : Ro) (i : Nat) : Res D := match ρ[i]? with
  | some (.val d) => .ok d
  | some (.own ds) => .ok (.lst ds)
  | some (.obj c ns ds) => .ok (.ins c ns ds)
  | _ => .stuck
def notR : D → Res D
  | .bl b => .ok (.bl (!b))
  | _ => .stuck
def condR (d : D) (a b : Res D) : Res D := match d with
  | .bl true => a
  | .bl false => b
  | _ => .stuck
def fldR (T : Tab) (f : Str) : D → Res D
  | .ins c ns ds => if T.fd c f = true then Res.ofO ((ns.zip ds).lookup f) else .stuck
  | _ => .stuck
def apR (o : Option (List D → Res D)) (r : Res (List D)) : Res D := match o with
  | some F => r.bind F
  | none => .stuck
def itemsR : D → Res (List D)
  | .lst xs => .ok xs
  | .frl xs => .ok xs
  | .tup xs => .ok xs
  | .str x => if x.length ≤ sizeLine then .ok (x.cps.toList.map fun c => .str ⟨#[c]⟩) else .stuck
  | _ => .stuck
def rngR : D → D → Res (List D)
  | .int i, .int j => if -(2 ^ 62) ≤ i ∧ i < 2 ^ 62 ∧ -(2 ^ 62) ≤ j ∧ j < 2 ^ 62 ∧ (j - i).toNat ≤ sizeLine then .ok ((List.range (j - i).toNat).map fun k => .int (i + (k : Nat))) else .stuck
  | _, _ => .stuck
def revR : D → Res (List D)
  | .lst xs => .ok xs.reverse
  | .frl xs => .ok xs.reverse
  | .tup xs => .ok xs.reverse
  | _ => .stuck
@[simp] def setAll : List Nat → List D → Ro → Ro
  | i :: is, d :: ds, ρ => setAll is ds (ρ.set i (.val d))
  | _, _, ρ => ρ
def asg : Tg → D → Ro → Option Ro
  | .nm i, d, ρ => some (ρ.set i (.val d))
  | .tp is, .tup ds, ρ => if ds.length = is.length then some (setAll is ds ρ) else none
  | .tp _, _, _ => none
@[simp] def wipeR (ρ : Ro) : List Nat → Ro
  | [] => ρ
  | v :: vs => (wipeR ρ vs).set v .no
def noX {α : Type} : Res α → Res α
  | .ok a => .ok a
  | _ => .stuck
/-- a comprehension's items -/
def lcL (g : D → Ro → Option Ro) (c : Ro → Res D) (f : Ro → Res D) (ρ : Ro) : List D → Res (List D)
  | [] => .ok []
  | d :: ds => match g d ρ with
    | none => .stuck
    | some ρ1 => (noX (c ρ1)).bind fun b => match b with
      | .bl true => (noX (f ρ1)).bind fun y => (lcL g c f ρ ds).bind fun ys => .ok (y :: ys)
      | .bl false => lcL g c f ρ ds
      | _ => .stuck

/-- what an own __len__ may tell -/
def lenOk : D → Res D
  | .int n => if 0 ≤ n ∧ n < 2 ^ 63 then .ok (.int n) else .stuck
  | _ => .stuck
/-- a method of an instance -/
def methR (T : Tab) (m : Str) (n : Nat) (r : Res (List D)) : D → Res D
  | .ins c ns xs => if m ∈ ns then .stuck else match T.mt c m n with
    | some F => r.bind fun ds => F (.ins c ns xs :: ds)
    | none => .stuck
  | _ => .stuck
def lenmR (T : Tab) : D → Res D
  | .ins c ns xs => match T.mt c "__len__" 0 with
    | some F => (F [.ins c ns xs]).bind lenOk
    | none => .stuck
  | _ => .stuck
def gcdF : List D → Option D
  | [.int a, .int b] => some (.int ((Nat.gcd a.natAbs b.natAbs : Nat) : Int))
  | _ => none
def fmtD : D → Option D
  | .str y => if y.length ≤ sizeLine then some (.str y) else none
  | .int i => if i.natAbs.log2 < 1920 then some (.str (toString i)) else none
  | _ => none
/-- one more text behind a text -/
def joinR (acc : Str) (k : Str → Res D) : D → Res D
  | .str y => if (acc ++ y).length ≤ sizeLine then k (acc ++ y) else .stuck
  | _ => .stuck
/-- the first place of an item -/
def rowPy : D → Option (List PyData)
  | .lst ys => toPys ys
  | .frl ys => toPys ys
  | _ => none
def idxofD (ps : List PyData) (p : D) : Option D := match toPy p with
  | some q => if SeqAt.shaped q = true ∧ SeqAt.shaped (.list ps) = true then (ps.findIdx? fun z => PyData.eqv z q).map fun j => .int (j : Nat) else none
  | none => none
def idxofR (r : Res D) (x : D) : Res D := match rowPy x with
  | some ps => r.bind fun p => Res.ofO (idxofD ps p)
  | none => .stuck
def revLR : D → Res (List D)
  | .lst xs => .ok xs.reverse
  | .frl xs => .ok xs.reverse
  | _ => .stuck
def sqD (t : Bool) (ds : List D) : D := if t = true then .tup ds else .lst ds

mutual
def ev (T : Tab) : E → Md → Ro → Res D
  | .var i, .val, ρ => getV ρ i
  | .var i, .bor, ρ => getB ρ i
  | .var i, .tst, ρ => (getB ρ i).bind fun d => Res.ofO (truD d)
  | .non, m, _ => fin m (.ok .non)
  | .bl b, m, _ => fin m (.ok (.bl b))
  | .int i, m, _ => fin m (.ok (.int i))
  | .str x, m, _ => fin m (.ok (.str x))
  | .glob x, m, _ => fin m (Res.ofO (T.gl x))
  | .bin o a b, m, ρ => fin m (bin (ev T a .bor) (ev T b .bor) (binD o) ρ)
  | .neg a, m, ρ => fin m (un (ev T a .bor) negD ρ)
  | .cmp o a b, _, ρ => bin (ev T a .bor) (ev T b .bor) (cmpD o) ρ
  | .cmp2 o o2 a b c, _, ρ => (ev T a .bor ρ).bind fun x => (ev T b .bor ρ).bind fun y => (Res.ofO (cmpD o x y)).bind fun d => condR d ((ev T c .bor ρ).bind fun z => Res.ofO (cmpD o2 y z)) (.ok (.bl false))
  | .not_ a, .tst, ρ => (ev T a .tst ρ).bind notR
  | .not_ a, _, ρ => (ev T a .val ρ).bind notR
  | .ands xs, .tst, ρ => evAnd T xs .tst ρ
  | .ands xs, _, ρ => evAnd T xs .val ρ
  | .ors xs, .tst, ρ => evOr T xs .tst ρ
  | .ors xs, _, ρ => evOr T xs .val ρ
  | .ife _ _ _, .tst, _ => .stuck
  | .ife c a b, _, ρ => (ev T c .tst ρ).bind fun d => condR d (ev T a .val ρ) (ev T b .val ρ)
  | .call f xs, m, ρ => fin m (apR (T.fn f xs.len) (evs T xs ρ))
  | .callk f xs ks ys, m, ρ => fin m (apR (T.fk f xs.len ks) ((evs T xs ρ).bind fun ds => (evs T ys ρ).bind fun es => .ok (ds ++ es)))
  | .bi b xs, m, ρ => fin m ((evsB T xs ρ).bind fun ds => Res.ofO (b.fn ds))
  | .isi a ts, m, ρ => fin m ((ev T a .bor ρ).bind fun d => Res.ofO ((isTys ts d).map .bl))
  | .isi1 a t, m, ρ => fin m ((ev T a .bor ρ).bind fun d => Res.ofO ((isTy t d).map .bl))
  | .fld a f, m, ρ => fin m ((ev T a .bor ρ).bind fun d => fldR T f d)
  | .idx a b, m, ρ => fin m (bin (ev T a .bor) (ev T b .bor) idxD ρ)
  | .slc a lo hi, m, ρ => fin m (slc (ev T a .bor) (evo T lo) (evo T hi) ρ)
  | .tup xs, m, ρ => fin m ((evs T xs ρ).bind fun ds => .ok (.tup ds))
  | .lst xs, m, ρ => fin m ((evs T xs ρ).bind fun ds => .ok (.lst ds))
  | .lc own elt tg it c, m, ρ => fin m ((evi T it true ρ).bind fun ds => (lcL (asg tg) (evc T c) (ev T elt .val) (wipeR ρ (own.map (·.2))) ds).bind fun ys => .ok (.lst ys))
  | .bad, _, _ => .stuck
  | .lenm a, m, ρ => fin m ((ev T a .val ρ).bind fun d => lenmR T d)
  | .meth a f xs, m, ρ => fin m ((ev T a .val ρ).bind fun d => methR T f xs.len (evs T xs ρ) d)
  | .gcd xs, m, ρ => fin m (if T.gc = true then (evsB T xs ρ).bind fun ds => Res.ofO (gcdF ds) else .stuck)
  | .sqr t a, m, ρ => fin m ((ev T a .bor ρ).bind fun d => (revLR d).bind fun ds => .ok (sqD t ds))
  | .sq1 t a, m, ρ => fin m ((ev T a .bor ρ).bind fun y => (rngR (.int 0) y).bind fun ds => .ok (sqD t ds))
  | .sq2 t a b, m, ρ => fin m ((ev T a .bor ρ).bind fun x => (ev T b .bor ρ).bind fun y => (rngR x y).bind fun ds => .ok (sqD t ds))
  | .fmt a, m, ρ => fin m ((ev T a .bor ρ).bind fun d => Res.ofO (fmtD d))
  | .joined xs, m, ρ => fin m (evJ T xs Str.empty ρ)
  | .idxof a b, m, ρ => fin m ((ev T a .bor ρ).bind fun x => idxofR (ev T b .bor ρ) x)
def evs (T : Tab) : Es → Ro → Res (List D)
  | .nil, _ => .ok []
  | .cons e es, ρ => (ev T e .val ρ).bind fun d => (evs T es ρ).bind fun ds => .ok (d :: ds)
def evsB (T : Tab) : Es → Ro → Res (List D)
  | .nil, _ => .ok []
  | .cons e es, ρ => (ev T e .bor ρ).bind fun d => (evsB T es ρ).bind fun ds => .ok (d :: ds)
def evJ (T : Tab) : Es → Str → Ro → Res D
  | .nil, acc, _ => .ok (.str acc)
  | .cons e es, acc, ρ => (ev T e .bor ρ).bind fun d => joinR acc (fun a => evJ T es a ρ) d
def evAnd (T : Tab) : Es → Md → Ro → Res D
  | .nil, _, _ => .stuck
  | .cons e es, m, ρ => (ev T e m ρ).bind fun d => if es.isNil then .ok d else condR d (evAnd T es m ρ) (.ok (.bl false))
def evOr (T : Tab) : Es → Md → Ro → Res D
  | .nil, _, _ => .stuck
  | .cons e es, m, ρ => (ev T e m ρ).bind fun d => if es.isNil then .ok d else condR d (.ok (.bl true)) (evOr T es m ρ)
/-- a condition: none is True -/
def evc (T : Tab) : Eo → Ro → Res D
  | .no, _ => .ok (.bl true)
  | .yes e, ρ => ev T e .tst ρ
def evo (T : Tab) : Eo → Prt
  | .no => none
  | .yes e => some (ev T e .bor)
def evi (T : Tab) : It → Bool → Ro → Res (List D)
  | .seq e, true, ρ => (ev T e .bor ρ).bind itemsR
  | .seq e, false, ρ => (ev T e .val ρ).bind itemsR
  | .rng a, _, ρ => (ev T a .bor ρ).bind fun y => rngR (.int 0) y
  | .rng2 a b, _, ρ => (ev T a .bor ρ).bind fun x => (ev T b .bor ρ).bind fun y => rngR x y
  | .rev e, true, ρ => (ev T e .bor ρ).bind revR
  | .rev e, false, ρ => (ev T e .val ρ).bind revR
end

/-! ### the text is such an expression -/
def visB (sc : Scope) (x : Str) : Bool := match sc.names.lookup x with
  | some .local => true
  | some .cell => true
  | some .free => true
  | _ => false
def locB (sc : Scope) (x : Str) : Bool := match sc.names.lookup x with
  | some .local => true
  | some .cell => true
  | _ => false
def glB (sc : Scope) (x : Str) : Bool := match sc.names.lookup x with
  | some .globalImplicit => true
  | _ => false
def isStar : Expr → Bool
  | .Starred _ _ => true
  | _ => false
def isSlc : Expr → Bool
  | .Slice _ _ _ _ => true
  | _ => false
def isCall0 : Expr → Bool
  | .Call _ [] [] _ => true
  | _ => false
def sqN (t : Bool) : Str := if t = true then "tuple" else "list"
def isSet : Expr → Bool
  | .Set _ _ _ => true
  | _ => false
def tyNames : List Ty → List Expr → Bool
  | [], [] => true
  | t :: ts, .Name x _ :: es => decide (x = Str.ofString t.name) && tyNames ts es
  | _, _ => false
def tgChk (N : List Str) (sc : Scope) : Tg → Expr → Bool
  | .nm i, .Name x _ => decide (N[i]? = some x) && locB sc x
  | .tp is, .Tuple es _ _ => (is.zip es).all (fun p => match p.2 with | .Name x _ => decide (N[p.1]? = some x) && locB sc x | _ => false) && decide (is.length = es.length)
  | _, _ => false
def kwNames : List Keyword → List Str
  | [] => []
  | ⟨some x, _, _⟩ :: ks => x :: kwNames ks
  | ⟨none, _, _⟩ :: ks => kwNames ks
def kwVals : List Keyword → List Expr
  | [] => []
  | ⟨_, e, _⟩ :: ks => e :: kwVals ks
def kwAll : List Keyword → Bool
  | [] => true
  | ⟨some _, _, _⟩ :: ks => kwAll ks
  | ⟨none, _, _⟩ :: _ => false
mutual
def chk (N : List Str) (sc : Scope) : E → Expr → Bool
  | .var i, ee => match ee with
    | .Name x _ => decide (N[i]? = some x) && visB sc x && decide (x ≠ "__debug__") && decide (x ≠ "__classdict__")
    | _ => false
  | .non, ee => match ee with
    | .Constant .none _ _ => true
    | _ => false
  | .bl b, ee => match ee with
    | .Constant (.bool c) _ _ => decide (b = c)
    | _ => false
  | .int i, ee => match ee with
    | .Constant (.int j) _ _ => decide (i = j)
    | _ => false
  | .str x, ee => match ee with
    | .Constant (.str y) _ _ => decide (x = y)
    | _ => false
  | .glob x, ee => match ee with
    | .Name y _ => decide (x = y) && glB sc x && decide (x ≠ "__debug__")
    | _ => false
  | .bin o a b, ee => match ee with
    | .BinOp l o' r _ => decide (o = o') && chk N sc a l && chk N sc b r
    | _ => false
  | .neg a, ee => match ee with
    | .UnaryOp .USub x _ => chk N sc a x
    | _ => false
  | .cmp o a b, ee => match ee with
    | .Compare l [o'] [r] _ => decide (o = o') && chk N sc a l && chk N sc b r && !behindInMarks o' r
    | _ => false
  | .cmp2 o o2 a b c, ee => match ee with
    | .Compare l [p, p2] [r, q] _ => decide (o = p) && decide (o2 = p2) && chk N sc a l && chk N sc b r && chk N sc c q && !lastMarks [p, p2] [r, q]
    | _ => false
  | .not_ a, ee => match ee with
    | .UnaryOp .Not x _ => chk N sc a x
    | _ => false
  | .ands xs, ee => match ee with
    | .BoolOp .And es _ => chks N sc xs es && !xs.isNil
    | _ => false
  | .ors xs, ee => match ee with
    | .BoolOp .Or es _ => chks N sc xs es && !xs.isNil
    | _ => false
  | .ife c a b, ee => match ee with
    | .IfExp t x y _ => chk N sc c t && chk N sc a x && chk N sc b y
    | _ => false
  | .call f xs, ee => match ee with
    | .Call (.Name x _) es [] _ => decide (f = x) && glB sc x && decide (x ≠ "__debug__") && chks N sc xs es && !xs.isNil
    | _ => false
  | .callk f xs ks ys, ee => match ee with
    | .Call (.Name x _) es kws _ => decide (f = x) && glB sc x && decide (x ≠ "__debug__") && chks N sc xs es && !xs.isNil && kwAll kws && decide (kwNames kws = ks) && chks N sc ys (kwVals kws)
    | _ => false
  | .bi b xs, ee => match ee with
    | .Call (.Name x _) es [] _ => decide (x = b.name) && glB sc x && chks N sc xs es && !xs.isNil
    | _ => false
  | .isi a ts, ee => match ee with
    | .Call (.Name x _) [y, .Tuple es _ _] [] _ => decide (x = "isinstance") && glB sc x && chk N sc a y && tyNames ts es && ts.all (fun t => glB sc (Str.ofString t.name)) && !isStar y && decide (es.length ≤ 1000)
    | _ => false
  | .isi1 a t, ee => match ee with
    | .Call (.Name x _) [y, .Name z _] [] _ => decide (x = "isinstance") && glB sc x && chk N sc a y && decide (z = Str.ofString t.name) && glB sc z && !isStar y
    | _ => false
  | .fld a f, ee => match ee with
    | .Attribute x g _ => decide (f = g) && chk N sc a x && !isCall0 x
    | _ => false
  | .idx a b, ee => match ee with
    | .Subscript x y _ => chk N sc a x && chk N sc b y && !isSlc y
    | _ => false
  | .slc a lo hi, ee => match ee with
    | .Subscript x (.Slice l u none _) _ => chk N sc a x && chko N sc lo l && chko N sc hi u
    | _ => false
  | .tup xs, ee => match ee with
    | .Tuple es _ _ => chks N sc xs es && decide (es.length ≤ 1000)
    | _ => false
  | .lst xs, ee => match ee with
    | .List es _ => chks N sc xs es && decide (es.length ≤ 1000)
    | _ => false
  | .lc own elt tg it c, ee => match ee with
    | .ListComp x [⟨t, i, ifs, 0⟩] s2 _ => blkC N sc s2 own && (own.all fun p => decide (p.2 < N.length)) && (match tg with | .nm j => decide (j ∈ own.map (·.2)) | .tp js => js.all fun j => decide (j ∈ own.map (·.2))) &&
      tgChk N s2 tg t && chkI N sc it i && !isSet i && chk N (relS s2 sc) elt x && chkc N (relS s2 sc) c ifs
    | _ => false
  | .bad, ee => match ee with
    | .ListComp _ _ _ _ => false
    | .SetComp _ _ _ _ => false
    | .DictComp _ _ _ _ _ => false
    | _ => true
  | .lenm a, ee => match ee with
    | .Call (.Name x _) [y] [] _ => decide (x = "len") && glB sc x && chk N sc a y && !isStar y
    | _ => false
  | .meth a f xs, ee => match ee with
    | .Call (.Attribute o m ap) es [] cp => decide (f = m) && chk N sc a o && chks N sc xs es && !isCall0 o && (ap.endLine == cp.line) && decide (es.length < 30)
    | _ => false
  | .gcd xs, ee => match ee with
    | .Call (.Name x _) es [] _ => decide (x = "gcd") && glB sc x && chks N sc xs es && !xs.isNil
    | _ => false
  | .sqr t a, ee => match ee with
    | .Call (.Name x _) [.Call (.Name z _) [y] [] _] [] _ => decide (x = sqN t) && glB sc x && decide (z = "reversed") && glB sc z && chk N sc a y && !isStar y
    | _ => false
  | .sq1 t a, ee => match ee with
    | .Call (.Name x _) [.Call (.Name z _) [y] [] _] [] _ => decide (x = sqN t) && glB sc x && decide (z = "range") && glB sc z && chk N sc a y && !isStar y
    | _ => false
  | .sq2 t a b, ee => match ee with
    | .Call (.Name x _) [.Call (.Name z _) [y, y2] [] _] [] _ => decide (x = sqN t) && glB sc x && decide (z = "range") && glB sc z && chk N sc a y && chk N sc b y2 && !isStar y && !isStar y2
    | _ => false
  | .fmt a, ee => match ee with
    | .FormattedValue x (-1) none _ => chk N sc a x
    | _ => false
  | .joined xs, ee => match ee with
    | .JoinedStr es _ => chks N sc xs es && decide (2 ≤ es.length)
    | _ => false
  | .idxof a b, ee => match ee with
    | .Call (.Attribute o m ap) [y] [] cp => decide (m = "index") && chk N sc a o && chk N sc b y && !isStar y && !isCall0 o && (ap.endLine == cp.line)
    | _ => false
def chks (N : List Str) (sc : Scope) : Es → List Expr → Bool
  | .nil, ee => match ee with
    | [] => true
    | _ => false
  | .cons e es, ee => match ee with
    | x :: xs => chk N sc e x && !isStar x && chks N sc es xs
    | _ => false
def chko (N : List Str) (sc : Scope) : Eo → Option Expr → Bool
  | .no, ee => match ee with
    | none => true
    | _ => false
  | .yes e, ee => match ee with
    | some x => chk N sc e x
    | _ => false
def chkc (N : List Str) (sc : Scope) : Eo → List Expr → Bool
  | .no, ee => match ee with
    | [] => true
    | _ => false
  | .yes e, ee => match ee with
    | [x] => chk N sc e x
    | _ => false
def chkI (N : List Str) (sc : Scope) : It → Expr → Bool
  | .seq e, x => chk N sc e x
  | .rng a, ee => match ee with
    | .Call (.Name x _) [y] [] _ => decide (x = "range") && glB sc x && chk N sc a y && !isStar y
    | _ => false
  | .rng2 a b, ee => match ee with
    | .Call (.Name x _) [y, z] [] _ => decide (x = "range") && glB sc x && chk N sc a y && chk N sc b z && !isStar y && !isStar z
    | _ => false
  | .rev e, ee => match ee with
    | .Call (.Name x _) [y] [] _ => decide (x = "reversed") && glB sc x && chk N sc e y && !isStar y
    | _ => false
end
end Pu
/-! PuG: the rules of single expressions. -/
namespace Pu
open PySem PySem.Spec PyProof.Rows L2

/-- a value that may be called with n plain arguments and is worth F -/
def CallOk (P : Program) (w : World) (K : Frg) (mg : Str → Option Value) (base : Heap) (Cl : ClT) (lv : Nat) (u : Value) (n : Nat) (F : List D → Res D) : Prop :=
  ∀ (X : Cx) (W : WX), X.prog = P → X.w = w → X.K = K → X.mg = mg → X.base = base → Room lv X.A → Takes X W →
    ∀ (pins : List (Addr × Obj)) (s : Shared) (σ : L2.St) (G H : Hp) (ds : List D) (vs : List V) (us : List Value) (Q : VK), Inv X pins σ H s → Vals vs us → Same G H → Reps K Cl G ds vs → ds.length = n → PostE K Cl W G H σ (F ds) Q →
      wpAny (model P w) X.A (call u us) (EP X pins σ Q) X.xe s
def CallKOk (P : Program) (w : World) (K : Frg) (mg : Str → Option Value) (base : Heap) (Cl : ClT) (lv : Nat) (u : Value) (n : Nat) (ks : List Str) (F : List D → Res D) : Prop :=
  ∀ (X : Cx) (W : WX), X.prog = P → X.w = w → X.K = K → X.mg = mg → X.base = base → Room lv X.A → Takes X W →
    ∀ (pins : List (Addr × Obj)) (s : Shared) (σ : L2.St) (G H : Hp) (ds es : List D) (vs zs : List V) (us ws : List Value) (Q : VK), Inv X pins σ H s → Vals vs us → Vals zs ws → Same G H → Reps K Cl G ds vs → Reps K Cl G es zs → ds.length = n → es.length = ks.length →
      PostE K Cl W G H σ (F (ds ++ es)) Q → wpAny (model P w) X.A (call u us (ks.zip ws)) (EP X pins σ Q) X.xe s
/-- a def's promise -/
def spP (K : Frg) (Cl : ClT) (n : Nat) (F : List D → Res D) : Sp := fun vs H Q E => vs.length = n ∧ ∃ G ds, Same G H ∧ Reps K Cl G ds vs ∧ PostE K Cl (fun cls d _ H' => E cls d H') G H [] (F ds) Q
/-- a method at f, with room below a built-in -/
def MetOk (P : Program) (w : World) (K : Frg) (mg : Str → Option Value) (base : Heap) (Cl : ClT) (lv : Nat) (C : Addr) (m : Str) (n : Nat) (F : List D → Res D) : Prop :=
  ∃ f fd ps lm, Cls K C ∧ Meth K C m f ∧ lm + 1 ≤ lv ∧ FnOk P w K mg base (L2.CX P w) lm f fd ps (spP K Cl ps.length F) ∧ Binds K fd ps [] ∧ ps.length = n + 1
structure Facts (T : Tab) (P : Program) (w : World) (K : Frg) (mg : Str → Option Value) (base : Heap) (Cl : ClT) (lv : Nat) : Prop where
  bi : ∀ b : BI, mg b.name = none
  rng : mg "range" = none
  rev : mg "reversed" = none
  isi : mg "isinstance" = none
  fn : ∀ x n F, T.fn x n = some F → ∃ u, mg x = some u ∧ PySem.W.keepIn K u = true ∧ CallOk P w K mg base Cl lv u n F
  fk : ∀ x n ks F, T.fk x n ks = some F → ∃ u, mg x = some u ∧ PySem.W.keepIn K u = true ∧ CallKOk P w K mg base Cl lv u n ks F
  gl : ∀ x d, T.gl x = some d → ∃ u v, mg x = some u ∧ RelV v u ∧ ∀ H : Hp, Rep K Cl H d v
  fd : ∀ c f C, T.fd c f = true → Cl c = some C → Cls K C ∧ NoAttr K C f
  mt : ∀ c m n F C, T.mt c m n = some F → Cl c = some C → MetOk P w K mg base Cl lv C m n F
  gc : T.gc = true → mg "gcd" = some (.builtin "math.gcd")
structure XOk (X : Cx) (N : List Str) (sc : Scope) (T : Tab) (Cl : ClT) (lv : Nat) : Prop where
  names : X.N = N
  scope : X.env.scope = sc
  calm : X.calm = true
  nd : X.N.Nodup
  room : Room lv X.A
  facts : Facts T X.prog X.w X.K X.mg X.base Cl lv

structure OkE (X : Cx) (Cl : ClT) (W : WX) (T : Tab) (ir : E) (e : Expr) : Prop where
  v : PE X e (tE X.K Cl W (ev T ir .val))
  b : PE X e (tB X.K Cl W (ev T ir .bor))
  t : PT X e (tT X.K Cl W (ev T ir .tst))

section
variable {X : Cx} {Cl : ClT} {W : WX} {T : Tab} {N : List Str} {sc : Scope} {lv : Nat} {a b c e : Expr} {es : List Expr} {f g h : Ro → Res D} {pos : Pos}
theorem OkE.of {ir : E} (h : PE X e (tE X.K Cl W f)) (he : ∀ whole, isTrue e X.env whole = (do let v ← whole; standAt e.pos; holding [v] (truthy v)))
    (ev1 : ev T ir .val = f) (ev2 : ev T ir .bor = f) (ev3 : ev T ir .tst = un f truD) : OkE X Cl W T ir e :=
  ⟨by rw [ev1]; exact h, by rw [ev2]; exact toBor h, by rw [ev3]; exact rT_truth (toBor h) he⟩
def rD (K : Frg) (Cl : ClT) (F : D → D → Option D) : R2 := fun v w H Q => ∃ x y d G, Same G H ∧ RepB K Cl G H x v ∧ RepB K Cl G H y w ∧ F x y = some d ∧ ∀ u G' H', Ext G H G' H' → Rep K Cl G' d u → Q u H'
theorem opr_of {k : Value → Value → Sem Value} {F : D → D → Option D} (h : OpD X Cl k F) : OpR X k (rD X.K Cl F) := by
  intro pins s σ H x y v u Q I rx ry ⟨x', y', d, G, sm, r1, r2, hd, hq⟩
  exact h pins s σ G H x' y' d x y v u Q I rx ry sm r1 r2 hd hq
def rC (K : Frg) (Cl : ClT) (F : List D → Option D) : List V → Hp → VK → Prop := fun vs H Q => ∃ ds d G, Same G H ∧ RepBs K Cl G H ds vs ∧ F ds = some d ∧ ∀ u G' H', Ext G H G' H' → Rep K Cl G' d u → Q u H'
theorem cr_of {k : Value} {F : List D → Option D} (h : CallD X Cl k F) : CallR X k (rC X.K Cl F) := by
  intro pins s σ H xs us Q I r ⟨ds, d, G, sm, r1, hd, hq⟩
  exact h pins s σ G H ds d xs us Q I r sm r1 hd hq

theorem vis_of {x : Str} (h : visB sc x = true) : Vis sc x := by
  unfold visB at h
  split at h
  · exact .inl ‹_›
  · exact .inr (.inl ‹_›)
  · exact .inr (.inr ‹_›)
  · cases h
theorem loc_of {x : Str} (h : locB sc x = true) : Loc sc x := by
  unfold locB at h
  split at h
  · exact .inl ‹_›
  · exact .inr ‹_›
  · cases h
theorem gl_of (ok : XOk X N sc T Cl lv) {x : Str} (h : glB sc x = true) : Gl X x := by
  unfold glB at h
  split at h
  · show X.env.scope.names.lookup x = some .globalImplicit
    rw [ok.scope]
    assumption
  · cases h
theorem vis_of' (ok : XOk X N sc T Cl lv) {x : Str} (h : visB sc x = true) : Vis X.env.scope x := by
  rw [ok.scope]
  exact vis_of h

theorem ne_dbg {x : Str} (h : x ≠ "__debug__") : (x == ("__debug__" : Str)) = false := beq_eq_false_iff_ne.mpr h
/-! names and constants -/
theorem r_var (ok : XOk X N sc T Cl lv) {i : Nat} {x : Str} (hN : N[i]? = some x) (hv : visB sc x = true) (h1 : x ≠ "__debug__") (h2 : x ≠ "__classdict__") : OkE X Cl W T (.var i) (.Name x pos) := by
  have base : PE X (.Name x pos) (tVar i) := pe_var (by rw [ok.names]; exact hN) (vis_of' ok hv) (ne_dbg h1) (beq_eq_false_iff_ne.mpr h2)
  have hb : PE X (.Name x pos) (tB X.K Cl W (fun ρ => getB ρ i)) := PE.imp base fun σ H Q ⟨G0, H0, G, ρ, sim, q⟩ => by
    unfold getB at q
    dsimp only at q
    split at q
    · rename_i d hd
      obtain ⟨v, e1, r⟩ := sim.val i d hd
      exact ⟨v, e1, q v G H (Ext.refl sim.low) (.inl r)⟩
    · rename_i ds hd
      obtain ⟨p, xs, e1, _, _, e4, r⟩ := sim.own i ds hd
      exact ⟨.ref p, e1, q (.ref p) G H (Ext.refl sim.low) (.inr (.inl ⟨ds, p, xs, rfl, rfl, e4, r⟩))⟩
    · rename_i c ns ds hd
      obtain ⟨p, C, dx, xs, e1, hC, _, _, e4, hl, r⟩ := sim.obj i c ns ds hd
      exact ⟨.ref p, e1, q (.ref p) G H (Ext.refl sim.low) (.inr (.inr ⟨c, ns, ds, p, C, dx, xs, rfl, rfl, hC, e4, hl, r⟩))⟩
    · exact q.elim
  refine ⟨PE.imp base fun σ H Q ⟨G0, H0, G, ρ, sim, q⟩ => ?_, by simp only [ev]; exact hb, by simp only [ev]; exact rT_truth hb fun _ => rfl⟩
  simp only [ev] at q
  unfold getV at q
  split at q
  · rename_i d hd
    obtain ⟨v, e1, r⟩ := sim.val i d hd
    exact ⟨v, e1, q v G H (Ext.refl sim.low) r⟩
  · exact q.elim
theorem r_const {d : D} {v : V} {ir : E} (h : PE X e (tC v)) (hr : ∀ H : Hp, Rep X.K Cl H d v) (he : ∀ whole, isTrue e X.env whole = (do let v ← whole; standAt e.pos; holding [v] (truthy v)))
    (e0 : ∀ m ρ, ev T ir m ρ = fin m (.ok d)) : OkE X Cl W T ir e := by
  have hv : PE X e (tE X.K Cl W fun _ => .ok d) := PE.imp h fun σ H Q ⟨G0, H0, G, ρ, sim, q⟩ => q v G H (Ext.refl sim.low) (hr G)
  exact OkE.of hv he (funext fun ρ => e0 .val ρ) (funext fun ρ => e0 .bor ρ) (funext fun ρ => e0 .tst ρ)
theorem r_glob (ok : XOk X N sc T Cl lv) {x : Str} (hg : glB sc x = true) (h1 : x ≠ "__debug__") : OkE X Cl W T (.glob x) (.Name x pos) := by
  cases hx : T.gl x with
  | none =>
    have hv : PE X (.Name x pos) (tE X.K Cl W fun _ => .stuck) := ⟨fun _ _ _ _ _ _ ⟨_, _, _, _, _, q⟩ => q.elim⟩
    exact OkE.of hv (fun _ => rfl) (funext fun ρ => by simp only [ev, hx]; rfl) (funext fun ρ => by simp only [ev, hx]; rfl) (funext fun ρ => by simp only [ev, hx]; rfl)
  | some d =>
    obtain ⟨u, v, hm, r, hr⟩ := ok.facts.gl x d hx
    exact r_const (pe_glob (gl_of ok hg) hm r (ne_dbg h1)) hr (fun _ => rfl) fun m ρ => by simp only [ev, hx]; rfl

/-! operators -/
theorem r_bin {o : Operator} {x y : E} (ha : OkE X Cl W T x a) (hb : OkE X Cl W T y b) : OkE X Cl W T (.bin o x y) (.BinOp a o b pos) :=
  OkE.of (rE_bin (opd_bin o) ha.b hb.b) (fun _ => rfl) (funext fun ρ => by simp only [ev]; rfl) (funext fun ρ => by simp only [ev]; rfl) (funext fun ρ => by simp only [ev]; rfl)
theorem r_neg {x : E} (ha : OkE X Cl W T x a) : OkE X Cl W T (.neg x) (.UnaryOp .USub a pos) :=
  OkE.of (rE_un und_neg ha.b) (fun _ => rfl) (funext fun ρ => by simp only [ev]; rfl) (funext fun ρ => by simp only [ev]; rfl) (funext fun ρ => by simp only [ev]; rfl)
theorem XOk.hu (ok : XOk X N sc T Cl lv) : X.A.units + 65 < cLine := by
  have := ok.room.un
  omega
theorem r_cmp (ok : XOk X N sc T Cl lv) {o : CmpOp} {x y : E} (ha : OkE X Cl W T x a) (hb : OkE X Cl W T y b) (hm : behindInMarks o b = false) : OkE X Cl W T (.cmp o x y) (.Compare a [o] [b] pos) := by
  have e0 : ∀ m, ev T (.cmp o x y) m = bin (ev T x .bor) (ev T y .bor) (cmpD o) := fun m => funext fun ρ => by cases m <;> simp only [ev]
  refine ⟨?_, ?_, ?_⟩
  · rw [e0]; exact rE_cmp (opd_cmp ok.hu o) ha.b hb.b hm
  · rw [e0]; exact toBor (rE_cmp (opd_cmp ok.hu o) ha.b hb.b hm)
  · rw [e0]; exact rT_cmp (cmp_onlyB o) (opd_cmp ok.hu o) ha.b hb.b hm
/-- a op b op c -/
theorem chain_red {o o2 : CmpOp} {σ : L2.St} {H : Hp} {Q : VK} (hh : tE X.K Cl W (fun ρ => (f ρ).bind fun x => (g ρ).bind fun y => (Res.ofO (cmpD o x y)).bind fun d => condR d ((h ρ).bind fun z => Res.ofO (cmpD o2 y z)) (.ok (.bl false))) σ H Q) :
    tChain (rD X.K Cl (cmpD o)) (rD X.K Cl (cmpD o2)) (tB X.K Cl W f) (tB X.K Cl W g) (tB X.K Cl W h) σ H Q := by
  obtain ⟨G0, H0, G, ρ, sim, hh⟩ := hh
  refine ⟨G0, H0, G, ρ, sim, ?_⟩
  have h1 := PostB.seqE (r := f ρ) hh
  cases e1 : f ρ with
  | exc c ns ds => rw [e1] at h1; exact h1
  | stuck => rw [e1] at h1; exact h1
  | ok x0 =>
    rw [e1] at h1
    intro v G1 H1 k1 r1
    obtain ⟨x, G1', ex, k1', r1', h2⟩ := h1 v G1 H1 k1 r1
    cases ex
    refine ⟨G0, H0, G1', ρ, sim.grow k1', ?_⟩
    have h3 := PostB.seqE (r := g ρ) h2
    cases e2 : g ρ with
    | exc c ns ds => rw [e2] at h3; exact h3
    | stuck => rw [e2] at h3; exact h3
    | ok y0 =>
      rw [e2] at h3
      intro w' G2 H2 k2 r2
      obtain ⟨y, G2', ey, k2', r2', h4⟩ := h3 w' G2 H2 k2 r2
      cases ey
      cases ec : cmpD o x0 y0 with
      | none => rw [ec] at h4; exact h4.elim
      | some d =>
        rw [ec] at h4
        obtain ⟨k, rfl⟩ := cmp_onlyB o x0 y0 d ec
        refine ⟨x0, y0, .bl k, G2', k2'.low, r1'.grow k2', r2', ec, fun u G3 H3 k3 r3 => ?_⟩
        simp only [Rep] at r3
        subst r3
        refine ⟨k, rfl, ?_⟩
        cases k with
        | false =>
          rw [if_neg Bool.false_ne_true]
          exact h4 _ G3 H3 k3 (by simp only [Rep])
        | true =>
          rw [if_pos rfl]
          refine ⟨G0, H0, G3, ρ, ((sim.grow k1').grow k2').grow k3, ?_⟩
          have h5 : PostE X.K Cl W G3 H3 σ ((h ρ).bind fun z => Res.ofO (cmpD o2 y0 z)) Q := PostE.grow k3 h4
          have h6 := PostB.seqE (r := h ρ) h5
          cases e3 : h ρ with
          | exc c ns ds => rw [e3] at h6; exact h6
          | stuck => rw [e3] at h6; exact h6
          | ok z0 =>
            rw [e3] at h6
            intro u G4 H4 k4 r4
            obtain ⟨z, G4', ez, k4', r4', h7⟩ := h6 u G4 H4 k4 r4
            cases ez
            obtain ⟨d, hd, hq⟩ := PostE.ofO h7
            exact ⟨y0, z0, d, G4', k4'.low, (r2'.grow k3).grow k4', r4', hd, hq⟩
/-- an answer that is a truth value, as a test -/
theorem toTest {f : Ro → Res D} (hb : ∀ ρ d, f ρ = .ok d → ∃ k, d = .bl k) {σ : L2.St} {H : Hp} {Q : Bool → Hp → Prop} (h : tT X.K Cl W f σ H Q) : tE X.K Cl W f σ H fun v H1 => ∃ k, v = .bl k ∧ Q k H1 := by
  obtain ⟨G0, H0, G, ρ, sim, h⟩ := h
  refine ⟨G0, H0, G, ρ, sim, ?_⟩
  cases e : f ρ with
  | exc c ns ds => rw [e] at h; exact h
  | stuck => rw [e] at h; exact h
  | ok d =>
    obtain ⟨k, rfl⟩ := hb ρ d e
    rw [e] at h
    intro v G1 H1 k1 r1
    simp only [Rep] at r1
    exact ⟨k, r1, h G1 H1 k1⟩
theorem r_cmp2 (ok : XOk X N sc T Cl lv) {o o2 : CmpOp} {x y z : E} (ha : OkE X Cl W T x a) (hb : OkE X Cl W T y b) (hc : OkE X Cl W T z c) (hm : lastMarks [o, o2] [b, c] = false) : OkE X Cl W T (.cmp2 o o2 x y z) (.Compare a [o, o2] [b, c] pos) := by
  have e0 : ∀ m, ev T (.cmp2 o o2 x y z) m = fun ρ => (ev T x .bor ρ).bind fun x => (ev T y .bor ρ).bind fun y => (Res.ofO (cmpD o x y)).bind fun d => condR d ((ev T z .bor ρ).bind fun z => Res.ofO (cmpD o2 y z)) (.ok (.bl false)) := fun m => funext fun ρ => by cases m <;> simp only [ev]
  have hv : PE X (.Compare a [o, o2] [b, c] pos) (tE X.K Cl W (fun ρ => (ev T x .bor ρ).bind fun x => (ev T y .bor ρ).bind fun y => (Res.ofO (cmpD o x y)).bind fun d => condR d ((ev T z .bor ρ).bind fun z => Res.ofO (cmpD o2 y z)) (.ok (.bl false)))) :=
    PE.imp (pe_chain (opr_of (opd_cmp ok.hu o)) (opr_of (opd_cmp ok.hu o2)) ha.b hb.b hc.b hm) fun σ H Q hh => chain_red hh
  refine ⟨by rw [e0]; exact hv, by rw [e0]; exact toBor hv, ?_⟩
  rw [e0]
  refine PT.imp (pt_chain (opr_of (Cl := Cl) (opd_cmp ok.hu o)) (opr_of (Cl := Cl) (opd_cmp ok.hu o2)) ha.b hb.b hc.b hm) fun σ H Q hh => ?_
  refine chain_red (toTest (fun ρ d e => ?_) hh)
  cases e1 : ev T x .bor ρ with
  | exc c ns ds => rw [e1] at e; cases e
  | stuck => rw [e1] at e; cases e
  | ok x0 =>
    cases e2 : ev T y .bor ρ with
    | exc c ns ds => simp only [Res.bind, e1, e2] at e; cases e
    | stuck => simp only [Res.bind, e1, e2] at e; cases e
    | ok y0 =>
      simp only [Res.bind, e1, e2] at e
      cases ec : cmpD o x0 y0 with
      | none => rw [ec] at e; cases e
      | some d' =>
        obtain ⟨k, rfl⟩ := cmp_onlyB o x0 y0 d' ec
        rw [ec] at e
        cases k with
        | false => cases e; exact ⟨_, rfl⟩
        | true =>
          simp only [Res.ofO, condR] at e
          cases e3 : ev T z .bor ρ with
          | exc c ns ds => rw [e3] at e; cases e
          | stuck => rw [e3] at e; cases e
          | ok z0 =>
            rw [e3] at e
            replace e : Res.ofO (cmpD o2 y0 z0) = .ok d := e
            cases e4 : cmpD o2 y0 z0 with
            | none => rw [e4] at e; cases e
            | some d'' => rw [e4] at e; cases e; exact cmp_onlyB o2 y0 z0 _ e4

/-! not, and, or, if -/
theorem notR_bl {d : D} (h : ∀ b, d ≠ .bl b) : notR d = .stuck := by cases d <;> first | rfl | exact absurd rfl (h _)
theorem condR_bl {d : D} {r q : Res D} (h : ∀ b, d ≠ .bl b) : condR d r q = .stuck := by cases d <;> first | rfl | exact absurd rfl (h _)
theorem r_not {x : E} (ha : OkE X Cl W T x a) : OkE X Cl W T (.not_ x) (.UnaryOp .Not a pos) := by
  have hv : PE X (.UnaryOp .Not a pos) (tE X.K Cl W fun ρ => (ev T x .val ρ).bind notR) := PE.imp (pe_not ha.v) fun σ H Q ⟨G0, H0, G, ρ, sim, q⟩ => by
    refine ⟨G0, H0, G, ρ, sim, ?_⟩
    have h1 := PostE.seqE (r := ev T x .val ρ) q
    cases e : ev T x .val ρ with
    | exc c ns ds => rw [e] at h1; exact h1
    | stuck => rw [e] at h1; exact h1
    | ok d =>
      rw [e] at h1
      intro v G1 H1 k1 r1
      obtain ⟨d', G1', ed, k1', r1', h2⟩ := h1 v G1 H1 k1 r1
      cases ed
      cases d with
      | bl k =>
        simp only [Rep] at r1'
        exact ⟨k, r1', h2 _ G1' H1 (Ext.refl k1'.low) (by simp only [Rep])⟩
      | _ => exact h2.elim
  refine ⟨by simp only [ev]; exact hv, by simp only [ev]; exact toBor hv, ?_⟩
  simp only [ev]
  refine PT.imp (pt_not ha.t) fun σ H Q ⟨G0, H0, G, ρ, sim, q⟩ => ?_
  refine ⟨G0, H0, G, ρ, sim, ?_⟩
  have h1 := PostT.seqT (r := ev T x .tst ρ) (fun d hd G H q => by rw [notR_bl hd] at q; exact q) q
  cases e : ev T x .tst ρ with
  | exc c ns ds => rw [e] at h1; exact h1
  | stuck => rw [e] at h1; exact h1
  | ok d =>
    rw [e] at h1
    cases d with
    | bl k =>
      intro G1 H1 k1
      obtain ⟨G1', _, k1', h2⟩ := h1 G1 H1 k1
      exact h2 G1' H1 (Ext.refl k1'.low)
    | _ => exact h1
theorem condE {r q : Res D} {G H : Hp} {σ : L2.St} {Q : VK} : ∀ d, (∀ b, d ≠ .bl b) → ¬ PostE X.K Cl W G H σ (condR d r q) Q := fun d hd h => by rw [condR_bl hd] at h; exact h
theorem condT {r q : Res D} {G H : Hp} {σ : L2.St} {Q : Bool → Hp → Prop} : ∀ d, (∀ b, d ≠ .bl b) → ¬ PostT X.K Cl W G H σ (condR d r q) Q := fun d hd h => by rw [condR_bl hd] at h; exact h
theorem r_ife {x y z : E} (hc : OkE X Cl W T x c) (ha : OkE X Cl W T y a) (hb : OkE X Cl W T z b) : OkE X Cl W T (.ife x y z) (.IfExp c a b pos) := by
  have hv : PE X (.IfExp c a b pos) (tE X.K Cl W fun ρ => (ev T x .tst ρ).bind fun d => condR d (ev T y .val ρ) (ev T z .val ρ)) := PE.imp (pe_ifExp hc.t ha.v hb.v) fun σ H Q ⟨G0, H0, G, ρ, sim, q⟩ => by
    refine ⟨G0, H0, G, ρ, sim, ?_⟩
    have h1 := PostT.seqE (r := ev T x .tst ρ) (fun d hd G H q => condE d hd q) q
    cases e : ev T x .tst ρ with
    | exc c ns ds => rw [e] at h1; exact h1
    | stuck => rw [e] at h1; exact h1
    | ok d =>
      rw [e] at h1
      cases d with
      | bl k =>
        intro G1 H1 k1
        obtain ⟨G1', _, k1', h2⟩ := h1 G1 H1 k1
        cases k with
        | true => rw [if_pos rfl]; exact ⟨G0, H0, G1', ρ, sim.grow k1', h2⟩
        | false => rw [if_neg Bool.false_ne_true]; exact ⟨G0, H0, G1', ρ, sim.grow k1', h2⟩
      | _ => exact h1
  refine ⟨by simp only [ev]; exact hv, by simp only [ev]; exact toBor hv, ?_⟩
  simp only [ev]
  exact ⟨fun _ _ _ _ _ _ ⟨_, _, _, _, _, q⟩ => q.elim⟩
/-- and, or: a row of expressions -/
structure OkRow (X : Cx) (Cl : ClT) (W : WX) (T : Tab) (xs : Es) (es : List Expr) : Prop where
  andT : ∀ pos, PW X (.BoolOp .And es pos) (tT X.K Cl W (evAnd T xs .tst))
  andV : ∀ pos, PE X (.BoolOp .And es pos) (tE X.K Cl W (evAnd T xs .val))
  orT : ∀ pos, PW X (.BoolOp .Or es pos) (tT X.K Cl W (evOr T xs .tst))
  orV : ∀ pos, PE X (.BoolOp .Or es pos) (tE X.K Cl W (evOr T xs .val))
theorem bind_id {α : Type} (r : Res α) : (r.bind fun d => .ok d) = r := by cases r <;> rfl
theorem row_one {x : E} (ha : OkE X Cl W T x a) : OkRow X Cl W T (.cons x .nil) [a] := by
  have e1 : ∀ m, evAnd T (.cons x .nil) m = ev T x m := fun m => funext fun ρ => by simp only [evAnd, Es.isNil, if_true, bind_id]
  have e2 : ∀ m, evOr T (.cons x .nil) m = ev T x m := fun m => funext fun ρ => by simp only [evOr, Es.isNil, if_true, bind_id]
  exact ⟨fun pos => by rw [e1]; exact pw_and1 ha.t, fun pos => by rw [e1]; exact pe_one ha.v, fun pos => by rw [e2]; exact pw_or1 ha.t, fun pos => by rw [e2]; exact pe_one ha.v⟩
theorem row_cons {x y : E} {ys : Es} {rest : List Expr} (ha : OkE X Cl W T x a) (hr : OkRow X Cl W T (.cons y ys) (b :: rest)) : OkRow X Cl W T (.cons x (.cons y ys)) (a :: b :: rest) := by
  have e1 : ∀ m, evAnd T (.cons x (.cons y ys)) m = fun ρ => (ev T x m ρ).bind fun d => condR d (evAnd T (.cons y ys) m ρ) (.ok (.bl false)) := fun m => funext fun ρ => by rw [evAnd]; rfl
  have e2 : ∀ m, evOr T (.cons x (.cons y ys)) m = fun ρ => (ev T x m ρ).bind fun d => condR d (.ok (.bl true)) (evOr T (.cons y ys) m ρ) := fun m => funext fun ρ => by rw [evOr]; rfl
  refine ⟨fun pos => ?_, fun pos => ?_, fun pos => ?_, fun pos => ?_⟩
  · rw [e1]
    refine ⟨fun wh pins s σ H Q I hq => (pw_and ha.t (hr.andT pos)).run wh pins s σ H Q I ?_⟩
    obtain ⟨G0, H0, G, ρ, sim, q⟩ := hq
    refine ⟨G0, H0, G, ρ, sim, ?_⟩
    have h1 := PostT.seqT (r := ev T x .tst ρ) (fun d hd G H q => condT d hd q) q
    cases e : ev T x .tst ρ with
    | exc c ns ds => rw [e] at h1; exact h1
    | stuck => rw [e] at h1; exact h1
    | ok d =>
      rw [e] at h1
      cases d with
      | bl k =>
        intro G1 H1 k1
        obtain ⟨G1', _, k1', h2⟩ := h1 G1 H1 k1
        cases k with
        | true => rw [if_pos rfl]; exact ⟨G0, H0, G1', ρ, sim.grow k1', h2⟩
        | false => rw [if_neg Bool.false_ne_true]; exact h2 G1' H1 (Ext.refl k1'.low)
      | _ => exact h1
  · rw [e1]
    refine PE.imp (pe_and ha.v (hr.andV pos)) fun σ H Q ⟨G0, H0, G, ρ, sim, q⟩ => ?_
    refine ⟨G0, H0, G, ρ, sim, ?_⟩
    have h1 := PostE.seqE (r := ev T x .val ρ) q
    cases e : ev T x .val ρ with
    | exc c ns ds => rw [e] at h1; exact h1
    | stuck => rw [e] at h1; exact h1
    | ok d =>
      rw [e] at h1
      intro v G1 H1 k1 r1
      obtain ⟨d', G1', ed, k1', r1', h2⟩ := h1 v G1 H1 k1 r1
      cases ed
      cases d with
      | bl k =>
        simp only [Rep] at r1'
        refine ⟨k, r1', ?_⟩
        cases k with
        | true => rw [if_pos rfl]; exact ⟨G0, H0, G1', ρ, sim.grow k1', h2⟩
        | false => rw [if_neg Bool.false_ne_true]; exact h2 _ G1' H1 (Ext.refl k1'.low) (by simp only [Rep])
      | _ => exact h2.elim
  · rw [e2]
    refine ⟨fun wh pins s σ H Q I hq => (pw_or ha.t (hr.orT pos)).run wh pins s σ H Q I ?_⟩
    obtain ⟨G0, H0, G, ρ, sim, q⟩ := hq
    refine ⟨G0, H0, G, ρ, sim, ?_⟩
    have h1 := PostT.seqT (r := ev T x .tst ρ) (fun d hd G H q => condT d hd q) q
    cases e : ev T x .tst ρ with
    | exc c ns ds => rw [e] at h1; exact h1
    | stuck => rw [e] at h1; exact h1
    | ok d =>
      rw [e] at h1
      cases d with
      | bl k =>
        intro G1 H1 k1
        obtain ⟨G1', _, k1', h2⟩ := h1 G1 H1 k1
        cases k with
        | true => rw [if_pos rfl]; exact h2 G1' H1 (Ext.refl k1'.low)
        | false => rw [if_neg Bool.false_ne_true]; exact ⟨G0, H0, G1', ρ, sim.grow k1', h2⟩
      | _ => exact h1
  · rw [e2]
    refine PE.imp (pe_or ha.v (hr.orV pos)) fun σ H Q ⟨G0, H0, G, ρ, sim, q⟩ => ?_
    refine ⟨G0, H0, G, ρ, sim, ?_⟩
    have h1 := PostE.seqE (r := ev T x .val ρ) q
    cases e : ev T x .val ρ with
    | exc c ns ds => rw [e] at h1; exact h1
    | stuck => rw [e] at h1; exact h1
    | ok d =>
      rw [e] at h1
      intro v G1 H1 k1 r1
      obtain ⟨d', G1', ed, k1', r1', h2⟩ := h1 v G1 H1 k1 r1
      cases ed
      cases d with
      | bl k =>
        simp only [Rep] at r1'
        refine ⟨k, r1', ?_⟩
        cases k with
        | true => rw [if_pos rfl]; exact h2 _ G1' H1 (Ext.refl k1'.low) (by simp only [Rep])
        | false => rw [if_neg Bool.false_ne_true]; exact ⟨G0, H0, G1', ρ, sim.grow k1', h2⟩
      | _ => exact h2.elim
theorem r_ands {xs : Es} (h : OkRow X Cl W T xs es) : OkE X Cl W T (.ands xs) (.BoolOp .And es pos) :=
  ⟨by simp only [ev]; exact h.andV pos, by simp only [ev]; exact toBor (h.andV pos), by simp only [ev]; exact (h.andT pos).pt⟩
theorem r_ors {xs : Es} (h : OkRow X Cl W T xs es) : OkE X Cl W T (.ors xs) (.BoolOp .Or es pos) :=
  ⟨by simp only [ev]; exact h.orV pos, by simp only [ev]; exact toBor (h.orV pos), by simp only [ev]; exact (h.orT pos).pt⟩
end
end Pu
/-! PuH: the rules of calls, displays, comprehensions. -/
namespace Pu
open PySem PySem.Spec PyProof.Rows L2

section
variable {X : Cx} {Cl : ClT} {W : WX} {T : Tab} {N : List Str} {sc : Scope} {lv : Nat} {a b c e : Expr} {es : List Expr} {f g h : Ro → Res D} {pos p : Pos}

/-! ### rows of arguments -/
structure OkArgs (X : Cx) (Cl : ClT) (W : WX) (T : Tab) (xs : Es) (es : List Expr) : Prop where
  v : PA X es (tA X.K Cl W (evs T xs))
  b : PA X es (tAB X.K Cl W (evsB T xs))
  k : ∀ kws : List Keyword, kwVals kws = es → kwAll kws = true → PK X kws (tA X.K Cl W (evs T xs))
  st : (starEach es X.env).any (·.1) = false
theorem star_cons {env : Env} (hs : isStar e = false) : starEach (e :: es) env = (false, eval e env) :: starEach es env := by
  cases e <;> first | rfl | cases hs
theorem args_nil : OkArgs X Cl W T .nil [] := by
  refine ⟨PA.imp pa_nil fun σ H Q ⟨G0, H0, G, ρ, sim, q⟩ => ?_, PA.imp pa_nil fun σ H Q ⟨G0, H0, G, ρ, sim, q⟩ => ?_, fun kws h1 h2 => ?_, rfl⟩
  · simp only [evs] at q
    exact q [] G H (Ext.refl sim.low) Reps.nil
  · simp only [evsB] at q
    exact q [] G H (Ext.refl sim.low) .nil
  · cases kws with
    | cons k ks =>
      obtain ⟨nm, e', kp⟩ := k
      cases h1
    | nil =>
      refine ⟨fun pos pins s σ H Q I ⟨G0, H0, G, ρ, sim, q⟩ => pk_nil.run pos pins s σ H Q I ?_⟩
      simp only [evs] at q
      exact q [] G H (Ext.refl sim.low) Reps.nil
theorem seqA {r : Res D} {r2 : Res (List D)} {G H : Hp} {σ : L2.St} {Q : List V → Hp → Prop} (q : PostA X.K Cl W G H σ (r.bind fun d => r2.bind fun ds => .ok (d :: ds)) Q) :
    PostE X.K Cl W G H σ r (fun v H1 => ∃ d G1, Ext G H G1 H1 ∧ Rep X.K Cl G1 d v ∧ PostA X.K Cl W G1 H1 σ r2 (fun vs H2 => Q (v :: vs) H2)) := by
  cases r with
  | exc c ns ds => exact q
  | stuck => exact q
  | ok d =>
    intro v G1 H1 k1 r1
    refine ⟨d, G1, k1, r1, ?_⟩
    cases r2 with
    | exc c ns ds => exact PostX.grow k1 q
    | stuck => exact q
    | ok ds => exact fun vs G2 H2 k2 r2 => q (v :: vs) G2 H2 (k1.trans k2) (Reps.cons (r1.mono k2.vis) r2)
theorem seqAB {r : Res D} {r2 : Res (List D)} {G H : Hp} {σ : L2.St} {Q : List V → Hp → Prop} (q : PostAB X.K Cl W G H σ (r.bind fun d => r2.bind fun ds => .ok (d :: ds)) Q) :
    PostB X.K Cl W G H σ r (fun v H1 => ∃ d G1, Ext G H G1 H1 ∧ RepB X.K Cl G1 H1 d v ∧ PostAB X.K Cl W G1 H1 σ r2 (fun vs H2 => Q (v :: vs) H2)) := by
  cases r with
  | exc c ns ds => exact q
  | stuck => exact q
  | ok d =>
    intro v G1 H1 k1 r1
    refine ⟨d, G1, k1, r1, ?_⟩
    cases r2 with
    | exc c ns ds => exact PostX.grow k1 q
    | stuck => exact q
    | ok ds => exact fun vs G2 H2 k2 r2 => q (v :: vs) G2 H2 (k1.trans k2) (.cons (r1.grow k2) r2)
theorem headE {r : Res D} {G H : Hp} {σ : L2.St} {Q : V → Hp → Prop} {k : V → Hp → Prop} (h1 : PostE X.K Cl W G H σ r Q) (i : ∀ v G1 H1, Ext G H G1 H1 → Q v H1 → k v H1) : PostE X.K Cl W G H σ r k := by
  cases r with
  | exc c ns ds => exact h1
  | stuck => exact h1
  | ok d => exact fun v G1 H1 k1 r1 => i v G1 H1 k1 (h1 v G1 H1 k1 r1)
theorem headB {r : Res D} {G H : Hp} {σ : L2.St} {Q : V → Hp → Prop} {k : V → Hp → Prop} (h1 : PostB X.K Cl W G H σ r Q) (i : ∀ v G1 H1, Ext G H G1 H1 → Q v H1 → k v H1) : PostB X.K Cl W G H σ r k := by
  cases r with
  | exc c ns ds => exact h1
  | stuck => exact h1
  | ok d => exact fun v G1 H1 k1 r1 => i v G1 H1 k1 (h1 v G1 H1 k1 r1)
theorem args_cons {x : E} {xs : Es} (ha : OkE X Cl W T x e) (hs : isStar e = false) (hr : OkArgs X Cl W T xs es) : OkArgs X Cl W T (.cons x xs) (e :: es) := by
  refine ⟨PA.imp (pa_cons ha.v hr.v (star_cons hs)) fun σ H Q ⟨G0, H0, G, ρ, sim, q⟩ => ?_, PA.imp (pa_cons ha.b hr.b (star_cons hs)) fun σ H Q ⟨G0, H0, G, ρ, sim, q⟩ => ?_, fun kws h1 h2 => ?_, ?_⟩
  · simp only [evs] at q
    refine ⟨G0, H0, G, ρ, sim, headE (seqA q) fun v G1 H1 k1 ⟨d, G1', k1', r1, q1⟩ => ⟨G0, H0, G1', ρ, sim.grow k1', q1⟩⟩
  · simp only [evsB] at q
    refine ⟨G0, H0, G, ρ, sim, headB (seqAB q) fun v G1 H1 k1 ⟨d, G1', k1', r1, q1⟩ => ⟨G0, H0, G1', ρ, sim.grow k1', q1⟩⟩
  · cases kws with
    | nil => cases h1
    | cons k ks =>
      obtain ⟨nm, e', kp⟩ := k
      cases nm with
      | none => cases h2
      | some nm =>
        have h1' : e' :: kwVals ks = e :: es := h1
        obtain ⟨rfl, h3⟩ := List.cons.inj h1'
        refine ⟨fun pos pins s σ H Q I ⟨G0, H0, G, ρ, sim, q⟩ => (pk_cons ha.v (hr.k ks h3 h2)).run pos pins s σ H Q I ?_⟩
        simp only [evs] at q
        exact ⟨G0, H0, G, ρ, sim, headE (seqA q) fun v G1 H1 k1 ⟨d, G1', k1', r1, q1⟩ => ⟨G0, H0, G1', ρ, sim.grow k1', q1⟩⟩
  · rw [star_cons hs, List.any_cons, hr.st]
    rfl
theorem back_any {l : List (Bool × Sem Value)} : (backTo pos l).any (·.1) = l.any (·.1) := by
  unfold backTo
  rw [List.any_map]
  rfl
theorem backKw_all : ∀ {kws : List Keyword} {env : Env}, kwAll kws = true → (backToKw pos (keywordEach kws env)).all (·.1.isSome) = true
  | [], _, _ => rfl
  | ⟨some x, e, _⟩ :: ks, env, h => by
    show (true && (backToKw pos (keywordEach ks env)).all (·.1.isSome)) = true
    rw [backKw_all (kws := ks) h]
    rfl
  | ⟨none, _, _⟩ :: _, _, h => by cases h
theorem backKw_none : ∀ {kws : List Keyword} {env : Env}, kwAll kws = true → (backToKw pos (keywordEach kws env)).any (·.1.isNone) = false
  | [], _, _ => rfl
  | ⟨some x, e, _⟩ :: ks, env, h => by
    show (false || (backToKw pos (keywordEach ks env)).any (·.1.isNone)) = false
    rw [backKw_none (kws := ks) h]
    rfl
  | ⟨none, _, _⟩ :: _, _, h => by cases h
theorem backKw_names : ∀ {kws : List Keyword} {env : Env}, kwAll kws = true → (backToKw pos (keywordEach kws env)).filterMap (·.1) = kwNames kws
  | [], _, _ => rfl
  | ⟨some x, e, _⟩ :: ks, env, h => by
    show x :: (backToKw pos (keywordEach ks env)).filterMap (·.1) = x :: kwNames ks
    rw [backKw_names (kws := ks) h]
  | ⟨none, _, _⟩ :: _, _, h => by cases h
theorem evs_len : ∀ {xs : Es} {ρ : Ro} {ds : List D}, evs T xs ρ = .ok ds → ds.length = xs.len
  | .nil, ρ, ds, h => by
    simp only [evs] at h
    cases h
    rfl
  | .cons x xs, ρ, ds, h => by
    simp only [evs] at h
    cases e1 : ev T x .val ρ with
    | exc c ns ds => rw [e1] at h; cases h
    | stuck => rw [e1] at h; cases h
    | ok d =>
      cases e2 : evs T xs ρ with
      | exc c ns ds => rw [e1, e2] at h; cases h
      | stuck => rw [e1, e2] at h; cases h
      | ok ds' =>
        rw [e1, e2] at h
        cases h
        show ds'.length + 1 = xs.len + 1
        rw [evs_len e2]
theorem chks_len : ∀ {xs : Es} {es : List Expr}, chks N sc xs es = true → xs.len = es.length
  | .nil, [], _ => rfl
  | .nil, _ :: _, h => by simp only [chks] at h; cases h
  | .cons x xs, [], h => by simp only [chks] at h; cases h
  | .cons x xs, e :: es, h => by
    simp only [chks, Bool.and_eq_true] at h
    show xs.len + 1 = es.length + 1
    rw [chks_len h.2]

/-- a borrowed value, then the rest -/
theorem PB.get {r : Ro → Res D} {k : D → Res D} {σ : L2.St} {H : Hp} {Q : VK} {R : V → Hp → Prop} (hh : tE X.K Cl W (fun ρ => (r ρ).bind k) σ H Q)
    (i : ∀ v G1 H1 d, RepB X.K Cl G1 H1 d v → Same G1 H1 → PostE X.K Cl W G1 H1 σ (k d) Q → R v H1) : tB X.K Cl W r σ H R := by
  obtain ⟨G0, H0, G, ρ, sim, q⟩ := hh
  refine ⟨G0, H0, G, ρ, sim, ?_⟩
  exact headB (PostB.seqE (r := r ρ) q) fun v G1 H1 k1 ⟨d, G1', ed, k1', r1, q1⟩ => i v G1' H1 d r1 k1'.low q1

/-! ### calls -/
theorem r_call (ok : XOk X N sc T Cl lv) (tk : Takes X W) {x : Str} {xs : Es} (hg : glB sc x = true) (h1 : x ≠ "__debug__") (ha : OkArgs X Cl W T xs (e :: es)) {zs : Es} (hr : OkArgs X Cl W T zs es) (hs : isStar e = false) :
    OkE X Cl W T (.call x xs) (.Call (.Name x p) (e :: es) [] pos) := by
  have hv : PE X (.Call (.Name x p) (e :: es) [] pos) (tE X.K Cl W fun ρ => apR (T.fn x xs.len) (evs T xs ρ)) := by
    refine ⟨fun pins s σ H Q I ⟨G0, H0, G, ρ, sim, q⟩ => ?_⟩
    cases hf : T.fn x xs.len with
    | none => rw [hf] at q; exact q.elim
    | some F =>
      rw [hf] at q
      replace q : PostE X.K Cl W G H σ ((evs T xs ρ).bind F) Q := q
      obtain ⟨u, hm, hk, hc⟩ := ok.facts.fn x _ F hf
      refine wpAny_Call_Name_kw (ld_glob I (gl_of ok hg) hm ?_ (ne_dbg h1))
      have q2 := PostA.seqE q
      have q3 : tA X.K Cl W (evs T xs) σ H (fun vs H1 => ∃ ds G1, ds.length = xs.len ∧ Ext G H G1 H1 ∧ Reps X.K Cl G1 ds vs ∧ PostE X.K Cl W G1 H1 σ (F ds) Q) := by
        refine ⟨G0, H0, G, ρ, sim, ?_⟩
        cases ee : evs T xs ρ with
        | exc c ns ds => rw [ee] at q2; exact q2
        | stuck => rw [ee] at q2; exact q2
        | ok ds =>
          rw [ee] at q2
          intro vs G1 H1 k1 r1
          obtain ⟨ds', G1', ed, k1', r1', q4⟩ := q2 vs G1 H1 k1 r1
          cases ed
          exact ⟨ds, G1', evs_len ee, k1', r1', q4⟩
      refine PySem.W.callWith_K (h₀ := X.base) I.ok.mod.kin hk (thn (ha.v.run pos pins s σ H _ I q3) fun us s1 ⟨vs, H1, I1, r, ds, G1, hl, k1, r1, q4⟩ => ⟨I1.kIn, ?_⟩) (star_cons hs) (by rw [back_any]; exact hr.st)
      exact hc X W rfl rfl rfl rfl rfl ok.room tk pins s1 σ G1 H1 ds vs us Q I1 r k1.low r1 hl q4
  exact OkE.of hv (fun _ => rfl) (funext fun ρ => by simp only [ev, fin]) (funext fun ρ => by simp only [ev, fin]) (funext fun ρ => by simp only [ev, fin]; rfl)
theorem r_callk (ok : XOk X N sc T Cl lv) (tk : Takes X W) {x : Str} {xs ys ws : Es} {ks : List Str} {kws : List Keyword} (hg : glB sc x = true) (h1 : x ≠ "__debug__") (ha : OkArgs X Cl W T xs (e :: es)) (hr : OkArgs X Cl W T ws es) (hs : isStar e = false)
    (hka : kwAll kws = true) (hkn : kwNames kws = ks) (hk : OkArgs X Cl W T ys (kwVals kws)) (hl2 : ys.len = ks.length) : OkE X Cl W T (.callk x xs ks ys) (.Call (.Name x p) (e :: es) kws pos) := by
  have hv : PE X (.Call (.Name x p) (e :: es) kws pos) (tE X.K Cl W fun ρ => apR (T.fk x xs.len ks) ((evs T xs ρ).bind fun ds => (evs T ys ρ).bind fun es => .ok (ds ++ es))) := by
    refine ⟨fun pins s σ H Q I ⟨G0, H0, G, ρ, sim, q⟩ => ?_⟩
    cases hf : T.fk x xs.len ks with
    | none => rw [hf] at q; exact q.elim
    | some F =>
      rw [hf] at q
      replace q : PostE X.K Cl W G H σ (((evs T xs ρ).bind fun ds => (evs T ys ρ).bind fun es => .ok (ds ++ es)).bind F) Q := q
      obtain ⟨u, hm, hke, hc⟩ := ok.facts.fk x _ ks F hf
      refine wpAny_Call_Name_kw (ld_glob I (gl_of ok hg) hm ?_ (ne_dbg h1))
      have q3 : tA X.K Cl W (evs T xs) σ H (fun vs H1 => tA X.K Cl W (evs T ys) σ H1 (fun zs H2 => ∃ ds es G2, ds.length = xs.len ∧ es.length = ks.length ∧ Same G2 H2 ∧ Reps X.K Cl G2 ds vs ∧ Reps X.K Cl G2 es zs ∧ PostE X.K Cl W G2 H2 σ (F (ds ++ es)) Q)) := by
        refine ⟨G0, H0, G, ρ, sim, ?_⟩
        cases ee : evs T xs ρ with
        | exc c ns ds => rw [ee] at q; exact q
        | stuck => rw [ee] at q; exact q
        | ok ds =>
          rw [ee] at q
          intro vs G1 H1 k1 r1
          refine ⟨G0, H0, G1, ρ, sim.grow k1, ?_⟩
          cases ef : evs T ys ρ with
          | exc c ns ds => rw [ef] at q; exact PostX.grow k1 q
          | stuck => rw [ef] at q; exact q
          | ok es =>
            rw [ef] at q
            intro zs G2 H2 k2 r2
            exact ⟨ds, es, G2, evs_len ee, (evs_len ef).trans hl2, k2.low, r1.mono k2.vis, r2, PostE.grow (k1.trans k2) q⟩
      refine PySem.W.callWith_KW (h₀ := X.base) I.ok.mod.kin hke (backKw_all hka) (thn (ha.v.run pos pins s σ H _ I q3) fun us s1 ⟨vs, H1, I1, r, q4⟩ => ?_) ?_ (star_cons hs)
      · refine thn ((hk.k kws rfl hka).run pos pins s1 σ H1 _ I1 q4) fun wsv s2 ⟨zs, H2, I2, rz, ds, es', G2, l1, l2, sm, r1, r2, q5⟩ => ⟨I2.kIn, ?_⟩
        rw [backKw_names hka, hkn]
        exact hc X W rfl rfl rfl rfl rfl ok.room tk pins s2 σ G2 H2 ds es' vs zs us wsv Q I2 r rz sm r1 r2 l1 l2 q5
      · rw [back_any, star_cons hs, List.any_cons, hr.st, backKw_none hka]
        rfl
  exact OkE.of hv (fun _ => rfl) (funext fun ρ => by simp only [ev, fin]) (funext fun ρ => by simp only [ev, fin]) (funext fun ρ => by simp only [ev, fin]; rfl)
/-- a row, borrowed, then an operation on it -/
theorem rowB {xs : Es} {F : List D → Option D} {σ : L2.St} {H : Hp} {Q : VK} (hh : tE X.K Cl W (fun ρ => (evsB T xs ρ).bind fun ds => Res.ofO (F ds)) σ H Q) : tAB X.K Cl W (evsB T xs) σ H (fun vs H1 => rC X.K Cl F vs H1 Q) := by
  obtain ⟨G0, H0, G, ρ, sim, q⟩ := hh
  refine ⟨G0, H0, G, ρ, sim, ?_⟩
  have q2 := PostAB.seqE (r := evsB T xs ρ) q
  cases ee : evsB T xs ρ with
  | exc c ns ds => rw [ee] at q2; exact q2
  | stuck => rw [ee] at q2; exact q2
  | ok ds =>
    rw [ee] at q2
    intro vs G1 H1 k1 r1
    obtain ⟨ds', G1', ed, k1', r1', q4⟩ := q2 vs G1 H1 k1 r1
    cases ed
    obtain ⟨d, hd, hq⟩ := PostE.ofO q4
    exact ⟨ds, d, G1', k1'.low, r1', hd, hq⟩
theorem r_bi (ok : XOk X N sc T Cl lv) {b : BI} {xs zs : Es} (hg : glB sc b.name = true) (ha : OkArgs X Cl W T xs (e :: es)) (hr : OkArgs X Cl W T zs es) (hs : isStar e = false) : OkE X Cl W T (.bi b xs) (.Call (.Name b.name p) (e :: es) [] pos) := by
  have hpl : (backTo pos (starEach es X.env)).any (·.1) = false := by rw [back_any]; exact hr.st
  have hv : PE X (.Call (.Name b.name p) (e :: es) [] pos) (tCB (rC X.K Cl b.fn) (tAB X.K Cl W (evsB T xs))) := by
    have hc := cr_of (cd_all (X := X) (Cl := Cl) ok.calm b)
    have hm := ok.facts.bi b
    cases b with
    | len => exact pe_callB hc (gl_of ok hg) hm (by decide +kernel) ha.b (by decide) (by decide) (star_cons hs) hpl
    | abs => exact pe_callB hc (gl_of ok hg) hm (by decide +kernel) ha.b (by decide) (by decide) (star_cons hs) hpl
    | max => exact pe_callB hc (gl_of ok hg) hm (by decide +kernel) ha.b (by decide) (by decide) (star_cons hs) hpl
    | min => exact pe_callB hc (gl_of ok hg) hm (by decide +kernel) ha.b (by decide) (by decide) (star_cons hs) hpl
    | sum => exact pe_callB hc (gl_of ok hg) hm (by decide +kernel) ha.b (by decide) (by decide) (star_cons hs) hpl
    | sorted => exact pe_callB hc (gl_of ok hg) hm (by decide +kernel) ha.b (by decide) (by decide) (star_cons hs) hpl
    | int => exact pe_callTy hc (gl_of ok hg) hm (by decide +kernel) ha.b (by decide) (by decide) (star_cons hs) hpl
    | bool => exact pe_callTy hc (gl_of ok hg) hm (by decide +kernel) ha.b (by decide) (by decide) (star_cons hs) hpl
    | str => exact pe_callTy hc (gl_of ok hg) hm (by decide +kernel) ha.b (by decide) (by decide) (star_cons hs) hpl
    | list => exact pe_callTy hc (gl_of ok hg) hm (by decide +kernel) ha.b (by decide) (by decide) (star_cons hs) hpl
    | tuple => exact pe_callTy hc (gl_of ok hg) hm (by decide +kernel) ha.b (by decide) (by decide) (star_cons hs) hpl
  have hv2 : PE X (.Call (.Name b.name p) (e :: es) [] pos) (tE X.K Cl W fun ρ => (evsB T xs ρ).bind fun ds => Res.ofO (b.fn ds)) := PE.imp hv fun σ H Q hh => rowB hh
  exact OkE.of hv2 (fun _ => rfl) (funext fun ρ => by simp only [ev, fin]) (funext fun ρ => by simp only [ev, fin]) (funext fun ρ => by simp only [ev, fin]; rfl)

/-! isinstance -/
theorem ty_bi (t : Ty) : ∃ b : BI, Str.ofString t.name = b.name ∧ bootBuiltins (Str.ofString t.name) = some (.type t.name) := by
  cases t with
  | int => exact ⟨.int, rfl, by decide +kernel⟩
  | bool => exact ⟨.bool, rfl, by decide +kernel⟩
  | str => exact ⟨.str, rfl, by decide +kernel⟩
  | list => exact ⟨.list, rfl, by decide +kernel⟩
  | tuple => exact ⟨.tuple, rfl, by decide +kernel⟩
theorem pe_ty (ok : XOk X N sc T Cl lv) (t : Ty) (hg : glB sc (Str.ofString t.name) = true) : PE X (.Name (Str.ofString t.name) p) (tC (.ty t.name)) := by
  obtain ⟨b, e1, e2⟩ := ty_bi t
  refine pe_bltn (gl_of ok hg) (by rw [e1]; exact ok.facts.bi b) e2 rfl ?_ ?_
  · cases t <;> decide
  · cases t <;> decide
theorem r_isi1 (ok : XOk X N sc T Cl lv) {x : E} {t : Ty} {p2 : Pos} (hi : glB sc "isinstance" = true) (ha : OkE X Cl W T x a) (hs : isStar a = false) (hg : glB sc (Str.ofString t.name) = true) :
    OkE X Cl W T (.isi1 x t) (.Call (.Name "isinstance" p) [a, .Name (Str.ofString t.name) p2] [] pos) := by
  have hv : PE X (.Call (.Name "isinstance" p) [a, .Name (Str.ofString t.name) p2] [] pos) (tE X.K Cl W fun ρ => (ev T x .bor ρ).bind fun d => Res.ofO ((isTy t d).map .bl)) := by
    refine PE.imp (pe_callB call_isi (gl_of ok hi) ok.facts.isi (by decide +kernel) (pa_cons ha.b (pa_cons (pe_ty ok t hg) pa_nil) (star_cons hs)) (by decide) (by decide) (star_cons hs) (by rfl)) fun σ H Q hh => ?_
    refine PB.get hh fun v G1 H1 d r1 sm q => ?_
    obtain ⟨d', hd, hq⟩ := PostE.ofO q
    obtain ⟨b, hb, rfl⟩ := Option.map_eq_some_iff.mp hd
    obtain ⟨n, hn⟩ : ∃ n, tyD d = some n := by cases d <;> first | exact ⟨_, rfl⟩ | cases hb
    exact ⟨v, .ty t.name, .type n, .type t.name, b, rfl, .ty _, ty_rep sm r1 hn, isTy_kit t hn hb, hq _ G1 H1 (Ext.refl sm) (by simp only [Rep])⟩
  exact OkE.of hv (fun _ => rfl) (funext fun ρ => by simp only [ev, fin]) (funext fun ρ => by simp only [ev, fin]) (funext fun ρ => by simp only [ev, fin]; rfl)
end
end Pu
/-! PuI: fields, displays, targets, what is walked, comprehensions. -/
namespace Pu
open PySem PySem.Spec PyProof.Rows L2

section
variable {X : Cx} {Cl : ClT} {W : WX} {T : Tab} {N : List Str} {sc : Scope} {lv : Nat} {a b c e : Expr} {es : List Expr} {f g h : Ro → Res D} {pos p p2 : Pos}

/-! ### isinstance with a tuple of classes -/
theorem pa_tys (ok : XOk X N sc T Cl lv) : ∀ {ts : List Ty} {es : List Expr}, tyNames ts es = true → (ts.all fun t => glB sc (Str.ofString t.name)) = true →
    PA X es (fun σ H Q => Q (ts.map fun t => V.ty t.name) H) ∧ (starEach es X.env).any (·.1) = false
  | [], [], _, _ => ⟨pa_nil, rfl⟩
  | [], _ :: _, h, _ => by simp only [tyNames] at h; cases h
  | t :: ts, [], h, _ => by simp only [tyNames] at h; cases h
  | t :: ts, e :: es, h, h2 => by
    cases e with
    | Name x q =>
      simp only [tyNames, Bool.and_eq_true, decide_eq_true_eq] at h
      simp only [List.all_cons, Bool.and_eq_true] at h2
      obtain ⟨ih, st⟩ := pa_tys ok h.2 h2.2
      obtain ⟨rfl, _⟩ := h
      exact ⟨PA.imp (pa_cons (pe_ty ok t h2.1) ih rfl) fun σ H Q hq => hq, by rw [show starEach (Expr.Name (Str.ofString t.name) q :: es) X.env = (false, eval (.Name (Str.ofString t.name) q) X.env) :: starEach es X.env from rfl, List.any_cons, st]; rfl⟩
    | _ => simp only [tyNames] at h; cases h
theorem paired_cls : ∀ ts : List Ty, Paired ClsV (ts.map fun t => V.ty t.name) (ts.map fun t => Value.type t.name)
  | [] => .nil
  | t :: ts => .cons (.ty _) (paired_cls ts)
theorem tyNames_len : ∀ {ts : List Ty} {es : List Expr}, tyNames ts es = true → ts.length = es.length
  | [], [], _ => rfl
  | [], _ :: _, h => by simp only [tyNames] at h; cases h
  | t :: ts, [], h => by simp only [tyNames] at h; cases h
  | t :: ts, e :: es, h => by
    cases e with
    | Name x q =>
      simp only [tyNames, Bool.and_eq_true] at h
      rw [List.length_cons, List.length_cons, tyNames_len h.2]
    | _ => simp only [tyNames] at h; cases h
theorem r_isi (ok : XOk X N sc T Cl lv) {x : E} {ts : List Ty} {k : Nat} (hi : glB sc "isinstance" = true) (ha : OkE X Cl W T x a) (hs : isStar a = false) (hn : tyNames ts es = true) (hl : es.length ≤ 1000)
    (hg : (ts.all fun t => glB sc (Str.ofString t.name)) = true) : OkE X Cl W T (.isi x ts) (.Call (.Name "isinstance" p) [a, .Tuple es k p2] [] pos) := by
  have hv : PE X (.Call (.Name "isinstance" p) [a, .Tuple es k p2] [] pos) (tE X.K Cl W fun ρ => (ev T x .bor ρ).bind fun d => Res.ofO ((isTys ts d).map .bl)) := by
    refine PE.imp (pe_callB call_isiT (gl_of ok hi) ok.facts.isi (by decide +kernel) (pa_cons ha.b (pa_cons (pe_tup (pa_tys ok hn hg).1) pa_nil) (star_cons hs)) (by decide) (by decide) (star_cons hs) (by rfl)) fun σ H Q hh => ?_
    refine PB.get hh fun v G1 H1 d r1 sm q => ?_
    obtain ⟨d', hd, hq⟩ := PostE.ofO q
    obtain ⟨b, hb, rfl⟩ := Option.map_eq_some_iff.mp hd
    obtain ⟨n, hn'⟩ : ∃ n, tyD d = some n := by cases d <;> first | exact ⟨_, rfl⟩ | cases hb
    refine ⟨by rw [List.length_map, tyNames_len hn, sizeLine_eq]; omega, fun q hq' => ?_⟩
    have ex := Ext.new (o := .tup (ts.map fun t => V.ty t.name)) sm hq'
    exact ⟨v, q, _, .type n, ts.map fun t => Value.type t.name, b, rfl, upd_same, paired_cls ts, ty_rep ex.low (r1.grow ex) hn', isTys_kit hn' hb, hq _ _ _ ex (by simp only [Rep])⟩
  exact OkE.of hv (fun _ => rfl) (funext fun ρ => by simp only [ev, fin]) (funext fun ρ => by simp only [ev, fin]) (funext fun ρ => by simp only [ev, fin]; rfl)

/-! ### fields -/
theorem lookup_rep {K : Frg} {G : Hp} {f : Str} {d : D} : ∀ {ns : List Str} {ds : List D} {xs : List V}, Reps K Cl G ds xs → (ns.zip ds).lookup f = some d → ∃ v, (ns.zip xs).lookup f = some v ∧ Rep K Cl G d v
  | [], ds, xs, _, h => by cases h
  | n :: ns, [], xs, _, h => by cases h
  | n :: ns, d' :: ds, xs, r, h => by
    simp only [Reps] at r
    obtain ⟨v, t, rfl, r1, r2⟩ := r
    rw [List.zip_cons_cons, List.lookup_cons] at h ⊢
    cases hb : f == n with
    | true =>
      rw [hb] at h
      cases h
      exact ⟨v, rfl, r1⟩
    | false =>
      rw [hb] at h
      exact lookup_rep r2 h
theorem base_of {env : Env} {f : Str} (h : isCall0 e = false) : attributeBase e f env (eval e env) = eval e env := by
  cases e with
  | Call fn args kws ps =>
    cases args with
    | nil =>
      cases kws with
      | nil => cases h
      | cons _ _ => cases fn <;> rfl
    | cons _ _ => cases fn <;> rfl
  | _ => rfl
theorem r_fld (ok : XOk X N sc T Cl lv) {x : E} {fn : Str} (ha : OkE X Cl W T x a) (hc : isCall0 a = false) : OkE X Cl W T (.fld x fn) (.Attribute a fn pos) := by
  have hv : PE X (.Attribute a fn pos) (tE X.K Cl W fun ρ => (ev T x .bor ρ).bind fun d => fldR T fn d) := by
    refine PE.imp (pe_fld ha.b (base_of hc)) fun σ H Q hh => ?_
    refine PB.get hh fun v G1 H1 d r1 sm q => ?_
    cases d with
    | ins c ns ds =>
      replace q : PostE X.K Cl W G1 H1 σ (if T.fd c fn = true then Res.ofO ((ns.zip ds).lookup fn) else .stuck) Q := q
      by_cases ht : T.fd c fn = true
      · rw [if_pos ht] at q
        obtain ⟨d, hd, hq⟩ := PostE.ofO q
        obtain ⟨ad, C, dx, xs, rfl, hC, hA, hl, rr⟩ := r1.ins sm
        obtain ⟨v, e1, e2⟩ := lookup_rep rr hd
        obtain ⟨k1, k2⟩ := ok.facts.fd c fn C ht hC
        exact ⟨ad, C, dx, _, v, rfl, hA, k1, k2, e1, hq v G1 H1 (Ext.refl sm) e2⟩
      · rw [if_neg ht] at q
        exact q.elim
    | _ => exact q.elim
  exact OkE.of hv (fun _ => rfl) (funext fun ρ => by simp only [ev, fin]) (funext fun ρ => by simp only [ev, fin]) (funext fun ρ => by simp only [ev, fin]; rfl)

/-! ### subscripts, slices, displays -/
theorem plain_ix (h : isSlc b = false) : PlainIx b := by
  intro o i
  cases b <;> first | rfl | cases h
theorem r_idx {x y : E} (ha : OkE X Cl W T x a) (hb : OkE X Cl W T y b) (hs : isSlc b = false) : OkE X Cl W T (.idx x y) (.Subscript a b pos) :=
  OkE.of (rE_idx ha.b hb.b (plain_ix hs)) (fun _ => rfl) (funext fun ρ => by simp only [ev, fin]) (funext fun ρ => by simp only [ev, fin]) (funext fun ρ => by simp only [ev, fin]; rfl)
theorem r_slc {x : E} {lo hi : Eo} {l u : Option Expr} (ha : OkE X Cl W T x a) (hl : PrtOk X Cl W l (evo T lo)) (hh : PrtOk X Cl W u (evo T hi)) : OkE X Cl W T (.slc x lo hi) (.Subscript a (.Slice l u none p2) pos) :=
  OkE.of (rE_slc ha.b hl hh) (fun _ => rfl) (funext fun ρ => by simp only [ev, fin]) (funext fun ρ => by simp only [ev, fin]) (funext fun ρ => by simp only [ev, fin]; rfl)
theorem rowV {xs : Es} {k : List D → D} {σ : L2.St} {H : Hp} {Q : VK} {R : List V → Hp → Prop} (hh : tE X.K Cl W (fun ρ => (evs T xs ρ).bind fun ds => .ok (k ds)) σ H Q)
    (i : ∀ vs G1 H1 ds, ds.length = xs.len → Reps X.K Cl G1 ds vs → Same G1 H1 → (∀ v G2 H2, Ext G1 H1 G2 H2 → Rep X.K Cl G2 (k ds) v → Q v H2) → R vs H1) : tA X.K Cl W (evs T xs) σ H R := by
  obtain ⟨G0, H0, G, ρ, sim, q⟩ := hh
  refine ⟨G0, H0, G, ρ, sim, ?_⟩
  have q2 := PostA.seqE (r := evs T xs ρ) q
  cases ee : evs T xs ρ with
  | exc c ns ds => rw [ee] at q2; exact q2
  | stuck => rw [ee] at q2; exact q2
  | ok ds =>
    rw [ee] at q2
    intro vs G1 H1 k1 r1
    obtain ⟨ds', G1', ed, k1', r1', q4⟩ := q2 vs G1 H1 k1 r1
    cases ed
    exact i vs G1' H1 ds (evs_len ee) r1' k1'.low q4
theorem r_tup {xs : Es} {k : Nat} (ha : OkArgs X Cl W T xs es) (hl : xs.len = es.length) (h : es.length ≤ 1000) : OkE X Cl W T (.tup xs) (.Tuple es k pos) := by
  have hv : PE X (.Tuple es k pos) (tE X.K Cl W fun ρ => (evs T xs ρ).bind fun ds => .ok (.tup ds)) := by
    refine PE.imp (pe_tup ha.v) fun σ H Q hh => rowV hh fun vs G1 H1 ds e1 r1 sm q => ?_
    refine ⟨by rw [← r1.length, e1, hl, sizeLine_eq]; omega, fun q' hq' => q _ _ _ (Ext.new sm hq') ?_⟩
    simp only [Rep]
    exact ⟨q', vs, rfl, SqT.of upd_same, r1.mono (same_upd (Same.free sm hq'))⟩
  exact OkE.of hv (fun _ => rfl) (funext fun ρ => by simp only [ev, fin]) (funext fun ρ => by simp only [ev, fin]) (funext fun ρ => by simp only [ev, fin]; rfl)
theorem r_lst {xs : Es} (ha : OkArgs X Cl W T xs es) (hl : xs.len = es.length) (h : es.length ≤ 1000) : OkE X Cl W T (.lst xs) (.List es pos) := by
  have hv : PE X (.List es pos) (tE X.K Cl W fun ρ => (evs T xs ρ).bind fun ds => .ok (.lst ds)) := by
    refine PE.imp (pe_lst ha.v) fun σ H Q hh => rowV hh fun vs G1 H1 ds e1 r1 sm q => ?_
    refine ⟨by rw [← r1.length, e1, hl, sizeLine_eq]; omega, fun q' hq' => q _ _ _ (Ext.new sm hq') ?_⟩
    simp only [Rep]
    exact ⟨q', vs, rfl, upd_same, r1.mono (same_upd (Same.free sm hq'))⟩
  exact OkE.of hv (fun _ => rfl) (funext fun ρ => by simp only [ev, fin]) (funext fun ρ => by simp only [ev, fin]) (funext fun ρ => by simp only [ev, fin]; rfl)

/-! ### targets -/
def gNames : List Nat → TGs
  | [] => gNil
  | i :: is => gCons (gName i) (gNames is)
def gT (K : Frg) : Tg → TG
  | .nm i => gName i
  | .tp is => gTup K is.length (gNames is)
/-- the names that may be stored here -/
def MayStore (X : Cx) (x : Str) : Prop := Loc X.env.scope x ∧ (X.fn x = true ∨ X.env.scope.names.lookup x = some .local)
theorem pg_one (ok : XOk X N sc T Cl lv) {i : Nat} {x : Str} (hN : N[i]? = some x) (hm : MayStore X x) : PG X (.Name x p) (gName i) :=
  pg_name ok.nd (by rw [ok.names]; exact hN) hm.1 hm.2
theorem pg_row (ok : XOk X N sc T Cl lv) {s : Scope} (hm : ∀ x, locB s x = true → MayStore X x) : ∀ {is : List Nat} {es : List Expr}, ((is.zip es).all (fun p => match p.2 with | .Name x _ => decide (N[p.1]? = some x) && locB s x | _ => false)) = true → is.length = es.length →
    PGs X es (gNames is) ∧ (assignEach es X.env).length = is.length ∧ (assignEach es X.env).findIdx? (·.1) = none
  | [], [], _, _ => ⟨pgs_nil, rfl, rfl⟩
  | [], _ :: _, _, h => by cases h
  | _ :: _, [], _, h => by cases h
  | i :: is, e :: es, h, hl => by
    rw [List.zip_cons_cons, List.all_cons, Bool.and_eq_true] at h
    obtain ⟨h1, h2⟩ := h
    obtain ⟨g1, g2, g3⟩ := pg_row ok hm h2 (by simpa using hl)
    cases e with
    | Name x q =>
      replace h1 : (decide (N[i]? = some x) && locB s x) = true := h1
      rw [Bool.and_eq_true, decide_eq_true_eq] at h1
      refine ⟨pgs_cons (pg_one ok h1.1 (hm x h1.2)) g1 rfl, ?_, ?_⟩
      · show (assignEach es X.env).length + 1 = is.length + 1
        rw [g2]
      · rw [show assignEach (Expr.Name x q :: es) X.env = (false, assign (.Name x q) X.env) :: assignEach es X.env from rfl, List.findIdx?_cons, g3]
        rfl
    | _ => cases h1
theorem pg_tgt (ok : XOk X N sc T Cl lv) {s : Scope} (hm : ∀ x, locB s x = true → MayStore X x) {tg : Tg} (h : tgChk N s tg e = true) : PG X e (gT X.K tg) := by
  cases tg with
  | nm i =>
    cases e with
    | Name x q =>
      simp only [tgChk, Bool.and_eq_true, decide_eq_true_eq] at h
      exact pg_one ok h.1 (hm x h.2)
    | _ => simp only [tgChk] at h; cases h
  | tp is =>
    cases e with
    | Tuple es k q =>
      simp only [tgChk] at h
      rw [Bool.and_eq_true, decide_eq_true_eq] at h
      obtain ⟨g1, g2, g3⟩ := pg_row ok hm h.1 h.2
      exact pg_tup ok.calm g1 g2 g3
    | _ => simp only [tgChk] at h; cases h
def tgSlots : Tg → List Nat
  | .nm i => [i]
  | .tp is => is
theorem wipe_set {v : Option V} : ∀ {vs : List Nat} {σ : L2.St} {i : Nat}, i ∈ vs → wipe (σ.set i v) vs = wipe σ vs
  | [], _, _, h => by cases h
  | w :: vs, σ, i, h => by
    show (wipe (σ.set i v) vs).set w none = (wipe σ vs).set w none
    by_cases hi : i ∈ vs
    · rw [wipe_set hi]
    · have hw : i = w := by
        rcases List.mem_cons.mp h with e | e
        · exact e
        · exact absurd e hi
      subst hw
      have comm : ∀ (vs : List Nat) (σ : L2.St), i ∉ vs → wipe (σ.set i v) vs = (wipe σ vs).set i v := fun vs => by
        induction vs with
        | nil => intro σ _; rfl
        | cons u us ih =>
          intro σ hn
          show (wipe (σ.set i v) us).set u none = ((wipe σ us).set u none).set i v
          rw [ih σ (fun z => hn (List.mem_cons_of_mem _ z)), List.set_comm _ _ (fun z : u = i => hn (by rw [z]; exact List.mem_cons_self))]
      rw [comm vs σ hi, List.set_set]
theorem gNames_run {K : Frg} {G0 : GX} {H0 G H : Hp} {vs : List Nat} : ∀ {is : List Nat} {ds : List D} {xs : List V} {ρ : Ro} {σ : L2.St} {Q : L2.St → Hp → Prop}, Sim K Cl G0 H0 G H ρ σ → Reps K Cl G ds xs → ds.length = is.length → (∀ i ∈ is, i ∈ vs) →
    (∀ σ', Sim K Cl G0 H0 G H (setAll is ds ρ) σ' → wipe σ' vs = wipe σ vs → Q σ' H) → gNames is xs σ H Q
  | [], [], xs, ρ, σ, Q, sim, r, _, _, k => by
    simp only [Reps] at r
    subst r
    exact ⟨rfl, k σ sim rfl⟩
  | [], _ :: _, _, _, _, _, _, _, h, _, _ => by cases h
  | _ :: _, [], _, _, _, _, _, _, h, _, _ => by cases h
  | i :: is, d :: ds, xs, ρ, σ, Q, sim, r, hl, hm, k => by
    simp only [Reps] at r
    obtain ⟨v, t, rfl, r1, r2⟩ := r
    refine ⟨v, t, rfl, ?_⟩
    show gNames is t (σ.set i (some v)) H Q
    refine gNames_run (sim.put i r1) r2 (by simpa using hl) (fun j hj => hm j (List.mem_cons_of_mem _ hj)) fun σ' s' w' => k σ' s' ?_
    rw [w', wipe_set (hm i List.mem_cons_self)]
theorem gT_run {K : Frg} {G0 : GX} {H0 G H : Hp} {vs : List Nat} {tg : Tg} {d : D} {v : V} {ρ ρ' : Ro} {σ : L2.St} {Q : L2.St → Hp → Prop} (sim : Sim K Cl G0 H0 G H ρ σ) (r : Rep K Cl G d v) (ha : asg tg d ρ = some ρ') (hm : ∀ i ∈ tgSlots tg, i ∈ vs)
    (k : ∀ σ', Sim K Cl G0 H0 G H ρ' σ' → wipe σ' vs = wipe σ vs → Q σ' H) : gT K tg v σ H Q := by
  cases tg with
  | nm i =>
    simp only [asg] at ha
    cases ha
    exact k _ (sim.put i r) (wipe_set (hm i List.mem_cons_self))
  | tp is =>
    cases d with
    | tup ds =>
      simp only [asg] at ha
      split at ha
      · rename_i hl
        cases ha
        simp only [Rep] at r
        obtain ⟨a, xs, rfl, h1, h2⟩ := r
        exact ⟨a, xs, rfl, Same.tup sim.low h1, by rw [← h2.length]; exact hl, gNames_run sim h2 hl hm k⟩
      · cases ha
    | _ => simp only [asg] at ha; cases ha
end
end Pu
/-! PuJ: what is walked, comprehensions. -/
namespace Pu
open PySem PySem.Spec PyProof.Rows L2

/-- a walk over the data ds: while what stands in Hb stands, it goes through them; what it gives is shared -/
structure WOk (K : Frg) (Cl : ClT) (Hb G1 : Hp) (J : L2.It) (ds : List D) : Prop where
  small : ds.length ≤ sizeLine
  ex : ∃ (Gd : Hp → Prop) (Y : Nat → Hp → V → Hp → Prop), Walk J ds.length Gd Y ∧ (∀ H2, Same Hb H2 → Gd H2) ∧
    ∀ i x H2 H2' G2, i < ds.length → Same G1 G2 → Same G2 H2 → Gd H2 → Y i H2 x H2' → ∃ d G2', ds[i]? = some d ∧ Ext G2 H2 G2' H2' ∧ Rep K Cl G2' d x
def PostI (K : Frg) (Cl : ClT) (W : WX) (bor : Bool) (G H : Hp) (σ : L2.St) (r : Res (List D)) (R : L2.It → Hp → Prop) : Prop := match r with
  | .ok ds => ∀ J G1 H1, Ext G H G1 H1 → WOk K Cl (if bor = true then H1 else G1) G1 J ds → R J H1
  | .exc c ns ds => PostX K Cl W G H σ c ns ds
  | .stuck => False
def tI (K : Frg) (Cl : ClT) (W : WX) (bor : Bool) (f : Ro → Res (List D)) : TI := fun σ H R => ∃ G0 H0 G ρ, Sim K Cl G0 H0 G H ρ σ ∧ PostI K Cl W bor G H σ (f ρ) R

section
variable {X : Cx} {Cl : ClT} {W : WX} {T : Tab} {N : List Str} {sc : Scope} {lv : Nat} {a b c e tg : Expr} {es : List Expr} {f g h : Ro → Res D} {pos p p2 : Pos}
/-- how long a list or a tuple may be is known behind an expression -/
theorem pe_small {t : TE} (h : PE X e t) : PE X e (fun σ H Q => t σ H fun v H1 => (∀ ad xs, (SqL X.K H1 ad xs ∨ SqT X.K H1 ad xs) → xs.length ≤ sizeLine) → Q v H1) := by
  refine ⟨fun pins s σ H Q I q => thn (h.run pins s σ H _ I q) fun u s1 ⟨v, H1, I1, r1, q1⟩ => ⟨v, H1, I1, r1, q1 fun ad xs hx => ?_⟩⟩
  rcases hx with hx | hx
  · obtain ⟨_, _, _, z⟩ := I1.list hx
    exact z
  · obtain ⟨_, _, _, z⟩ := I1.tuple hx
    exact z
/-- shared, or borrowed -/
def RepM (K : Frg) (Cl : ClT) (bor : Bool) (G H : Hp) (d : D) (v : V) : Prop := if bor = true then RepB K Cl G H d v else Rep K Cl G d v
def hb (bor : Bool) (G H : Hp) : Hp := if bor = true then H else G
theorem same_hb {bor : Bool} {G H : Hp} (s : Same G H) : Same G (hb bor G H) := by
  cases bor
  · exact Same.refl _
  · exact s
theorem repM_lst {K : Frg} {bor : Bool} {G H : Hp} {ds : List D} {v : V} (s : Same G H) (r : RepM K Cl bor G H (.lst ds) v) : ∃ ad xs, v = .ref ad ∧ hb bor G H ad = some (.lst xs) ∧ Reps K Cl G ds xs := by
  cases bor with
  | false =>
    replace r : Rep K Cl G (.lst ds) v := r
    simp only [Rep] at r
    exact r
  | true => exact RepB.lst s r
theorem repM_frl {K : Frg} {bor : Bool} {G H : Hp} {ds : List D} {v : V} (s : Same G H) (r : RepM K Cl bor G H (.frl ds) v) : ∃ ad xs, v = .ref ad ∧ SqL K (hb bor G H) ad xs ∧ Reps K Cl G ds xs := by
  cases bor with
  | false =>
    replace r : Rep K Cl G (.frl ds) v := r
    simp only [Rep] at r
    exact r
  | true => exact RepB.frl s r
theorem repM_tup {K : Frg} {bor : Bool} {G H : Hp} {ds : List D} {v : V} (s : Same G H) (r : RepM K Cl bor G H (.tup ds) v) : ∃ ad xs, v = .ref ad ∧ SqT K (hb bor G H) ad xs ∧ Reps K Cl G ds xs := by
  cases bor with
  | false =>
    replace r : Rep K Cl G (.tup ds) v := r
    simp only [Rep] at r
    exact r
  | true =>
    obtain ⟨ad, xs, e, h1, h2, _⟩ := RepB.tup s r
    exact ⟨ad, xs, e, h1, h2⟩
theorem repM_str {K : Frg} {bor : Bool} {G H : Hp} {x : Str} {v : V} (r : RepM K Cl bor G H (.str x) v) : v = .str x := by
  cases bor with
  | false =>
    replace r : Rep K Cl G (.str x) v := r
    simp only [Rep] at r
    exact r
  | true => exact RepB.str r
def PostM (K : Frg) (Cl : ClT) (W : WX) (bor : Bool) (G H : Hp) (σ : L2.St) (r : Res D) (Q : VK) : Prop := match r with
  | .ok d => ∀ v G' H', Ext G H G' H' → RepM K Cl bor G' H' d v → Q v H'
  | .exc c ns ds => PostX K Cl W G H σ c ns ds
  | .stuck => False
def tM (K : Frg) (Cl : ClT) (W : WX) (bor : Bool) (f : Ro → Res D) : TE := fun σ H Q => ∃ G0 H0 G ρ, Sim K Cl G0 H0 G H ρ σ ∧ PostM K Cl W bor G H σ (f ρ) Q
def md : Bool → Md
  | true => .bor
  | false => .val
theorem OkE.m {ir : E} (h : OkE X Cl W T ir e) (bor : Bool) : PE X e (tM X.K Cl W bor (ev T ir (md bor))) := by
  cases bor with
  | true => exact h.b
  | false => exact h.v
/-- the length of a list that Hb holds, told of all that is tracked -/
theorem hb_low {bor : Bool} {G H : Hp} (s : Same G H) : Same (hb bor G H) H := by
  cases bor
  · exact s
  · exact Same.refl _
theorem yat {K : Frg} {ds : List D} {xs : List V} {G1 : Hp} (r : Reps K Cl G1 ds xs) : ∀ i x H2 H2' G2, i < ds.length → Same G1 G2 → Same G2 H2 → YAt xs i H2 x H2' → ∃ d G2', ds[i]? = some d ∧ Ext G2 H2 G2' H2' ∧ Rep K Cl G2' d x := by
  rintro i x H2 H2' G2 hi s1 s2 ⟨rfl, hx⟩
  obtain ⟨d, h1, h2⟩ := r.getV hx
  exact ⟨d, G2, h1, Ext.refl s2, h2.mono s1⟩
theorem pi_seq {x : E} (ha : OkE X Cl W T x e) (bor : Bool) : PI X tg e (tI X.K Cl W bor fun ρ => (ev T x (md bor) ρ).bind itemsR) := by
  refine ⟨fun pins s σ H R I ⟨G0, H0, G, ρ, sim, q⟩ => ?_⟩
  dsimp only at q
  have pm := pe_small (ha.m bor)
  have go : ∀ (Q : VK), PostM X.K Cl W bor G H σ (ev T x (md bor) ρ) Q → tM X.K Cl W bor (ev T x (md bor)) σ H Q := fun Q h => ⟨G0, H0, G, ρ, sim, h⟩
  cases ee : ev T x (md bor) ρ with
  | stuck => rw [ee] at q; exact q.elim
  | exc c ns ds =>
    rw [ee] at q
    refine (pi_list pm).run pins s σ H R I ?_
    refine go _ ?_
    rw [ee]
    exact q
  | ok d =>
    rw [ee] at q
    cases d with
    | lst ds =>
      refine (pi_list pm).run pins s σ H R I (go _ ?_)
      rw [ee]
      intro v G1 H1 k1 r1 sm
      obtain ⟨ad, xs, rfl, h1, h2⟩ := repM_lst k1.low r1
      have hL : SqL X.K H1 ad xs := SqL.of (hb_low k1.low _ _ h1)
      refine ⟨ad, rfl, ⟨xs, hL⟩, q _ G1 H1 k1 ⟨by rw [h2.length]; exact sm ad xs (.inl hL), _, _, by rw [h2.length]; exact walk_list (xs := xs), fun H2 s2 => (s2.seq (SqL.of h1)), fun i x H2 H2' G2 hi s1 s2 _ y => yat h2 i x H2 H2' G2 hi s1 s2 y⟩⟩
    | frl ds =>
      refine (pi_list pm).run pins s σ H R I (go _ ?_)
      rw [ee]
      intro v G1 H1 k1 r1 sm
      obtain ⟨ad, xs, rfl, h1, h2⟩ := repM_frl k1.low r1
      have hL : SqL X.K H1 ad xs := (hb_low k1.low).seq h1
      refine ⟨ad, rfl, ⟨xs, hL⟩, q _ G1 H1 k1 ⟨by rw [h2.length]; exact sm ad xs (.inl hL), _, _, by rw [h2.length]; exact walk_list (xs := xs), fun H2 s2 => (s2.seq h1), fun i x H2 H2' G2 hi s1 s2 _ y => yat h2 i x H2 H2' G2 hi s1 s2 y⟩⟩
    | tup ds =>
      refine (pi_tup pm).run pins s σ H R I (go _ ?_)
      rw [ee]
      intro v G1 H1 k1 r1 sm
      obtain ⟨ad, xs, rfl, h1, h2⟩ := repM_tup k1.low r1
      have hL : SqT X.K H1 ad xs := Same.tup (hb_low k1.low) h1
      refine ⟨ad, rfl, ⟨xs, hL⟩, q _ G1 H1 k1 ⟨by rw [h2.length]; exact sm ad xs (.inr hL), _, _, by rw [h2.length]; exact walk_tup (xs := xs), fun H2 s2 => (Same.tup s2 h1), fun i x H2 H2' G2 hi s1 s2 _ y => yat h2 i x H2 H2' G2 hi s1 s2 y⟩⟩
    | str z =>
      refine (pi_str pm).run pins s σ H R I (go _ ?_)
      rw [ee]
      intro v G1 H1 k1 r1 sm
      cases repM_str r1
      replace q : PostI X.K Cl W bor G H σ (if z.length ≤ sizeLine then .ok (z.cps.toList.map fun c => .str ⟨#[c]⟩) else .stuck) R := q
      by_cases hz : z.length ≤ sizeLine
      · rw [if_pos hz] at q
        refine ⟨z, rfl, q _ G1 H1 k1 ⟨by rw [List.length_map, Array.length_toList]; exact hz, fun _ => True, _, by rw [List.length_map, Array.length_toList]; exact walk_str, fun _ _ => trivial, fun i x H2 H2' G2 hi s1 s2 _ y => ?_⟩⟩
        obtain ⟨rfl, c, hc, rfl⟩ := y
        refine ⟨.str ⟨#[c]⟩, G2, ?_, Ext.refl s2, by simp only [Rep]⟩
        rw [List.getElem?_map, Array.getElem?_toList, hc]
        rfl
      · rw [if_neg hz] at q
        exact q.elim
    | _ => exact q.elim
theorem walk_revT {K : Frg} {ad : Addr} {xs : List V} : Walk (RT.ItvT K ad xs.length) xs.length (fun H => SqT K H ad xs) (fun i H x H' => H' = H ∧ xs[xs.length - 1 - i]? = some x) :=
  ⟨fun i _ hi q => ⟨hi, xs, xs[xs.length - 1 - i]'(by omega), q, by simp [show xs.length - 1 - i < xs.length by omega]⟩, fun _ _ => Nat.le_refl _, fun _ _ _ _ _ q y => ⟨y.1, y.2 xs q⟩⟩
theorem yrev {K : Frg} {ds : List D} {xs : List V} {G1 : Hp} (r : Reps K Cl G1 ds xs) : ∀ i x H2 H2' G2, i < ds.reverse.length → Same G1 G2 → Same G2 H2 → (H2' = H2 ∧ xs[xs.length - 1 - i]? = some x) → ∃ d G2', ds.reverse[i]? = some d ∧ Ext G2 H2 G2' H2' ∧ Rep K Cl G2' d x := by
  rintro i x H2 H2' G2 hi s1 s2 ⟨rfl, hx⟩
  have hi' : i < ds.length := by rwa [List.length_reverse] at hi
  obtain ⟨d, h1, h2⟩ := r.getV hx
  refine ⟨d, G2, ?_, Ext.refl s2, h2.mono s1⟩
  rw [List.getElem?_reverse hi', r.length]
  exact h1
theorem pi_rev (ok : XOk X N sc T Cl lv) {x : E} (hg : glB sc "reversed" = true) (ha : OkE X Cl W T x e) (hs : isStar e = false) (bor : Bool) : PI X tg (.Call (.Name "reversed" p) [e] [] pos) (tI X.K Cl W bor fun ρ => (ev T x (md bor) ρ).bind revR) := by
  refine ⟨fun pins s σ H R I ⟨G0, H0, G, ρ, sim, q⟩ => ?_⟩
  dsimp only at q
  have pm := pe_small (ha.m bor)
  have go : ∀ (Q : VK), PostM X.K Cl W bor G H σ (ev T x (md bor) ρ) Q → tM X.K Cl W bor (ev T x (md bor)) σ H Q := fun Q h => ⟨G0, H0, G, ρ, sim, h⟩
  refine (RT.pi_revA (gl_of ok hg) ok.facts.rev pm (star_cons hs)).run pins s σ H R I (go _ ?_)
  cases ee : ev T x (md bor) ρ with
  | stuck => rw [ee] at q; exact q.elim
  | exc c ns ds => rw [ee] at q; exact q
  | ok d =>
    rw [ee] at q
    intro v G1 H1 k1 r1 sm
    cases d with
    | lst ds =>
      obtain ⟨ad, xs, rfl, h1, h2⟩ := repM_lst k1.low r1
      have hL : SqL X.K H1 ad xs := SqL.of (hb_low k1.low _ _ h1)
      exact ⟨ad, xs, rfl, .inl ⟨hL, q _ G1 H1 k1 ⟨by rw [List.length_reverse, h2.length]; exact sm ad xs (.inl hL), _, _, by rw [List.length_reverse, h2.length]; exact walk_rev (xs := xs), fun H2 s2 => (s2.seq (SqL.of h1)), fun i x H2 H2' G2 hi s1 s2 _ y => yrev h2 i x H2 H2' G2 hi s1 s2 y⟩⟩⟩
    | frl ds =>
      obtain ⟨ad, xs, rfl, h1, h2⟩ := repM_frl k1.low r1
      have hL : SqL X.K H1 ad xs := (hb_low k1.low).seq h1
      exact ⟨ad, xs, rfl, .inl ⟨hL, q _ G1 H1 k1 ⟨by rw [List.length_reverse, h2.length]; exact sm ad xs (.inl hL), _, _, by rw [List.length_reverse, h2.length]; exact walk_rev (xs := xs), fun H2 s2 => (s2.seq h1), fun i x H2 H2' G2 hi s1 s2 _ y => yrev h2 i x H2 H2' G2 hi s1 s2 y⟩⟩⟩
    | tup ds =>
      obtain ⟨ad, xs, rfl, h1, h2⟩ := repM_tup k1.low r1
      have hL : SqT X.K H1 ad xs := Same.tup (hb_low k1.low) h1
      exact ⟨ad, xs, rfl, .inr ⟨hL, q _ G1 H1 k1 ⟨by rw [List.length_reverse, h2.length]; exact sm ad xs (.inr hL), _, _, by rw [List.length_reverse, h2.length]; exact walk_revT (xs := xs), fun H2 s2 => (Same.tup s2 h1), fun i x H2 H2' G2 hi s1 s2 _ y => yrev h2 i x H2 H2' G2 hi s1 s2 y⟩⟩⟩
    | _ => exact q.elim
theorem rng_walk {K : Frg} {i j : Int} {n : Nat} (hn : n = (j - i).toNat) (h : (j - i).toNat ≤ sizeLine) {Hb G1 : Hp} : WOk K Cl Hb G1 (Itr i n) ((List.range (j - i).toNat).map fun k => .int (i + (k : Nat))) := by
  subst hn
  refine ⟨by rw [List.length_map, List.length_range]; exact h, fun _ => True, YFn fun k => .int (i + k), by rw [List.length_map, List.length_range]; exact walk_range, fun _ _ => trivial, fun k x H2 H2' G2 hk s1 s2 _ y => ?_⟩
  rw [List.length_map, List.length_range] at hk
  obtain ⟨rfl, rfl⟩ := y
  refine ⟨.int (i + k), G2, ?_, Ext.refl s2, by simp only [Rep]⟩
  rw [List.getElem?_map, List.getElem?_range hk]
  rfl
theorem pi_rng (ok : XOk X N sc T Cl lv) {x : E} (hg : glB sc "range" = true) (ha : OkE X Cl W T x e) (hs : isStar e = false) (bor : Bool) : PI X tg (.Call (.Name "range" p) [e] [] pos) (tI X.K Cl W bor fun ρ => (ev T x .bor ρ).bind fun y => rngR (.int 0) y) := by
  refine ⟨fun pins s σ H R I ⟨G0, H0, G, ρ, sim, q⟩ => ?_⟩
  dsimp only at q
  refine (pi_range1 (gl_of ok hg) ok.facts.rng (pa_cons ha.b pa_nil (star_cons hs)) (star_cons hs)).run pins s σ H R I ?_
  refine ⟨G0, H0, G, ρ, sim, ?_⟩
  cases ee : ev T x .bor ρ with
  | stuck => rw [ee] at q; exact q.elim
  | exc c ns ds => rw [ee] at q; exact q
  | ok d =>
    rw [ee] at q
    intro v G1 H1 k1 r1
    cases d with
    | int j =>
      cases r1.int
      replace q : PostI X.K Cl W bor G H σ (if -(2 ^ 62) ≤ (0 : Int) ∧ (0 : Int) < 2 ^ 62 ∧ -(2 ^ 62) ≤ j ∧ j < 2 ^ 62 ∧ (j - 0).toNat ≤ sizeLine then .ok ((List.range (j - 0).toNat).map fun k => .int (0 + (k : Nat))) else .stuck) R := q
      split at q
      · rename_i hc
        exact ⟨j, rfl, hc.2.2.1, hc.2.2.2.1, q _ G1 H1 k1 (rng_walk (by rw [Int.sub_zero]) hc.2.2.2.2)⟩
      · exact q.elim
    | _ => exact q.elim
theorem pi_rng2 (ok : XOk X N sc T Cl lv) {x y : E} (hg : glB sc "range" = true) (ha : OkE X Cl W T x a) (hb : OkE X Cl W T y b) (hs : isStar a = false) (hs2 : isStar b = false) (bor : Bool) :
    PI X tg (.Call (.Name "range" p) [a, b] [] pos) (tI X.K Cl W bor fun ρ => (ev T x .bor ρ).bind fun x => (ev T y .bor ρ).bind fun y => rngR x y) := by
  refine ⟨fun pins s σ H R I ⟨G0, H0, G, ρ, sim, q⟩ => ?_⟩
  dsimp only at q
  refine (pi_range2 (gl_of ok hg) ok.facts.rng (pa_cons ha.b (pa_cons hb.b pa_nil (star_cons hs2)) (star_cons hs)) (by rw [star_cons hs, star_cons hs2]; rfl) (star_cons hs2)).run pins s σ H R I ?_
  refine ⟨G0, H0, G, ρ, sim, ?_⟩
  cases ee : ev T x .bor ρ with
  | stuck => rw [ee] at q; exact q.elim
  | exc c ns ds => rw [ee] at q; exact q
  | ok d =>
    rw [ee] at q
    intro v G1 H1 k1 r1
    refine ⟨G0, H0, G1, ρ, sim.grow k1, ?_⟩
    cases ef : ev T y .bor ρ with
    | stuck => simp only [Res.bind, ef] at q; exact q.elim
    | exc c ns ds => simp only [Res.bind, ef] at q; exact PostX.grow k1 q
    | ok d2 =>
      simp only [Res.bind, ef] at q
      intro w G2 H2 k2 r2
      cases d with
      | int i =>
        cases r1.int
        cases d2 with
        | int j =>
          cases r2.int
          replace q : PostI X.K Cl W bor G H σ (if -(2 ^ 62) ≤ i ∧ i < 2 ^ 62 ∧ -(2 ^ 62) ≤ j ∧ j < 2 ^ 62 ∧ (j - i).toNat ≤ sizeLine then .ok ((List.range (j - i).toNat).map fun k => .int (i + (k : Nat))) else .stuck) R := q
          split at q
          · rename_i hc
            exact ⟨i, j, rfl, ⟨hc.1, hc.2.1, hc.2.2.1, hc.2.2.2.1⟩, q _ G2 H2 (k1.trans k2) (rng_walk rfl hc.2.2.2.2)⟩
          · exact q.elim
        | _ => exact q.elim
      | _ => cases d2 <;> exact q.elim

/-! ### comprehensions -/
theorem Sim.wipe {K : Frg} {G0 : GX} {H0 G H : Hp} {σ : L2.St} {ρ : Ro} (s : Sim K Cl G0 H0 G H ρ σ) : ∀ vs : List Nat, Sim K Cl G0 H0 G H (wipeR ρ vs) (L2.wipe σ vs)
  | [] => s
  | v :: vs => by
    have ih := Sim.wipe s vs
    have no : ∀ (j : Nat) (x : Sl), ((wipeR ρ vs).set v .no)[j]? = some x → x ≠ .no → j ≠ v ∧ (wipeR ρ vs)[j]? = some x := fun j x q hx => by
      by_cases e : v = j
      · subst e
        have hl : v < (wipeR ρ vs).length := by
          have := (List.getElem?_eq_some_iff.mp q).1
          rwa [List.length_set] at this
        rw [List.getElem?_set_self hl] at q
        cases q
        exact absurd rfl hx
      · rw [List.getElem?_set_ne e] at q
        exact ⟨fun z => e z.symm, q⟩
    refine ⟨ih.ext, ?_, fun i d q => ?_, fun i d q => ?_, fun i j d1 d2 n q1 q2 => ?_, fun i c ns ds q => ?_, fun i j c c' ns ns' d1 d2 q1 q2 => ?_⟩
    · show ((wipeR ρ vs).set v .no).length = ((L2.wipe σ vs).set v none).length
      rw [List.length_set, List.length_set, ih.len]
    · obtain ⟨n, q⟩ := no i _ q (by intro z; cases z)
      obtain ⟨w, h1, h2⟩ := ih.val i d q
      refine ⟨w, ?_, h2⟩
      show ((L2.wipe σ vs).set v none)[i]? = _
      rw [List.getElem?_set_ne (Ne.symm n)]
      exact h1
    · obtain ⟨n, q⟩ := no i _ q (by intro z; cases z)
      obtain ⟨ad, xs, h1, h2⟩ := ih.own i d q
      refine ⟨ad, xs, ?_, h2⟩
      show ((L2.wipe σ vs).set v none)[i]? = _
      rw [List.getElem?_set_ne (Ne.symm n)]
      exact h1
    · obtain ⟨n1, q1⟩ := no i _ q1 (by intro z; cases z)
      obtain ⟨n2, q2⟩ := no j _ q2 (by intro z; cases z)
      show ((L2.wipe σ vs).set v none)[i]? ≠ ((L2.wipe σ vs).set v none)[j]?
      rw [List.getElem?_set_ne (Ne.symm n1), List.getElem?_set_ne (Ne.symm n2)]
      exact ih.sep i j d1 d2 n q1 q2
    · obtain ⟨n, q⟩ := no i _ q (by intro z; cases z)
      obtain ⟨ad, C, dx, xs, h1, h2⟩ := ih.obj i c ns ds q
      refine ⟨ad, C, dx, xs, ?_, h2⟩
      show ((L2.wipe σ vs).set v none)[i]? = _
      rw [List.getElem?_set_ne (Ne.symm n)]
      exact h1
    · obtain ⟨n1, q1⟩ := no i _ q1 (by intro z; cases z)
      obtain ⟨n2, q2⟩ := no j _ q2 (by intro z; cases z)
      exact ih.one i j c c' ns ns' d1 d2 q1 q2
/-- nothing that is raised leaves a comprehension -/
abbrev W0 : WX := fun _ _ _ _ => False
/-- a condition's rule within a comprehension -/
def OkC (K : Frg) (Cl : ClT) (tt : TT) (f : Ro → Res D) : Prop := ∀ (σ : L2.St) (H : Hp) (G0 : GX) (H0 G : Hp) (ρ : Ro) (b : Bool) (Q : Bool → Hp → Prop), Sim K Cl G0 H0 G H ρ σ → f ρ = .ok (.bl b) → (∀ G' H', Ext G H G' H' → Q b H') → tt σ H Q
theorem lcL_inv {g : D → Ro → Option Ro} {c f : Ro → Res D} {ρ : Ro} {d : D} {ds : List D} {ys : List D} (h : lcL g c f ρ (d :: ds) = .ok ys) :
    ∃ ρ1 b, g d ρ = some ρ1 ∧ c ρ1 = .ok (.bl b) ∧ (b = true → ∃ y zs, f ρ1 = .ok y ∧ lcL g c f ρ ds = .ok zs ∧ ys = y :: zs) ∧ (b = false → lcL g c f ρ ds = .ok ys) := by
  unfold lcL at h
  cases eg : g d ρ with
  | none => rw [eg] at h; cases h
  | some ρ1 =>
    rw [eg] at h
    dsimp only at h
    cases ec : c ρ1 with
    | exc c ns ds => rw [ec] at h; cases h
    | stuck => rw [ec] at h; cases h
    | ok x =>
      rw [ec] at h
      cases x with
      | bl b =>
        refine ⟨ρ1, b, rfl, ec, fun hb => ?_, fun hb => ?_⟩
        · subst hb
          cases ef : f ρ1 with
          | exc c ns ds => simp only [noX, Res.bind, ef] at h; cases h
          | stuck => simp only [noX, Res.bind, ef] at h; cases h
          | ok y =>
            simp only [noX, Res.bind, ef] at h
            cases er : lcL g c f ρ ds with
            | exc c ns ds => rw [er] at h; cases h
            | stuck => rw [er] at h; cases h
            | ok zs => rw [er] at h; cases h; exact ⟨y, zs, rfl, rfl, rfl⟩
        · subst hb
          exact h
      | _ => cases h
theorem lcL_noX {g : D → Ro → Option Ro} {c f : Ro → Res D} {ρ : Ro} : ∀ {ds : List D}, lcL g c f ρ ds = .stuck ∨ ∃ ys, lcL g c f ρ ds = .ok ys
  | [] => .inr ⟨[], rfl⟩
  | d :: ds => by
    have ih := lcL_noX (g := g) (c := c) (f := f) (ρ := ρ) (ds := ds)
    unfold lcL
    cases eg : g d ρ with
    | none => exact .inl rfl
    | some ρ1 =>
      dsimp only
      cases ec : c ρ1 with
      | exc c ns ds => exact .inl rfl
      | stuck => exact .inl rfl
      | ok x =>
        cases x with
        | bl b =>
          cases b with
          | false => exact ih
          | true =>
            cases ef : f ρ1 with
            | exc c ns ds => exact .inl rfl
            | stuck => exact .inl rfl
            | ok y =>
              rcases ih with ih | ⟨zs, ih⟩
              · exact .inl (by simp only [noX, Res.bind, ih])
              · exact .inr ⟨y :: zs, by simp only [noX, Res.bind, ih]⟩
        | _ => exact .inl rfl
theorem set_ok (h : isSet e = false) {env : Env} : ∀ x, foldedSetIterable e env x = pure x := fun x => by
  cases e <;> first | rfl | cases h
/-- THE RULE of a list comprehension -/
theorem lc_red {own : List (Str × Nat)} {tgt : Tg} {fi : Ro → Res (List D)} {fc fe : Ro → Res D} {tt : TT} (hc : OkC X.K Cl tt fc) (hm : ∀ i ∈ tgSlots tgt, i ∈ own.map (·.2)) {σ : L2.St} {H : Hp} {Q : VK}
    (hq : tF X.K Cl W (fun ρ => (fi ρ).bind fun ds => (lcL (asg tgt) fc fe (wipeR ρ (own.map (·.2))) ds).bind fun ys => .ok (.lst ys)) σ H Q) :
    tLc (tI X.K Cl W true fi) (gT X.K tgt) tt (tE X.K Cl W0 fe) (own.map (·.2)) σ H Q := by
  obtain ⟨G0, H0, G, ρ, sim, q⟩ := hq
  dsimp only at q
  refine ⟨G0, H0, G, ρ, sim, ?_⟩
  cases ei : fi ρ with
  | stuck => rw [ei] at q; exact q
  | exc c ns ds => rw [ei] at q; exact q
  | ok ds =>
    rw [ei] at q
    replace q : PostF X.K Cl W G H σ ((lcL (asg tgt) fc fe (wipeR ρ (own.map (·.2))) ds).bind fun ys => .ok (.lst ys)) Q := q
    intro J G1 H1 k1 wo L hL
    rcases lcL_noX (g := asg tgt) (c := fc) (f := fe) (ρ := wipeR ρ (own.map (·.2))) (ds := ds) with er | ⟨ys, er⟩
    · rw [er] at q; exact q.elim
    rw [er] at q
    replace q : ∀ p xs G' H', Ext G H G' H' → G' p = none → H p = none → H' p = some (.lst xs) → Reps X.K Cl G' ys xs → Q (.ref p) H' := q
    have gL : G1 L = none := Same.free k1.low hL
    obtain ⟨small, Gd, Y, wk, gs, yy⟩ := wo
    rw [if_pos rfl] at gs
    refine lc_it wk (fun i H' => ∃ G2 acc accd rest, Ext G1 H1 G2 H' ∧ G2 L = none ∧ H' L = some (.lst acc) ∧ Reps X.K Cl G2 accd acc ∧ acc.length ≤ i ∧ lcL (asg tgt) fc fe (wipeR ρ (own.map (·.2))) (ds.drop i) = .ok rest ∧ accd ++ rest = ys) ?_ ?_ ?_ ?_
    · refine ⟨G1, [], [], ys, ⟨same_upd hL, Same.refl _, fun b u e => ?_, fun a e _ => e⟩, gL, upd_same, Reps.nil, Nat.zero_le _, by rw [List.drop_zero]; exact er, rfl⟩
      rw [upd_ne (ne_of_none e gL)]
      exact k1.low b u e
    · rintro i H' hi ⟨G2, acc, accd, rest, k2, _⟩
      exact gs H' k2.sub
    · rintro i x H' H'' hi ⟨G2, acc, accd, rest, k2, g2, h2, r2, l2, e2, e3⟩ y
      obtain ⟨d, G3, hd, k3, r3⟩ := yy i x H' H'' G2 hi k2.vis k2.low (gs H' k2.sub) y
      have edrop : ds.drop i = d :: ds.drop (i + 1) := by
        have hlt : i < ds.length := hi
        rw [List.getElem?_eq_getElem hlt] at hd
        cases hd
        exact List.drop_eq_getElem_cons hlt
      rw [edrop] at e2
      obtain ⟨ρ1, b, ea, ec, ht, hf⟩ := lcL_inv e2
      have sim3 : Sim X.K Cl G0 H0 G3 H'' (wipeR ρ (own.map (·.2))) (L2.wipe σ (own.map (·.2))) := (((sim.grow k1).grow k2).grow k3).wipe _
      have g3 : G3 L = none := k3.hid L g2 (by rw [h2]; exact fun z => by cases z)
      have h3 : H'' L = some (.lst acc) := k3.sub _ _ h2
      refine gT_run (vs := own.map (·.2)) sim3 r3 ea hm fun σ2 sim4 w4 => ⟨?_, ?_⟩
      · rw [w4]
        have idem : ∀ (vs us : List Nat) (σ : L2.St), (∀ u ∈ us, u ∈ vs) → L2.wipe (L2.wipe σ us) vs = L2.wipe σ vs := fun vs us => by
          induction us with
          | nil => intro σ _; rfl
          | cons u us ih =>
            intro σ hu
            show L2.wipe ((L2.wipe σ us).set u none) vs = _
            rw [wipe_set (hu u List.mem_cons_self), ih σ fun w hw => hu w (List.mem_cons_of_mem _ hw)]
        exact idem _ _ σ fun _ h => h
      · refine hc σ2 H'' G0 H0 G3 ρ1 b _ sim4 ec fun G4 H4 k4 => ?_
        have h4 : H4 L = some (.lst acc) := k4.sub _ _ h3
        have g4 : G4 L = none := k4.hid L g3 (by rw [h3]; exact fun z => by cases z)
        cases b with
        | false =>
          rw [if_neg Bool.false_ne_true]
          exact ⟨G4, acc, accd, rest, (k2.trans k3).trans k4, g4, h4, r2.mono (k3.vis.trans k4.vis), by omega, hf rfl, e3⟩
        | true =>
          rw [if_pos rfl]
          obtain ⟨y0, zs, ey, ez, e5⟩ := ht rfl
          refine ⟨G0, H0, G4, ρ1, sim4.grow k4, ?_⟩
          rw [ey]
          intro yv G5 H5 k5 r5
          have h5 : H5 L = some (.lst acc) := k5.sub _ _ h4
          have g5 : G5 L = none := k5.hid L g4 (by rw [h4]; exact fun z => by cases z)
          have kk := ((k2.trans k3).trans k4).trans k5
          refine ⟨acc, h5, Nat.lt_of_le_of_lt l2 (Nat.lt_of_lt_of_le hi small), G5, acc ++ [yv], accd ++ [y0], zs, ⟨fun b u e => ?_, kk.vis, fun b u e => ?_, kk.hid⟩, g5, upd_same, (r2.mono (k3.vis.trans (k4.vis.trans k5.vis))).append (Reps.one r5), by rw [List.length_append, List.length_singleton]; omega, ez, ?_⟩
          · rw [upd_ne (ne_of_none e hL)]
            exact kk.sub b u e
          · rw [upd_ne (ne_of_none e g5)]
            exact kk.low b u e
          · rw [List.append_assoc, List.singleton_append, ← e5]
            exact e3
    · rintro H' ⟨G2, acc, accd, rest, k2, g2, h2, r2, l2, e2, e3⟩
      rw [List.drop_length] at e2
      cases e2
      rw [List.append_nil] at e3
      subst e3
      exact q L acc G2 H' (k1.trans k2) g2 (Same.free k1.sub hL) h2 r2
end
end Pu
/-! PuS: the rules of an own len, methods, gcd, reversed and ranges made lists, f-strings, index. -/
namespace Pu
open PySem PySem.Spec PyProof.Rows L2

/-! ### list(reversed(list)) -/
section
variable {prog : Program} {w : World} {A : Around} {E : Value → Shared → Prop} {s : Shared}
theorem extend_rev {R : Result → Shared → Prop} {it l : Addr} {items : Array Value} (hh : A.handled = none) (hit : s.heap.IsRevIter it l ((items.size : Int) - 1)) (hl : s.heap.IsList l items) (hne : l ≠ it) (hn : items.size ≤ sizeLine) (S : Addr) (res : Value) (c₀ : Nat)
    (hS : s.heap.get? S = some { cls := .type "list", data := .seq #[] c₀ }) (hSl : S ≠ l)
    (hR : ∀ h' tk acc' c', (∀ b o, b ≠ S → b ≠ it → s.heap.get? b = some o → h'.get? b = some o) → h'.get? S = some { cls := .type "list", dict := none, data := .seq acc' c', slots := #[] } →
      ItemsOf (fun i v => items[items.size - 1 - i]? = some v) acc' items.size → R (.ok (.ret res)) { s with heap := h', toks := tk }) :
    wpAny (model prog w) A.in1 (Builtin.List.listExtendWith (.ref S) (.ref it) res)
      (fun fin s' => match fin with | .done f => R (.ok f) s' | .again c' => c'.quiet = true ∧ codeAny (model prog w) A c' R s') (fun e s' => R (.error e) s') s := by
  have W := (Walks.listRev (prog := prog) (w := w) (A := A.in1) hh it l hne items).toS
  have hT : s.TypeIs (.ref it) "list_reverseiterator" := hit.typeIs
  have hSi : S ≠ it := fun e => by
    obtain ⟨o, ho, hc, _⟩ := id hit
    rw [e, ho] at hS
    cases hS
    exact absurd hc (by simp)
  have hSf : S ∉ [it, l] := by simp only [List.mem_cons, List.not_mem_nil, or_false, not_or]; exact ⟨hSi, hSl⟩
  have h1 : Builtin.List.listSameRef (.ref S) (.ref it) = false := by simp [Builtin.List.listSameRef, hSi]
  unfold Builtin.List.listExtendWith
  refine wpAny_bind (wpAny_typeOf hT ?_)
  rw [if_neg (by rw [h1]; decide)]
  refine wpAny_bind (wpAny_pyIter_revIter hit ?_)
  refine wpAny_bind (wpAny_holding ?_)
  unfold Builtin.List.listLengthHint
  refine wpAny_bind (wpAny_specialOf hT RT.nolen_lri ?_)
  show wpAny _ A.in1 (specialOf (Value.ref it) (Str.ofString "__length_hint__") >>= _) _ _ _
  refine wpAny_bind (wpAny_specialOf hT RT.hint_lri ?_)
  generalize hid : ("list_reverseiterator.__length_hint__" : String) = id0
  wp_delta
  rw [show splitId id0 = some ("list_reverseiterator", "__length_hint__") from by subst hid; decide +kernel]
  subst hid
  refine wpAny_bind (wpAny_isInstance (b := true) hT (by rw [isSubtype_type]; kernel_rfl) ?_)
  refine wpAny_pure ?_
  rw [if_neg (by decide)]
  have e0 : ((items.size : Nat) : Int) - 1 - ((0 : Nat) : Int) = (items.size : Int) - 1 := by omega
  refine wpAny_pure ⟨plainId_quiet F.plain_extend_loop _, codeAny_extend_loopS W hn _ hSf _ items.size 0 _ _ _ rfl (Nat.zero_le _) ⟨Nat.zero_le _, by rw [e0]; exact hit, hl⟩ hS (ItemsOf.nil _) fun s' acc' c' hm hS' hacc => ?_⟩
  rw [Moved.eq_with hm]
  refine hR s'.heap s'.toks acc' c' (fun b o hb hb2 e => hm.heap b o (fun hmem => ?_) e) hS' hacc
  rcases List.mem_cons.mp hmem with e' | hmem
  · exact hb e'
  · exact hb2 (List.mem_singleton.mp hmem)
theorem list_init_rev {R : Result → Shared → Prop} {it l : Addr} {items : Array Value} (hh : A.handled = none) (hit : s.heap.IsRevIter it l ((items.size : Int) - 1)) (hl : s.heap.IsList l items) (hne : l ≠ it) (hn : items.size ≤ sizeLine) (S : Addr)
    (hS : s.heap.get? S = some { cls := .type "list", data := .seq #[] }) (hSl : S ≠ l)
    (hR : ∀ h' tk acc' c', (∀ b o, b ≠ S → b ≠ it → s.heap.get? b = some o → h'.get? b = some o) → h'.get? S = some { cls := .type "list", dict := none, data := .seq acc' c', slots := #[] } →
      ItemsOf (fun i v => items[items.size - 1 - i]? = some v) acc' items.size → R (.ok (.ret .none)) { s with heap := h', toks := tk }) :
    wpAny (model prog w) A.in1 (Builtin.«list.__init__» ⟨[.ref S, .ref it], []⟩)
      (fun fin s' => match fin with | .done f => R (.ok f) s' | .again c' => c'.quiet = true ∧ codeAny (model prog w) A c' R s') (fun e s' => R (.error e) s') s := by
  have hSi : S ≠ it := fun e => by
    obtain ⟨o, ho, hc, _⟩ := id hit
    rw [e, ho] at hS
    cases hS
    exact absurd hc (by simp)
  show wpAny _ _ (do let old ← Builtin.List.listItems (.ref S); Builtin.List.listUpdate (.ref S) (fun _ => #[]); letGo old.toList.reverse; Builtin.List.listExtendWith (.ref S) (.ref it) .none) _ _ s
  refine wpAny_bind ?_
  unfold Builtin.List.listItems
  refine wpAny_bind (wpAny_seqItems hS rfl (wpAny_pure ?_))
  show wpAny _ _ (updateSeq S (fun _ => #[]) >>= fun _ => letGo (#[] : Array Value).toList.reverse >>= fun _ => Builtin.List.listExtendWith (.ref S) (.ref it) .none) _ _ s
  refine wpAny_bind (wpAny_updateSeq hS rfl ?_)
  have hS₂ := Heap.get?_update_self (Obj.mapSeq (fun _ => (#[] : Array Value))) hS rfl
  have oth : ∀ b o, b ≠ S → s.heap.get? b = some o → (s.heap.update S (Obj.mapSeq (fun _ => (#[] : Array Value)))).get? b = some o :=
    fun b o hb e => (Heap.get?_update_other _ _ (Ne.symm hb)).trans e
  refine wpAny_bind (wpAny_letGo ?_)
  refine extend_rev hh (hit.at fun o e => oth it o (Ne.symm hSi) e) (hl.at fun o e => oth l o (Ne.symm hSl) e) hne hn S .none _ hS₂ hSl fun h' tk acc' c' hk hS' hacc => ?_
  exact hR h' tk acc' c' (fun b o hb hb2 e => hk b o hb hb2 (oth b o hb e)) hS' hacc
theorem call_list_rev {Q : Value → Shared → Prop} {it l : Addr} {items : Array Value} (hh : A.handled = none) (hit : s.heap.IsRevIter it l ((items.size : Int) - 1)) (hl : s.heap.IsList l items) (hne : l ≠ it) (hn : items.size ≤ sizeLine)
    (hQ : ∀ h' tk acc' c', (∀ b o, b ≠ it → s.heap.get? b = some o → h'.get? b = some o) →
      h'.get? s.heap.objs.size = some { cls := .type "list", dict := none, data := .seq acc' c', slots := #[] } → ItemsOf (fun i v => items[items.size - 1 - i]? = some v) acc' items.size → Q (.ref s.heap.objs.size) { s with heap := h', toks := tk }) :
    wpAny (model prog w) A (call (.type "list") [.ref it]) Q E s := by
  refine callType_codes (Q₁ := fun obj s₁ => obj = .ref s.heap.objs.size ∧ s₁ = { s with heap := s.heap.push { cls := .type "list", data := .seq #[] } }) F.called_list (F.typeCall_list_1 _) F.entry_list_init
    (code_list_new _ ⟨rfl, rfl⟩) fun obj s₁ h₁ => ?_
  obtain ⟨rfl, rfl⟩ := h₁
  have hS : (s.heap.push { cls := .type "list", data := .seq #[] }).get? s.heap.objs.size = some { cls := .type "list", data := .seq #[] } := Heap.get?_push_size _ rfl
  obtain ⟨ol, hol, _⟩ := id hl
  refine ⟨⟨_, hS, rfl⟩, F.args_list_init_2 _ _, list_init_rev (A := A.in1) hh (hit.at fun o e => Heap.get?_push_of_some _ e) (hl.push _) hne hn _ hS (Nat.ne_of_gt (Heap.lt_size hol)) fun h' tk acc' c' hk hS' hacc => ?_⟩
  exact ⟨rfl, hQ h' tk acc' c' (fun b o hb e => hk b o (Nat.ne_of_lt (Heap.lt_size e)) hb (Heap.get?_push_of_some _ e)) hS' hacc⟩
end
/-- list(reversed(x)), x a list: a new list -/
def tLstRev (K : PySem.W.Frag) (te : TE) : TE := fun σ H Q => te σ H fun v H1 => ∃ (a : Addr) (xs : List V), v = .ref a ∧ SqL K H1 a xs ∧ ∀ q, H1 q = none → Q (.ref q) (upd H1 q (.lst xs.reverse))
theorem pe_lstRev {X : Cx} {e : Expr} {te : TE} {p p2 pos pos2 : Pos} (hc : X.calm = true) (hg : Gl X "list") (hm : X.mg "list" = none) (hg2 : Gl X "reversed") (hm2 : X.mg "reversed" = none) (he : PE X e te)
    (hs : starEach [e] X.env = (false, eval e X.env) :: starEach [] X.env := by rfl)
    (hs2 : starEach [.Call (.Name "reversed" p2) [e] [] pos2] X.env = (false, eval (.Call (.Name "reversed" p2) [e] [] pos2) X.env) :: starEach [] X.env := by rfl) :
    PE X (.Call (.Name "list" p) [.Call (.Name "reversed" p2) [e] [] pos2] [] pos) (tLstRev X.K te) := by
  refine ⟨fun pins s σ H Q I h => ?_⟩
  refine Call_ (ld_blt I hg hm boot_list (PyProof.Rows.callWith_type1 (PyProof.Rows.args_cons (Call_ (ld_blt I hg2 hm2 PyProof.Rows.boot_reversed (PyProof.Rows.callWith_type1 (PyProof.Rows.args_cons (thn (he.run pins s σ H _ I h) fun u s1 ⟨v, H1, I1, r1, q1⟩ => PyProof.Rows.args_nil ?_) hs) hs rfl))) hs2) hs2 rfl))
  obtain ⟨a, xs, ev, hq, q⟩ := q1
  subst ev
  obtain rfl : u = Value.ref a := r1
  obtain ⟨its, rv, p', hz⟩ := I1.list hq
  refine call_reversed_list p'.isList (PyProof.Rows.args_nil ?_)
  have k0 : ∀ b o, s1.heap.get? b = some o → (s1.heap.push (revObj a ((its.toArray.size : Int) - 1))).get? b = some o := fun b o e => Heap.get?_push_of_some _ e
  have I2 : Inv X pins σ H1 { s1 with heap := s1.heap.push (revObj a ((its.toArray.size : Int) - 1)) } := I1.kept (t' := s1.toks) k0
  obtain ⟨f0, f1, f2, f3, f4, f5⟩ := I1.fpOk (H' := H1) (b := s1.heap.objs.size) (Nat.le_refl _) (I1.hok.fresh (Nat.le_refl _))
  have hl := p'.isList
  obtain ⟨ol, hol, _⟩ := id hl
  have hne : a ≠ s1.heap.objs.size := Nat.ne_of_lt (Heap.lt_size hol)
  have hn : its.toArray.size ≤ sizeLine := by rw [List.size_toArray, ← rv.length]; exact hz
  refine call_list_rev (s := { s1 with heap := s1.heap.push (revObj a ((its.toArray.size : Int) - 1)) }) (I1.ok.hd hc) ⟨_, Heap.get?_push_size _ rfl, rfl, rfl⟩ (hl.push _) hne hn fun h' tk acc c' hk e' hi => ?_
  refine ⟨.ref _, upd H1 _ (.lst xs.reverse), I2.turnedNew (t' := tk) (ch := [s1.heap.objs.size]) (fun b o hb e => hk b o (by simpa using hb) e) (fun b hb => ?_) (Nat.le_refl _) (show ObjOk X.prog X.w _ _ _ (.lst xs.reverse) from ⟨by rw [List.length_reverse]; exact hz, acc.toList, c', RT.vals_rev rv hi, ?_⟩), rfl, q _ (I2.hok.fresh (Nat.le_refl _))⟩
  · rw [List.mem_singleton] at hb
    subst hb
    exact ⟨f0, f1, f2, f3, f4, f5⟩
  · rw [Array.toArray_toList]; exact e'

section
variable {X : Cx} {Cl : ClT} {W : WX} {T : Tab} {N : List Str} {sc : Scope} {lv : Nat} {a b c e : Expr} {es : List Expr} {f g h : Ro → Res D} {pos p p2 apos : Pos}
theorem post_at {K : Frg} {W : WX} {G H : Hp} {σ : L2.St} {r : Res D} {Q : VK} (h : PostE K Cl W G H σ r Q) : PostE K Cl (fun cls d _ H' => WE W σ cls d H') G H [] r Q := by
  cases r with
  | ok d => exact h
  | exc c ns ds => exact h
  | stuck => exact h
/-- an instance, then the rest -/
theorem PE.ins {r : Ro → Res D} {k : D → Res D} {σ : L2.St} {H : Hp} {Q : VK} {R : V → Hp → Prop} (hh : tE X.K Cl W (fun ρ => (r ρ).bind k) σ H Q)
    (i : ∀ v G1 H1 d, Rep X.K Cl G1 d v → Same G1 H1 → PostE X.K Cl W G1 H1 σ (k d) Q → R v H1) : tE X.K Cl W r σ H R := by
  obtain ⟨G0, H0, G, ρ, sim, q⟩ := hh
  refine ⟨G0, H0, G, ρ, sim, ?_⟩
  exact headE (PostE.seqE (r := r ρ) q) fun v G1 H1 k1 ⟨d, G1', ed, k1', r1, q1⟩ => i v G1' H1 d r1 k1'.low q1
/-- len(o) of an own class -/
theorem r_lenm (ok : XOk X N sc T Cl lv) (tk : Takes X W) {x : E} (hg : glB sc "len" = true) (ha : OkE X Cl W T x a) (hs : isStar a = false) : OkE X Cl W T (.lenm x) (.Call (.Name "len" p) [a] [] pos) := by
  have hv : PE X (.Call (.Name "len" p) [a] [] pos) (tE X.K Cl W fun ρ => (ev T x .val ρ).bind fun d => lenmR T d) := by
    refine ⟨fun pins s σ H Q I hh => ?_⟩
    have q3 : tE X.K Cl W (ev T x .val) σ H (fun v H1 => ∃ d G1, Same G1 H1 ∧ Rep X.K Cl G1 d v ∧ PostE X.K Cl W G1 H1 σ (lenmR T d) Q) := PE.ins hh fun v G1 H1 d r sm q => ⟨d, G1, sm, r, q⟩
    refine wpAny_Call_Name_kw (ld_blt I (gl_of ok hg) (ok.facts.bi .len) (show bootBuiltins "len" = some (.builtin "len") by decide +kernel) ?_ (by decide) (by decide))
    refine PyProof.Rows.callWith_builtin1 (thn ((pa_cons ha.v pa_nil (star_cons hs)).run pos pins s σ H (fun vs H1 => ∃ v d G1, vs = [v] ∧ Same G1 H1 ∧ Rep X.K Cl G1 d v ∧ PostE X.K Cl W G1 H1 σ (lenmR T d) Q) I (PE.ins hh fun v G1 H1 d r sm q => ⟨v, d, G1, rfl, sm, r, q⟩)) fun us s1 ⟨vs, H1, I1, rv, v, d, G1, ev, sm, r1, q1⟩ => ?_) (star_cons hs) rfl
    subst ev
    cases d with
    | ins c ns xs =>
      have r1' := r1
      simp only [Rep] at r1'
      obtain ⟨ad, C, dx, ys, rfl, hC, hA, hl, rr⟩ := r1'
      cases rv with
      | cons ru rn =>
      cases ru
      cases rn
      cases hm : T.mt c "__len__" 0 with
      | none =>
        replace q1 : PostE X.K Cl W G1 H1 σ (match T.mt c "__len__" 0 with | some F => (F [.ins c ns xs]).bind lenOk | none => .stuck) Q := q1
        rw [hm] at q1
        exact q1.elim
      | some F =>
        replace q1 : PostE X.K Cl W G1 H1 σ (match T.mt c "__len__" 0 with | some F => (F [.ins c ns xs]).bind lenOk | none => .stuck) Q := q1
        rw [hm] at q1
        replace q1 : PostE X.K Cl W G1 H1 σ ((F [.ins c ns xs]).bind lenOk) Q := q1
        obtain ⟨f, fd, ps, lm, hc, hM, hlm, FO, hb, hps⟩ := ok.facts.mt c "__len__" 0 F C hm hC
        obtain ⟨mA, J, _⟩ := ins_get I1.hok (sm _ _ hA)
        obtain ⟨od, J, _⟩ := J.look
        obtain ⟨m, hF⟩ := I1.fr
        refine PySem.W.len_K hF I1.ok.mod.kin J hM.at_ hM.fn ?_
        have q2 := PostE.seqE (r := F [.ins c ns xs]) q1
        have hsp : spP X.K Cl ps.length F [.ref ad] H1 (fun v H2 => ∃ n : Int, v = .int n ∧ (0 ≤ n ∧ n < 2 ^ 63) ∧ Q (.int n) H2) (WE W σ) := by
          refine ⟨by rw [hps]; rfl, G1, [.ins c ns xs], sm, Reps.one r1, post_at ?_⟩
          refine headE q2 fun v G2 H2 k2 ⟨d, G2', ed, k2', r2, q3⟩ => ?_
          cases d with
          | int n =>
            replace q3 : PostE X.K Cl W G2' H2 σ (if 0 ≤ n ∧ n < 2 ^ 63 then .ok (.int n) else .stuck) Q := q3
            simp only [Rep] at r2
            split at q3
            · rename_i hn
              exact ⟨n, r2, hn, q3 _ G2' H2 (Ext.refl k2'.low) (by simp only [Rep])⟩
            · exact q3.elim
          | _ => exact q3.elim
        have e0 : Env0 X.prog X.w X.K X.mg X.base X.A.in1 X.stack s1 H1 := by
          have e := I1.env0
          exact ⟨e.frames, e.mod, e.bs, e.bsz, e.funs, e.frf, e.hok, e.bare⟩
        have r2 : Vals [V.ref ad] [Value.ref ad] := .cons rfl .nil
        refine wpAny_call (codeAny_mono (FO.run X.A.in1 X.stack s1 H1 ⟨[.ref ad], []⟩ [.ref ad] [.ref ad] _ (WE W σ) (ok.room.mono hlm).in1 e0 (by
          have := hb s1 [.ref ad] I1.kIn (by rw [hps]; rfl)
          simpa using this) r2 hsp) fun r s' hq => ?_)
        cases r with
        | error e => exact passAt tk σ pins H1 s1 e s' I1 hq
        | ok fl =>
          cases fl with
          | ret u =>
            obtain ⟨v, H2, I2, ru, n, ev, hn, hq2⟩ := I1.after hq
            subst ev
            obtain ⟨t, rfl⟩ := ru
            exact ⟨hn, .int n, H2, I2.tok _, ⟨_, rfl⟩, hq2⟩
          | next => exact False.elim hq
          | brk => exact False.elim hq
          | cont => exact False.elim hq
    | _ => exact q1.elim
  exact OkE.of hv (fun _ => rfl) (funext fun ρ => by simp only [ev, fin]) (funext fun ρ => by simp only [ev, fin]) (funext fun ρ => by simp only [ev, fin]; rfl)
theorem lookup_zip_none {ns : List Str} {xs : List V} {m : Str} (h : m ∉ ns) : (ns.zip xs).lookup m = none := by
  induction ns generalizing xs with
  | nil => rfl
  | cons n ns ih =>
    cases xs with
    | nil => rfl
    | cons x xs =>
      rw [List.zip_cons_cons, List.lookup_cons]
      have : (m == n) = false := beq_eq_false_iff_ne.mpr fun z => h (z ▸ List.mem_cons_self)
      rw [this]
      exact ih fun z => h (List.mem_cons_of_mem _ z)
theorem meth_ok {T : Tab} {mth : Str} {n : Nat} {r : Res (List D)} {d : D} {K : Frg} {G H : Hp} {σ : L2.St} {Q : VK} (h : PostE K Cl W G H σ (methR T mth n r d) Q) : ∃ c ns xs F, d = .ins c ns xs ∧ mth ∉ ns ∧ T.mt c mth n = some F ∧ PostE K Cl W G H σ (r.bind fun ds => F (.ins c ns xs :: ds)) Q := by
  cases d with
  | ins c ns xs =>
    replace h : PostE K Cl W G H σ (if mth ∈ ns then .stuck else match T.mt c mth n with | some F => r.bind fun ds => F (.ins c ns xs :: ds) | none => .stuck) Q := h
    by_cases hm : mth ∈ ns
    · rw [if_pos hm] at h; exact h.elim
    · rw [if_neg hm] at h
      cases hF : T.mt c mth n with
      | none => rw [hF] at h; exact h.elim
      | some F => rw [hF] at h; exact ⟨c, ns, xs, F, rfl, hm, hF, h⟩
  | _ => exact h.elim
theorem meth_eq {o : Expr} {m : Str} {apos pos : Pos} {es : List Expr} {env : Env} (hb : attributeBase o m env (eval o env) = eval o env) (hst : (starEach es env).any (·.1) = false) (hline : (apos.endLine == pos.line) = true) (hl : es.length < 30) :
    eval (.Call (.Attribute o m apos) es [] pos) env = (do
      let ov ← eval o env
      standAt apos.atName
      let (f, first) ← holding [ov] (getMethod ov m (do return (← importBound o env).getD true))
      callWith pos f first (backTo pos (starEach es env)) (backToKw pos (keywordEach [] env))) := by
  have hform : methodCallForm (es.length + ([] : List Keyword).length) (backTo pos (starEach es env)) (backToKw pos (keywordEach [] env)) = true := by
    have h1 : (backTo pos (starEach es env)).all (fun x => !x.1) = true := by
      rw [List.all_eq_not_any_not]
      simp only [Bool.not_not]
      rw [back_any, hst]
      rfl
    have h2 : (backToKw pos (keywordEach [] env)).all (fun x => x.1.isSome) = true := rfl
    unfold methodCallForm
    rw [h1, h2]
    show (true && true && decide (es.length + 0 + (if ([] : List (Option Str × Sem Value)).isEmpty = true then 0 else 1) < 30)) = true
    simpa using hl
  have hpos : methodCallPos true o env apos pos = pure pos := by unfold methodCallPos; simp [hline]
  show (attributeBase o m env (eval o env) >>= fun ov => standAt apos.atName >>= fun _ => methodCall o m apos pos env ov (es.length + ([] : List Keyword).length) (backTo pos (starEach es env)) (backToKw pos (keywordEach [] env))) = _
  rw [hb]
  unfold methodCall
  rw [hform, hpos]
  rfl
/-- o.m(e, ..) -/
theorem r_meth (ok : XOk X N sc T Cl lv) (tk : Takes X W) {x : E} {xs zs : Es} {m : Str} (ha : OkE X Cl W T x a) (hx : OkArgs X Cl W T xs (e :: es)) (hr : OkArgs X Cl W T zs es) (hs : isStar e = false) (hb0 : isCall0 a = false) (hline : (apos.endLine == pos.line) = true) (hfew : (e :: es).length < 30) :
    OkE X Cl W T (.meth x m xs) (.Call (.Attribute a m apos) (e :: es) [] pos) := by
  have hv : PE X (.Call (.Attribute a m apos) (e :: es) [] pos) (tE X.K Cl W fun ρ => (ev T x .val ρ).bind fun d => methR T m xs.len (evs T xs ρ) d) := by
    refine ⟨fun pins s σ H Q I hh => ?_⟩
    obtain ⟨G0, H0, G, ρ, sim, q⟩ := hh
    have q2 : tE X.K Cl W (ev T x .val) σ H (fun v H1 => ∃ d G1, Ext G H G1 H1 ∧ Rep X.K Cl G1 d v ∧ PostE X.K Cl W G1 H1 σ (methR T m xs.len (evs T xs ρ) d) Q) :=
      ⟨G0, H0, G, ρ, sim, headE (PostE.seqE (r := ev T x .val ρ) q) fun v G1 H1 k1 ⟨d, G1', ed, k1', r1, q1⟩ => ⟨d, G1', k1', r1, q1⟩⟩
    refine PySem.W.methodCall_KW (thn (ha.v.run pins s σ H _ I q2) fun u s1 ⟨v, H1, I1, rx, d, G1, k1, r1, q1⟩ => ?_) (meth_eq (base_of hb0) (by rw [star_cons hs, List.any_cons, hr.st]; rfl) hline hfew)
    obtain ⟨c, ns, ys, F, rfl, hmn, hmt, q3⟩ := meth_ok q1
    have r1' := r1
    simp only [Rep] at r1'
    obtain ⟨ad, C, dx, zs', rfl, hC, hA, hl, rr⟩ := r1'
    obtain rfl : u = Value.ref ad := rx
    obtain ⟨f, fd, ps, lm, hc, hM, hlm, FO, hb, hps⟩ := ok.facts.mt c m xs.len F C hmt hC
    refine getmeth_ok I1 (k1.low _ _ hA) hc hM (lookup_zip_none hmn) ?_
    have q4 := PostA.seqE (r := evs T xs ρ) q3
    have q5 : tA X.K Cl W (evs T xs) σ H1 (fun vs H2 => ∃ ds G2, ds.length = xs.len ∧ Ext G1 H1 G2 H2 ∧ Reps X.K Cl G2 ds vs ∧ PostE X.K Cl W G2 H2 σ (F (.ins c ns ys :: ds)) Q) := by
      refine ⟨G0, H0, G1, ρ, sim.grow k1, ?_⟩
      cases ee : evs T xs ρ with
      | exc c ns ds => rw [ee] at q4; exact q4
      | stuck => rw [ee] at q4; exact q4
      | ok ds =>
        rw [ee] at q4
        intro vs G2 H2 k2 r2
        obtain ⟨ds', G2', ed, k2', r2', q6⟩ := q4 vs G2 H2 k2 r2
        cases ed
        exact ⟨ds, G2', evs_len ee, k2', r2', q6⟩
    refine PySem.W.callWith_K (first := [.ref ad]) (h₀ := X.base) I.ok.mod.kin hM.kp (thn (hx.v.run pos pins s1 σ H1 _ I1 q5) fun us s2 ⟨vs, H2, I2, r, ds, G2, hdl, k2, r2, q6⟩ => ⟨I2.kIn, ?_⟩) (star_cons hs) (by rw [back_any]; exact hr.st)
    refine run_fnS (us := .ref ad :: us) (vs := .ref ad :: vs) FO (ok.room.mono (Nat.le_trans (Nat.le_succ _) hlm)) hb (passAt tk σ) I2 (.cons rfl r) ⟨?_, G2, .ins c ns ys :: ds, k2.low, Reps.cons (r1.mono k2.vis) r2, post_at q6⟩
    rw [List.length_cons, ← r2.length, hdl, hps]
  exact OkE.of hv (fun _ => rfl) (funext fun ρ => by simp only [ev, fin]) (funext fun ρ => by simp only [ev, fin]) (funext fun ρ => by simp only [ev, fin]; rfl)
/-- o.m() -/
theorem r_meth0 (ok : XOk X N sc T Cl lv) (tk : Takes X W) {x : E} {m : Str} (ha : OkE X Cl W T x a) (hb0 : isCall0 a = false) (hline : (apos.endLine == pos.line) = true) : OkE X Cl W T (.meth x m .nil) (.Call (.Attribute a m apos) [] [] pos) := by
  have hv : PE X (.Call (.Attribute a m apos) [] [] pos) (tE X.K Cl W fun ρ => (ev T x .val ρ).bind fun d => methR T m 0 (evs T .nil ρ) d) := by
    refine ⟨fun pins s σ H Q I hh => ?_⟩
    obtain ⟨G0, H0, G, ρ, sim, q⟩ := hh
    have q2 : tE X.K Cl W (ev T x .val) σ H (fun v H1 => ∃ d G1, Ext G H G1 H1 ∧ Rep X.K Cl G1 d v ∧ PostE X.K Cl W G1 H1 σ (methR T m 0 (evs T .nil ρ) d) Q) :=
      ⟨G0, H0, G, ρ, sim, headE (PostE.seqE (r := ev T x .val ρ) q) fun v G1 H1 k1 ⟨d, G1', ed, k1', r1, q1⟩ => ⟨d, G1', k1', r1, q1⟩⟩
    refine PySem.W.methodCall_KW (thn (ha.v.run pins s σ H _ I q2) fun u s1 ⟨v, H1, I1, rx, d, G1, k1, r1, q1⟩ => ?_) (meth_eq (base_of hb0) rfl hline (by decide))
    obtain ⟨c, ns, ys, F, rfl, hmn, hmt, q3⟩ := meth_ok q1
    have r1' := r1
    simp only [Rep] at r1'
    obtain ⟨ad, C, dx, zs', rfl, hC, hA, hl, rr⟩ := r1'
    obtain rfl : u = Value.ref ad := rx
    obtain ⟨f, fd, ps, lm, hc, hM, hlm, FO, hb, hps⟩ := ok.facts.mt c m 0 F C hmt hC
    refine getmeth_ok I1 (k1.low _ _ hA) hc hM (lookup_zip_none hmn) ?_
    have q4 : PostE X.K Cl W G1 H1 σ (F [.ins c ns ys]) Q := by
      simp only [evs] at q3
      exact q3
    exact PySem.W.callWith_K0 (first := [.ref ad]) I1.kIn hM.kp (run_fnS (us := [.ref ad]) (vs := [.ref ad]) FO (ok.room.mono (Nat.le_trans (Nat.le_succ _) hlm)) hb (passAt tk σ) I1 (.cons rfl .nil) ⟨by rw [hps]; rfl, G1, [.ins c ns ys], k1.low, Reps.one r1, post_at q4⟩)
  exact OkE.of hv (fun _ => rfl) (funext fun ρ => by simp only [ev, fin, Es.len]) (funext fun ρ => by simp only [ev, fin, Es.len]) (funext fun ρ => by simp only [ev, fin, Es.len]; rfl)
/-- math.gcd -/
theorem r_gcd (ok : XOk X N sc T Cl lv) {xs zs : Es} (hg : glB sc "gcd" = true) (ha : OkArgs X Cl W T xs (e :: es)) (hr : OkArgs X Cl W T zs es) (hs : isStar e = false) : OkE X Cl W T (.gcd xs) (.Call (.Name "gcd" p) (e :: es) [] pos) := by
  have hpl : (backTo pos (starEach es X.env)).any (·.1) = false := by rw [back_any]; exact hr.st
  have hv : PE X (.Call (.Name "gcd" p) (e :: es) [] pos) (tE X.K Cl W fun ρ => if T.gc = true then (evsB T xs ρ).bind fun ds => Res.ofO (gcdF ds) else .stuck) := by
    by_cases ht : T.gc = true
    · simp only [ht, if_true]
      have hc : CallR X (.builtin "math.gcd") (rC X.K Cl gcdF) := by
        intro pins s σ H vs us Q I r ⟨ds, d, G, sm, rr, hd, hq⟩
        unfold gcdF at hd
        split at hd
        · rename_i a b
          cases hd
          cases rr with
          | cons r1 rr =>
          cases rr with
          | cons r2 rr =>
          cases rr
          cases r1.int
          cases r2.int
          exact cr_gcd pins s σ H _ us Q I r ⟨a, b, rfl, hq _ G H (Ext.refl sm) (by simp only [Rep])⟩
        · cases hd
      exact PE.imp (pe_callBfun hc (gl_of ok hg) (ok.facts.gc ht) ha.b (by decide) (star_cons hs) hpl) fun σ H Q hh => rowB hh
    · simp only [ht, if_false]
      exact ⟨fun pins s σ H Q I ⟨G0, H0, G, ρ, sim, q⟩ => q.elim⟩
  exact OkE.of hv (fun _ => rfl) (funext fun ρ => by simp only [ev, fin]) (funext fun ρ => by simp only [ev, fin]) (funext fun ρ => by simp only [ev, fin]; rfl)
/-! reversed and ranges made lists and tuples -/
theorem made_lst {K : Frg} {G1 H1 : Hp} {t : Bool} {ds : List D} {xs : List V} {q : Addr} {Q : VK} (sm : Same G1 H1) (r : Reps K Cl G1 ds xs) (hq : H1 q = none) (h : ∀ v G2 H2, Ext G1 H1 G2 H2 → Rep K Cl G2 (sqD t ds) v → Q v H2) :
    Q (.ref q) (upd H1 q (if t = true then .tup xs else .lst xs)) := by
  refine h _ _ _ (Ext.new (o := if t = true then .tup xs else .lst xs) sm hq) ?_
  have k := r.mono (same_upd (o := if t = true then .tup xs else .lst xs) (Same.free sm hq))
  cases t with
  | true => simp only [sqD, if_true, Rep]; exact ⟨q, xs, rfl, SqT.of upd_same, by simpa using k⟩
  | false => simp only [sqD, Bool.false_eq_true, if_false, Rep]; exact ⟨q, xs, rfl, upd_same, by simpa using k⟩
theorem r_sqr (ok : XOk X N sc T Cl lv) {t : Bool} {x : E} (hg : glB sc (sqN t) = true) (hg2 : glB sc "reversed" = true) (ha : OkE X Cl W T x a) (hs : isStar a = false) :
    OkE X Cl W T (.sqr t x) (.Call (.Name (sqN t) p) [.Call (.Name "reversed" p2) [a] [] apos] [] pos) := by
  have red : ∀ {σ : L2.St} {H : Hp} {Q : VK}, tE X.K Cl W (fun ρ => (ev T x .bor ρ).bind fun d => (revLR d).bind fun ds => .ok (sqD t ds)) σ H Q →
      tB X.K Cl W (ev T x .bor) σ H (fun v H1 => ∃ (ad : Addr) (xs : List V), v = .ref ad ∧ SqL X.K H1 ad xs ∧ ∀ q, H1 q = none → Q (.ref q) (upd H1 q (if t = true then .tup xs.reverse else .lst xs.reverse))) := fun hh => by
    refine PB.get hh fun v G1 H1 d r1 sm q => ?_
    cases d with
    | lst ds =>
      obtain ⟨ad, xs, rfl, h1, h2⟩ := r1.lst sm
      exact ⟨ad, xs, rfl, SqL.of h1, fun q' hq => made_lst sm h2.reverse hq q⟩
    | frl ds =>
      obtain ⟨ad, xs, rfl, h1, h2⟩ := r1.frl sm
      exact ⟨ad, xs, rfl, h1, fun q' hq => made_lst sm h2.reverse hq q⟩
    | _ => exact q.elim
  have hv : PE X (.Call (.Name (sqN t) p) [.Call (.Name "reversed" p2) [a] [] apos] [] pos) (tE X.K Cl W fun ρ => (ev T x .bor ρ).bind fun d => (revLR d).bind fun ds => .ok (sqD t ds)) := by
    cases t with
    | true => exact PE.imp (RT.pe_tupRev ok.calm (gl_of ok hg) (ok.facts.bi .tuple) (gl_of ok hg2) ok.facts.rev ha.b (star_cons hs)) fun σ H Q hh => red hh
    | false => exact PE.imp (pe_lstRev ok.calm (gl_of ok hg) (ok.facts.bi .list) (gl_of ok hg2) ok.facts.rev ha.b (star_cons hs)) fun σ H Q hh => red hh
  exact OkE.of hv (fun _ => rfl) (funext fun ρ => by simp only [ev, fin]) (funext fun ρ => by simp only [ev, fin]) (funext fun ρ => by simp only [ev, fin]; rfl)
theorem rg_fin {K : Frg} {t : Bool} {i j : Int} {G H : Hp} {σ : L2.St} {Q : VK} (sm : Same G H) (q : PostE K Cl W G H σ ((rngR (.int i) (.int j)).bind fun ds => .ok (sqD t ds)) Q) :
    RgOk i j ∧ ∀ q, H q = none → Q (.ref q) (upd H q (if t = true then .tup (rgV i j) else .lst (rgV i j))) := by
  replace q : PostE K Cl W G H σ ((if -(2 ^ 62) ≤ i ∧ i < 2 ^ 62 ∧ -(2 ^ 62) ≤ j ∧ j < 2 ^ 62 ∧ (j - i).toNat ≤ sizeLine then Res.ok ((List.range (j - i).toNat).map fun k => D.int (i + (k : Nat))) else Res.stuck).bind fun ds => .ok (sqD t ds)) Q := q
  by_cases hc : -(2 ^ 62) ≤ i ∧ i < 2 ^ 62 ∧ -(2 ^ 62) ≤ j ∧ j < 2 ^ 62 ∧ (j - i).toNat ≤ sizeLine
  · rw [if_pos hc] at q
    have hz : (j - i).toNat ≤ 2 ^ 24 := by have := hc.2.2.2.2; rw [sizeLine_eq] at this; omega
    refine ⟨⟨hc.1, hc.2.1, hc.2.2.1, hc.2.2.2.1, hz⟩, fun q' hq => made_lst sm ?_ hq q⟩
    have e1 : ((List.range (j - i).toNat).map fun k => D.int (i + (k : Nat))) = ((List.range (j - i).toNat).map fun k : Nat => (i + (k : Nat) : Int)).map D.int := by rw [List.map_map]; rfl
    have e2 : rgV i j = ((List.range (j - i).toNat).map fun k : Nat => (i + (k : Nat) : Int)).map V.int := by unfold rgV; rw [List.map_map]; rfl
    rw [e1, e2]
    exact Reps.of_ints _
  · rw [if_neg hc] at q; exact q.elim
theorem r_sq1 (ok : XOk X N sc T Cl lv) {t : Bool} {x : E} (hg : glB sc (sqN t) = true) (hg2 : glB sc "range" = true) (ha : OkE X Cl W T x a) (hs : isStar a = false) :
    OkE X Cl W T (.sq1 t x) (.Call (.Name (sqN t) p) [.Call (.Name "range" p2) [a] [] apos] [] pos) := by
  have red : ∀ {σ : L2.St} {H : Hp} {Q : VK}, tE X.K Cl W (fun ρ => (ev T x .bor ρ).bind fun y => (rngR (.int 0) y).bind fun ds => .ok (sqD t ds)) σ H Q →
      tB X.K Cl W (ev T x .bor) σ H (fun v H1 => ∃ n, v = .int n ∧ RgOk 0 n ∧ ∀ q, H1 q = none → Q (.ref q) (upd H1 q (if t = true then .tup (rgV 0 n) else .lst (rgV 0 n)))) := fun hh => by
    refine PB.get hh fun v G1 H1 d r1 sm q => ?_
    cases d with
    | int n => cases r1.int; exact ⟨n, rfl, rg_fin sm q⟩
    | _ => exact q.elim
  have hv : PE X (.Call (.Name (sqN t) p) [.Call (.Name "range" p2) [a] [] apos] [] pos) (tE X.K Cl W fun ρ => (ev T x .bor ρ).bind fun y => (rngR (.int 0) y).bind fun ds => .ok (sqD t ds)) := by
    cases t with
    | true => exact PE.imp (pe_tupRg ok.calm (gl_of ok hg) (ok.facts.bi .tuple) (prg_1 (gl_of ok hg2) ok.facts.rng ha.b (star_cons hs))) fun σ H Q hh => red hh
    | false => exact PE.imp (pe_listRg ok.calm (gl_of ok hg) (ok.facts.bi .list) (prg_1 (gl_of ok hg2) ok.facts.rng ha.b (star_cons hs))) fun σ H Q hh => red hh
  exact OkE.of hv (fun _ => rfl) (funext fun ρ => by simp only [ev, fin]) (funext fun ρ => by simp only [ev, fin]) (funext fun ρ => by simp only [ev, fin]; rfl)
theorem r_sq2 (ok : XOk X N sc T Cl lv) {t : Bool} {x y : E} (hg : glB sc (sqN t) = true) (hg2 : glB sc "range" = true) (ha : OkE X Cl W T x a) (hb : OkE X Cl W T y b) (hs : isStar a = false) (hs2 : isStar b = false) :
    OkE X Cl W T (.sq2 t x y) (.Call (.Name (sqN t) p) [.Call (.Name "range" p2) [a, b] [] apos] [] pos) := by
  have red : ∀ {σ : L2.St} {H : Hp} {Q : VK}, tE X.K Cl W (fun ρ => (ev T x .bor ρ).bind fun x => (ev T y .bor ρ).bind fun y => (rngR x y).bind fun ds => .ok (sqD t ds)) σ H Q →
      tB X.K Cl W (ev T x .bor) σ H (fun v H1 => tB X.K Cl W (ev T y .bor) σ H1 fun w H2 => ∃ i j, v = .int i ∧ w = .int j ∧ RgOk i j ∧ ∀ q, H2 q = none → Q (.ref q) (upd H2 q (if t = true then .tup (rgV i j) else .lst (rgV i j)))) := fun hh => by
    obtain ⟨G0, H0, G, ρ, sim, q⟩ := hh
    refine ⟨G0, H0, G, ρ, sim, headB (PostB.seqE (r := ev T x .bor ρ) q) fun v G1 H1 k1 ⟨d, G1', ed, k1', r1, q1⟩ => ⟨G0, H0, G1', ρ, sim.grow k1', headB (PostB.seqE (r := ev T y .bor ρ) q1) fun w G2 H2 k2 ⟨d2, G2', ed2, k2', r2, q2⟩ => ?_⟩⟩
    cases d with
    | int i =>
      cases r1.int
      cases d2 with
      | int j => cases r2.int; exact ⟨i, j, rfl, rfl, rg_fin k2'.low q2⟩
      | _ => exact q2.elim
    | _ => cases d2 <;> exact q2.elim
  have hv : PE X (.Call (.Name (sqN t) p) [.Call (.Name "range" p2) [a, b] [] apos] [] pos) (tE X.K Cl W fun ρ => (ev T x .bor ρ).bind fun x => (ev T y .bor ρ).bind fun y => (rngR x y).bind fun ds => .ok (sqD t ds)) := by
    cases t with
    | true => exact PE.imp (pe_tupRg ok.calm (gl_of ok hg) (ok.facts.bi .tuple) (prg_2 (gl_of ok hg2) ok.facts.rng ha.b hb.b (by rw [star_cons hs]) (star_cons hs2) (by rw [star_cons hs2]; rfl))) fun σ H Q hh => red hh
    | false => exact PE.imp (pe_listRg ok.calm (gl_of ok hg) (ok.facts.bi .list) (prg_2 (gl_of ok hg2) ok.facts.rng ha.b hb.b (by rw [star_cons hs]) (star_cons hs2) (by rw [star_cons hs2]; rfl))) fun σ H Q hh => red hh
  exact OkE.of hv (fun _ => rfl) (funext fun ρ => by simp only [ev, fin]) (funext fun ρ => by simp only [ev, fin]) (funext fun ρ => by simp only [ev, fin]; rfl)

/-! f-strings -/
theorem r_fmt {x : E} (ha : OkE X Cl W T x a) : OkE X Cl W T (.fmt x) (.FormattedValue a (-1) none pos) := by
  have hv : PE X (.FormattedValue a (-1) none pos) (tE X.K Cl W fun ρ => (ev T x .bor ρ).bind fun d => Res.ofO (fmtD d)) := by
    refine PE.imp (pe_fmt ha.b) fun σ H Q hh => PB.get hh fun v G1 H1 d r1 sm q => ?_
    obtain ⟨d', hd, hq⟩ := PostE.ofO q
    cases d with
    | str y =>
      cases r1.str
      replace hd : (if y.length ≤ sizeLine then some (D.str y) else none) = some d' := hd
      split at hd
      · cases hd; exact .inl ⟨y, rfl, ‹_›, hq _ G1 H1 (Ext.refl sm) (by simp only [Rep])⟩
      · cases hd
    | int i =>
      cases r1.int
      replace hd : (if i.natAbs.log2 < 1920 then some (D.str (toString i)) else none) = some d' := hd
      split at hd
      · cases hd; exact .inr ⟨i, rfl, ‹_›, hq _ G1 H1 (Ext.refl sm) (by simp only [Rep])⟩
      · cases hd
    | _ => cases hd
  exact OkE.of hv (fun _ => rfl) (funext fun ρ => by simp only [ev, fin]) (funext fun ρ => by simp only [ev, fin]) (funext fun ρ => by simp only [ev, fin]; rfl)
structure OkJ (X : Cx) (Cl : ClT) (W : WX) (T : Tab) (xs : Es) (es : List Expr) : Prop where
  ex : ∃ ts, PJ X es ts ∧ ∀ acc σ H Q, tE X.K Cl W (evJ T xs acc) σ H Q → tJs ts acc σ H fun out H1 => Q (.str out) H1
theorem j_nil : OkJ X Cl W T .nil [] := ⟨[], .nil, fun acc σ H Q ⟨G0, H0, G, ρ, sim, q⟩ => by
  simp only [evJ] at q
  exact q _ G H (Ext.refl sim.low) (by simp only [Rep])⟩
theorem j_cons {x : E} {xs : Es} (ha : OkE X Cl W T x e) (hr : OkJ X Cl W T xs es) : OkJ X Cl W T (.cons x xs) (e :: es) := by
  obtain ⟨ts, h1, h2⟩ := hr.ex
  refine ⟨_, .cons ha.b h1, fun acc σ H Q ⟨G0, H0, G, ρ, sim, q⟩ => ?_⟩
  simp only [evJ] at q
  refine ⟨G0, H0, G, ρ, sim, headB (PostB.seqE (r := ev T x .bor ρ) q) fun v G1 H1 k1 ⟨d, G1', ed, k1', r1, q1⟩ => ?_⟩
  cases d with
  | str y =>
    cases r1.str
    replace q1 : PostE X.K Cl W G1' H1 σ (if (acc ++ y).length ≤ sizeLine then evJ T xs (acc ++ y) ρ else .stuck) Q := q1
    split at q1
    · exact ⟨y, rfl, ‹_›, h2 _ σ H1 Q ⟨G0, H0, G1', ρ, sim.grow k1', q1⟩⟩
    · exact q1.elim
  | _ => exact q1.elim
theorem r_joined {xs : Es} (h : OkJ X Cl W T xs es) (hl : 2 ≤ es.length) : OkE X Cl W T (.joined xs) (.JoinedStr es pos) := by
  obtain ⟨ts, h1, h2⟩ := h.ex
  have hv : PE X (.JoinedStr es pos) (tE X.K Cl W fun ρ => evJ T xs Str.empty ρ) := by
    cases es with
    | nil => simp at hl
    | cons e es =>
      cases es with
      | nil => simp at hl
      | cons e2 es => exact PE.imp (pe_joined h1) fun σ H Q hh => h2 _ σ H Q hh
  exact OkE.of hv (fun _ => rfl) (funext fun ρ => by simp only [ev, fin]) (funext fun ρ => by simp only [ev, fin]) (funext fun ρ => by simp only [ev, fin]; rfl)
/-! l.index(x) -/
theorem rowPy_rep {K : Frg} {G H : Hp} {d : D} {v : V} {ps : List PyData} (sm : Same G H) (r : RepB K Cl G H d v) (e : rowPy d = some ps) : ∃ ad xs, v = .ref ad ∧ SqL K H ad xs ∧ Dp K H v (.list ps) := by
  cases d with
  | lst ys =>
    obtain ⟨ad, xs, rfl, h1, h2⟩ := r.lst sm
    exact ⟨ad, xs, rfl, SqL.of h1, r.dp sm (by simp only [toPy]; rw [show toPys ys = some ps from e]; rfl)⟩
  | frl ys =>
    obtain ⟨ad, xs, rfl, h1, h2⟩ := r.frl sm
    exact ⟨ad, xs, rfl, h1, r.dp sm (by simp only [toPy]; rw [show toPys ys = some ps from e]; rfl)⟩
  | _ => cases e
theorem r_idxof (ok : XOk X N sc T Cl lv) {x y : E} (ha : OkE X Cl W T x a) (hb : OkE X Cl W T y b) (hs : isStar b = false) (hc0 : isCall0 a = false) (hline : (apos.endLine == pos.line) = true) :
    OkE X Cl W T (.idxof x y) (.Call (.Attribute a "index" apos) [b] [] pos) := by
  have hv : PE X (.Call (.Attribute a "index" apos) [b] [] pos) (tE X.K Cl W fun ρ => (ev T x .bor ρ).bind fun d => idxofR (ev T y .bor ρ) d) := by
    refine PE.imp (pe_bm PySem.F.plainAttrs_list PySem.F.slot_list_index (by kernel_rfl) (mt_indexD ok.hu) ha.b (pa_cons hb.b pa_nil (star_cons hs)) (base_of hc0) (by rw [star_cons hs]; rfl) hline (star_cons hs) rfl) fun σ H Q hh => ?_
    obtain ⟨G0, H0, G, ρ, sim, q⟩ := hh
    refine ⟨G0, H0, G, ρ, sim, ?_⟩
    refine headB (PostB.seqE (r := ev T x .bor ρ) q) fun v G1 H1 k1 ⟨d, G1', ed, k1', r1, q1⟩ => ?_
    cases hp : rowPy d with
    | none =>
      unfold idxofR at q1
      rw [hp] at q1
      exact q1.elim
    | some ps =>
      unfold idxofR at q1
      rw [hp] at q1
      replace q1 : PostE X.K Cl W G1' H1 σ ((ev T y .bor ρ).bind fun p => Res.ofO (idxofD ps p)) Q := q1
      obtain ⟨ad, xs, rfl, hL, hD⟩ := rowPy_rep k1'.low r1 hp
      refine ⟨.inl ⟨rfl, xs, hL⟩, G0, H0, G1', ρ, sim.grow k1', headB (PostB.seqE (r := ev T y .bor ρ) q1) fun w G2 H2 k2 ⟨d2, G2', ed2, k2', r2, q2⟩ => ?_⟩
      obtain ⟨d', hd, hq⟩ := PostE.ofO q2
      unfold idxofD at hd
      split at hd
      · rename_i qy hy
        split at hd
        · rename_i hc
          obtain ⟨j, hj, rfl⟩ := Option.map_eq_some_iff.mp hd
          obtain ⟨hj1, hj2, hj3⟩ := List.findIdx?_eq_some_iff_getElem.mp hj
          obtain ⟨ad2, xs2, e2, _, hD2⟩ := rowPy_rep k2'.low (r1.grow k2') hp
          cases e2
          exact ⟨ad, w, qy, ps, j, ps[j], rfl, rfl, hD2, r2.dp k2'.low hy, hc.2, hc.1, List.getElem?_eq_getElem hj1, hj2, fun m z' hm hz => by
            obtain ⟨hm1, rfl⟩ := List.getElem?_eq_some_iff.mp hz
            have := hj3 m hm
            simpa using this, hq _ G2' H2 (Ext.refl k2'.low) (by simp only [Rep])⟩
        · cases hd
      · cases hd
  exact OkE.of hv (fun _ => rfl) (funext fun ρ => by simp only [ev, fin]) (funext fun ρ => by simp only [ev, fin]) (funext fun ρ => by simp only [ev, fin]; rfl)
end
end Pu
/-! PuK: every expression that passes the check is worth what it is said to be. -/
namespace Pu
open PySem PySem.Spec PyProof.Rows L2

def ttOf (K : Frg) (Cl : ClT) (T : Tab) : Eo → TT
  | .no => tYes
  | .yes e => tT K Cl W0 (ev T e .tst)
theorem ttOf_ok {K : Frg} {Cl : ClT} {T : Tab} (c : Eo) : OkC K Cl (ttOf K Cl T c) (evc T c) := by
  intro σ H G0 H0 G ρ b Q sim e k
  cases c with
  | no =>
    simp only [evc] at e
    cases e
    exact k G H (Ext.refl sim.low)
  | yes x =>
    simp only [evc] at e
    refine ⟨G0, H0, G, ρ, sim, ?_⟩
    rw [e]
    exact k
theorem lc_lst (r : Res (List D)) (k : List D → Res (List D)) : ∀ d : D, (r.bind fun ds => (k ds).bind fun ys => Res.ok (D.lst ys)) = .ok d → ∃ ds, d = .lst ds := by
  intro d e
  cases r with
  | exc c ns ds => cases e
  | stuck => cases e
  | ok ds =>
    cases ek : k ds with
    | exc c ns ds => simp only [Res.bind, ek] at e; cases e
    | stuck => simp only [Res.bind, ek] at e; cases e
    | ok ys => simp only [Res.bind, ek] at e; cases e; exact ⟨_, rfl⟩
/-- the pieces of a comprehension -/
structure OkLc (X : Cx) (Cl : ClT) (W : WX) (T : Tab) (own : List (Str × Nat)) (elt : E) (tg : Tg) (it : It) (c : Eo) (x t i : Expr) (ifs : List Expr) (s2 : Scope) : Prop where
  pi : PI X t i (tI X.K Cl W true (evi T it true))
  blk : BlkOk X.N X.env.scope s2 own
  pg : ∀ (s : Shared) (H : Hp) (C : Addr) (cl : List (Str × Addr)) (fp : List Addr), PG (X.blk s H s2 (compEnvC s2 cl C X.env) fp) t (gT X.K tg)
  pt : ∀ (s : Shared) (H : Hp) (C : Addr) (cl : List (Str × Addr)) (fp : List Addr), PTs (X.blk s H s2 (compEnvC s2 cl C X.env) fp) ifs (ttOf X.K Cl T c)
  pe : ∀ (s : Shared) (H : Hp) (C : Addr) (cl : List (Str × Addr)) (fp : List Addr), PE (X.blk s H s2 (compEnvC s2 cl C X.env) fp) x (tE X.K Cl W0 (ev T elt .val))
  fold : ∀ x, foldedSetIterable i X.env x = pure x
  mem : ∀ j ∈ tgSlots tg, j ∈ own.map (·.2)
section
variable {X : Cx} {Cl : ClT} {W : WX} {T : Tab} {N : List Str} {sc : Scope} {lv : Nat}
theorem XOk.blk (ok : XOk X N sc T Cl lv) (s2 : Scope) (s : Shared) (H : Hp) (C : Addr) (cl : List (Str × Addr)) (fp : List Addr) : XOk (X.blk s H s2 (compEnvC s2 cl C X.env) fp) N (relS s2 sc) T Cl lv :=
  ⟨ok.names, by show relS s2 X.env.scope = _; rw [ok.scope], ok.calm, ok.nd, ok.room, ok.facts⟩
theorem may_blk (s2 : Scope) (s : Shared) (H : Hp) (C : Addr) (cl : List (Str × Addr)) (fp : List Addr) : ∀ x, locB s2 x = true → MayStore (X.blk s H s2 (compEnvC s2 cl C X.env) fp) x := by
  intro x hx
  rcases loc_of hx with h | h
  · have k : (relS s2 X.env.scope).names.lookup x = some .local := lookup_relS_keep (by decide) h
    exact ⟨.inl k, .inr k⟩
  · have k : (relS s2 X.env.scope).names.lookup x = some .cell := lookup_relS_keep (by decide) h
    refine ⟨.inr k, .inl ?_⟩
    show (s2.names.lookup x == some NameKind.cell) = true
    rw [h]
    rfl
theorem r_lc (ok : XOk X N sc T Cl lv) {own : List (Str × Nat)} {elt : E} {tg : Tg} {it : It} {c : Eo} {x t i : Expr} {ifs : List Expr} {s2 : Scope} {pos : Pos} (h : OkLc X Cl W T own elt tg it c x t i ifs s2) :
    OkE X Cl W T (.lc own elt tg it c) (.ListComp x [⟨t, i, ifs, 0⟩] s2 pos) := by
  have hv : PE X (.ListComp x [⟨t, i, ifs, 0⟩] s2 pos) (tE X.K Cl W fun ρ => (evi T it true ρ).bind fun ds => (lcL (asg tg) (evc T c) (ev T elt .val) (wipeR ρ (own.map (·.2))) ds).bind fun ys => .ok (.lst ys)) :=
    PE.imp (pe_lc ok.calm ok.nd h.pi h.blk h.pg h.pt h.pe h.fold) fun σ H Q hq => lc_red (ttOf_ok c) h.mem (by
      obtain ⟨G0, H0, G, ρ, sim, q⟩ := hq
      exact ⟨G0, H0, G, ρ, sim, PostE.toF q (lc_lst _ _)⟩)
  exact OkE.of hv (fun _ => rfl) (funext fun ρ => by simp only [ev, fin]) (funext fun ρ => by simp only [ev, fin]) (funext fun ρ => by simp only [ev, fin]; rfl)
end

theorem kwLen : ∀ {kws : List Keyword}, kwAll kws = true → (kwVals kws).length = (kwNames kws).length
  | [], _ => rfl
  | ⟨some x, e, _⟩ :: ks, h => by
    show (kwVals ks).length + 1 = (kwNames ks).length + 1
    rw [kwLen (kws := ks) h]
  | ⟨none, _, _⟩ :: _, h => by cases h
mutual
theorem sndE : ∀ (ir : E) {N : List Str} {sc : Scope} {e : Expr}, chk N sc ir e = true → ∀ {X : Cx} {Cl : ClT} {W : WX} {T : Tab} {lv : Nat}, XOk X N sc T Cl lv → Takes X W → OkE X Cl W T ir e
  | .var i, N, sc, e, h, X, Cl, W, T, lv, ok, tk => by
    simp only [chk] at h
    split at h
    · simp only [Bool.and_eq_true, decide_eq_true_eq] at h
      exact r_var ok h.1.1.1 h.1.1.2 h.1.2 h.2
    · cases h
  | .non, N, sc, e, h, X, Cl, W, T, lv, ok, tk => by
    simp only [chk] at h
    split at h
    · exact r_const (d := .non) pe_non (fun H => by simp only [Rep]) (fun _ => rfl) fun m ρ => by simp only [ev]
    · cases h
  | .bl b, N, sc, e, h, X, Cl, W, T, lv, ok, tk => by
    simp only [chk] at h
    split at h
    · simp only [decide_eq_true_eq] at h
      subst h
      exact r_const (d := .bl b) pe_bl (fun H => by simp only [Rep]) (fun _ => rfl) fun m ρ => by simp only [ev]
    · cases h
  | .int b, N, sc, e, h, X, Cl, W, T, lv, ok, tk => by
    simp only [chk] at h
    split at h
    · simp only [decide_eq_true_eq] at h
      subst h
      exact r_const (d := .int b) pe_int (fun H => by simp only [Rep]) (fun _ => rfl) fun m ρ => by simp only [ev]
    · cases h
  | .str b, N, sc, e, h, X, Cl, W, T, lv, ok, tk => by
    simp only [chk] at h
    split at h
    · simp only [decide_eq_true_eq] at h
      subst h
      exact r_const (d := .str b) pe_str (fun H => by simp only [Rep]) (fun _ => rfl) fun m ρ => by simp only [ev]
    · cases h
  | .glob x, N, sc, e, h, X, Cl, W, T, lv, ok, tk => by
    simp only [chk] at h
    split at h
    · simp only [Bool.and_eq_true, decide_eq_true_eq] at h
      obtain ⟨⟨rfl, h2⟩, h3⟩ := h
      exact r_glob ok h2 h3
    · cases h
  | .bin o a b, N, sc, e, h, X, Cl, W, T, lv, ok, tk => by
    simp only [chk] at h
    split at h
    · simp only [Bool.and_eq_true, decide_eq_true_eq] at h
      obtain ⟨⟨rfl, h2⟩, h3⟩ := h
      exact r_bin (sndE a h2 ok tk) (sndE b h3 ok tk)
    · cases h
  | .neg a, N, sc, e, h, X, Cl, W, T, lv, ok, tk => by
    simp only [chk] at h
    split at h
    · exact r_neg (sndE a h ok tk)
    · cases h
  | .cmp o a b, N, sc, e, h, X, Cl, W, T, lv, ok, tk => by
    simp only [chk] at h
    split at h
    · simp only [Bool.and_eq_true, decide_eq_true_eq, Bool.not_eq_true'] at h
      obtain ⟨⟨⟨rfl, h2⟩, h3⟩, h4⟩ := h
      exact r_cmp ok (sndE a h2 ok tk) (sndE b h3 ok tk) h4
    · cases h
  | .cmp2 o o2 a b c, N, sc, e, h, X, Cl, W, T, lv, ok, tk => by
    simp only [chk] at h
    split at h
    · simp only [Bool.and_eq_true, decide_eq_true_eq, Bool.not_eq_true'] at h
      obtain ⟨⟨⟨⟨⟨rfl, rfl⟩, h2⟩, h3⟩, h4⟩, h5⟩ := h
      exact r_cmp2 ok (sndE a h2 ok tk) (sndE b h3 ok tk) (sndE c h4 ok tk) h5
    · cases h
  | .not_ a, N, sc, e, h, X, Cl, W, T, lv, ok, tk => by
    simp only [chk] at h
    split at h
    · exact r_not (sndE a h ok tk)
    · cases h
  | .ands xs, N, sc, e, h, X, Cl, W, T, lv, ok, tk => by
    simp only [chk] at h
    split at h
    · simp only [Bool.and_eq_true, Bool.not_eq_true'] at h
      exact r_ands (sndRow xs h.1 h.2 ok tk)
    · cases h
  | .ors xs, N, sc, e, h, X, Cl, W, T, lv, ok, tk => by
    simp only [chk] at h
    split at h
    · simp only [Bool.and_eq_true, Bool.not_eq_true'] at h
      exact r_ors (sndRow xs h.1 h.2 ok tk)
    · cases h
  | .ife c a b, N, sc, e, h, X, Cl, W, T, lv, ok, tk => by
    simp only [chk] at h
    split at h
    · simp only [Bool.and_eq_true] at h
      exact r_ife (sndE c h.1.1 ok tk) (sndE a h.1.2 ok tk) (sndE b h.2 ok tk)
    · cases h
  | .call f xs, N, sc, e, h, X, Cl, W, T, lv, ok, tk => by
    simp only [chk] at h
    split at h
    · simp only [Bool.and_eq_true, decide_eq_true_eq, Bool.not_eq_true'] at h
      obtain ⟨⟨⟨⟨rfl, h2⟩, h3⟩, h4⟩, h5⟩ := h
      rename_i es _
      cases xs with
      | nil => cases h5
      | cons y ys =>
        cases es with
        | nil => simp only [chks] at h4; cases h4
        | cons z zs =>
          have h6 := h4
          simp only [chks, Bool.and_eq_true, Bool.not_eq_true'] at h6
          exact r_call ok tk h2 h3 (sndEs (.cons y ys) h4 ok tk) (sndEs ys h6.2 ok tk) h6.1.2
    · cases h
  | .callk f xs ks ys, N, sc, e, h, X, Cl, W, T, lv, ok, tk => by
    simp only [chk] at h
    split at h
    · simp only [Bool.and_eq_true, decide_eq_true_eq, Bool.not_eq_true'] at h
      obtain ⟨⟨⟨⟨⟨⟨⟨rfl, h2⟩, h3⟩, h4⟩, h5⟩, h6⟩, h7⟩, h8⟩ := h
      rename_i _ es kws _
      cases xs with
      | nil => cases h5
      | cons y zs =>
        cases es with
        | nil => simp only [chks] at h4; cases h4
        | cons w ws =>
          have h9 := h4
          simp only [chks, Bool.and_eq_true, Bool.not_eq_true'] at h9
          refine r_callk ok tk h2 h3 (sndEs (.cons y zs) h4 ok tk) (sndEs zs h9.2 ok tk) h9.1.2 h6 h7 (sndEs ys h8 ok tk) ?_
          rw [chks_len h8, ← h7]
          exact kwLen h6
    · cases h
  | .bi b xs, N, sc, e, h, X, Cl, W, T, lv, ok, tk => by
    simp only [chk] at h
    split at h
    · simp only [Bool.and_eq_true, decide_eq_true_eq, Bool.not_eq_true'] at h
      obtain ⟨⟨⟨rfl, h2⟩, h4⟩, h5⟩ := h
      rename_i _ es _
      cases xs with
      | nil => cases h5
      | cons y ys =>
        cases es with
        | nil => simp only [chks] at h4; cases h4
        | cons z zs =>
          have h6 := h4
          simp only [chks, Bool.and_eq_true, Bool.not_eq_true'] at h6
          exact r_bi ok h2 (sndEs (.cons y ys) h4 ok tk) (sndEs ys h6.2 ok tk) h6.1.2
    · cases h
  | .isi a ts, N, sc, e, h, X, Cl, W, T, lv, ok, tk => by
    simp only [chk] at h
    split at h
    · simp only [Bool.and_eq_true, decide_eq_true_eq, Bool.not_eq_true'] at h
      obtain ⟨⟨⟨⟨⟨⟨rfl, h2⟩, h3⟩, h4⟩, h5⟩, h6⟩, h7⟩ := h
      exact r_isi ok h2 (sndE a h3 ok tk) h6 h4 h7 h5
    · cases h
  | .isi1 a t, N, sc, e, h, X, Cl, W, T, lv, ok, tk => by
    simp only [chk] at h
    split at h
    · simp only [Bool.and_eq_true, decide_eq_true_eq, Bool.not_eq_true'] at h
      obtain ⟨⟨⟨⟨⟨rfl, h2⟩, h3⟩, rfl⟩, h5⟩, h6⟩ := h
      exact r_isi1 ok h2 (sndE a h3 ok tk) h6 h5
    · cases h
  | .fld a f, N, sc, e, h, X, Cl, W, T, lv, ok, tk => by
    simp only [chk] at h
    split at h
    · simp only [Bool.and_eq_true, decide_eq_true_eq, Bool.not_eq_true'] at h
      obtain ⟨⟨rfl, h2⟩, h3⟩ := h
      exact r_fld ok (sndE a h2 ok tk) h3
    · cases h
  | .idx a b, N, sc, e, h, X, Cl, W, T, lv, ok, tk => by
    simp only [chk] at h
    split at h
    · simp only [Bool.and_eq_true, Bool.not_eq_true'] at h
      exact r_idx (sndE a h.1.1 ok tk) (sndE b h.1.2 ok tk) h.2
    · cases h
  | .slc a lo hi, N, sc, e, h, X, Cl, W, T, lv, ok, tk => by
    simp only [chk] at h
    split at h
    · simp only [Bool.and_eq_true] at h
      exact r_slc (sndE a h.1.1 ok tk) (sndEo lo h.1.2 ok tk) (sndEo hi h.2 ok tk)
    · cases h
  | .tup xs, N, sc, e, h, X, Cl, W, T, lv, ok, tk => by
    simp only [chk] at h
    split at h
    · simp only [Bool.and_eq_true, decide_eq_true_eq] at h
      exact r_tup (sndEs xs h.1 ok tk) (chks_len h.1) h.2
    · cases h
  | .lst xs, N, sc, e, h, X, Cl, W, T, lv, ok, tk => by
    simp only [chk] at h
    split at h
    · simp only [Bool.and_eq_true, decide_eq_true_eq] at h
      exact r_lst (sndEs xs h.1 ok tk) (chks_len h.1) h.2
    · cases h
  | .bad, N, sc, e, h, X, Cl, W, T, lv, ok, tk => by
    refine ⟨⟨fun pins s σ H Q I ⟨G0, H0, G, ρ, sim, q⟩ => ?_⟩, ⟨fun pins s σ H Q I ⟨G0, H0, G, ρ, sim, q⟩ => ?_⟩, ⟨fun pins s σ H Q I ⟨G0, H0, G, ρ, sim, q⟩ => ?_⟩⟩
    · simp only [ev] at q
      exact q.elim
    · simp only [ev] at q
      exact q.elim
    · simp only [ev] at q
      exact q.elim
  | .lenm a, N, sc, e, h, X, Cl, W, T, lv, ok, tk => by
    simp only [chk] at h
    split at h
    · simp only [Bool.and_eq_true, decide_eq_true_eq, Bool.not_eq_true'] at h
      obtain ⟨⟨⟨rfl, h2⟩, h3⟩, h4⟩ := h
      exact r_lenm ok tk h2 (sndE a h3 ok tk) h4
    · cases h
  | .meth a f xs, N, sc, e, h, X, Cl, W, T, lv, ok, tk => by
    simp only [chk] at h
    split at h
    · simp only [Bool.and_eq_true, decide_eq_true_eq, Bool.not_eq_true'] at h
      obtain ⟨⟨⟨⟨⟨rfl, h2⟩, h3⟩, h4⟩, h5⟩, h6⟩ := h
      rename_i o m ap es cp
      cases xs with
      | nil =>
        cases es with
        | nil => exact r_meth0 ok tk (sndE a h2 ok tk) h4 h5
        | cons _ _ => simp only [chks] at h3; cases h3
      | cons y ys =>
        cases es with
        | nil => simp only [chks] at h3; cases h3
        | cons w ws =>
          have h9 := h3
          simp only [chks, Bool.and_eq_true, Bool.not_eq_true'] at h9
          exact r_meth ok tk (sndE a h2 ok tk) (sndEs (.cons y ys) h3 ok tk) (sndEs ys h9.2 ok tk) h9.1.2 h4 h5 h6
    · cases h
  | .gcd xs, N, sc, e, h, X, Cl, W, T, lv, ok, tk => by
    simp only [chk] at h
    split at h
    · simp only [Bool.and_eq_true, decide_eq_true_eq, Bool.not_eq_true'] at h
      obtain ⟨⟨⟨rfl, h2⟩, h4⟩, h5⟩ := h
      rename_i _ es _
      cases xs with
      | nil => cases h5
      | cons y ys =>
        cases es with
        | nil => simp only [chks] at h4; cases h4
        | cons z zs =>
          have h6 := h4
          simp only [chks, Bool.and_eq_true, Bool.not_eq_true'] at h6
          exact r_gcd ok h2 (sndEs (.cons y ys) h4 ok tk) (sndEs ys h6.2 ok tk) h6.1.2
    · cases h
  | .sqr t a, N, sc, e, h, X, Cl, W, T, lv, ok, tk => by
    simp only [chk] at h
    split at h
    · simp only [Bool.and_eq_true, decide_eq_true_eq, Bool.not_eq_true'] at h
      obtain ⟨⟨⟨⟨⟨rfl, h2⟩, rfl⟩, h4⟩, h5⟩, h6⟩ := h
      exact r_sqr ok h2 h4 (sndE a h5 ok tk) h6
    · cases h
  | .sq1 t a, N, sc, e, h, X, Cl, W, T, lv, ok, tk => by
    simp only [chk] at h
    split at h
    · simp only [Bool.and_eq_true, decide_eq_true_eq, Bool.not_eq_true'] at h
      obtain ⟨⟨⟨⟨⟨rfl, h2⟩, rfl⟩, h4⟩, h5⟩, h6⟩ := h
      exact r_sq1 ok h2 h4 (sndE a h5 ok tk) h6
    · cases h
  | .sq2 t a b, N, sc, e, h, X, Cl, W, T, lv, ok, tk => by
    simp only [chk] at h
    split at h
    · simp only [Bool.and_eq_true, decide_eq_true_eq, Bool.not_eq_true'] at h
      obtain ⟨⟨⟨⟨⟨⟨⟨rfl, h2⟩, rfl⟩, h4⟩, h5⟩, h6⟩, h7⟩, h8⟩ := h
      exact r_sq2 ok h2 h4 (sndE a h5 ok tk) (sndE b h6 ok tk) h7 h8
    · cases h
  | .fmt a, N, sc, e, h, X, Cl, W, T, lv, ok, tk => by
    simp only [chk] at h
    split at h
    · exact r_fmt (sndE a h ok tk)
    · cases h
  | .joined xs, N, sc, e, h, X, Cl, W, T, lv, ok, tk => by
    simp only [chk] at h
    split at h
    · simp only [Bool.and_eq_true, decide_eq_true_eq] at h
      exact r_joined (sndJ xs h.1 ok tk) h.2
    · cases h
  | .idxof a b, N, sc, e, h, X, Cl, W, T, lv, ok, tk => by
    simp only [chk] at h
    split at h
    · simp only [Bool.and_eq_true, decide_eq_true_eq, Bool.not_eq_true'] at h
      obtain ⟨⟨⟨⟨⟨rfl, h2⟩, h3⟩, h4⟩, h5⟩, h6⟩ := h
      exact r_idxof ok (sndE a h2 ok tk) (sndE b h3 ok tk) h4 h5 h6
    · cases h
  | .lc own elt tg it c, N, sc, e, h, X, Cl, W, T, lv, ok, tk => by
    simp only [chk] at h
    split at h
    · simp only [Bool.and_eq_true, Bool.not_eq_true'] at h
      obtain ⟨⟨⟨⟨⟨⟨⟨h1, h2⟩, h3⟩, h4⟩, h5⟩, h6⟩, h7⟩, h8⟩ := h
      refine r_lc ok ⟨sndI it h5 ok tk _ true, by rw [ok.names, ok.scope]; exact blkOk_by h1, fun s H C cl fp => pg_tgt (ok.blk _ s H C cl fp) (may_blk _ s H C cl fp) h4, fun s H C cl fp => ?_, fun s H C cl fp => (sndE elt h7 (ok.blk _ s H C cl fp) takes0).v, set_ok h6, ?_⟩
      · cases c with
        | no =>
          simp only [chkc] at h8
          split at h8
          · exact pts_nil
          · cases h8
        | yes y =>
          simp only [chkc] at h8
          split at h8
          · exact pts_one (sndE y h8 (ok.blk _ s H C cl fp) takes0).t
          · cases h8
      · intro j hj
        cases tg with
        | nm k =>
          have e1 : j = k := by simpa [tgSlots] using hj
          subst e1
          simpa using h3
        | tp ks =>
          rw [List.all_eq_true] at h3
          simpa using h3 j hj
    · cases h
theorem sndEs : ∀ (xs : Es) {N : List Str} {sc : Scope} {es : List Expr}, chks N sc xs es = true → ∀ {X : Cx} {Cl : ClT} {W : WX} {T : Tab} {lv : Nat}, XOk X N sc T Cl lv → Takes X W → OkArgs X Cl W T xs es
  | .nil, N, sc, es, h, X, Cl, W, T, lv, ok, tk => by
    simp only [chks] at h
    split at h
    · exact args_nil
    · cases h
  | .cons y ys, N, sc, es, h, X, Cl, W, T, lv, ok, tk => by
    simp only [chks] at h
    split at h
    · simp only [Bool.and_eq_true, Bool.not_eq_true'] at h
      exact args_cons (sndE y h.1.1 ok tk) h.1.2 (sndEs ys h.2 ok tk)
    · cases h
theorem sndJ : ∀ (xs : Es) {N : List Str} {sc : Scope} {es : List Expr}, chks N sc xs es = true → ∀ {X : Cx} {Cl : ClT} {W : WX} {T : Tab} {lv : Nat}, XOk X N sc T Cl lv → Takes X W → OkJ X Cl W T xs es
  | .nil, N, sc, es, h, X, Cl, W, T, lv, ok, tk => by
    simp only [chks] at h
    split at h
    · exact j_nil
    · cases h
  | .cons y ys, N, sc, es, h, X, Cl, W, T, lv, ok, tk => by
    simp only [chks] at h
    split at h
    · simp only [Bool.and_eq_true, Bool.not_eq_true'] at h
      exact j_cons (sndE y h.1.1 ok tk) (sndJ ys h.2 ok tk)
    · cases h
theorem sndRow : ∀ (xs : Es) {N : List Str} {sc : Scope} {es : List Expr}, chks N sc xs es = true → xs.isNil = false → ∀ {X : Cx} {Cl : ClT} {W : WX} {T : Tab} {lv : Nat}, XOk X N sc T Cl lv → Takes X W → OkRow X Cl W T xs es
  | .nil, N, sc, es, h, hn, X, Cl, W, T, lv, ok, tk => by cases hn
  | .cons y ys, N, sc, es, h, hn, X, Cl, W, T, lv, ok, tk => by
    simp only [chks] at h
    split at h
    · simp only [Bool.and_eq_true, Bool.not_eq_true'] at h
      cases ys with
      | nil =>
        rename_i w xs
        cases xs with
        | nil => exact row_one (sndE y h.1.1 ok tk)
        | cons _ _ => have := h.2; simp only [chks] at this; cases this
      | cons z zs =>
        rename_i w xs
        cases xs with
        | nil => have := h.2; simp only [chks] at this; cases this
        | cons _ _ => exact row_cons (sndE y h.1.1 ok tk) (sndRow (.cons z zs) h.2 rfl ok tk)
    · cases h
theorem sndEo : ∀ (o : Eo) {N : List Str} {sc : Scope} {e : Option Expr}, chko N sc o e = true → ∀ {X : Cx} {Cl : ClT} {W : WX} {T : Tab} {lv : Nat}, XOk X N sc T Cl lv → Takes X W → PrtOk X Cl W e (evo T o)
  | .no, N, sc, e, h, X, Cl, W, T, lv, ok, tk => by
    simp only [chko] at h
    split at h
    · simp only [evo]
      trivial
    · cases h
  | .yes x, N, sc, e, h, X, Cl, W, T, lv, ok, tk => by
    simp only [chko] at h
    split at h
    · simp only [evo]
      exact (sndE x h ok tk).b
    · cases h
theorem sndI : ∀ (it : It) {N : List Str} {sc : Scope} {e : Expr}, chkI N sc it e = true → ∀ {X : Cx} {Cl : ClT} {W : WX} {T : Tab} {lv : Nat}, XOk X N sc T Cl lv → Takes X W → ∀ (tg : Expr) (bor : Bool), PI X tg e (tI X.K Cl W bor (evi T it bor))
  | .seq x, N, sc, e, h, X, Cl, W, T, lv, ok, tk => fun tg bor => by
    simp only [chkI] at h
    have := pi_seq (tg := tg) (sndE x h ok tk) bor
    cases bor
    · rw [show evi T (.seq x) false = fun ρ => (ev T x (md false) ρ).bind itemsR from funext fun ρ => by simp only [evi, md]]; exact this
    · rw [show evi T (.seq x) true = fun ρ => (ev T x (md true) ρ).bind itemsR from funext fun ρ => by simp only [evi, md]]; exact this
  | .rng x, N, sc, e, h, X, Cl, W, T, lv, ok, tk => fun tg bor => by
    simp only [chkI] at h
    split at h
    · simp only [Bool.and_eq_true, decide_eq_true_eq, Bool.not_eq_true'] at h
      obtain ⟨⟨⟨rfl, h2⟩, h3⟩, h4⟩ := h
      rw [show evi T (.rng x) bor = fun ρ => (ev T x .bor ρ).bind fun y => rngR (.int 0) y from funext fun ρ => by cases bor <;> simp only [evi]]
      exact pi_rng ok h2 (sndE x h3 ok tk) h4 bor
    · cases h
  | .rng2 x y, N, sc, e, h, X, Cl, W, T, lv, ok, tk => fun tg bor => by
    simp only [chkI] at h
    split at h
    · simp only [Bool.and_eq_true, decide_eq_true_eq, Bool.not_eq_true'] at h
      obtain ⟨⟨⟨⟨⟨rfl, h2⟩, h3⟩, h4⟩, h5⟩, h6⟩ := h
      rw [show evi T (.rng2 x y) bor = fun ρ => (ev T x .bor ρ).bind fun x => (ev T y .bor ρ).bind fun y => rngR x y from funext fun ρ => by cases bor <;> simp only [evi]]
      exact pi_rng2 ok h2 (sndE x h3 ok tk) (sndE y h4 ok tk) h5 h6 bor
    · cases h
  | .rev x, N, sc, e, h, X, Cl, W, T, lv, ok, tk => fun tg bor => by
    simp only [chkI] at h
    split at h
    · simp only [Bool.and_eq_true, decide_eq_true_eq, Bool.not_eq_true'] at h
      obtain ⟨⟨⟨rfl, h2⟩, h3⟩, h4⟩ := h
      cases bor
      · rw [show evi T (.rev x) false = fun ρ => (ev T x (md false) ρ).bind revR from funext fun ρ => by simp only [evi, md]]; exact pi_rev ok h2 (sndE x h3 ok tk) h4 false
      · rw [show evi T (.rev x) true = fun ρ => (ev T x (md true) ρ).bind revR from funext fun ρ => by simp only [evi, md]]; exact pi_rev ok h2 (sndE x h3 ok tk) h4 true
    · cases h
end
theorem sndLc {own : List (Str × Nat)} {elt : E} {tg : Tg} {it : It} {c : Eo} {N : List Str} {sc : Scope} {x t i : Expr} {ifs : List Expr} {s2 : Scope} {p : Pos} (h : chk N sc (.lc own elt tg it c) (.ListComp x [⟨t, i, ifs, 0⟩] s2 p) = true)
    {X : Cx} {Cl : ClT} {W : WX} {T : Tab} {lv : Nat} (ok : XOk X N sc T Cl lv) (tk : Takes X W) : OkLc X Cl W T own elt tg it c x t i ifs s2 := by
  simp only [chk, Bool.and_eq_true, Bool.not_eq_true'] at h
  obtain ⟨⟨⟨⟨⟨⟨⟨h1, h2⟩, h3⟩, h4⟩, h5⟩, h6⟩, h7⟩, h8⟩ := h
  refine ⟨sndI it h5 ok tk _ true, by rw [ok.names, ok.scope]; exact blkOk_by h1, fun s H C cl fp => pg_tgt (ok.blk _ s H C cl fp) (may_blk _ s H C cl fp) h4, fun s H C cl fp => ?_, fun s H C cl fp => (sndE elt h7 (ok.blk _ s H C cl fp) takes0).v, set_ok h6, ?_⟩
  · cases c with
    | no =>
      simp only [chkc] at h8
      split at h8
      · exact pts_nil
      · cases h8
    | yes y =>
      simp only [chkc] at h8
      split at h8
      · exact pts_one (sndE y h8 (ok.blk _ s H C cl fp) takes0).t
      · cases h8
  · intro j hj
    cases tg with
    | nm k =>
      have e1 : j = k := by simpa [tgSlots] using hj
      subst e1
      simpa using h3
    | tp ks =>
      rw [List.all_eq_true] at h3
      simpa using h3 j hj
end Pu
/-! PuL: statements as a small language of their own, what they do to the slots, and when a piece of the program's text is such a statement. -/
namespace Pu
open PySem PySem.Spec PyProof.Rows L2

mutual
inductive S where
  | set (i : Nat) (e : E) | setT (tg : Tg) (e : E) | setI (i : Nat) (ix e : E) | app (i : Nat) (e : E) | exp (e : E)
  | ret (e : Eo) | ite (c : E) (a b : Ss) | for_ (tg : Tg) (it : It) (b : Ss) | whl (c : E) (b : Ss)
  | brk | cnt | pass
  | setF (i : Nat) (f : Str) (e : E) | bad
inductive Ss where
  | nil | cons (s : S) (ss : Ss)
end
/-- how a statement ends -/
inductive SR where
  | nx (ρ : Ro) | bk (ρ : Ro) | ct (ρ : Ro) | rt (d : D) | ex (ρ : Ro) (c : Str) (ns : List Str) (ds : List D) | stuck

/-! the slots whose lists are handed on as values -/
mutual
@[simp] def pv : E → Md → List Nat
  | .var i, .val => [i]
  | .var _, _ => []
  | .non, _ => []
  | .bl _, _ => []
  | .int _, _ => []
  | .str _, _ => []
  | .glob _, _ => []
  | .bin _ a b, _ => pv a .bor ++ pv b .bor
  | .neg a, _ => pv a .bor
  | .cmp _ a b, _ => pv a .bor ++ pv b .bor
  | .cmp2 _ _ a b c, _ => pv a .bor ++ pv b .bor ++ pv c .bor
  | .not_ a, .tst => pv a .tst
  | .not_ a, _ => pv a .val
  | .ands xs, .tst => pvs xs .tst
  | .ands xs, _ => pvs xs .val
  | .ors xs, .tst => pvs xs .tst
  | .ors xs, _ => pvs xs .val
  | .ife c a b, _ => pv c .tst ++ pv a .val ++ pv b .val
  | .call _ xs, _ => pvs xs .val
  | .callk _ xs _ ys, _ => pvs xs .val ++ pvs ys .val
  | .bi _ xs, _ => pvs xs .bor
  | .isi a _, _ => pv a .bor
  | .isi1 a _, _ => pv a .bor
  | .fld a _, _ => pv a .bor
  | .idx a b, _ => pv a .bor ++ pv b .bor
  | .slc a lo hi, _ => pv a .bor ++ pvo lo .bor ++ pvo hi .bor
  | .tup xs, _ => pvs xs .val
  | .lst xs, _ => pvs xs .val
  | .lc _ elt _ it c, _ => pvi it .bor ++ pv elt .val ++ pvo c .tst
  | .bad, _ => []
  | .lenm a, _ => pv a .val
  | .meth a _ xs, _ => pv a .val ++ pvs xs .val
  | .gcd xs, _ => pvs xs .bor
  | .sqr _ a, _ => pv a .bor
  | .sq1 _ a, _ => pv a .bor
  | .sq2 _ a b, _ => pv a .bor ++ pv b .bor
  | .fmt a, _ => pv a .bor
  | .joined xs, _ => pvs xs .bor
  | .idxof a b, _ => pv a .bor ++ pv b .bor
@[simp] def pvs : Es → Md → List Nat
  | .nil, _ => []
  | .cons e es, m => pv e m ++ pvs es m
@[simp] def pvo : Eo → Md → List Nat
  | .no, _ => []
  | .yes e, m => pv e m
@[simp] def pvi : It → Md → List Nat
  | .seq e, m => pv e m
  | .rng a, _ => pv a .bor
  | .rng2 a b, _ => pv a .bor ++ pv b .bor
  | .rev e, m => pv e m
end
/-- an expression whose list is always a new one -/
@[simp] def fresh : E → Bool
  | .lst _ => true
  | .lc _ _ _ _ _ => true
  | .bi .list _ => true
  | _ => false
@[simp] def slOf (e : E) (d : D) : Sl := match fresh e, d with
  | true, .lst ds => .own ds
  | _, d => .val d
def onD (ρ : Ro) (r : Res D) (k : D → SR) : SR := match r with
  | .ok d => k d
  | .exc c ns ds => .ex ρ c ns ds
  | .stuck => .stuck
def onB (ρ : Ro) (r : Res D) (a b : SR) : SR := match r with
  | .ok (.bl true) => a
  | .ok (.bl false) => b
  | .exc c ns ds => .ex ρ c ns ds
  | _ => .stuck
def ownR (ρ : Ro) (i : Nat) (k : List D → SR) : SR := match ρ[i]? with
  | some (.own ds) => k ds
  | _ => .stuck
def objR (ρ : Ro) (i : Nat) (k : Str → List Str → List D → SR) : SR := match ρ[i]? with
  | some (.obj c ns ds) => k c ns ds
  | _ => .stuck
def setFR (T : Tab) (ρ : Ro) (i : Nat) (f : Str) (d : D) (c : Str) (ns : List Str) (ds : List D) : SR :=
  if T.fd c f = true ∧ f ∉ ns ∧ ns.length < 999 then .nx (ρ.set i (.obj c (ns ++ [f]) (ds ++ [d]))) else .stuck
def appR (ρ : Ro) (i : Nat) (ds : List D) (d : D) : SR := if ds.length < sizeLine then .nx (ρ.set i (.own (ds ++ [d]))) else .stuck
def setIR (ρ : Ro) (i : Nat) (ds : List D) (d k : D) : SR := match k with
  | .int z => match ixN ds.length z with
    | some j => .nx (ρ.set i (.own (ds.set j d)))
    | none => .stuck
  | _ => .stuck
def asgR (tg : Tg) (ρ : Ro) (d : D) : SR := match asg tg d ρ with
  | some ρ' => .nx ρ'
  | none => .stuck
def forL (tg : Tg) (body : Ro → SR) : List D → Ro → SR
  | [], ρ => .nx ρ
  | d :: ds, ρ => match asg tg d ρ with
    | none => .stuck
    | some ρ1 => match body ρ1 with
      | .nx ρ2 => forL tg body ds ρ2
      | .ct ρ2 => forL tg body ds ρ2
      | .bk ρ2 => .nx ρ2
      | .rt d => .rt d
      | .ex ρ c ns ds => .ex ρ c ns ds
      | .stuck => .stuck
def forR (tg : Tg) (body : Ro → SR) (ρ : Ro) (r : Res (List D)) : SR := match r with
  | .ok ds => forL tg body ds ρ
  | .exc c ns ds => .ex ρ c ns ds
  | .stuck => .stuck
def whlL (ps : List Nat) (c : Ro → Res D) (body : Ro → SR) : Nat → Ro → SR
  | 0, _ => .stuck
  | n + 1, ρ => onB (pubs ps ρ) (c (pubs ps ρ)) (match body (pubs ps ρ) with
      | .nx ρ2 => whlL ps c body n ρ2
      | .ct ρ2 => whlL ps c body n ρ2
      | .bk ρ2 => .nx ρ2
      | .rt d => .rt d
      | .ex ρ c ns ds => .ex ρ c ns ds
      | .stuck => .stuck) (.nx (pubs ps ρ))
def thenR (r : SR) (k : Ro → SR) : SR := match r with
  | .nx ρ => k ρ
  | .bk ρ => .bk ρ
  | .ct ρ => .ct ρ
  | .rt d => .rt d
  | .ex ρ c ns ds => .ex ρ c ns ds
  | .stuck => .stuck
mutual
def ex (T : Tab) : S → Ro → SR
  | .set i e, ρ => onD (pubs (pv e .val) ρ) (ev T e .val (pubs (pv e .val) ρ)) fun d => .nx ((pubs (pv e .val) ρ).set i (slOf e d))
  | .setT tg e, ρ => onD (pubs (pv e .val) ρ) (ev T e .val (pubs (pv e .val) ρ)) fun d => asgR tg (pubs (pv e .val) ρ) d
  | .setI i ix e, ρ => onD (pubs (pv e .val ++ pv ix .bor) ρ) (ev T e .val (pubs (pv e .val ++ pv ix .bor) ρ)) fun d => ownR (pubs (pv e .val ++ pv ix .bor) ρ) i fun ds => onD (pubs (pv e .val ++ pv ix .bor) ρ) (ev T ix .bor (pubs (pv e .val ++ pv ix .bor) ρ)) fun k => setIR (pubs (pv e .val ++ pv ix .bor) ρ) i ds d k
  | .app i e, ρ => ownR (pubs (pv e .val) ρ) i fun ds => onD (pubs (pv e .val) ρ) (ev T e .val (pubs (pv e .val) ρ)) fun d => appR (pubs (pv e .val) ρ) i ds d
  | .exp e, ρ => onD (pubs (pv e .val) ρ) (ev T e .val (pubs (pv e .val) ρ)) fun _ => .nx (pubs (pv e .val) ρ)
  | .ret o, ρ => match o with
    | .no => .rt .non
    | .yes e => onD (pubs (pv e .val) ρ) (ev T e .val (pubs (pv e .val) ρ)) fun d => .rt d
  | .ite c a b, ρ => onB (pubs (pv c .tst) ρ) (ev T c .tst (pubs (pv c .tst) ρ)) (exs T a (pubs (pv c .tst) ρ)) (exs T b (pubs (pv c .tst) ρ))
  | .for_ tg it b, ρ => forR tg (exs T b) (pubs (pvi it .val) ρ) (evi T it false (pubs (pvi it .val) ρ))
  | .whl c b, ρ => whlL (pv c .tst) (ev T c .tst) (exs T b) T.fu ρ
  | .brk, ρ => .bk ρ
  | .cnt, ρ => .ct ρ
  | .pass, ρ => .nx ρ
  | .setF i f e, ρ => onD (pubs (pv e .val) ρ) (ev T e .val (pubs (pv e .val) ρ)) fun d => objR (pubs (pv e .val) ρ) i (setFR T (pubs (pv e .val) ρ) i f d)
  | .bad, _ => .stuck
def exs (T : Tab) : Ss → Ro → SR
  | .nil, ρ => .nx ρ
  | .cons s ss, ρ => thenR (ex T s ρ) (exs T ss)
end

/-! ### the text is such a statement -/
def isComp : Expr → Bool
  | .ListComp _ _ _ _ => true
  | .SetComp _ _ _ _ => true
  | .DictComp _ _ _ _ _ => true
  | _ => false
/-- a name that is a comprehension's own -/
def ownName (x : Str) : Expr → Bool
  | .ListComp _ _ s _ => s.names.any fun (n, k) => n == x && (k == .local || k == .cell)
  | _ => false
/-- how a comprehension is stored: straight on (by its line) or as any value -/
def lineOk (y : Pos) (x : Str) (sc : Scope) : Expr → Bool
  | .ListComp _ _ _ p => (y.line == p.line) && (match sc.names.lookup x with | some .local => true | some .cell => true | _ => false)
  | _ => true
def isTupE : Expr → Bool
  | .Tuple _ _ _ => true
  | _ => false
mutual
def chS (N : List Str) (sc : Scope) : S → Stmt → Bool
  | .set i e, ss => match ss with
    | .Assign [.Name x y] v _ => decide (N[i]? = some x) && locB sc x && decide (i < N.length) && chk N sc e v && lineOk y x sc v && !ownName x v
    | _ => false
  | .setT tg e, ss => match ss with
    | .Assign [.Tuple es k y] v _ => tgChk N sc tg (.Tuple es k y) && chk N sc e v && !isTupE v && !isComp v
    | _ => false
  | .setI i ix e, ss => match ss with
    | .Assign [.Subscript (.Name x _) k _] v _ => decide (N[i]? = some x) && visB sc x && decide (x ≠ "__debug__") && decide (x ≠ "__classdict__") && chk N sc ix k && chk N sc e v && !isSlc k && !isComp v
    | _ => false
  | .app i e, ss => match ss with
    | .Expr (.Call (.Attribute (.Name x _) m ap) [v] [] cp) _ => decide (N[i]? = some x) && visB sc x && decide (x ≠ "__debug__") && decide (x ≠ "__classdict__") && decide (m = "append") && chk N sc e v && !isStar v && (ap.endLine == cp.line)
    | _ => false
  | .exp e, ss => match ss with
    | .Expr v _ => chk N sc e v && !isComp v
    | _ => false
  | .ret o, ss => match ss with
    | .Return v _ => chko N sc o v
    | _ => false
  | .ite c a b, ss => match ss with
    | .If t x y _ => chk N sc c t && chSs N sc a x && chSs N sc b y
    | _ => false
  | .for_ tg it b, ss => match ss with
    | .For t i x [] _ => tgChk N sc tg t && chkI N sc it i && !isSet i && chSs N sc b x
    | _ => false
  | .whl c b, ss => match ss with
    | .While t x [] _ => chk N sc c t && chSs N sc b x
    | _ => false
  | .brk, ss => match ss with
    | .Break _ => true
    | _ => false
  | .cnt, ss => match ss with
    | .Continue _ => true
    | _ => false
  | .pass, ss => match ss with
    | .Pass _ => true
    | _ => false
  | .setF i f e, ss => match ss with
    | .Assign [.Attribute (.Name x _) g _] v _ => decide (N[i]? = some x) && visB sc x && decide (x ≠ "__debug__") && decide (x ≠ "__classdict__") && decide (f = g) && chk N sc e v && !isComp v
    | _ => false
  | .bad, _ => true
def chSs (N : List Str) (sc : Scope) : Ss → List Stmt → Bool
  | .nil, ss => match ss with
    | [] => true
    | _ => false
  | .cons s rest, ss => match ss with
    | x :: xs => chS N sc s x && chSs N sc rest xs
    | _ => false
end
end Pu
/-! PuM: every statement that passes the check does what it is said to do. -/
namespace Pu
open PySem PySem.Spec PyProof.Rows L2

def PostS (K : Frg) (Cl : ClT) (W : WX) (G0 : GX) (H0 G : Hp) (r : SR) (Z : Ends) : Prop := match r with
  | .nx ρ => ∀ σ H G', Sim K Cl G0 H0 G' H ρ σ → Same G G' → Z.nx σ H
  | .bk ρ => ∀ σ H G', Sim K Cl G0 H0 G' H ρ σ → Same G G' → Z.bk σ H
  | .ct ρ => ∀ σ H G', Sim K Cl G0 H0 G' H ρ σ → Same G G' → Z.ct σ H
  | .rt d => ∀ v G' H, Ext G0.g H0 G' H → Rep K Cl G' d v → Z.rt v H
  | .ex ρ c ns ds => ∀ σ H G' cls dd, Sim K Cl G0 H0 G' H ρ σ → ExcAt K Cl G' H c ns ds cls dd → W cls dd σ H
  | .stuck => False
def tS (K : Frg) (Cl : ClT) (W : WX) (G0 : GX) (H0 : Hp) (f : Ro → SR) : TS := fun Z σ H => ∃ G ρ, Sim K Cl G0 H0 G H ρ σ ∧ PostS K Cl W G0 H0 G (f ρ) Z
section
variable {K : Frg} {Cl : ClT} {W : WX} {G0 : GX} {H0 G G1 H H1 : Hp} {Z Z' : Ends} {r : SR} {ρ : Ro} {σ : L2.St}
theorem PostS.grow (s : Same G G1) (h : PostS K Cl W G0 H0 G r Z) : PostS K Cl W G0 H0 G1 r Z := by
  cases r with
  | nx ρ => exact fun σ H G' sim e => h σ H G' sim (s.trans e)
  | bk ρ => exact fun σ H G' sim e => h σ H G' sim (s.trans e)
  | ct ρ => exact fun σ H G' sim e => h σ H G' sim (s.trans e)
  | rt d => exact h
  | ex ρ c ns ds => exact h
  | stuck => exact h
/-- an expression ahead of the rest -/
theorem onD_run {d : Res D} {k : D → SR} (sim : Sim K Cl G0 H0 G H ρ σ) (h : PostS K Cl W G0 H0 G (onD ρ d k) Z) :
    PostE K Cl W G H σ d (fun v H1 => ∃ x G1, d = .ok x ∧ Ext G H G1 H1 ∧ Rep K Cl G1 x v ∧ PostS K Cl W G0 H0 G1 (k x) Z) := by
  cases d with
  | ok x => exact fun v G1 H1 e r => ⟨x, G1, rfl, e, r, PostS.grow e.vis h⟩
  | exc c ns ds => exact fun cls dd G1 H1 e x => h σ H1 G1 cls dd (sim.grow e) x
  | stuck => exact h
theorem onD_runB {d : Res D} {k : D → SR} (sim : Sim K Cl G0 H0 G H ρ σ) (h : PostS K Cl W G0 H0 G (onD ρ d k) Z) :
    PostB K Cl W G H σ d (fun v H1 => ∃ x G1, d = .ok x ∧ Ext G H G1 H1 ∧ RepB K Cl G1 H1 x v ∧ PostS K Cl W G0 H0 G1 (k x) Z) := by
  cases d with
  | ok x => exact fun v G1 H1 e r => ⟨x, G1, rfl, e, r, PostS.grow e.vis h⟩
  | exc c ns ds => exact fun cls dd G1 H1 e x => h σ H1 G1 cls dd (sim.grow e) x
  | stuck => exact h
theorem onD_runF {d : Res D} {k : D → SR} (sim : Sim K Cl G0 H0 G H ρ σ) (hl : ∀ x, d = .ok x → ∃ ds, x = .lst ds) (h : PostS K Cl W G0 H0 G (onD ρ d k) Z) :
    PostF K Cl W G H σ d (fun v H1 => ∃ ds p xs G1, d = .ok (.lst ds) ∧ v = .ref p ∧ Ext G H G1 H1 ∧ G1 p = none ∧ H p = none ∧ H1 p = some (.lst xs) ∧ Reps K Cl G1 ds xs ∧ PostS K Cl W G0 H0 G1 (k (.lst ds)) Z) := by
  cases d with
  | ok x =>
    obtain ⟨ds, rfl⟩ := hl x rfl
    exact fun p xs G1 H1 e g hp hx r => ⟨ds, p, xs, G1, rfl, rfl, e, g, hp, hx, r, PostS.grow e.vis h⟩
  | exc c ns ds => exact fun cls dd G1 H1 e x => h σ H1 G1 cls dd (sim.grow e) x
  | stuck => exact h
theorem onB_run {d : Res D} {a b : SR} (sim : Sim K Cl G0 H0 G H ρ σ) (h : PostS K Cl W G0 H0 G (onB ρ d a b) Z) :
    PostT K Cl W G H σ d (fun t H1 => ∃ G1, Ext G H G1 H1 ∧ PostS K Cl W G0 H0 G1 (if t = true then a else b) Z) := by
  cases d with
  | ok x =>
    cases x with
    | bl t =>
      intro G1 H1 e
      refine ⟨G1, e, PostS.grow e.vis ?_⟩
      cases t with
      | true => rw [if_pos rfl]; exact h
      | false => rw [if_neg Bool.false_ne_true]; exact h
    | _ => exact h
  | exc c ns ds => exact fun cls dd G1 H1 e x => h σ H1 G1 cls dd (sim.grow e) x
  | stuck => exact h
end

/-- where statements stand -/
structure XS (X : Cx) (N : List Str) (sc : Scope) (T : Tab) (Cl : ClT) (W : WX) (lv : Nat) : Prop where
  ok : XOk X N sc T Cl lv
  fn : ∀ x, X.fn x = true
  kind : X.env.scope.kind = .function
  po : PassesOwn (model X.prog X.w) X.A X.env X.xe
  tk : Takes X W

section
variable {X : Cx} {Cl : ClT} {W : WX} {T : Tab} {N : List Str} {sc : Scope} {lv : Nat} {G0 : GX} {H0 : Hp}
theorem PS.imp {s : Stmt} {t t' : TS} (h : PS X s t) (i : ∀ Z σ H, t' Z σ H → t Z σ H) : PS X s t' := ⟨fun pins s σ H Z I q => h.run pins s σ H Z I (i _ _ _ q)⟩
theorem PSs.imp {s : List Stmt} {t t' : TS} (h : PSs X s t) (i : ∀ Z σ H, t' Z σ H → t Z σ H) : PSs X s t' := ⟨fun pins s σ H Z I q => h.run pins s σ H Z I (i _ _ _ q)⟩
theorem XS.may (xs : XS X N sc T Cl W lv) : ∀ x, locB sc x = true → MayStore X x := fun x h => by
  refine ⟨?_, .inl (xs.fn x)⟩
  rw [xs.ok.scope]
  exact loc_of h
/-- what is handed on is shared first -/
theorem pubbed {is : List Nat} {f : Ro → SR} {Z : Ends} {σ : L2.St} {H : Hp} (h : tS X.K Cl W G0 H0 f Z σ H) : ∃ G ρ, Sim X.K Cl G0 H0 G H (pubs is ρ) σ ∧ PostS X.K Cl W G0 H0 G (f ρ) Z := by
  obtain ⟨G, ρ, sim, q⟩ := h
  obtain ⟨G', s', k⟩ := sim.pubs is
  exact ⟨G', ρ, s', PostS.grow k q⟩

/-! storing a name -/
theorem fresh_lst {e : E} (hf : fresh e = true) : ∀ {ρ : Ro} {d : D}, ev T e .val ρ = .ok d → ∃ ds, d = .lst ds := by
  intro ρ d h
  cases e with
  | lst xs =>
    simp only [ev, fin] at h
    cases ee : evs T xs ρ with
    | exc c ns ds => rw [ee] at h; cases h
    | stuck => rw [ee] at h; cases h
    | ok ds => rw [ee] at h; cases h; exact ⟨_, rfl⟩
  | lc own elt tg it c =>
    simp only [ev, fin] at h
    exact lc_lst _ _ d h
  | bi b xs =>
    cases b with
    | list =>
      simp only [ev, fin] at h
      cases ee : evsB T xs ρ with
      | exc c ns ds => rw [ee] at h; cases h
      | stuck => rw [ee] at h; cases h
      | ok ds =>
        rw [ee] at h
        replace h : Res.ofO (BI.fn .list ds) = .ok d := h
        match ds with
        | [x] =>
          replace h : Res.ofO (listD x) = .ok d := h
          cases x with
          | lst ys => cases h; exact ⟨_, rfl⟩
          | frl ys => cases h; exact ⟨_, rfl⟩
          | tup ys => cases h; exact ⟨_, rfl⟩
          | _ => cases h
        | [] => cases h
        | _ :: _ :: _ => cases h
    | _ => cases hf
  | _ => cases hf
/-- the rule of an expression that makes a new list -/
theorem pe_fresh (ok : XOk X N sc T Cl lv) (tk : Takes X W) {e : E} {v : Expr} (hf : fresh e = true) (h : chk N sc e v = true) : PE X v (tF X.K Cl W (ev T e .val)) := by
  cases e with
  | lst xs =>
    simp only [chk] at h
    split at h
    · simp only [Bool.and_eq_true, decide_eq_true_eq] at h
      refine PE.imp (pe_lst (sndEs xs h.1 ok tk).v) fun σ H Q hh => ?_
      obtain ⟨G0, H0, G, ρ, sim, q⟩ := hh
      refine ⟨G0, H0, G, ρ, sim, ?_⟩
      simp only [ev, fin] at q
      cases ee : evs T xs ρ with
      | exc c ns ds => rw [ee] at q; exact q
      | stuck => rw [ee] at q; exact q
      | ok ds =>
        rw [ee] at q
        intro vs G1 H1 k1 r1
        have hl := evs_len ee
        have hc := chks_len h.1
        refine ⟨by rw [← r1.length, hl, hc, sizeLine_eq]; omega, fun p hp => ?_⟩
        have gp : G1 p = none := Same.free k1.low hp
        refine q p vs G1 _ ⟨fun b u e => ?_, k1.vis, fun b u e => ?_, k1.hid⟩ gp (Same.free k1.sub hp) upd_same r1
        · rw [upd_ne (ne_of_none (k1.sub b u e) hp)]
          exact k1.sub b u e
        · rw [upd_ne (ne_of_none e gp)]
          exact k1.low b u e
    · cases h
  | lc own elt tg it c =>
    have h0 := h
    simp only [chk] at h
    split at h
    · have o := sndLc h0 ok tk
      refine PE.imp (pe_lc ok.calm ok.nd o.pi o.blk o.pg o.pt o.pe o.fold) fun σ H Q hq => lc_red (ttOf_ok c) o.mem ?_
      rw [show (ev T (.lc own elt tg it c) .val) = fun ρ => (evi T it true ρ).bind fun ds => (lcL (asg tg) (evc T c) (ev T elt .val) (wipeR ρ (own.map (·.2))) ds).bind fun ys => .ok (.lst ys) from funext fun ρ => by simp only [ev, fin]] at hq
      exact hq
    · cases h
  | bi b xs =>
    cases b with
    | list =>
      simp only [chk] at h
      split at h
      · simp only [Bool.and_eq_true, decide_eq_true_eq, Bool.not_eq_true'] at h
        obtain ⟨⟨⟨rfl, h2⟩, h4⟩, h5⟩ := h
        rename_i _ es _
        cases xs with
        | nil => cases h5
        | cons y ys =>
          cases es with
          | nil => simp only [chks] at h4; cases h4
          | cons z zs =>
            have h6 := h4
            simp only [chks, Bool.and_eq_true, Bool.not_eq_true'] at h6
            have hpl : ∀ pos, (backTo pos (starEach zs X.env)).any (·.1) = false := fun pos => by rw [back_any]; exact (sndEs ys h6.2 ok tk).st
            refine PE.imp (pe_callTy call_list_of (gl_of ok h2) (ok.facts.bi .list) (by decide +kernel) (sndEs (.cons y ys) h4 ok tk).b (by decide) (by decide) (star_cons h6.1.2) (hpl _)) fun σ H Q hh => ?_
            obtain ⟨G0, H0, G, ρ, sim, q⟩ := hh
            refine ⟨G0, H0, G, ρ, sim, ?_⟩
            simp only [ev, fin] at q
            cases ee : evsB T (.cons y ys) ρ with
            | exc c ns ds => rw [ee] at q; exact q
            | stuck => rw [ee] at q; exact q
            | ok ds =>
              rw [ee] at q
              intro vs G1 H1 k1 r1
              match ds, r1, q with
              | [x], r1, q =>
                obtain ⟨v, rfl, r2⟩ := r1.one
                have fin' : ∀ (ad : Addr) (ws : List V) (ds : List D), (SqL X.K H1 ad ws ∨ SqT X.K H1 ad ws) → Reps X.K Cl G1 ds ws → v = .ref ad → listD x = some (.lst ds) → ∃ p ys, [v] = [V.ref p] ∧ (SqL X.K H1 p ys ∨ SqT X.K H1 p ys) ∧ ∀ l, H1 l = none → Q (.ref l) (upd H1 l (.lst ys)) := fun ad ws ds hs hr ev el => by
                  subst ev
                  refine ⟨ad, ws, rfl, hs, fun p hp => ?_⟩
                  have gp : G1 p = none := Same.free k1.low hp
                  replace q : PostF X.K Cl W G H σ (Res.ofO (listD x)) Q := q
                  rw [el] at q
                  refine q p ws G1 _ ⟨fun b u e => ?_, k1.vis, fun b u e => ?_, k1.hid⟩ gp (Same.free k1.sub hp) upd_same hr
                  · rw [upd_ne (ne_of_none (k1.sub b u e) hp)]
                    exact k1.sub b u e
                  · rw [upd_ne (ne_of_none e gp)]
                    exact k1.low b u e
                cases x with
                | lst ds =>
                  obtain ⟨ad, ws, rfl, h1, h2⟩ := r2.lst k1.low
                  exact fin' ad ws ds (.inl (SqL.of h1)) h2 rfl rfl
                | frl ds =>
                  obtain ⟨ad, ws, rfl, h1, h2⟩ := r2.frl k1.low
                  exact fin' ad ws ds (.inl h1) h2 rfl rfl
                | tup ds =>
                  obtain ⟨ad, ws, rfl, h1, h2, _⟩ := r2.tup k1.low
                  exact fin' ad ws ds (.inr h1) h2 rfl rfl
                | _ => exact q.elim
              | [], _, q => exact q.elim
              | _ :: _ :: _, _, q => exact q.elim
      · cases h
    | _ => cases hf
  | _ => cases hf
theorem slOf_fresh {e : E} {ds : List D} (h : fresh e = true) : slOf e (.lst ds) = .own ds := by
  unfold slOf
  rw [h]
theorem slOf_not {e : E} {d : D} (h : fresh e = false) : slOf e d = .val d := by
  unfold slOf
  rw [h]
theorem no_swap {v : Expr} {x : Str} {y pos : Pos} (hk : X.env.scope.kind = .function) (hc : isComp v = false ∨ (∃ elt gs s p, v = .ListComp elt gs s p ∧ X.env.scope.names.lookup x ≠ some .local)) : swapsWith v (some (.Name x y)) pos.line X.env = pure false := by
  rcases hc with hc | ⟨elt, gs, s, p, rfl, hn⟩
  · cases v <;> first | rfl | cases hc
  · have e1 : (X.env.kindOf x == some NameKind.local) = false := by
      rw [beq_eq_false_iff_ne]
      exact hn
    unfold swapsWith
    simp only [e1, Bool.and_false, Bool.false_and]
theorem r_set (xs : XS X N sc T Cl W lv) {i : Nat} {e : E} {x : Str} {v : Expr} {y pos : Pos} (hN : N[i]? = some x) (hl : locB sc x = true) (hc : chk N sc e v = true) (hln : lineOk y x sc v = true) (hon : ownName x v = false) :
    PS X (.Assign [.Name x y] v pos) (tS X.K Cl W G0 H0 (ex T (.set i e))) := by
  have ok := xs.ok
  have hNx : X.N[i]? = some x := by rw [ok.names]; exact hN
  have hloc : Loc X.env.scope x := by rw [ok.scope]; exact loc_of hl
  -- the stored value, by its rule
  have store : ∀ {te : TE}, (∀ Z σ H, tS X.K Cl W G0 H0 (ex T (.set i e)) Z σ H → tAsg te (gName i) Z σ H) → PE X v te → (isComp v = true → ∀ elt gs s p, v = .ListComp elt gs s p → X.env.scope.names.lookup x ≠ some .local) → PS X (.Assign [.Name x y] v pos) (tS X.K Cl W G0 H0 (ex T (.set i e))) := fun {te} red hv hcell => by
    refine PS.imp (ps_set ok.nd hNx hloc hv (no_swap xs.kind ?_) (.inl (xs.fn x))) red
    cases hcv : isComp v with
    | false => exact .inl rfl
    | true =>
      cases v with
      | ListComp elt gs s p => exact .inr ⟨elt, gs, s, p, rfl, hcell hcv elt gs s p rfl⟩
      | SetComp _ _ _ _ => cases e <;> (simp only [chk] at hc; cases hc)
      | DictComp _ _ _ _ _ => cases e <;> (simp only [chk] at hc; cases hc)
      | _ => cases hcv
  have red1 : fresh e = false → ∀ Z σ H, tS X.K Cl W G0 H0 (ex T (.set i e)) Z σ H → tAsg (tE X.K Cl W (ev T e .val)) (gName i) Z σ H := fun hf Z σ H h => by
    obtain ⟨G, ρ, sim, q⟩ := pubbed (is := pv e .val) h
    simp only [ex] at q
    refine ⟨G0, H0, G, _, sim, headE (onD_run sim q) fun v G1 H1 _ ⟨d, G1', ed, k1, r1, q1⟩ => ?_⟩
    rw [slOf_not hf] at q1
    exact q1 _ _ G1' ((sim.grow k1).put i r1) (Same.refl _)
  have red2 : fresh e = true → ∀ Z σ H, tS X.K Cl W G0 H0 (ex T (.set i e)) Z σ H → tAsg (tF X.K Cl W (ev T e .val)) (gName i) Z σ H := fun hf Z σ H h => by
    obtain ⟨G, ρ, sim, q⟩ := pubbed (is := pv e .val) h
    simp only [ex] at q
    refine ⟨G0, H0, G, _, sim, ?_⟩
    have q2 := onD_runF sim (fun x hx => fresh_lst hf hx) q
    cases ee : ev T e .val (pubs (pv e .val) ρ) with
    | exc c ns ds => rw [ee] at q2; exact q2
    | stuck => rw [ee] at q2; exact q2
    | ok d =>
      rw [ee] at q2
      cases d with
      | lst ds =>
        intro p ws G1 H1 k1 g1 hp hx r1
        obtain ⟨ds', p', ws', G1', ed, ep, k1', g1', hp', hx', r1', q1⟩ := q2 p ws G1 H1 k1 g1 hp hx r1
        cases ed
        cases ep
        rw [slOf_fresh hf] at q1
        exact q1 _ _ G1' (sim.putNew i k1' hp' g1' hx' r1') (Same.refl _)
      | _ => exact q2
  cases hf : fresh e with
  | false =>
    refine store (red1 hf) (sndE e hc ok xs.tk).v fun hcv elt gs s p ev' => ?_
    subst ev'
    cases e with
    | lc _ _ _ _ _ => cases hf
    | _ => simp only [chk] at hc; cases hc
  | true =>
    cases hcv : isComp v with
    | false => exact store (red2 hf) (pe_fresh ok xs.tk hf hc) fun z => by rw [hcv] at z; cases z
    | true =>
      cases v with
      | ListComp elt gs s p =>
        by_cases hx : X.env.scope.names.lookup x = some .local
        · cases e with
          | lc own el tg it c =>
            have h0 := hc
            simp only [chk] at hc
            split at hc
            · rename_i x' t' i' ifs' s' p' heq
              cases heq
              have o := sndLc h0 ok xs.tk
              have hline : (y.line == p.line) = true := by
                simp only [lineOk, Bool.and_eq_true] at hln
                exact hln.1
              refine PS.imp (ps_setLc ok.calm ok.nd hNx hx (sw_true xs.kind hx hline hon) o.pi o.blk o.pg o.pt o.pe o.fold) fun Z σ H h => ?_
              have h2 := red2 hf Z σ H h
              refine lc_red (ttOf_ok c) o.mem ?_
              rw [show (ev T (.lc own el tg it c) .val) = fun ρ => (evi T it true ρ).bind fun ds => (lcL (asg tg) (evc T c) (ev T el .val) (wipeR ρ (own.map (·.2))) ds).bind fun ys => .ok (.lst ys) from funext fun ρ => by simp only [ev, fin]] at h2
              exact h2
            · cases hc
          | _ => simp only [chk] at hc; cases hc
        · exact store (red2 hf) (pe_fresh ok xs.tk hf hc) fun _ _ _ _ _ _ => hx
      | SetComp _ _ _ _ => cases e <;> (simp only [chk] at hc; cases hc)
      | DictComp _ _ _ _ _ => cases e <;> (simp only [chk] at hc; cases hc)
      | _ => cases hcv
end
end Pu
/-! PuN: the other statements, loops, blocks. -/
namespace Pu
open PySem PySem.Spec PyProof.Rows L2
section
variable {X : Cx} {Cl : ClT} {W : WX} {T : Tab} {N : List Str} {sc : Scope} {lv : Nat} {G0 : GX} {H0 : Hp}
theorem swap_none {v : Expr} {t : Option Expr} {l : Nat} {env : Env} (h : isComp v = false) : swapsWith v t l env = pure false := by
  cases v <;> first | rfl | cases h
theorem swap_sole {t v : Expr} {l : Nat} {env : Env} (h : isComp v = false) : swapsWithSole [t] v l env = pure false := by
  cases v <;> first | rfl | cases h
theorem swap_stores {t v : Expr} {env : Env} (h : isTupE v = false) : swappedStores [t] v env = pure none := by
  cases t <;> cases v <;> first | rfl | cases h
theorem asgR_inv {tg : Tg} {ρ : Ro} {d : D} {K : Frg} {G : Hp} {Z : Ends} (h : PostS K Cl W G0 H0 G (asgR tg ρ d) Z) : ∃ ρ', asg tg d ρ = some ρ' ∧ PostS K Cl W G0 H0 G (.nx ρ') Z := by
  unfold asgR at h
  split at h
  · rename_i ρ' e
    exact ⟨ρ', e, h⟩
  · exact h.elim
theorem r_setT (xs : XS X N sc T Cl W lv) {tg : Tg} {e : E} {es : List Expr} {k : Nat} {v : Expr} {y pos : Pos} (ht : tgChk N sc tg (.Tuple es k y) = true) (hc : chk N sc e v = true) (h1 : isTupE v = false) (h2 : isComp v = false) :
    PS X (.Assign [.Tuple es k y] v pos) (tS X.K Cl W G0 H0 (ex T (.setT tg e))) := by
  refine PS.imp (ps_asg (sndE e hc xs.ok xs.tk).v (pg_tgt xs.ok xs.may ht) (swap_sole h2) (swap_stores h1) rfl) fun Z σ H h => ?_
  obtain ⟨G, ρ, sim, q⟩ := pubbed (is := pv e .val) h
  simp only [ex] at q
  refine ⟨G0, H0, G, _, sim, headE (onD_run sim q) fun v G1 H1 _ ⟨d, G1', ed, k1, r1, q1⟩ => ?_⟩
  obtain ⟨ρ', ea, q2⟩ := asgR_inv q1
  exact gT_run (vs := tgSlots tg) (sim.grow k1) r1 ea (fun _ h => h) fun σ' s' _ => q2 σ' H1 G1' s' (Same.refl _)
theorem ownR_inv {ρ : Ro} {i : Nat} {k : List D → SR} {K : Frg} {G : Hp} {Z : Ends} (h : PostS K Cl W G0 H0 G (ownR ρ i k) Z) : ∃ ds, ρ[i]? = some (.own ds) ∧ PostS K Cl W G0 H0 G (k ds) Z := by
  unfold ownR at h
  split at h
  · rename_i ds e
    exact ⟨ds, e, h⟩
  · exact h.elim
/-- x[k] = v, x a list of the frame's own -/
theorem r_setI (xs : XS X N sc T Cl W lv) {i : Nat} {ix e : E} {x : Str} {k v : Expr} {p y pos : Pos} (hN : N[i]? = some x) (hv : visB sc x = true) (h1 : x ≠ "__debug__") (h2 : x ≠ "__classdict__") (hk : chk N sc ix k = true) (hc : chk N sc e v = true)
    (hs : isSlc k = false) (hcv : isComp v = false) : PS X (.Assign [.Subscript (.Name x p) k y] v pos) (tS X.K Cl W G0 H0 (ex T (.setI i ix e))) := by
  have ha : ∀ w, assign (.Subscript (.Name x p) k y) X.env w = (do
      let ov ← holding [w] (eval (.Name x p) X.env)
      let iv ← holding [w, ov] (eval k X.env)
      standAt y
      holding [w, ov, iv] (setItem ov iv w)
      release [w, ov, iv] []) := fun w => by
    cases k <;> first | rfl | cases hs
  have base : PE X (.Name x p) (tVar i) := pe_var (by rw [xs.ok.names]; exact hN) (vis_of' xs.ok hv) (ne_dbg h1) (beq_eq_false_iff_ne.mpr h2)
  refine PS.imp (ps_asg (sndE e hc xs.ok xs.tk).v (pg_sub base (sndE ix hk xs.ok xs.tk).b set_list ha) (swap_sole hcv) (by cases v <;> rfl) rfl) fun Z σ H h => ?_
  obtain ⟨G, ρ, sim, q⟩ := pubbed (is := pv e .val ++ pv ix .bor) h
  simp only [ex] at q
  refine ⟨G0, H0, G, _, sim, headE (onD_run sim q) fun v G1 H1 _ ⟨d, G1', ed, k1, r1, q1⟩ => ?_⟩
  have s1 := sim.grow k1
  show tVar i σ H1 fun o H2 => tB X.K Cl W (ev T ix .bor) σ H2 fun j H3 => rSetL o j v H3 fun H4 => Z.nx σ H4
  obtain ⟨ds, hi, q2⟩ := ownR_inv q1
  obtain ⟨ad, ws, e1, _, _, e4, r4⟩ := s1.own i ds hi
  refine ⟨_, e1, G0, H0, G1', _, s1, headB (onD_runB s1 q2) fun w G2 H2 _ ⟨kk, G2', ek, k2, r2, q3⟩ => ?_⟩
  have s2 := s1.grow k2
  cases kk with
  | int z =>
    cases r2.int
    replace q3 : PostS X.K Cl W G0 H0 G2' (match ixN ds.length z with
      | some j => .nx ((pubs (pv e .val ++ pv ix .bor) ρ).set i (.own (ds.set j d)))
      | none => .stuck) Z := q3
    cases hj : ixN ds.length z with
    | none => rw [hj] at q3; exact q3.elim
    | some j =>
      rw [hj] at q3
      refine ⟨ad, ws, z, j, rfl, rfl, k2.sub _ _ e4, by rw [← r4.length]; exact hj, ?_⟩
      exact q3 σ _ G2' (s2.chg hi e1 (k2.sub _ _ e4) ((r4.mono k2.vis).set (r1.mono k2.vis) j)) (Same.refl _)
  | _ => exact q3.elim
theorem r_app (xs : XS X N sc T Cl W lv) {i : Nat} {e : E} {x : Str} {v : Expr} {p ap cp pos : Pos} (hN : N[i]? = some x) (hv : visB sc x = true) (h1 : x ≠ "__debug__") (h2 : x ≠ "__classdict__") (hc : chk N sc e v = true) (hs : isStar v = false) (hln : (ap.endLine == cp.line) = true) :
    PS X (.Expr (.Call (.Attribute (.Name x p) "append" ap) [v] [] cp) pos) (tS X.K Cl W G0 H0 (ex T (.app i e))) := by
  have base : PE X (.Name x p) (tVar i) := pe_var (by rw [xs.ok.names]; exact hN) (vis_of' xs.ok hv) (ne_dbg h1) (beq_eq_false_iff_ne.mpr h2)
  refine PS.imp (ps_expr (pe_bm PySem.F.plainAttrs_list PySem.F.slot_list_append PySem.F.type_list_append mt_append base (pa_cons (sndE e hc xs.ok xs.tk).v pa_nil (star_cons hs)) rfl (by rw [star_cons hs]; rfl) hln (star_cons hs) rfl) (by rfl)) fun Z σ H h => ?_
  obtain ⟨G, ρ, sim, q⟩ := pubbed (is := pv e .val) h
  simp only [ex] at q
  obtain ⟨ds, hi, q1⟩ := ownR_inv q
  obtain ⟨ad, ws, e1, _, _, e4, r4⟩ := sim.own i ds hi
  refine ⟨_, e1, .inl ⟨rfl, ws, SqL.of e4⟩, G0, H0, G, _, sim, headE (onD_run sim q1) fun w G1 H1 _ ⟨d, G1', ed, k1, r1, q2⟩ => ?_⟩
  have s1 := sim.grow k1
  unfold appR at q2
  split at q2
  · rename_i hl
    refine ⟨ad, ws, w, rfl, rfl, k1.sub _ _ e4, by rw [← r4.length]; exact hl, ?_⟩
    exact q2 σ _ G1' (s1.chg hi e1 (k1.sub _ _ e4) ((r4.mono k1.vis).append (Reps.one r1))) (Same.refl _)
  · exact q2.elim
theorem r_exp (xs : XS X N sc T Cl W lv) {e : E} {v : Expr} {pos : Pos} (hc : chk N sc e v = true) (hcv : isComp v = false) : PS X (.Expr v pos) (tS X.K Cl W G0 H0 (ex T (.exp e))) := by
  refine PS.imp (ps_expr (sndE e hc xs.ok xs.tk).v (swap_none hcv)) fun Z σ H h => ?_
  obtain ⟨G, ρ, sim, q⟩ := pubbed (is := pv e .val) h
  simp only [ex] at q
  exact ⟨G0, H0, G, _, sim, headE (onD_run sim q) fun v G1 H1 _ ⟨d, G1', ed, k1, r1, q1⟩ => q1 σ H1 G1' (sim.grow k1) (Same.refl _)⟩
theorem r_ret (xs : XS X N sc T Cl W lv) {o : Eo} {v : Option Expr} {pos : Pos} (hc : chko N sc o v = true) : PS X (.Return v pos) (tS X.K Cl W G0 H0 (ex T (.ret o))) := by
  cases o with
  | no =>
    simp only [chko] at hc
    split at hc
    · refine PS.imp ps_retN fun Z σ H ⟨G, ρ, sim, q⟩ => ?_
      simp only [ex] at q
      exact q _ G H sim.ext (by simp only [Rep])
    · cases hc
  | yes e =>
    simp only [chko] at hc
    split at hc
    · refine PS.imp (ps_ret (sndE e hc xs.ok xs.tk).v) fun Z σ H h => ?_
      obtain ⟨G, ρ, sim, q⟩ := pubbed (is := pv e .val) h
      simp only [ex] at q
      exact ⟨G0, H0, G, _, sim, headE (onD_run sim q) fun v G1 H1 _ ⟨d, G1', ed, k1, r1, q1⟩ => q1 v G1' H1 (sim.ext.trans k1) r1⟩
    · cases hc
theorem r_ite (xs : XS X N sc T Cl W lv) {c : E} {a b : Ss} {t : Expr} {x y : List Stmt} {pos : Pos} (hc : chk N sc c t = true) (ha : PSs X x (tS X.K Cl W G0 H0 (exs T a))) (hb : PSs X y (tS X.K Cl W G0 H0 (exs T b))) :
    PS X (.If t x y pos) (tS X.K Cl W G0 H0 (ex T (.ite c a b))) := by
  refine PS.imp (ps_if (sndE c hc xs.ok xs.tk).t ha hb) fun Z σ H h => ?_
  obtain ⟨G, ρ, sim, q⟩ := pubbed (is := pv c .tst) h
  simp only [ex] at q
  refine ⟨G0, H0, G, _, sim, ?_⟩
  have q2 := onB_run sim q
  cases ec : ev T c .tst (pubs (pv c .tst) ρ) with
  | exc c ns ds => rw [ec] at q2; exact q2
  | stuck => rw [ec] at q2; exact q2
  | ok d =>
    rw [ec] at q2
    cases d with
    | bl t =>
      intro G1 H1 k1
      obtain ⟨G1', k1', q3⟩ := q2 G1 H1 k1
      cases t with
      | true => rw [if_pos rfl] at q3 ⊢; exact ⟨G1', _, sim.grow k1', q3⟩
      | false => rw [if_neg Bool.false_ne_true] at q3 ⊢; exact ⟨G1', _, sim.grow k1', q3⟩
    | _ => exact q2
theorem objR_inv {ρ : Ro} {i : Nat} {k : Str → List Str → List D → SR} {K : Frg} {G : Hp} {Z : Ends} (h : PostS K Cl W G0 H0 G (objR ρ i k) Z) : ∃ c ns ds, ρ[i]? = some (.obj c ns ds) ∧ PostS K Cl W G0 H0 G (k c ns ds) Z := by
  unfold objR at h
  split at h
  · exact ⟨_, _, _, ‹_›, h⟩
  · exact h.elim
theorem putF_zip {f : Str} {v : V} : ∀ {ns : List Str} {xs : List V}, f ∉ ns → ns.length = xs.length → putF f v (ns.zip xs) = (ns ++ [f]).zip (xs ++ [v])
  | [], [], _, _ => rfl
  | [], _ :: _, _, h => by cases h
  | _ :: _, [], _, h => by cases h
  | n :: ns, x :: xs, hn, h => by
    have hne : ¬ n = f := fun z => hn (by rw [z]; exact List.mem_cons_self ..)
    show (if n = f then _ else (n, x) :: putF f v (ns.zip xs)) = _
    rw [if_neg hne, putF_zip (fun z => hn (List.mem_cons_of_mem _ z)) (by simpa using h)]
    rfl
theorem r_setF (xs : XS X N sc T Cl W lv) {i : Nat} {f : Str} {e : E} {x : Str} {v : Expr} {p ap pos : Pos} (hN : N[i]? = some x) (hv : visB sc x = true) (h1 : x ≠ "__debug__") (h2 : x ≠ "__classdict__") (hc : chk N sc e v = true) (hcv : isComp v = false) :
    PS X (.Assign [.Attribute (.Name x p) f ap] v pos) (tS X.K Cl W G0 H0 (ex T (.setF i f e))) := by
  have base : PE X (.Name x p) (tVar i) := pe_var (by rw [xs.ok.names]; exact hN) (vis_of' xs.ok hv) (ne_dbg h1) (beq_eq_false_iff_ne.mpr h2)
  refine PS.imp (ps_fld base (sndE e hc xs.ok xs.tk).v (swap_none hcv)) fun Z σ H h => ?_
  obtain ⟨G, ρ, sim, q⟩ := pubbed (is := pv e .val) h
  simp only [ex] at q
  refine ⟨G0, H0, G, _, sim, headE (onD_run sim q) fun w G1 H1 _ ⟨d, G1', ed, k1, r1, q2⟩ => ?_⟩
  obtain ⟨c, ns, ds, hi, q3⟩ := objR_inv q2
  have s1 := sim.grow k1
  obtain ⟨a, C, dx, ws, e1, hC, _, _, e5, l6, r7⟩ := s1.obj i c ns ds hi
  unfold setFR at q3
  split at q3
  · rename_i hh
    obtain ⟨ht, hnm, hlt⟩ := hh
    obtain ⟨cl, na⟩ := xs.ok.facts.fd c f C ht hC
    refine ⟨_, e1, a, C, dx, _, rfl, e5, cl, na, ?_, ?_⟩
    · rw [List.length_zip, ← l6, Nat.min_self]
      omega
    · rw [putF_zip hnm l6]
      exact q3 σ _ G1' (s1.chgObj hi e1 hC e5 (by rw [List.length_append, List.length_append, l6]; rfl) (r7.append (Reps.one r1))) (Same.refl _)
  · exact q3.elim
theorem r_bad {x : Stmt} : PS X x (tS X.K Cl W G0 H0 (ex T .bad)) := ⟨fun pins s σ H Z I ⟨G, ρ, sim, q⟩ => by
  simp only [ex] at q
  exact q.elim⟩
/-! blocks -/
theorem r_nil : PSs X [] (tS X.K Cl W G0 H0 (exs T .nil)) := PSs.imp pss_nil fun Z σ H ⟨G, ρ, sim, q⟩ => by
  simp only [exs] at q
  exact q σ H G sim (Same.refl _)
theorem thenR_run {K : Frg} {G : Hp} {r : SR} {k : Ro → SR} {Z : Ends} (h : PostS K Cl W G0 H0 G (thenR r k) Z) : PostS K Cl W G0 H0 G r { Z with nx := tS K Cl W G0 H0 k Z } := by
  cases r with
  | nx ρ => exact fun σ H G' sim s => ⟨G', ρ, sim, PostS.grow s h⟩
  | bk ρ => exact h
  | ct ρ => exact h
  | rt d => exact h
  | ex ρ c ns ds => exact h
  | stuck => exact h
theorem r_cons {s : S} {ss : Ss} {x : Stmt} {rest : List Stmt} (h1 : PS X x (tS X.K Cl W G0 H0 (ex T s))) (h2 : PSs X rest (tS X.K Cl W G0 H0 (exs T ss))) : PSs X (x :: rest) (tS X.K Cl W G0 H0 (exs T (.cons s ss))) :=
  PSs.imp (pss_cons h1 h2) fun Z σ H ⟨G, ρ, sim, q⟩ => by
    simp only [exs] at q
    exact ⟨G, ρ, sim, thenR_run q⟩
/-! loops -/
theorem r_for (xs : XS X N sc T Cl W lv) {tg : Tg} {it : It} {b : Ss} {t i : Expr} {x : List Stmt} {pos : Pos} (ht : tgChk N sc tg t = true) (hi : chkI N sc it i = true) (hs : isSet i = false) (hb : PSs X x (tS X.K Cl W G0 H0 (exs T b))) :
    PS X (.For t i x [] pos) (tS X.K Cl W G0 H0 (ex T (.for_ tg it b))) := by
  refine PS.imp (ps_for xs.po xs.ok.calm (sndI it hi xs.ok xs.tk t false) (pg_tgt xs.ok xs.may ht) hb (set_ok hs)) fun Z σ H h => ?_
  obtain ⟨G, ρ0, sim, q⟩ := pubbed (is := pvi it .val) h
  simp only [ex] at q
  generalize pubs (pvi it .val) ρ0 = ρ at sim q
  refine ⟨G0, H0, G, ρ, sim, ?_⟩
  cases ei : evi T it false ρ with
  | exc c ns ds =>
    rw [ei] at q
    exact fun cls dd G1 H1 e x => q σ H1 G1 cls dd (sim.grow e) x
  | stuck => rw [ei] at q; exact q
  | ok ds =>
    rw [ei] at q
    replace q : PostS X.K Cl W G0 H0 G (forL tg (exs T b) ds ρ) Z := q
    intro J G1 H1 k1 wo
    obtain ⟨small, Gd, Y, wk, gs, yy⟩ := wo
    rw [if_neg Bool.false_ne_true] at gs
    refine for_it wk (fun i σ' H' => ∃ G2 ρ2, Sim X.K Cl G0 H0 G2 H' ρ2 σ' ∧ Same G1 G2 ∧ PostS X.K Cl W G0 H0 G2 (forL tg (exs T b) (ds.drop i) ρ2) Z) ?_ ?_ ?_ ?_
    · exact ⟨G1, ρ, sim.grow k1, Same.refl _, by rw [List.drop_zero]; exact PostS.grow k1.vis q⟩
    · rintro i σ' H' hi' ⟨G2, ρ2, s2, g2, _⟩
      exact gs H' (g2.trans s2.low)
    · rintro i y σ' H' H'' hi' ⟨G2, ρ2, s2, g2, q2⟩ yd
      obtain ⟨d, G3, hd, k3, r3⟩ := yy i y H' H'' G2 hi' g2 s2.low (gs H' (g2.trans s2.low)) yd
      have edrop : ds.drop i = d :: ds.drop (i + 1) := by
        have hlt : i < ds.length := hi'
        rw [List.getElem?_eq_getElem hlt] at hd
        cases hd
        exact List.drop_eq_getElem_cons hlt
      rw [edrop] at q2
      unfold forL at q2
      cases ea : asg tg d ρ2 with
      | none => rw [ea] at q2; exact q2.elim
      | some ρ3 =>
        rw [ea] at q2
        dsimp only at q2
        refine gT_run (vs := tgSlots tg) (s2.grow k3) r3 ea (fun _ h => h) fun σ3 s3 _ => ⟨G3, ρ3, s3, ?_⟩
        have q3 := PostS.grow k3.vis q2
        cases eb : exs T b ρ3 with
        | nx ρ4 => rw [eb] at q3; exact fun σ4 H4 G4 s4 g4 => ⟨G4, ρ4, s4, g2.trans (k3.vis.trans g4), PostS.grow g4 q3⟩
        | ct ρ4 => rw [eb] at q3; exact fun σ4 H4 G4 s4 g4 => ⟨G4, ρ4, s4, g2.trans (k3.vis.trans g4), PostS.grow g4 q3⟩
        | bk ρ4 => rw [eb] at q3; exact q3
        | rt d => rw [eb] at q3; exact q3
        | ex ρ c ns ds => rw [eb] at q3; exact q3
        | stuck => rw [eb] at q3; exact q3
    · rintro σ' H' ⟨G2, ρ2, s2, g2, q2⟩
      rw [List.drop_length] at q2
      exact q2 σ' H' G2 s2 (Same.refl _)
theorem r_whl (xs : XS X N sc T Cl W lv) {c : E} {b : Ss} {t : Expr} {x : List Stmt} {pos : Pos} (hc : chk N sc c t = true) (hb : PSs X x (tS X.K Cl W G0 H0 (exs T b))) :
    PS X (.While t x [] pos) (tS X.K Cl W G0 H0 (ex T (.whl c b))) := by
  refine PS.imp (ps_while xs.po (sndE c hc xs.ok xs.tk).t hb) fun Z σ H ⟨G, ρ, sim, q⟩ => ?_
  simp only [ex] at q
  refine ⟨fun m σ' H' => ∃ G2 ρ2, Sim X.K Cl G0 H0 G2 H' ρ2 σ' ∧ PostS X.K Cl W G0 H0 G2 (whlL (pv c .tst) (ev T c .tst) (exs T b) m ρ2) Z, ⟨T.fu, G, ρ, sim, q⟩, ?_⟩
  rintro m σ' H' ⟨G2, ρ2, s2, q2⟩
  cases m with
  | zero => exact q2.elim
  | succ n =>
    unfold whlL at q2
    obtain ⟨G3, s3, g3⟩ := s2.pubs (pv c .tst)
    replace q2 := PostS.grow g3 q2
    refine ⟨G0, H0, G3, _, s3, ?_⟩
    have q3 := onB_run s3 q2
    cases ec : ev T c .tst (pubs (pv c .tst) ρ2) with
    | exc c ns ds => rw [ec] at q3; exact q3
    | stuck => rw [ec] at q3; exact q3
    | ok d =>
      rw [ec] at q3
      cases d with
      | bl tt =>
        intro G4 H4 k4
        obtain ⟨G4', k4', q4⟩ := q3 G4 H4 k4
        have s4 := s3.grow k4'
        cases tt with
        | false =>
          rw [if_neg Bool.false_ne_true] at q4 ⊢
          exact q4 σ' H4 G4' s4 (Same.refl _)
        | true =>
          rw [if_pos rfl] at q4 ⊢
          refine ⟨fun σ5 H5 => ∃ G5 ρ5, Sim X.K Cl G0 H0 G5 H5 ρ5 σ5 ∧ PostS X.K Cl W G0 H0 G5 (whlL (pv c .tst) (ev T c .tst) (exs T b) n ρ5) Z, fun σ5 H5 h5 => ⟨n, Nat.lt_succ_self n, h5⟩, G4', _, s4, ?_⟩
          cases eb : exs T b (pubs (pv c .tst) ρ2) with
          | nx ρ4 => rw [eb] at q4; exact fun σ6 H6 G6 s6 g6 => ⟨G6, ρ4, s6, PostS.grow g6 q4⟩
          | ct ρ4 => rw [eb] at q4; exact fun σ6 H6 G6 s6 g6 => ⟨G6, ρ4, s6, PostS.grow g6 q4⟩
          | bk ρ4 => rw [eb] at q4; exact q4
          | rt d => rw [eb] at q4; exact q4
          | ex ρ c ns ds => rw [eb] at q4; exact q4
          | stuck => rw [eb] at q4; exact q4
      | _ => exact q3
end

mutual
theorem sndS : ∀ (s : S) {N : List Str} {sc : Scope} {x : Stmt}, chS N sc s x = true → ∀ {X : Cx} {Cl : ClT} {W : WX} {T : Tab} {lv : Nat} (G0 : GX) (H0 : Hp), XS X N sc T Cl W lv → PS X x (tS X.K Cl W G0 H0 (ex T s))
  | .set i e, N, sc, x, h, X, Cl, W, T, lv, G0, H0, xs => by
    simp only [chS] at h
    split at h
    · simp only [Bool.and_eq_true, decide_eq_true_eq, Bool.not_eq_true'] at h
      obtain ⟨⟨⟨⟨⟨h1, h2⟩, h3⟩, h4⟩, h5⟩, h6⟩ := h
      exact r_set xs h1 h2 h4 h5 h6
    · cases h
  | .setT tg e, N, sc, x, h, X, Cl, W, T, lv, G0, H0, xs => by
    simp only [chS] at h
    split at h
    · simp only [Bool.and_eq_true, Bool.not_eq_true'] at h
      obtain ⟨⟨⟨h1, h2⟩, h3⟩, h4⟩ := h
      exact r_setT xs h1 h2 h3 h4
    · cases h
  | .setI i ix e, N, sc, x, h, X, Cl, W, T, lv, G0, H0, xs => by
    simp only [chS] at h
    split at h
    · simp only [Bool.and_eq_true, decide_eq_true_eq, Bool.not_eq_true'] at h
      obtain ⟨⟨⟨⟨⟨⟨⟨h1, h2⟩, h3⟩, h4⟩, h5⟩, h6⟩, h7⟩, h8⟩ := h
      exact r_setI xs h1 h2 h3 h4 h5 h6 h7 h8
    · cases h
  | .app i e, N, sc, x, h, X, Cl, W, T, lv, G0, H0, xs => by
    simp only [chS] at h
    split at h
    · simp only [Bool.and_eq_true, decide_eq_true_eq, Bool.not_eq_true'] at h
      obtain ⟨⟨⟨⟨⟨⟨⟨h1, h2⟩, h3⟩, h4⟩, rfl⟩, h6⟩, h7⟩, h8⟩ := h
      exact r_app xs h1 h2 h3 h4 h6 h7 h8
    · cases h
  | .exp e, N, sc, x, h, X, Cl, W, T, lv, G0, H0, xs => by
    simp only [chS] at h
    split at h
    · simp only [Bool.and_eq_true, Bool.not_eq_true'] at h
      exact r_exp xs h.1 h.2
    · cases h
  | .ret o, N, sc, x, h, X, Cl, W, T, lv, G0, H0, xs => by
    simp only [chS] at h
    split at h
    · exact r_ret xs h
    · cases h
  | .ite c a b, N, sc, x, h, X, Cl, W, T, lv, G0, H0, xs => by
    simp only [chS] at h
    split at h
    · simp only [Bool.and_eq_true] at h
      exact r_ite xs h.1.1 (sndSs a h.1.2 G0 H0 xs) (sndSs b h.2 G0 H0 xs)
    · cases h
  | .for_ tg it b, N, sc, x, h, X, Cl, W, T, lv, G0, H0, xs => by
    simp only [chS] at h
    split at h
    · simp only [Bool.and_eq_true, Bool.not_eq_true'] at h
      exact r_for xs h.1.1.1 h.1.1.2 h.1.2 (sndSs b h.2 G0 H0 xs)
    · cases h
  | .whl c b, N, sc, x, h, X, Cl, W, T, lv, G0, H0, xs => by
    simp only [chS] at h
    split at h
    · simp only [Bool.and_eq_true] at h
      exact r_whl xs h.1 (sndSs b h.2 G0 H0 xs)
    · cases h
  | .brk, N, sc, x, h, X, Cl, W, T, lv, G0, H0, xs => by
    simp only [chS] at h
    split at h
    · exact PS.imp ps_break fun Z σ H ⟨G, ρ, sim, q⟩ => by
        simp only [ex] at q
        exact q σ H G sim (Same.refl _)
    · cases h
  | .cnt, N, sc, x, h, X, Cl, W, T, lv, G0, H0, xs => by
    simp only [chS] at h
    split at h
    · exact PS.imp ps_continue fun Z σ H ⟨G, ρ, sim, q⟩ => by
        simp only [ex] at q
        exact q σ H G sim (Same.refl _)
    · cases h
  | .pass, N, sc, x, h, X, Cl, W, T, lv, G0, H0, xs => by
    simp only [chS] at h
    split at h
    · exact PS.imp ps_pass fun Z σ H ⟨G, ρ, sim, q⟩ => by
        simp only [ex] at q
        exact q σ H G sim (Same.refl _)
    · cases h
  | .setF i f e, N, sc, x, h, X, Cl, W, T, lv, G0, H0, xs => by
    simp only [chS] at h
    split at h
    · simp only [Bool.and_eq_true, decide_eq_true_eq, Bool.not_eq_true'] at h
      obtain ⟨⟨⟨⟨⟨⟨hN, hv⟩, h1⟩, h2⟩, rfl⟩, hc⟩, hcv⟩ := h
      exact r_setF xs hN hv h1 h2 hc hcv
    · cases h
  | .bad, N, sc, x, h, X, Cl, W, T, lv, G0, H0, xs => r_bad
theorem sndSs : ∀ (ss : Ss) {N : List Str} {sc : Scope} {x : List Stmt}, chSs N sc ss x = true → ∀ {X : Cx} {Cl : ClT} {W : WX} {T : Tab} {lv : Nat} (G0 : GX) (H0 : Hp), XS X N sc T Cl W lv → PSs X x (tS X.K Cl W G0 H0 (exs T ss))
  | .nil, N, sc, x, h, X, Cl, W, T, lv, G0, H0, xs => by
    simp only [chSs] at h
    split at h
    · exact r_nil
    · cases h
  | .cons s ss, N, sc, x, h, X, Cl, W, T, lv, G0, H0, xs => by
    simp only [chSs] at h
    split at h
    · simp only [Bool.and_eq_true] at h
      exact r_cons (sndS s h.1 G0 H0 xs) (sndSs ss h.2 G0 H0 xs)
    · cases h
end
end Pu
/-! PuO: defs and classes: a body that passes the check makes a def that is worth what the body does. -/
namespace Pu
open PySem PySem.Spec PyProof.Rows L2

/-- how a def ends -/
def endD : SR → Res D
  | .nx _ => .ok .non
  | .rt d => .ok d
  | .ex _ c ns ds => .exc c ns ds
  | _ => .stuck
@[simp] def initR (n : Nat) (ds : List D) : Ro := ds.map Sl.val ++ List.replicate (n - ds.length) Sl.no
def runFn (T : Tab) (n : Nat) (b : Ss) (ds : List D) : Res D := endD (exs T b (initR n ds))
/-- how an __init__ ends: the object is made -/
def objD (ρ : Ro) : Res D := match ρ[(0 : Nat)]? with
  | some (.obj c ns ds) => .ok (.ins c ns ds)
  | _ => .stuck
def endI : SR → Res D
  | .nx ρ => objD ρ
  | .ex _ c ns ds => .exc c ns ds
  | _ => .stuck
@[simp] def initO (c : Str) (n : Nat) (ds : List D) : Ro := Sl.obj c [] [] :: (ds.map Sl.val ++ List.replicate (n - (ds.length + 1)) Sl.no)
def runInit (T : Tab) (c : Str) (n : Nat) (b : Ss) (ds : List D) : Res D := endI (exs T b (initO c n ds))

theorem init_get {n : Nat} {ds : List D} {i : Nat} {s : Sl} (h : (initR n ds)[i]? = some s) : s = .no ∨ ∃ d, s = .val d ∧ ds[i]? = some d := by
  unfold initR at h
  by_cases hl : i < ds.length
  · rw [List.getElem?_append_left (by rw [List.length_map]; exact hl), List.getElem?_map] at h
    cases e : ds[i]? with
    | none => rw [e] at h; cases h
    | some d => rw [e] at h; cases h; exact .inr ⟨d, rfl, rfl⟩
  · rw [List.getElem?_append_right (by rw [List.length_map]; omega)] at h
    exact .inl (List.eq_of_mem_replicate (List.mem_of_getElem? h))
theorem initO_get {c : Str} {n : Nat} {ds : List D} {i : Nat} {s : Sl} (h : (initO c n ds)[i]? = some s) : (i = 0 ∧ s = .obj c [] []) ∨ s = .no ∨ ∃ d j, i = j + 1 ∧ s = .val d ∧ ds[j]? = some d := by
  unfold initO at h
  cases i with
  | zero => cases h; exact .inl ⟨rfl, rfl⟩
  | succ j =>
    rw [List.getElem?_cons_succ] at h
    have h' : (initR (n - 1) ds)[j]? = some s := by
      unfold initR
      rw [show n - 1 - ds.length = n - (ds.length + 1) by omega]
      exact h
    rcases init_get h' with e | ⟨d, e, q⟩
    · exact .inr (.inl e)
    · exact .inr (.inr ⟨d, j, rfl, e, q⟩)

/-- an __init__'s promise: C the class, x the object -/
def spI (K : Frg) (Cl : ClT) (C : Addr) (n : Nat) (F : List D → Res D) : Sp := fun vs H Q E => vs.length = n + 1 ∧ ∃ G H1 x dx vs' ds, vs = .ref x :: vs' ∧ H = upd (upd H1 dx (.own x)) x (.ins C dx []) ∧ H1 x = none ∧ H1 dx = none ∧ dx ≠ x ∧ Same G H1 ∧
  Reps K Cl G ds vs' ∧ PostE K Cl (fun cls d _ H' => E cls d H') G H1 [] (F ds) (fun v H' => v = .ref x → Q .non H')
section
variable {P : Program} {w : World} {K : Frg} {mg : Str → Option Value} {base : Heap} {Cl : ClT} {x qual : Str} {params : Arguments} {body : List Stmt} {scope : Scope} {dvs : List V} {kws : List (Str × V)} {f : Addr} {fd : FuncData} {N ps : List Str} {lv : Nat} {T : Tab} {b : Ss}
theorem xs_cx {cdv : Value} {A : Around} {outer : List Env} {s : Shared} {H : Hp} {E : XK} (S : FnScope N ps scope) (hf : Facts T P w K mg base Cl lv) (hr : Room lv (A.deeper (envOfC qual scope s.heap.objs.size f cdv))) :
    XS (cxOf (L2.CX P w) P w K mg base N qual scope f cdv A outer s H E) N scope T Cl (fun cls d _ H' => E cls d H') lv :=
  ⟨⟨rfl, rfl, rfl, S.nd, hr, hf⟩, fun _ => rfl, S.kind, passes_of (K := fun e s'' => L2.CX P w outer H s E e s'') (E₁ := fun e' s'' => L2.CX P w outer H s E e' s'') rfl, takes_of rfl rfl rfl rfl⟩
theorem len_pre {N ps : List Str} (h : N.take ps.length = ps) : ps.length ≤ N.length := by
  have := congrArg List.length h
  rw [List.length_take] at this
  omega
/-- the slots at the entry -/
theorem sim_start {G H : Hp} {ds : List D} {vs : List V} {n : Nat} (sm : Same G H) (hn : N.length = n) (r : Reps K Cl G ds vs) : Sim K Cl ⟨G, 0⟩ H G H (initR n ds) (L2.start N vs) := by
  have val : ∀ i d, ds[i]? = some d → ∃ v, (L2.start N vs)[i]? = some (some v) ∧ Rep K Cl G d v := fun i d q => by
    obtain ⟨v, e1, e2⟩ := r.get q
    refine ⟨v, ?_, e2⟩
    have hl : i < vs.length := (List.getElem?_eq_some_iff.mp e1).1
    unfold L2.start
    rw [List.getElem?_append_left (by rw [List.length_map]; exact hl), List.getElem?_map, e1]
    rfl
  refine ⟨Ext.refl sm, ?_, fun i d q => ?_, fun i d q => ?_, fun i j d1 d2 n q1 q2 => ?_, fun i c ns ds q => ?_, fun i j c c' ns ns' d1 d2 q1 q2 => ?_⟩
  · unfold initR L2.start
    rw [List.length_append, List.length_append, List.length_map, List.length_map, List.length_replicate, List.length_replicate, r.length, hn]
  · rcases init_get q with e | ⟨d', e, q'⟩
    · cases e
    · cases e
      exact val i d q'
  · rcases init_get q with e | ⟨d', e, q'⟩ <;> cases e
  · rcases init_get q1 with e | ⟨d', e, q'⟩ <;> cases e
  · rcases init_get q with e | ⟨d', e, q'⟩ <;> cases e
  · rcases init_get q1 with e | ⟨d', e, q'⟩ <;> cases e
/-- A DEF -/
theorem fnOk_of (F : FunD K x qual params body scope dvs kws f fd) (S : FnScope N ps scope) (hc : chSs N scope b body = true) (hf : Facts T P w K mg base Cl lv) :
    FnOk P w K mg base (L2.CX P w) (lv + 1) f fd ps (spP K Cl ps.length (runFn T N.length b)) := by
  refine F.ok S (fun vs H Q E h => h.1) fun cdv A outer s H vs Q E hr h => ?_
  obtain ⟨hl, G, ds, sm, r, q⟩ := h
  have xs := xs_cx (cdv := cdv) (outer := outer) (s := s) (H := H) (E := E) (f := f) (qual := qual) (A := A) (scope := scope) S hf hr
  refine ⟨_, sndSs b hc ⟨G, 0⟩ H xs, ?_⟩
  refine ⟨G, initR N.length ds, sim_start sm rfl r, ?_⟩
  unfold runFn at q
  cases e : exs T b (initR N.length ds) with
  | nx ρ =>
    rw [e] at q
    intro σ H' G' sim _
    exact q .non G' H' sim.ext (by simp only [Rep])
  | rt d => rw [e] at q; exact fun v G' H' k rr => q v G' H' k rr
  | ex ρ c ns es => rw [e] at q; exact fun σ H' G' cls dd sim ea => q cls dd G' H' sim.ext ea
  | bk ρ => rw [e] at q; exact q.elim
  | ct ρ => rw [e] at q; exact q.elim
  | stuck => rw [e] at q; exact q.elim
/-- the slots at the entry of an __init__ -/
theorem sim_startO {G H1 : Hp} {ds : List D} {vs : List V} {n : Nat} {a dx C : Addr} {c : Str} (hC : Cl c = some C) (sm : Same G H1) (h1 : H1 a = none) (h2 : H1 dx = none) (hne : dx ≠ a) (hn : N.length = n) (r : Reps K Cl G ds vs) :
    Sim K Cl ⟨G, a⟩ H1 G (upd (upd H1 dx (.own a)) a (.ins C dx [])) (initO c n ds) (L2.start N (.ref a :: vs)) := by
  have s0 : Same H1 (upd (upd H1 dx (.own a)) a (.ins C dx [])) := fun b o e => by
    rw [upd_ne (ne_of_none e h1), upd_ne (ne_of_none e h2)]
    exact e
  have st : L2.start N (.ref a :: vs) = some (.ref a) :: (vs.map some ++ List.replicate (N.length - (vs.length + 1)) none) := rfl
  have val : ∀ i d, ds[i]? = some d → ∃ v, (L2.start N (.ref a :: vs))[i + 1]? = some (some v) ∧ Rep K Cl G d v := fun i d q => by
    obtain ⟨v, e1, e2⟩ := r.get q
    refine ⟨v, ?_, e2⟩
    have hl : i < vs.length := (List.getElem?_eq_some_iff.mp e1).1
    rw [st, List.getElem?_cons_succ, List.getElem?_append_left (by rw [List.length_map]; exact hl), List.getElem?_map, e1]
    rfl
  refine ⟨⟨s0, Same.refl _, sm.trans s0, fun b e _ => e⟩, ?_, fun i d q => ?_, fun i d q => ?_, fun i j d1 d2 n q1 q2 => ?_, fun i c' ns es q => ?_, fun i j c c' ns ns' d1 d2 q1 q2 => ?_⟩
  · rw [st]
    unfold initO
    rw [List.length_cons, List.length_cons, List.length_append, List.length_append, List.length_map, List.length_map, List.length_replicate, List.length_replicate, r.length, hn]
  · rcases initO_get q with ⟨_, e⟩ | e | ⟨d', j, rfl, e, q'⟩
    · cases e
    · cases e
    · cases e
      exact val j d q'
  · rcases initO_get q with ⟨_, e⟩ | e | ⟨d', j, rfl, e, q'⟩ <;> cases e
  · rcases initO_get q1 with ⟨_, e⟩ | e | ⟨d', j, rfl, e, q'⟩ <;> cases e
  · rcases initO_get q with ⟨rfl, e⟩ | e | ⟨d', j, rfl, e, q'⟩
    · cases e
      exact ⟨a, C, dx, [], by rw [st]; rfl, hC, ⟨h1, rfl⟩, Same.free sm h1, upd_same, rfl, Reps.nil⟩
    · cases e
    · cases e
  · rcases initO_get q1 with ⟨rfl, e⟩ | e | ⟨d', j, rfl, e, q'⟩
    · rcases initO_get q2 with ⟨rfl, e⟩ | e | ⟨d', j, rfl, e, q'⟩
      · rfl
      · cases e
      · cases e
    · cases e
    · cases e
/-- A CLASS'S __init__ -/
theorem initOk_of {c : Str} {C : Addr} {p0 : Str} (hC : Cl c = some C) (F : FunD K x qual params body scope dvs kws f fd) (S : FnScope N (p0 :: ps) scope) (hc : chSs N scope b body = true) (hf : Facts T P w K mg base Cl lv) :
    FnOk P w K mg base (L2.CX P w) (lv + 1) f fd (p0 :: ps) (spI K Cl C ps.length (runInit T c N.length b)) := by
  refine F.ok S (fun vs H Q E h => h.1) fun cdv A outer s H vs Q E hr h => ?_
  obtain ⟨hl, G, H1, a, dx, vs', ds, rfl, rfl, h1, h2, hne, sm, r, q⟩ := h
  have xs := xs_cx (cdv := cdv) (outer := outer) (s := s) (H := upd (upd H1 dx (.own a)) a (.ins C dx [])) (E := E) (f := f) (qual := qual) (A := A) (scope := scope) S hf hr
  refine ⟨_, sndSs b hc ⟨G, a⟩ H1 xs, ?_⟩
  refine ⟨G, initO c N.length ds, sim_startO hC sm h1 h2 hne rfl r, ?_⟩
  unfold runInit at q
  cases e : exs T b (initO c N.length ds) with
  | nx ρ =>
    rw [e] at q
    intro σ H' G' sim _
    replace q : PostE K Cl (fun cls d _ H' => E cls d H') G H1 [] (objD ρ) (fun v H' => v = .ref a → Q .non H') := q
    unfold objD at q
    split at q
    · rename_i c' ns es hi
      obtain ⟨a', C', dx', xs', e1, hC', ⟨e3, e3'⟩, e4, e5, e6, e7⟩ := sim.obj 0 c' ns es hi
      have e3'' : a' = a := e3'
      subst e3''
      have sg : Same G' (upd G' a' (.ins C' dx' (ns.zip xs'))) := same_upd e4
      refine q (.ref a') (upd G' a' (.ins C' dx' (ns.zip xs'))) H' ⟨sim.ext.sub, sim.ext.vis.trans sg, Ext.show sim.low e4 e5, fun z zn zs => ?_⟩ ?_ rfl
      · rw [upd_ne (fun z' => zs (by rw [z']; exact e3))]
        exact sim.ext.hid z zn zs
      · simp only [Rep]
        exact ⟨a', C', dx', xs', rfl, hC', upd_same, e6, e7.mono sg⟩
    · exact q.elim
  | rt d => rw [e] at q; exact q.elim
  | ex ρ c ns es => rw [e] at q; exact fun σ H' G' cls dd sim ea => q cls dd G' H' sim.ext ea
  | bk ρ => rw [e] at q; exact q.elim
  | ct ρ => rw [e] at q; exact q.elim
  | stuck => rw [e] at q; exact q.elim
end

/-! ### calls -/
section
variable {P : Program} {w : World} {K : Frg} {mg : Str → Option Value} {base : Heap} {Cl : ClT} {f C : Addr} {fd : FuncData} {ps : List Str} {lv : Nat} {F : List D → Res D} {dvs : List V} {us0 : List Value} {dflt : List D} {n : Nat} {ks : List Str}
theorem callOk_of (FO : FnOk P w K mg base (L2.CX P w) lv f fd ps (spP K Cl ps.length F)) (hb : Binds K fd ps us0) (hd : Vals dvs us0) (hD : ∀ H : Hp, Reps K Cl H dflt dvs) (hn : n + dflt.length = ps.length) :
    CallOk P w K mg base Cl lv (.ref f) n (fun as => F (as ++ dflt)) := by
  intro X W e1 e2 e3 e4 e5 hr tk pins s σ G H ds vs us Q I r sm rr hl q
  subst e1 e2 e3 e4 e5
  refine run_fnSD FO hr hb hd (passAt tk σ) I r ⟨?_, G, ds ++ dflt, sm, rr.append (hD G), post_at q⟩
  rw [List.length_append, ← rr.length, ← (hD G).length, hl, hn]
theorem callOk_all (FO : FnOk P w K mg base (L2.CX P w) lv f fd ps (spP K Cl ps.length F)) (hb : Binds K fd ps []) (hn : n = ps.length) :
    CallOk P w K mg base Cl lv (.ref f) n F := by
  intro X W e1 e2 e3 e4 e5 hr tk pins s σ G H ds vs us Q I r sm rr hl q
  subst e1 e2 e3 e4 e5
  refine run_fnS FO hr hb (passAt tk σ) I r ⟨?_, G, ds, sm, rr, post_at q⟩
  rw [← rr.length, hl, hn]
theorem callKOk_of {g : List Value → List Value → List Value} {gV : List V → List V → List V} {gD : List D → List D → List D} (FO : FnOk P w K mg base (L2.CX P w) lv f fd ps (spP K Cl ps.length F)) (hb : KBn K fd ps n ks g gV)
    (hg : ∀ (H : Hp) (ds es : List D) (vs zs : List V), Reps K Cl H ds vs → Reps K Cl H es zs → ds.length = n → es.length = ks.length → Reps K Cl H (gD ds es) (gV vs zs) ∧ (gV vs zs).length = ps.length) :
    CallKOk P w K mg base Cl lv (.ref f) n ks (fun as => F (gD (as.take n) (as.drop n))) := by
  intro X W e1 e2 e3 e4 e5 hr tk pins s σ G H ds es vs zs us ws Q I r rz sm rr rrz hl hlz q
  subst e1 e2 e3 e4 e5
  dsimp only at q
  rw [List.take_left' hl, List.drop_left' hl] at q
  obtain ⟨g1, g2⟩ := hg G ds es vs zs rr rrz hl hlz
  refine wpAny_call (codeAny_mono (FO.run X.A X.stack s H ⟨us, ks.zip ws⟩ (g us ws) (gV vs zs) Q (WE W σ) hr I.env0 (hb.to s us ws I.kIn (by rw [← r.length, ← rr.length, hl]) (by rw [← rz.length, ← rrz.length, hlz])) (hb.rel r rz) ⟨g2, G, gD ds es, sm, g1, post_at q⟩) fun r s' hq => ?_)
  cases r with
  | error e => exact passAt tk σ pins H s e s' I hq
  | ok fl =>
    cases fl with
    | ret u => exact I.after hq
    | next => exact False.elim hq
    | brk => exact False.elim hq
    | cont => exact False.elim hq
theorem Ext.skip {G H H1 G' H' : Hp} (sm : Same G H) (s : Same H H1) (e : Ext G H1 G' H') : Ext G H G' H' :=
  ⟨s.trans e.sub, e.vis, e.low, fun a g h => e.hid a g (Same.some s h)⟩
/-- C(..): an object is made. Its promise's heap lies without the object's dict -/
theorem spI_post {W : WX} {G H : Hp} {σ : L2.St} {ds : List D} {vs : List V} {Q : VK} {x dx : Addr} {m : Nat} (sm : Same G H) (rr : Reps K Cl G ds vs) (hl : vs.length = m) (q : PostE K Cl W G H σ (F ds) Q) (h1 : H x = none) (h2 : H dx = none) (hne : dx ≠ x) :
    spI K Cl C m F (.ref x :: vs) (upd (upd H dx (.own x)) x (.ins C dx [])) (fun v H2 => v = .non ∧ Q (.ref x) H2) (WE W σ) := by
  refine ⟨by rw [List.length_cons, hl], G, H, x, dx, vs, ds, rfl, rfl, h1, h2, hne, sm, rr, ?_⟩
  have q' := post_at q
  cases e : F ds with
  | ok d =>
    rw [e] at q'
    exact fun v G' H' k r ev => ⟨rfl, ev ▸ q' v G' H' k r⟩
  | exc c ns ds => rw [e] at q'; exact q'
  | stuck => rw [e] at q'; exact q'
theorem makeOk_of {g : List Value → List Value → List Value} {gV : List V → List V → List V} {gD : List D → List D → List D} {p0 : Str} (M : Mk K C f) (FO : FnOk P w K mg base (L2.CX P w) lv f fd (p0 :: ps) (spI K Cl C ps.length F)) (hb : KBn K fd (p0 :: ps) (n + 1) ks g gV)
    (hg : ∀ (H : Hp) (x : V) (ds es : List D) (vs zs : List V), Reps K Cl H ds vs → Reps K Cl H es zs → ds.length = n → es.length = ks.length → ∃ rs, gV (x :: vs) zs = x :: rs ∧ Reps K Cl H (gD ds es) rs ∧ rs.length = ps.length) :
    CallKOk P w K mg base Cl (lv + 1) (.ref C) n ks (fun as => F (gD (as.take n) (as.drop n))) := by
  intro X W e1 e2 e3 e4 e5 hr tk pins s σ G H ds es vs zs us ws Q I r rz sm rr rrz hl hlz q
  subst e1 e2 e3 e4 e5
  dsimp only at q
  rw [List.take_left' hl, List.drop_left' hl] at q
  have l1 : vs.length = n := by rw [← rr.length, hl]
  have l2 : zs.length = ks.length := by rw [← rrz.length, hlz]
  have hq : spI X.K Cl C ps.length F (gV (.ref (s.heap.objs.size + 1) :: vs) zs) (upd (upd H s.heap.objs.size (.own (s.heap.objs.size + 1))) (s.heap.objs.size + 1) (.ins C s.heap.objs.size [])) (fun v H2 => v = .non ∧ Q (.ref (s.heap.objs.size + 1)) H2) (WE W σ) := by
    obtain ⟨rs, g1, g2, g3⟩ := hg G (.ref (s.heap.objs.size + 1)) ds es vs zs rr rrz hl hlz
    rw [g1]
    exact spI_post sm g2 g3 q (I.hok.fresh (Nat.le_succ _)) (I.hok.fresh (Nat.le_refl _)) (Nat.ne_of_lt (Nat.lt_succ_self _))
  have I2 := Inv.made (C := C) I
  have r1 : Vals (V.ref (s.heap.objs.size + 1) :: vs) (Value.ref (s.heap.objs.size + 1) :: us) := .cons rfl r
  have r2 := hb.rel r1 rz
  have n1 : (Value.ref (s.heap.objs.size + 1) :: us).length = n + 1 := by rw [List.length_cons, ← r.length, l1]
  refine wpAny_call (make_map (f := f) I.kIn M.makes M.init (beq_iff_eq.mp M.fn) (codeAny_mono (FO.run _ X.stack _ _ ⟨Value.ref (s.heap.objs.size + 1) :: us, ks.zip ws⟩ (g (Value.ref (s.heap.objs.size + 1) :: us) ws) _ _ (WE W σ) (hr.make C us (ks.zip ws))
    (I2.env0.make C us (ks.zip ws)) (hb.to _ (Value.ref (s.heap.objs.size + 1) :: us) ws I2.kIn n1 (rz.length.symm.trans l2)) r2 hq) fun r s' hq' => ?_))
  cases r with
  | error e => exact passAt tk σ pins _ _ e s' I2 hq'
  | ok fl =>
    cases fl with
    | ret u =>
      obtain ⟨v, H', I3, rv, ev, q3⟩ := I2.after hq'
      subst ev
      exact ⟨rv, ⟨V.ref (s.heap.objs.size + 1), H', I3, rfl, q3⟩⟩
    | next => exact False.elim hq'
    | brk => exact False.elim hq'
    | cont => exact False.elim hq'
/-- without keywords -/
theorem CallKOk.plain {F : List D → Res D} {u : Value} (h : CallKOk P w K mg base Cl lv u n [] F) : CallOk P w K mg base Cl lv u n F := by
  intro X W e1 e2 e3 e4 e5 hr tk pins s σ G H ds vs us Q I r sm rr hl q
  have := h X W e1 e2 e3 e4 e5 hr tk pins s σ G H ds [] vs [] us [] Q I r .nil sm rr Reps.nil hl rfl (by rw [List.append_nil]; exact q)
  exact this
theorem CallOk.imp {F F' : List D → Res D} {u : Value} (h : CallOk P w K mg base Cl lv u n F) (e : ∀ ds, ds.length = n → F ds = F' ds) : CallOk P w K mg base Cl lv u n F' := by
  intro X W e1 e2 e3 e4 e5 hr tk pins s σ G H ds vs us Q I r sm rr hl q
  rw [← e ds hl] at q
  exact h X W e1 e2 e3 e4 e5 hr tk pins s σ G H ds vs us Q I r sm rr hl q
theorem CallOk.mono {u : Value} {lv' : Nat} (h : CallOk P w K mg base Cl lv u n F) (hl : lv ≤ lv') : CallOk P w K mg base Cl lv' u n F :=
  fun X W e1 e2 e3 e4 e5 hr => h X W e1 e2 e3 e4 e5 (hr.mono hl)
theorem CallKOk.mono {u : Value} {lv' : Nat} (h : CallKOk P w K mg base Cl lv u n ks F) (hl : lv ≤ lv') : CallKOk P w K mg base Cl lv' u n ks F :=
  fun X W e1 e2 e3 e4 e5 hr => h X W e1 e2 e3 e4 e5 (hr.mono hl)
end
end Pu
/-! PuP: a module's defs, one behind another: each one adds to the table of what the names are worth. -/
namespace Pu
open PySem PySem.Spec PyProof.Rows L2

def look {α : Type} : List (Str × α) → Str → Option α
  | [], _ => none
  | (y, a) :: r, x => if x = y then some a else look r x
theorem look_mem {α : Type} {x : Str} {a : α} : ∀ {l : List (Str × α)}, look l x = some a → (x, a) ∈ l
  | [], h => by cases h
  | (y, b) :: r, h => by
    unfold look at h
    split at h
    · rename_i e
      cases h
      rw [e]
      exact List.mem_cons_self ..
    · exact List.mem_cons_of_mem _ (look_mem h)
theorem look_same {α : Type} {x : Str} {a : α} {l : List (Str × α)} : look ((x, a) :: l) x = some a := if_pos rfl
theorem look_ne {α : Type} {x y : Str} {a : α} {l : List (Str × α)} (h : ¬ x = y) : look ((y, a) :: l) x = look l x := if_neg h
/-- the table at the beginning: constants, classes with their fields -/
def tab0 (fu : Nat) (gs : List (Str × D)) (cs : List (Str × List Str)) (gc : Bool := false) : Tab where
  mt := fun _ _ _ => none
  gc := gc
  fu := fu
  fn := fun _ _ => none
  fk := fun _ _ _ => none
  gl := look gs
  fd := fun c f => match look cs c with
    | some fs => decide (f ∈ fs)
    | none => false
def Tab.add (T : Tab) (x : Str) (n : Nat) (F : List D → Res D) : Tab := { T with fn := fun y m => if y = x ∧ m = n then some F else T.fn y m }
def Tab.addk (T : Tab) (x : Str) (n : Nat) (ks : List Str) (F : List D → Res D) : Tab := { T with fk := fun y m js => if y = x ∧ m = n ∧ js = ks then some F else T.fk y m js }
def Tab.addm (T : Tab) (c x : Str) (n : Nat) (F : List D → Res D) : Tab := { T with mt := fun d y m => if d = c ∧ y = x ∧ m = n then some F else T.mt d y m }
theorem Tab.addm_same {T : Tab} {c x : Str} {n : Nat} {F : List D → Res D} : (T.addm c x n F).mt c x n = some F := if_pos ⟨rfl, rfl, rfl⟩
theorem Tab.addm_ne {T : Tab} {c d x y : Str} {n m : Nat} {F : List D → Res D} (h : ¬ (d = c ∧ y = x)) : (T.addm c x n F).mt d y m = T.mt d y m := if_neg fun z => h ⟨z.1, z.2.1⟩
theorem Tab.addm_fn {T : Tab} {c x y : Str} {n m : Nat} {F : List D → Res D} : (T.addm c x n F).fn y m = T.fn y m := rfl
theorem Tab.addm_fk {T : Tab} {c x y : Str} {n m : Nat} {js : List Str} {F : List D → Res D} : (T.addm c x n F).fk y m js = T.fk y m js := rfl
theorem Tab.add_mt {T : Tab} {c x y : Str} {n m : Nat} {F : List D → Res D} : (T.add x n F).mt c y m = T.mt c y m := rfl
theorem Tab.addk_mt {T : Tab} {c x y : Str} {n m : Nat} {ks : List Str} {F : List D → Res D} : (T.addk x n ks F).mt c y m = T.mt c y m := rfl
theorem Tab.add_same {T : Tab} {x : Str} {n : Nat} {F : List D → Res D} : (T.add x n F).fn x n = some F := if_pos ⟨rfl, rfl⟩
theorem Tab.add_ne {T : Tab} {x y : Str} {n m : Nat} {F : List D → Res D} (h : ¬ y = x) : (T.add x n F).fn y m = T.fn y m := if_neg fun z => h z.1
theorem Tab.add_fk {T : Tab} {x y : Str} {n m : Nat} {js : List Str} {F : List D → Res D} : (T.add x n F).fk y m js = T.fk y m js := rfl
theorem Tab.addk_fn {T : Tab} {x y : Str} {n m : Nat} {ks : List Str} {F : List D → Res D} : (T.addk x n ks F).fn y m = T.fn y m := rfl
theorem Tab.addk_same {T : Tab} {x : Str} {n : Nat} {ks : List Str} {F : List D → Res D} : (T.addk x n ks F).fk x n ks = some F := if_pos ⟨rfl, rfl, rfl⟩
theorem Tab.addk_ne {T : Tab} {x y : Str} {n m : Nat} {ks js : List Str} {F : List D → Res D} (h : ¬ y = x) : (T.addk x n ks F).fk y m js = T.fk y m js := if_neg fun z => h z.1

section
variable {P : Program} {w : World} {K : Frg} {mg : Str → Option Value} {base : Heap} {Cl : ClT} {T : Tab} {lv : Nat} {x : Str} {u : Value} {n : Nat} {ks : List Str} {F : List D → Res D}
theorem Facts.mono {lv' : Nat} (h : Facts T P w K mg base Cl lv) (hl : lv ≤ lv') : Facts T P w K mg base Cl lv' where
  bi := h.bi
  rng := h.rng
  rev := h.rev
  isi := h.isi
  fn := fun x n F e => by
    obtain ⟨u, h1, h2, h3⟩ := h.fn x n F e
    exact ⟨u, h1, h2, h3.mono hl⟩
  fk := fun x n ks F e => by
    obtain ⟨u, h1, h2, h3⟩ := h.fk x n ks F e
    exact ⟨u, h1, h2, h3.mono hl⟩
  gl := h.gl
  fd := h.fd
  mt := fun c m n F C e hC => by
    obtain ⟨f, fd, ps, lm, h1, h2, h3, h4⟩ := h.mt c m n F C e hC
    exact ⟨f, fd, ps, lm, h1, h2, Nat.le_trans h3 hl, h4⟩
  gc := h.gc
theorem Facts.add (h : Facts T P w K mg base Cl lv) (h1 : mg x = some u) (h2 : PySem.W.keepIn K u = true) (h3 : CallOk P w K mg base Cl lv u n F) : Facts (T.add x n F) P w K mg base Cl lv where
  bi := h.bi
  rng := h.rng
  rev := h.rev
  isi := h.isi
  fn := fun y m G e => by
    replace e : (if y = x ∧ m = n then some F else T.fn y m) = some G := e
    split at e
    · rename_i c
      obtain ⟨rfl, rfl⟩ := c
      cases e
      exact ⟨u, h1, h2, h3⟩
    · exact h.fn y m G e
  fk := h.fk
  gl := h.gl
  fd := h.fd
  mt := h.mt
  gc := h.gc
theorem Facts.addk (h : Facts T P w K mg base Cl lv) (h1 : mg x = some u) (h2 : PySem.W.keepIn K u = true) (h3 : CallKOk P w K mg base Cl lv u n ks F) : Facts (T.addk x n ks F) P w K mg base Cl lv where
  bi := h.bi
  rng := h.rng
  rev := h.rev
  isi := h.isi
  fn := h.fn
  fk := fun y m js G e => by
    replace e : (if y = x ∧ m = n ∧ js = ks then some F else T.fk y m js) = some G := e
    split at e
    · rename_i c
      obtain ⟨rfl, rfl, rfl⟩ := c
      cases e
      exact ⟨u, h1, h2, h3⟩
    · exact h.fk y m js G e
  gl := h.gl
  fd := h.fd
  mt := h.mt
  gc := h.gc
theorem Facts.addm {c m : Str} {C : Addr} (h : Facts T P w K mg base Cl lv) (hC : Cl c = some C) (hM : MetOk P w K mg base Cl lv C m n F) : Facts (T.addm c m n F) P w K mg base Cl lv where
  bi := h.bi
  rng := h.rng
  rev := h.rev
  isi := h.isi
  fn := h.fn
  fk := h.fk
  gl := h.gl
  fd := h.fd
  mt := fun d y j G C' e hC' => by
    replace e : (if d = c ∧ y = m ∧ j = n then some F else T.mt d y j) = some G := e
    split at e
    · rename_i z
      obtain ⟨rfl, rfl, rfl⟩ := z
      cases e
      rw [hC] at hC'
      cases hC'
      exact hM
    · exact h.mt d y j G C' e hC'
  gc := h.gc
/-- the constants' list -/
def GlOk (K : Frg) (mg : Str → Option Value) (Cl : ClT) (gs : List (Str × D)) : Prop := ∀ p ∈ gs, ∃ u v, mg p.1 = some u ∧ RelV v u ∧ ∀ H : Hp, Rep K Cl H p.2 v
theorem GlOk.nil : GlOk K mg Cl [] := fun p h => by cases h
theorem GlOk.cons {gs : List (Str × D)} {d : D} {v : V} (h1 : mg x = some u) (h2 : RelV v u) (h3 : ∀ H : Hp, Rep K Cl H d v) (t : GlOk K mg Cl gs) : GlOk K mg Cl ((x, d) :: gs) := fun p h => by
  rcases List.mem_cons.mp h with e | h
  · subst e
    exact ⟨u, v, h1, h2, h3⟩
  · exact t p h
theorem GlOk.int {gs : List (Str × D)} {i : Int} {t : Tok} (h1 : mg x = some (.int i t)) (r : GlOk K mg Cl gs) : GlOk K mg Cl ((x, .int i) :: gs) := GlOk.cons (v := .int i) h1 ⟨_, rfl⟩ (fun _ => by simp only [Rep]) r
theorem GlOk.str {gs : List (Str × D)} {i : Str} {t : Tok} (h1 : mg x = some (.str i t)) (r : GlOk K mg Cl gs) : GlOk K mg Cl ((x, .str i) :: gs) := GlOk.cons (v := .str i) h1 ⟨_, rfl⟩ (fun _ => by simp only [Rep]) r
/-- the classes' list -/
def ClsOk (K : Frg) (Cl : ClT) (cs : List (Str × List Str)) : Prop := ∀ p ∈ cs, ∀ C, Cl p.1 = some C → Cls K C ∧ ∀ f ∈ p.2, NoAttr K C f
theorem ClsOk.nil : ClsOk K Cl [] := fun p h => by cases h
theorem ClsOk.cons {c : Str} {fs : List Str} {C : Addr} {cs : List (Str × List Str)} (e : Cl c = some C) (h1 : Cls K C) (h2 : ∀ f ∈ fs, NoAttr K C f) (t : ClsOk K Cl cs) : ClsOk K Cl ((c, fs) :: cs) := fun p h => by
  rcases List.mem_cons.mp h with z | h
  · subst z
    intro C' e'
    rw [e] at e'
    cases e'
    exact ⟨h1, h2⟩
  · exact t p h
theorem facts0 {fu : Nat} {gs : List (Str × D)} {cs : List (Str × List Str)} {gc : Bool} (hgc : gc = true → mg "gcd" = some (.builtin "math.gcd")) (hb : ∀ b : BI, mg b.name = none) (h1 : mg "range" = none) (h2 : mg "reversed" = none) (h3 : mg "isinstance" = none) (hg : GlOk K mg Cl gs) (hc : ClsOk K Cl cs) :
    Facts (tab0 fu gs cs gc) P w K mg base Cl 0 where
  mt := fun c m n F C e hC => by cases e
  gc := hgc
  bi := hb
  rng := h1
  rev := h2
  isi := h3
  fn := fun x n F e => by cases e
  fk := fun x n ks F e => by cases e
  gl := fun x d e => hg _ (look_mem e)
  fd := fun c f C e hC => by
    replace e : (match look cs c with
      | some fs => decide (f ∈ fs)
      | none => false) = true := e
    cases el : look cs c with
    | none => rw [el] at e; cases e
    | some fs =>
      rw [el] at e
      obtain ⟨g1, g2⟩ := hc _ (look_mem el) C hC
      exact ⟨g1, g2 f (of_decide_eq_true e)⟩

/-! ### a def of the module -/
/-- the def x stands behind the top -/
def DefAt (K : Frg) (mg : Str → Option Value) (x : Str) (st : Stmt) : Prop := ∃ f fd, FunD K x x (defArgs st) (defBody st) (defScope st) [] [] f fd ∧ mg x = some (.ref f)
theorem def_mk {h : Heap} {st : Stmt} {f : Addr} {oc : Value} {od an : Option Addr} {osl : Array (Option Value)} {kV doc pm cdv ct : Value} (X : K.In h) (G : h.Ns mainGlobals mg)
    (a : PySem.W.nsIn K mainGlobals x = some (some (.ref f))) (l : K.lookup f = some ⟨oc, od, .func (PySem.W.fnOf x x (defArgs st) (defBody st) (defScope st) .none kV doc pm an cdv ct), osl⟩) (c : PySem.W.codeIn K cdv x = true) (k : PySem.W.keepIn K (.ref f) = true) : DefAt K mg x st :=
  ⟨f, _, ⟨⟨oc, od, .none, kV, doc, pm, an, cdv, ct, osl, rfl, l, c, .inl ⟨rfl, rfl⟩, .inl rfl⟩, k⟩, PySem.W.mg_of X G a⟩
theorem Facts.def_ {st : Stmt} {N ps : List Str} {b : Ss} (h : Facts T P w K mg base Cl lv) (hd : DefAt K mg x st) (S : FnScope N ps (defScope st)) (hc : chSs N (defScope st) b (defBody st) = true)
    (hb : ∀ (kV doc pm : Value) (an : Option Addr) (cdv ct : Value) (us : List Value), us.length = ps.length → bindArgs (PySem.W.fnOf x x (defArgs st) (defBody st) (defScope st) .none kV doc pm an cdv ct) ⟨us, []⟩ = pure (ps.zip us)) :
    Facts (T.add x ps.length (runFn T N.length b)) P w K mg base Cl (lv + 1) := by
  obtain ⟨f, fd, F, hm⟩ := hd
  exact (h.mono (Nat.le_succ _)).add hm F.kp (callOk_all (fnOk_of F S hc h) (F.bindsN hb) rfl)
/-- a def that calls itself: it is worth what it does with so many calls in one another -/
def runRec (T : Tab) (x : Str) (m n : Nat) (b : Ss) : Nat → List D → Res D
  | 0 => fun _ => .stuck
  | k + 1 => runFn (T.add x m (runRec T x m n b k)) n b
theorem Facts.rec_ {st : Stmt} {N ps : List Str} {b : Ss} (h : Facts T P w K mg base Cl lv) (hd : DefAt K mg x st) (S : FnScope N ps (defScope st)) (hc : chSs N (defScope st) b (defBody st) = true)
    (hb : ∀ (kV doc pm : Value) (an : Option Addr) (cdv ct : Value) (us : List Value), us.length = ps.length → bindArgs (PySem.W.fnOf x x (defArgs st) (defBody st) (defScope st) .none kV doc pm an cdv ct) ⟨us, []⟩ = pure (ps.zip us)) (k : Nat) :
    Facts (T.add x ps.length (runRec T x ps.length N.length b k)) P w K mg base Cl (lv + k) := by
  obtain ⟨f, fd, F, hm⟩ := hd
  induction k with
  | zero => exact h.add hm F.kp fun X W _ _ _ _ _ _ _ pins s σ G H ds vs us Q _ _ _ _ _ q => q.elim
  | succ k ih => exact (h.mono (Nat.le_add_right _ _)).add hm F.kp (callOk_all (fnOk_of F S hc ih) (F.bindsN hb) rfl)

/-! ### a class of the module -/
/-- the class c with this __init__ stands behind the top -/
structure ClassAt (K : Frg) (mg : Str → Option Value) (c qual : Str) (st : Stmt) (kws : List (Str × V)) (C : Addr) : Prop where
  mgc : mg c = some (.ref C)
  ini : ∃ f fd, FunD K "__init__" qual (defArgs st) (defBody st) (defScope st) [] kws f fd ∧ Mk K C f
theorem Facts.class_ {c qual : Str} {C : Addr} {st : Stmt} {kws : List (Str × V)} {N ps : List Str} {p0 : Str} {b : Ss} (h : Facts T P w K mg base Cl lv) (hC : Cl c = some C) (hd : ClassAt K mg c qual st kws C) (S : FnScope N (p0 :: ps) (defScope st)) (hc : chSs N (defScope st) b (defBody st) = true)
    (hn : n + ks.length = ps.length)
    (hb : ∀ (kV doc pm : Value) (an : Option Addr) (cdv ct : Value) (us ws : List Value), us.length = n + 1 → ws.length = ks.length → bindArgs (PySem.W.fnOf "__init__" qual (defArgs st) (defBody st) (defScope st) .none kV doc pm an cdv ct) ⟨us, ks.zip ws⟩ = pure ((p0 :: ps).zip (us ++ ws))) :
    CallKOk P w K mg base Cl (lv + 2) (.ref C) n ks (runInit T c N.length b) := by
  obtain ⟨f, fd, F, M⟩ := hd.ini
  have FO := initOk_of hC F S hc h
  have kb : KBn K fd (p0 :: ps) (n + 1) ks (fun us ws => us ++ ws) (fun vs zs => vs ++ zs) := by
    obtain ⟨oc, od, dV, kV, doc, pm, an, cdv, ct, osl, rfl, lk, hcd, hD, hK⟩ := F.ex
    rcases hD with ⟨_, rfl⟩ | ⟨e, _⟩
    · exact ⟨fun s us ws X l1 l2 => BindsTo.of_eq (hb kV doc pm an cdv ct us ws l1 l2), fun r1 r2 => r1.append r2⟩
    · exact absurd rfl e
  have := makeOk_of (g := fun us ws => us ++ ws) (gV := fun vs zs => vs ++ zs) (gD := fun ds es => ds ++ es) M FO kb fun H x ds es vs zs r1 r2 l1 l2 =>
    ⟨vs ++ zs, rfl, r1.append r2, by rw [List.length_append, ← r1.length, ← r2.length, l1, l2, hn]⟩
  simpa only [List.take_append_drop] using this
theorem Facts.classK {c qual : Str} {C : Addr} {st : Stmt} {kws : List (Str × V)} {N ps : List Str} {p0 : Str} {b : Ss} (h : Facts T P w K mg base Cl lv) (hC : Cl c = some C) (hd : ClassAt K mg c qual st kws C) (S : FnScope N (p0 :: ps) (defScope st)) (hc : chSs N (defScope st) b (defBody st) = true)
    (hn : n + ks.length = ps.length)
    (hb : ∀ (kV doc pm : Value) (an : Option Addr) (cdv ct : Value) (us ws : List Value), us.length = n + 1 → ws.length = ks.length → bindArgs (PySem.W.fnOf "__init__" qual (defArgs st) (defBody st) (defScope st) .none kV doc pm an cdv ct) ⟨us, ks.zip ws⟩ = pure ((p0 :: ps).zip (us ++ ws))) :
    Facts (T.addk c n ks (runInit T c N.length b)) P w K mg base Cl (lv + 2) := by
  have ck := Facts.class_ h hC hd S hc hn hb
  obtain ⟨f, fd, F, M⟩ := hd.ini
  exact (h.mono (Nat.le_add_right _ _)).addk hd.mgc M.kp ck
theorem Facts.classP {c qual : Str} {C : Addr} {st : Stmt} {kws : List (Str × V)} {N ps : List Str} {p0 : Str} {b : Ss} (h : Facts T P w K mg base Cl lv) (hC : Cl c = some C) (hd : ClassAt K mg c qual st kws C) (S : FnScope N (p0 :: ps) (defScope st)) (hc : chSs N (defScope st) b (defBody st) = true)
    (hb : ∀ (kV doc pm : Value) (an : Option Addr) (cdv ct : Value) (us : List Value), us.length = ps.length + 1 → bindArgs (PySem.W.fnOf "__init__" qual (defArgs st) (defBody st) (defScope st) .none kV doc pm an cdv ct) ⟨us, []⟩ = pure ((p0 :: ps).zip us)) :
    Facts (T.add c ps.length (runInit T c N.length b)) P w K mg base Cl (lv + 2) := by
  have ck := Facts.class_ (n := ps.length) (ks := []) h hC hd S hc rfl fun kV doc pm an cdv ct us ws l1 l2 => by
    have : ws = [] := List.eq_nil_of_length_eq_zero l2
    subst this
    rw [List.append_nil]
    exact hb kV doc pm an cdv ct us l1
  obtain ⟨f, fd, F, M⟩ := hd.ini
  exact (h.mono (Nat.le_add_right _ _)).add hd.mgc M.kp ck.plain
/-- a class made without its keyword-only values: the defaults -/
theorem Facts.classD {c qual : Str} {C : Addr} {st : Stmt} {kws : List (Str × V)} {N ps : List Str} {p0 : Str} {b : Ss} {dflt : List D} (h : Facts T P w K mg base Cl lv) (hC : Cl c = some C) (hd : ClassAt K mg c qual st kws C) (hk : kws ≠ []) (hdf : ∀ H : Hp, Reps K Cl H dflt (kws.map (·.2)))
    (S : FnScope N (p0 :: ps) (defScope st)) (hc : chSs N (defScope st) b (defBody st) = true) (hn : n + kws.length = ps.length)
    (hb : ∀ (D : Addr) (doc pm : Value) (an : Option Addr) (cdv ct : Value) (us mv : List Value), us.length = n + 1 → mv.length = kws.length → KwChain D ((kws.map (·.1)).zip mv) (bindArgs (PySem.W.fnOf "__init__" qual (defArgs st) (defBody st) (defScope st) .none (.ref D) doc pm an cdv ct) ⟨us, []⟩) ((p0 :: ps).zip (us ++ mv))) :
    Facts (T.add c n (fun as => runInit T c N.length b (as ++ dflt))) P w K mg base Cl (lv + 2) := by
  obtain ⟨f, fd, F, M⟩ := hd.ini
  have FO := initOk_of hC F S hc h
  obtain ⟨mv, kb⟩ := F.kbinds0 (ps := p0 :: ps) (n + 1) [] kws (fun us mz _ => us ++ mz) hk (fun q hq => hq) (fun r1 r2 _ => r1.append r2) fun D doc pm an cdv ct us mv ws l1 l2 l3 => by
    have : ws = [] := List.eq_nil_of_length_eq_zero l3
    subst this
    exact hb D doc pm an cdv ct us mv l1 l2
  have ck := makeOk_of (gD := fun ds _ => ds ++ dflt) M FO kb fun H x ds es vs zs r1 r2 l1 l2 =>
    ⟨vs ++ kws.map (·.2), rfl, r1.append (hdf H), by rw [List.length_append, ← r1.length, l1, List.length_map, hn]⟩
  have ck2 := ck.plain
  refine (h.mono (Nat.le_add_right _ _)).add hd.mgc M.kp (ck2.imp fun ds hl => ?_)
  show runInit T c N.length b (ds.take n ++ dflt) = _
  rw [List.take_of_length_le (Nat.le_of_eq hl)]
theorem kwdR {D a : Addr} {x : Str} (h : PySem.W.nsIn K D x = some (some (.ref a))) : KwdV K (.ref D) [(x, .ref a)] :=
  .inr ⟨D, rfl, fun q hq => by rw [List.mem_singleton] at hq; subst hq; exact ⟨_, h, rfl⟩⟩
theorem kwdS {D : Addr} {x y : Str} {t : Tok} (h : PySem.W.nsIn K D x = some (some (.str y t))) : KwdV K (.ref D) [(x, .str y)] :=
  .inr ⟨D, rfl, fun q hq => by rw [List.mem_singleton] at hq; subst hq; exact ⟨_, h, ⟨_, rfl⟩⟩⟩
/-- the frozen heap that a proof is about -/
abbrev frgOf {K : Frg} {h : Heap} (_ : K.In h) : Frg := K
/-- a pair of whole numbers of the module -/
def Tup2At (K : Frg) (a : Addr) (i j : Int) : Prop := ∃ (dd : Option Addr) (t u : Tok) (n : Nat) (sl : Array (Option Value)), K.lookup a = some ⟨.type "tuple", dd, .seq #[.int i t, .int j u] n, sl⟩
theorem tup2_mk {a : Addr} {i j : Int} {dd : Option Addr} {t u : Tok} {n : Nat} {sl : Array (Option Value)} (h : K.lookup a = some ⟨.type "tuple", dd, .seq #[.int i t, .int j u] n, sl⟩) : Tup2At K a i j := ⟨dd, t, u, n, sl, h⟩
theorem Tup2At.rep {a : Addr} {i j : Int} (h : Tup2At K a i j) (H : Hp) : Rep K Cl H (.tup [.int i, .int j]) (.ref a) := by
  obtain ⟨dd, t, u, n, sl, h⟩ := h
  simp only [Rep]
  refine ⟨a, [.int i, .int j], rfl, .inr ⟨_, #[.int i t, .int j u], n, h, rfl, rfl, by rw [sizeLine_eq]; simp, .cons ⟨_, rfl⟩ (.cons ⟨_, rfl⟩ .nil)⟩, ?_⟩
  exact Reps.of_ints [i, j]
theorem tupc {h : Heap} {a : Addr} {i j : Int} {dd : Option Addr} {t u : Tok} {n : Nat} {sl : Array (Option Value)} (X : K.In h) (G : h.Ns mainGlobals mg) (g : PySem.W.nsIn K mainGlobals x = some (some (.ref a)))
    (l : K.lookup a = some ⟨.type "tuple", dd, .seq #[.int i t, .int j u] n, sl⟩) : ∃ a, mg x = some (.ref a) ∧ Tup2At K a i j := ⟨a, PySem.W.mg_of X G g, tup2_mk l⟩
theorem GlOk.tup2 {gs : List (Str × D)} {a : Addr} {i j : Int} (h1 : mg x = some (.ref a)) (h2 : Tup2At K a i j) (r : GlOk K mg Cl gs) : GlOk K mg Cl ((x, .tup [.int i, .int j]) :: gs) := GlOk.cons (v := .ref a) h1 rfl (fun H => h2.rep H) r
/-- the class at C has this method -/
structure MethAt (K : Frg) (m qual : Str) (st : Stmt) (C : Addr) : Prop where
  ex : ∃ f fd, FunD K m qual (defArgs st) (defBody st) (defScope st) [] [] f fd ∧ Meth K C m f
theorem meth_mk {st : Stmt} {m qual : Str} {C f : Addr} {oc : Value} {od an : Option Addr} {osl : Array (Option Value)} {kV doc pm cdv ct : Value} (a : PySem.W.findIn K (.ref C) m = some (some (.ref f))) (i : PySem.W.isFn K (.ref f) = true)
    (l : K.lookup f = some ⟨oc, od, .func (PySem.W.fnOf m qual (defArgs st) (defBody st) (defScope st) .none kV doc pm an cdv ct), osl⟩) (c : PySem.W.codeIn K cdv qual = true) (k : PySem.W.keepIn K (.ref f) = true) : MethAt K m qual st C :=
  ⟨f, _, ⟨⟨oc, od, .none, kV, doc, pm, an, cdv, ct, osl, rfl, l, c, .inl ⟨rfl, rfl⟩, .inl rfl⟩, k⟩, ⟨a, i, k⟩⟩
theorem Facts.meth_ {c m qual : Str} {C : Addr} {st : Stmt} {N ps : List Str} {p0 : Str} {b : Ss} (h : Facts T P w K mg base Cl lv) (hC : Cl c = some C) (hCl : Cls K C) (hd : MethAt K m qual st C) (S : FnScope N (p0 :: ps) (defScope st)) (hc : chSs N (defScope st) b (defBody st) = true)
    (hb : ∀ (kV doc pm : Value) (an : Option Addr) (cdv ct : Value) (us : List Value), us.length = ps.length + 1 → bindArgs (PySem.W.fnOf m qual (defArgs st) (defBody st) (defScope st) .none kV doc pm an cdv ct) ⟨us, []⟩ = pure ((p0 :: ps).zip us)) :
    Facts (T.addm c m ps.length (runFn T N.length b)) P w K mg base Cl (lv + 2) := by
  obtain ⟨f, fd, F, M⟩ := hd.ex
  exact (h.mono (Nat.le_add_right _ _)).addm hC ⟨f, fd, p0 :: ps, lv + 1, hCl, M, Nat.le_refl _, fnOk_of F S hc h, F.bindsN (ps := p0 :: ps) hb, rfl⟩
theorem class_mk {h : Heap} {st : Stmt} {c qual : Str} {kws : List (Str × V)} {C f : Addr} {oc : Value} {od an : Option Addr} {osl : Array (Option Value)} {kV doc pm cdv ct : Value} (X : K.In h) (G : h.Ns mainGlobals mg)
    (aC : PySem.W.nsIn K mainGlobals c = some (some (.ref C))) (mk : PySem.W.makesIn K C = true) (kc : PySem.W.keepIn K (.ref C) = true) (a : PySem.W.findIn K (.ref C) "__init__" = some (some (.ref f))) (i : PySem.W.isFn K (.ref f) = true)
    (l : K.lookup f = some ⟨oc, od, .func (PySem.W.fnOf "__init__" qual (defArgs st) (defBody st) (defScope st) .none kV doc pm an cdv ct), osl⟩) (cd : PySem.W.codeIn K cdv qual = true) (k : PySem.W.keepIn K (.ref f) = true) (hk : KwdV K kV kws) : ClassAt K mg c qual st kws C :=
  ⟨PySem.W.mg_of X G aC, f, _, ⟨⟨oc, od, .none, kV, doc, pm, an, cdv, ct, osl, rfl, l, cd, .inl ⟨rfl, rfl⟩, hk⟩, k⟩, ⟨mk, a, i, kc⟩⟩

theorem class_ex {h : Heap} {st : Stmt} {c qual : Str} {kws : List (Str × V)} {C f : Addr} {oc : Value} {od an : Option Addr} {osl : Array (Option Value)} {kV doc pm cdv ct : Value} {fs : List Str} (X : K.In h) (G : h.Ns mainGlobals mg)
    (aC : PySem.W.nsIn K mainGlobals c = some (some (.ref C))) (mk : PySem.W.makesIn K C = true) (kc : PySem.W.keepIn K (.ref C) = true) (a : PySem.W.findIn K (.ref C) "__init__" = some (some (.ref f))) (i : PySem.W.isFn K (.ref f) = true)
    (l : K.lookup f = some ⟨oc, od, .func (PySem.W.fnOf "__init__" qual (defArgs st) (defBody st) (defScope st) .none kV doc pm an cdv ct), osl⟩) (cd : PySem.W.codeIn K cdv qual = true) (k : PySem.W.keepIn K (.ref f) = true) (hk : KwdV K kV kws)
    (pg : PySem.W.plainGet K C Str.empty = true) (hd : PySem.W.hasDictIn K C = true) (po : PySem.W.plainOver K C = true) (sa : PySem.W.findIn K (.ref C) "__setattr__" = some (some (.builtin "object.__setattr__"))) (hf : ∀ f ∈ fs, NoAttr K C f) {R : Frg → Addr → Prop} (hR : R K C) :
    ∃ C, ClassAt K mg c qual st kws C ∧ Cls K C ∧ (∀ f ∈ fs, NoAttr K C f) ∧ R K C := ⟨C, class_mk X G aC mk kc a i l cd k hk, ⟨pg, hd, po, sa⟩, hf, hR⟩
theorem no_attrs {C : Addr} : ∀ f ∈ ([] : List Str), NoAttr K C f := fun f h => absurd h List.not_mem_nil
theorem no_attr {C : Addr} {f : Str} {fs : List Str} (h : PySem.W.findIn K (.ref C) f = some none) (t : ∀ g ∈ fs, NoAttr K C g) : ∀ g ∈ f :: fs, NoAttr K C g := List.forall_mem_cons.mpr ⟨h, t⟩

/-! ### the law's def -/
/-- what the law's def must come to -/
def LawOk (F : List D → Res D) : Prop := ∀ ns : List Int, ns.length ≤ 63 → F [.frl (ns.map D.int)] = .ok (.bl true)
def spLaw (K : Frg) : Sp := fun vs H Q _ => ∃ (a : Addr) (ns : List Int), vs = [.ref a] ∧ SqL K H a (ns.map V.int) ∧ ns.length ≤ 63 ∧ ∀ H', Q (.bl true) H'
theorem spLaw_at {Cl : ClT} (hF : LawOk F) {vs : List V} {H : Hp} {Q : VK} {E : XK} (h : spLaw K vs H Q E) : spP K Cl 1 F vs H Q E := by
  obtain ⟨a, ns, rfl, hS, hl, q⟩ := h
  refine ⟨rfl, H, [.frl (ns.map D.int)], Same.refl _, Reps.one ?_, ?_⟩
  · simp only [Rep]
    exact ⟨a, _, rfl, hS, Reps.of_ints ns⟩
  · rw [hF ns hl]
    intro v G' H' _ r
    have e : v = .bl true := by simpa only [Rep] using r
    rw [e]
    exact q H'
theorem law_imp {f : Addr} {fd : FuncData} {ps : List Str} (hF : LawOk F) (h : FnOk P w K mg base (L2.CX P w) lv f fd ps (spP K Cl 1 F)) : FnOk P w K mg base (L2.CX P w) lv f fd ps (spLaw K) :=
  h.imp fun vs H Q E q => spLaw_at hF q
/-- the walk of a law whose def is worth F -/
theorem walk {l : PySem.W.OpenLaw} {q : Program} {loose : List Str} {XP : (Str → Option Value) → Heap → Prop} {YP : World → Heap → Prop} {d : DefRec} {K : Params → PySem.W.Frag} {lv : Nat} (hn : l.most = some 63) (hdf : d.params.defaults = []) (hr : Room lv callerA)
    (hY : ∀ (w : World) (h : Heap), YP w h → (K w.params).In h)
    (hL : ∀ (w : World) (mg : Str → Option Value) (fa : Addr) (h : Heap), (K w.params).In h → h.Ns mainGlobals mg → mg d.name = some (.ref fa) →
      ∃ (fd : FuncData), (∀ (s : Shared) (u : Value), BindsTo s fd ⟨[u], []⟩ [("script", u)]) ∧ ∀ base : Heap, (K w.params).In base → base.Ns mainGlobals mg → FnOk l.prog w (K w.params) mg base (L2.CX l.prog w) lv fa fd ["script"] (spLaw (K w.params))) :
    PySem.W.WalkO q loose XP YP l.row.toRowW d [] (fun f vs => PySem.call f vs) :=
  L2.walk_of (n := 63) (k := lv) (x := "script") (CX := fun w => L2.CX l.prog w) (sp := fun w => spLaw (K w.params)) hn (by decide) hdf hr hY hL
    (fun _ H a ns hl _ hS => ⟨a, ns, rfl, hS, hl, fun _ => rfl⟩) fun w H s e s' z => by
      obtain ⟨_, _, _, _, _, _, _, _, _, _, _, _, z⟩ := z
      exact z.elim
/-- the law's def, given all that it calls -/
theorem law_end {st : Stmt} {N : List Str} {b : Ss} {fa : Addr} {x : Str} (hd : DefAt K mg x st) (hm : mg x = some (.ref fa)) (S : FnScope N ["script"] (defScope st)) (hc : chSs N (defScope st) b (defBody st) = true)
    (hb : ∀ (kV doc pm : Value) (an : Option Addr) (cdv ct : Value) (us : List Value), us.length = 1 → bindArgs (PySem.W.fnOf x x (defArgs st) (defBody st) (defScope st) .none kV doc pm an cdv ct) ⟨us, []⟩ = pure ((["script"] : List Str).zip us))
    (hf : ∀ base : Heap, Facts T P w K mg base Cl lv) (hF : LawOk (runFn T N.length b)) :
    ∃ (fd : FuncData), (∀ (s : Shared) (u : Value), BindsTo s fd ⟨[u], []⟩ [("script", u)]) ∧ ∀ base : Heap, K.In base → base.Ns mainGlobals mg → FnOk P w K mg base (L2.CX P w) (lv + 1) fa fd ["script"] (spLaw K) := by
  obtain ⟨f, fd, F, hm'⟩ := hd
  rw [hm] at hm'
  cases hm'
  exact ⟨fd, fun s u => F.bindsA (ps := ["script"]) hb s [u] rfl, fun base _ _ => law_imp hF (fnOk_of F S hc (hf base))⟩
end
end Pu
/-! PuQ: reckoning with what a def is worth: equality of data, evaluation step by step, loops. -/
namespace Pu
open PySem PySem.Spec PyProof.Rows L2

/-! ### data that may be compared -/
mutual
def fitD : D → Nat → Bool
  | .non, _ => true
  | .bl _, _ => true
  | .int _, _ => true
  | .str x, _ => PyData.canLay0 (.str x)
  | .lst xs, n => match n with
    | 0 => false
    | m + 1 => fitDs xs m
  | .frl xs, n => match n with
    | 0 => false
    | m + 1 => fitDs xs m
  | .tup xs, n => match n with
    | 0 => false
    | m + 1 => fitDs xs m
  | .ins _ _ _, _ => false
def fitDs : List D → Nat → Bool
  | [], _ => true
  | d :: ds, n => fitD d n && fitDs ds n
end
mutual
def eqvD : D → D → Bool
  | .non, y => match y with
    | .non => true
    | _ => false
  | .bl a, y => match y with
    | .bl b => a == b
    | .int j => (if a then 1 else 0) == j
    | _ => false
  | .int i, y => match y with
    | .bl b => i == (if b then 1 else 0)
    | .int j => i == j
    | _ => false
  | .str a, y => match y with
    | .str b => a == b
    | _ => false
  | .lst xs, y => match y with
    | .lst ys => eqvDs xs ys
    | .frl ys => eqvDs xs ys
    | _ => false
  | .frl xs, y => match y with
    | .lst ys => eqvDs xs ys
    | .frl ys => eqvDs xs ys
    | _ => false
  | .tup xs, y => match y with
    | .tup ys => eqvDs xs ys
    | _ => false
  | .ins _ _ _, _ => false
def eqvDs : List D → List D → Bool
  | [], ys => match ys with
    | [] => true
    | _ => false
  | x :: xs, ys => match ys with
    | [] => false
    | y :: ys => eqvD x y && eqvDs xs ys
end
mutual
theorem toPy_fit : ∀ (d : D) (n : Nat), fitD d n = true → ∃ p, toPy d = some p ∧ p.canLay0 = true ∧ p.depth ≤ n
  | .non, n, _ => ⟨.none, rfl, rfl, by simp only [PyData.depth]; omega⟩
  | .bl b, n, _ => ⟨.bool b, rfl, rfl, by simp only [PyData.depth]; omega⟩
  | .int b, n, _ => ⟨.int b, rfl, rfl, by simp only [PyData.depth]; omega⟩
  | .str x, n, h => ⟨.str x, rfl, by simpa only [fitD] using h, by simp only [PyData.depth]; omega⟩
  | .lst xs, n, h => by
    cases n with
    | zero => simp only [fitD] at h; cases h
    | succ m =>
      simp only [fitD] at h
      obtain ⟨ps, e1, e2, e3⟩ := toPys_fit xs m h
      exact ⟨.list ps, by simp only [toPy, e1, Option.map_some], by simpa only [PyData.canLay0] using e2, by simp only [PyData.depth]; omega⟩
  | .frl xs, n, h => by
    cases n with
    | zero => simp only [fitD] at h; cases h
    | succ m =>
      simp only [fitD] at h
      obtain ⟨ps, e1, e2, e3⟩ := toPys_fit xs m h
      exact ⟨.list ps, by simp only [toPy, e1, Option.map_some], by simpa only [PyData.canLay0] using e2, by simp only [PyData.depth]; omega⟩
  | .tup xs, n, h => by
    cases n with
    | zero => simp only [fitD] at h; cases h
    | succ m =>
      simp only [fitD] at h
      obtain ⟨ps, e1, e2, e3⟩ := toPys_fit xs m h
      exact ⟨.tuple ps, by simp only [toPy, e1, Option.map_some], by simpa only [PyData.canLay0] using e2, by simp only [PyData.depth]; omega⟩
  | .ins _ _ _, n, h => by simp only [fitD] at h; cases h
theorem toPys_fit : ∀ (ds : List D) (n : Nat), fitDs ds n = true → ∃ ps, toPys ds = some ps ∧ PyData.canLayAll0 ps = true ∧ PyData.depthAll ps ≤ n
  | [], n, _ => ⟨[], rfl, rfl, by simp only [PyData.depthAll]; omega⟩
  | d :: ds, n, h => by
    simp only [fitDs, Bool.and_eq_true] at h
    obtain ⟨p, e1, e2, e3⟩ := toPy_fit d n h.1
    obtain ⟨ps, f1, f2, f3⟩ := toPys_fit ds n h.2
    exact ⟨p :: ps, by simp only [toPys, e1, f1], by simp only [PyData.canLayAll0, e2, f2, Bool.and_self], by simp only [PyData.depthAll]; omega⟩
end
mutual
theorem eqv_fit : ∀ (x y : D) (p q : PyData), toPy x = some p → toPy y = some q → PyData.eqv p q = eqvD x y
  | .non, y, p, q, h1, h2 => by
    cases h1
    cases y <;> simp only [toPy, Option.map_eq_some_iff] at h2 <;> first | (cases h2; rfl) | (obtain ⟨_, _, rfl⟩ := h2; rfl) | cases h2
  | .bl b, y, p, q, h1, h2 => by
    cases h1
    cases y <;> simp only [toPy, Option.map_eq_some_iff] at h2 <;> first | (cases h2; rfl) | (obtain ⟨_, _, rfl⟩ := h2; rfl) | cases h2
  | .int b, y, p, q, h1, h2 => by
    cases h1
    cases y <;> simp only [toPy, Option.map_eq_some_iff] at h2 <;> first | (cases h2; rfl) | (obtain ⟨_, _, rfl⟩ := h2; rfl) | cases h2
  | .str b, y, p, q, h1, h2 => by
    cases h1
    cases y <;> simp only [toPy, Option.map_eq_some_iff] at h2 <;> first | (cases h2; rfl) | (obtain ⟨_, _, rfl⟩ := h2; rfl) | cases h2
  | .lst xs, y, p, q, h1, h2 => by
    simp only [toPy, Option.map_eq_some_iff] at h1
    obtain ⟨ps, e1, rfl⟩ := h1
    cases y with
    | lst ys =>
      simp only [toPy, Option.map_eq_some_iff] at h2
      obtain ⟨qs, e2, rfl⟩ := h2
      simp only [eqvD, PyData.eqv]
      exact eqvs_fit xs ys ps qs e1 e2
    | frl ys =>
      simp only [toPy, Option.map_eq_some_iff] at h2
      obtain ⟨qs, e2, rfl⟩ := h2
      simp only [eqvD, PyData.eqv]
      exact eqvs_fit xs ys ps qs e1 e2
    | tup ys => simp only [toPy, Option.map_eq_some_iff] at h2; obtain ⟨qs, e2, rfl⟩ := h2; simp only [eqvD, PyData.eqv]
    | _ => simp only [toPy] at h2; cases h2 <;> simp only [eqvD, PyData.eqv]
  | .frl xs, y, p, q, h1, h2 => by
    simp only [toPy, Option.map_eq_some_iff] at h1
    obtain ⟨ps, e1, rfl⟩ := h1
    cases y with
    | lst ys =>
      simp only [toPy, Option.map_eq_some_iff] at h2
      obtain ⟨qs, e2, rfl⟩ := h2
      simp only [eqvD, PyData.eqv]
      exact eqvs_fit xs ys ps qs e1 e2
    | frl ys =>
      simp only [toPy, Option.map_eq_some_iff] at h2
      obtain ⟨qs, e2, rfl⟩ := h2
      simp only [eqvD, PyData.eqv]
      exact eqvs_fit xs ys ps qs e1 e2
    | tup ys => simp only [toPy, Option.map_eq_some_iff] at h2; obtain ⟨qs, e2, rfl⟩ := h2; simp only [eqvD, PyData.eqv]
    | _ => simp only [toPy] at h2; cases h2 <;> simp only [eqvD, PyData.eqv]
  | .tup xs, y, p, q, h1, h2 => by
    simp only [toPy, Option.map_eq_some_iff] at h1
    obtain ⟨ps, e1, rfl⟩ := h1
    cases y with
    | tup ys =>
      simp only [toPy, Option.map_eq_some_iff] at h2
      obtain ⟨qs, e2, rfl⟩ := h2
      simp only [eqvD, PyData.eqv]
      exact eqvs_fit xs ys ps qs e1 e2
    | lst ys => simp only [toPy, Option.map_eq_some_iff] at h2; obtain ⟨qs, e2, rfl⟩ := h2; simp only [eqvD, PyData.eqv]
    | frl ys => simp only [toPy, Option.map_eq_some_iff] at h2; obtain ⟨qs, e2, rfl⟩ := h2; simp only [eqvD, PyData.eqv]
    | _ => simp only [toPy] at h2; cases h2 <;> simp only [eqvD, PyData.eqv]
  | .ins _ _ _, y, p, q, h1, h2 => by simp only [toPy] at h1; cases h1
theorem eqvs_fit : ∀ (xs ys : List D) (ps qs : List PyData), toPys xs = some ps → toPys ys = some qs → PyData.eqvAll ps qs = eqvDs xs ys
  | [], ys, ps, qs, h1, h2 => by
    simp only [toPys] at h1
    cases h1
    cases ys with
    | nil => simp only [toPys] at h2; cases h2; rfl
    | cons y ys =>
      simp only [toPys] at h2
      split at h2
      · cases h2; rfl
      · cases h2
  | x :: xs, ys, ps, qs, h1, h2 => by
    simp only [toPys] at h1
    split at h1
    · rename_i p ps' e1 e2
      cases h1
      cases ys with
      | nil => simp only [toPys] at h2; cases h2; rfl
      | cons y ys =>
        simp only [toPys] at h2
        split at h2
        · rename_i q qs' f1 f2
          cases h2
          simp only [PyData.eqvAll, eqvDs, eqv_fit x y p q e1 f1, eqvs_fit xs ys ps' qs' e2 f2]
        · cases h2
    · cases h1
end
theorem shaped_fit {d : D} (h : fitD d 64 = true) : ∃ p, toPy d = some p ∧ SeqAt.shaped p = true := by
  obtain ⟨p, e1, e2, e3⟩ := toPy_fit d 64 h
  exact ⟨p, e1, by unfold SeqAt.shaped; rw [e2, decide_eq_true e3]; rfl⟩
theorem eqD_fit {x y : D} (h1 : fitD x 64 = true) (h2 : fitD y 64 = true) : eqD x y = some (.bl (eqvD x y)) := by
  obtain ⟨p, e1, f1⟩ := shaped_fit h1
  obtain ⟨q, e2, f2⟩ := shaped_fit h2
  unfold eqD
  rw [e1, e2]
  show (if SeqAt.shaped p = true ∧ SeqAt.shaped q = true then some (D.bl (PyData.eqv p q)) else none) = _
  rw [if_pos ⟨f1, f2⟩, eqv_fit x y p q e1 e2]
theorem neD_fit {x y : D} (h1 : fitD x 64 = true) (h2 : fitD y 64 = true) : neD x y = some (.bl (!eqvD x y)) := by
  obtain ⟨p, e1, f1⟩ := shaped_fit h1
  obtain ⟨q, e2, f2⟩ := shaped_fit h2
  unfold neD
  rw [e1, e2]
  show (if SeqAt.shaped p = true ∧ SeqAt.shaped q = true then some (D.bl (!PyData.eqv p q)) else none) = _
  rw [if_pos ⟨f1, f2⟩, eqv_fit x y p q e1 e2]
theorem any_fit {x : D} {p : PyData} (e : toPy x = some p) : ∀ {ys : List D} {ps : List PyData}, toPys ys = some ps → (ps.any fun z => PyData.eqv z p) = ys.any fun y => eqvD y x
  | [], ps, h => by
    simp only [toPys] at h
    cases h
    rfl
  | y :: ys, ps, h => by
    simp only [toPys] at h
    split at h
    · rename_i q qs e1 e2
      cases h
      rw [List.any_cons, List.any_cons, any_fit e e2, eqv_fit y x q p e1 e]
    · cases h
theorem memD_fit {x : D} {ys : List D} (h1 : fitD x 64 = true) (h2 : fitDs ys 63 = true) : memD x (.lst ys) = some (ys.any fun y => eqvD y x) := by
  obtain ⟨p, e1, f1⟩ := shaped_fit h1
  obtain ⟨q, e2, f2⟩ := shaped_fit (d := .lst ys) (by simpa only [fitD] using h2)
  simp only [toPy, Option.map_eq_some_iff] at e2
  obtain ⟨qs, e2, rfl⟩ := e2
  show (match toPy x, toPys ys with
    | some p, some ps => if SeqAt.shaped p = true ∧ SeqAt.shaped (.list ps) = true then some (ps.any fun z => PyData.eqv z p) else none
    | _, _ => none) = _
  rw [e1, e2]
  show (if SeqAt.shaped p = true ∧ SeqAt.shaped (.list qs) = true then some (qs.any fun z => PyData.eqv z p) else none) = _
  rw [if_pos ⟨f1, f2⟩, any_fit e1 e2]
theorem fitDs_mem {ds : List D} {n : Nat} : fitDs ds n = true ↔ ∀ d ∈ ds, fitD d n = true := by
  induction ds with
  | nil => simp [fitDs]
  | cons d ds ih => simp [fitDs, ih]
theorem eqvDs_ints : ∀ (xs ys : List Int), eqvDs (xs.map D.int) (ys.map D.int) = decide (xs = ys)
  | [], [] => rfl
  | [], _ :: _ => rfl
  | _ :: _, [] => rfl
  | x :: xs, y :: ys => by
    simp only [List.map_cons, eqvDs, eqvD, eqvDs_ints xs ys, List.cons.injEq, Bool.decide_and]
    rfl
mutual
theorem eqvD_refl : ∀ (d : D) (n : Nat), fitD d n = true → eqvD d d = true
  | .non, _, _ => rfl
  | .bl b, _, _ => by simp [eqvD]
  | .int b, _, _ => by simp [eqvD]
  | .str b, _, _ => by simp [eqvD]
  | .lst xs, n, h => by
    cases n with
    | zero => simp only [fitD] at h; cases h
    | succ m => simp only [fitD] at h; simp only [eqvD]; exact eqvDs_refl xs m h
  | .frl xs, n, h => by
    cases n with
    | zero => simp only [fitD] at h; cases h
    | succ m => simp only [fitD] at h; simp only [eqvD]; exact eqvDs_refl xs m h
  | .tup xs, n, h => by
    cases n with
    | zero => simp only [fitD] at h; cases h
    | succ m => simp only [fitD] at h; simp only [eqvD]; exact eqvDs_refl xs m h
  | .ins _ _ _, n, h => by simp only [fitD] at h; cases h
theorem eqvDs_refl : ∀ (ds : List D) (n : Nat), fitDs ds n = true → eqvDs ds ds = true
  | [], _, _ => rfl
  | d :: ds, n, h => by
    simp only [fitDs, Bool.and_eq_true] at h
    simp only [eqvDs, eqvD_refl d n h.1, eqvDs_refl ds n h.2, Bool.and_self]
end
/-! ### evaluation, in small steps -/
def op2 (F : D → D → Option D) (a b : Res D) : Res D := a.bind fun x => b.bind fun y => Res.ofO (F x y)
def op1 (F : D → Option D) (a : Res D) : Res D := a.bind fun x => Res.ofO (F x)
def andR (a b : Res D) : Res D := a.bind fun d => condR d b (.ok (.bl false))
def orR (a b : Res D) : Res D := a.bind fun d => condR d (.ok (.bl true)) b
def iteR (c a b : Res D) : Res D := c.bind fun d => condR d a b
def notR' (a : Res D) : Res D := a.bind notR
def consR (a : Res D) (b : Res (List D)) : Res (List D) := a.bind fun d => b.bind fun ds => .ok (d :: ds)
def appR2 (a b : Res (List D)) : Res (List D) := a.bind fun d => b.bind fun ds => .ok (d ++ ds)
def biR (b : BI) (a : Res (List D)) : Res D := a.bind fun ds => Res.ofO (b.fn ds)
def tupR (a : Res (List D)) : Res D := a.bind fun ds => .ok (.tup ds)
def lstR (a : Res (List D)) : Res D := a.bind fun ds => .ok (.lst ds)
def fldR2 (T : Tab) (f : Str) (a : Res D) : Res D := a.bind fun d => fldR T f d
def tyR (F : D → Option Bool) (a : Res D) : Res D := a.bind fun d => Res.ofO ((F d).map .bl)
def lcR (a : Res (List D)) (k : List D → Res (List D)) : Res D := (a.bind k).bind fun ys => .ok (.lst ys)
def prR (o : Option (Res D)) (k : Option Int → Res D) : Res D := match o with
  | none => k none
  | some r => r.bind fun d => match d with
    | .int i => k (some i)
    | _ => .stuck
def itR (f : D → Res (List D)) (a : Res D) : Res (List D) := a.bind f
def rngR1 (a : Res D) : Res (List D) := a.bind fun y => rngR (.int 0) y
def rngR2 (a b : Res D) : Res (List D) := a.bind fun x => b.bind fun y => rngR x y
section
variable {F : D → D → Option D} {F1 : D → Option D} {x y d : D} {xs ds es : List D} {r r2 : Res D} {rs : Res (List D)} {b : BI} {k : List D → Res (List D)} {T : Tab} {f : Str}
@[simp] theorem op2_ok : op2 F (.ok x) (.ok y) = Res.ofO (F x y) := rfl
@[simp] theorem op1_ok : op1 F1 (.ok x) = Res.ofO (F1 x) := rfl
@[simp] theorem andR_t : andR (.ok (.bl true)) r = r := rfl
@[simp] theorem andR_f : andR (.ok (.bl false)) r = .ok (.bl false) := rfl
@[simp] theorem andR_b {p q : Bool} : andR (.ok (.bl p)) (.ok (.bl q)) = .ok (.bl (p && q)) := by cases p <;> rfl
@[simp] theorem orR_t : orR (.ok (.bl true)) r = .ok (.bl true) := rfl
@[simp] theorem orR_f : orR (.ok (.bl false)) r = r := rfl
@[simp] theorem orR_b {p q : Bool} : orR (.ok (.bl p)) (.ok (.bl q)) = .ok (.bl (p || q)) := by cases p <;> rfl
theorem andR_if {p : Prop} [Decidable p] : andR (.ok (.bl (decide p))) r = if p then r else .ok (.bl false) := by
  by_cases h : p
  · rw [if_pos h, decide_eq_true h]; rfl
  · rw [if_neg h, decide_eq_false h]; rfl
theorem orR_if {p : Prop} [Decidable p] : orR (.ok (.bl (decide p))) r = if p then .ok (.bl true) else r := by
  by_cases h : p
  · rw [if_pos h, decide_eq_true h]; rfl
  · rw [if_neg h, decide_eq_false h]; rfl
@[simp] theorem iteR_t : iteR (.ok (.bl true)) r r2 = r := rfl
@[simp] theorem iteR_f : iteR (.ok (.bl false)) r r2 = r2 := rfl
theorem iteR_if {p : Bool} : iteR (.ok (.bl p)) r r2 = if p = true then r else r2 := by cases p <;> rfl
@[simp] theorem notR'_ok {p : Bool} : notR' (.ok (.bl p)) = .ok (.bl (!p)) := rfl
@[simp] theorem consR_ok : consR (.ok d) (.ok ds) = .ok (d :: ds) := rfl
@[simp] theorem appR2_ok : appR2 (.ok ds) (.ok es) = .ok (ds ++ es) := rfl
@[simp] theorem biR_ok : biR b (.ok ds) = Res.ofO (b.fn ds) := rfl
@[simp] theorem tupR_ok : tupR (.ok ds) = .ok (.tup ds) := rfl
@[simp] theorem lstR_ok : lstR (.ok ds) = .ok (.lst ds) := rfl
@[simp] theorem fldR2_ok : fldR2 T f (.ok d) = fldR T f d := rfl
theorem fldR_at {c : Str} {ns : List Str} (h1 : T.fd c f = true) (h2 : (ns.zip ds).lookup f = some d) : fldR T f (.ins c ns ds) = .ok d := by
  show (if T.fd c f = true then Res.ofO ((ns.zip ds).lookup f) else .stuck) = _
  rw [if_pos h1, h2]
  rfl
theorem tyR_ok {F : D → Option Bool} {p : Bool} (h : F d = some p) : tyR F (.ok d) = .ok (.bl p) := by
  show Res.ofO ((F d).map D.bl) = _
  rw [h]
  rfl
theorem lcR_ok {ys : List D} (h : k ds = .ok ys) : lcR (.ok ds) k = .ok (.lst ys) := by
  show (k ds).bind _ = _
  rw [h]
  rfl
@[simp] theorem apR_ok {G : List D → Res D} : apR (some G) (.ok ds) = G ds := rfl
@[simp] theorem ofO_some {α : Type} {a : α} : Res.ofO (some a) = .ok a := rfl
@[simp] theorem prR_none {k : Option Int → Res D} : prR none k = k none := rfl
@[simp] theorem prR_int {k : Option Int → Res D} {i : Int} : prR (some (.ok (.int i))) k = k (some i) := rfl
@[simp] theorem itR_lst : itR itemsR (.ok (.lst xs)) = .ok xs := rfl
@[simp] theorem itR_frl : itR itemsR (.ok (.frl xs)) = .ok xs := rfl
@[simp] theorem itR_tup : itR itemsR (.ok (.tup xs)) = .ok xs := rfl
@[simp] theorem itR_revL : itR revR (.ok (.lst xs)) = .ok xs.reverse := rfl
@[simp] theorem itR_revT : itR revR (.ok (.tup xs)) = .ok xs.reverse := rfl
theorem two62 : (2 : Int) ^ 62 = 4611686018427387904 := by decide +kernel
/-- a range of places -/
def nats (n : Nat) : List D := (List.range n).map fun k => .int (k : Nat)
theorem res_bind {α β : Type} {a : α} {f : α → Res β} : Res.bind (.ok a) f = f a := rfl
theorem rng_if {i j : Int} : rngR (.int i) (.int j) = (if -(2 ^ 62) ≤ i ∧ i < 2 ^ 62 ∧ -(2 ^ 62) ≤ j ∧ j < 2 ^ 62 ∧ (j - i).toNat ≤ sizeLine then .ok ((List.range (j - i).toNat).map fun k => .int (i + (k : Nat))) else .stuck) := by
  rw [rngR]
theorem rng_ok {i j : Int} (h : -4611686018427387904 ≤ i ∧ i < 4611686018427387904 ∧ -4611686018427387904 ≤ j ∧ j < 4611686018427387904 ∧ (j - i).toNat ≤ 16777216) : rngR (.int i) (.int j) = .ok ((List.range (j - i).toNat).map fun k => .int (i + (k : Nat))) := by
  rw [rng_if, two62, PySem.sizeLine_eq, if_pos h]
theorem rngR_nat {m n : Nat} (h : n ≤ 16777216) (hm : m ≤ 16777216) : rngR (.int (m : Int)) (.int (n : Int)) = .ok ((List.range (n - m)).map fun k => .int ((m + k : Nat) : Int)) := by
  rw [rng_ok (by omega)]
  rw [show ((n : Int) - (m : Int)).toNat = n - m by omega]
  congr 1
theorem rngR_0 {n : Nat} (h : n ≤ 16777216) : rngR (.int 0) (.int (n : Int)) = .ok (nats n) := by
  rw [rng_ok (by omega)]
  rw [show ((n : Int) - 0).toNat = n by omega]
  unfold nats
  congr 1
  exact List.map_congr_left fun k _ => by rw [Int.zero_add]
theorem rngR1_nat {n : Nat} (h : n ≤ 16777216) : rngR1 (.ok (.int (n : Int))) = .ok (nats n) := by
  unfold rngR1
  rw [res_bind]
  exact rngR_0 h
theorem rngR2_nat {m n : Nat} (h : n ≤ 16777216) (hm : m ≤ 16777216) : rngR2 (.ok (.int (m : Int))) (.ok (.int (n : Int))) = .ok ((List.range (n - m)).map fun k => .int ((m + k : Nat) : Int)) := by
  unfold rngR2
  rw [res_bind, res_bind]
  exact rngR_nat h hm
end
section
variable {T : Tab} {ρ : Ro} {a b c : E} {o o2 : Operator} {p p2 : CmpOp} {xs ys : Es} {m : Md} {i : Nat} {f : Str} {ks : List Str} {k : BI} {ts : List Ty} {t : Ty} {lo hi : Eo}
@[simp] theorem ev_var : ev T (.var i) .val ρ = getV ρ i := by simp only [ev]
@[simp] theorem ev_varB : ev T (.var i) .bor ρ = getB ρ i := by simp only [ev]
@[simp] theorem ev_varT : ev T (.var i) .tst ρ = op1 truD (getB ρ i) := by simp only [ev, op1]
@[simp] theorem ev_non : ev T .non .val ρ = .ok .non := by simp only [ev, fin]
@[simp] theorem ev_nonB : ev T .non .bor ρ = .ok .non := by simp only [ev, fin]
@[simp] theorem ev_bl {v : Bool} : ev T (.bl v) .val ρ = .ok (.bl v) := by simp only [ev, fin]
@[simp] theorem ev_blB {v : Bool} : ev T (.bl v) .bor ρ = .ok (.bl v) := by simp only [ev, fin]
@[simp] theorem ev_blT {v : Bool} : ev T (.bl v) .tst ρ = .ok (.bl v) := by simp only [ev, fin]; rfl
@[simp] theorem ev_int {v : Int} : ev T (.int v) .val ρ = .ok (.int v) := by simp only [ev, fin]
@[simp] theorem ev_intB {v : Int} : ev T (.int v) .bor ρ = .ok (.int v) := by simp only [ev, fin]
@[simp] theorem ev_str {v : Str} : ev T (.str v) .val ρ = .ok (.str v) := by simp only [ev, fin]
@[simp] theorem ev_strB {v : Str} : ev T (.str v) .bor ρ = .ok (.str v) := by simp only [ev, fin]
@[simp] theorem ev_glob : ev T (.glob f) .val ρ = Res.ofO (T.gl f) := by simp only [ev, fin]
@[simp] theorem ev_globB : ev T (.glob f) .bor ρ = Res.ofO (T.gl f) := by simp only [ev, fin]
@[simp] theorem ev_bin : ev T (.bin o a b) .val ρ = op2 (binD o) (ev T a .bor ρ) (ev T b .bor ρ) := by simp only [ev, fin]; rfl
@[simp] theorem ev_binB : ev T (.bin o a b) .bor ρ = op2 (binD o) (ev T a .bor ρ) (ev T b .bor ρ) := by simp only [ev, fin]; rfl
@[simp] theorem ev_binT : ev T (.bin o a b) .tst ρ = op1 truD (op2 (binD o) (ev T a .bor ρ) (ev T b .bor ρ)) := by simp only [ev, fin]; rfl
@[simp] theorem ev_neg : ev T (.neg a) .val ρ = op1 negD (ev T a .bor ρ) := by simp only [ev, fin]; rfl
@[simp] theorem ev_negB : ev T (.neg a) .bor ρ = op1 negD (ev T a .bor ρ) := by simp only [ev, fin]; rfl
@[simp] theorem ev_cmp : ev T (.cmp p a b) m ρ = op2 (cmpD p) (ev T a .bor ρ) (ev T b .bor ρ) := by simp only [ev]; rfl
theorem and2 {r r2 r3 : Res D} : (r.bind fun x => r2.bind fun y => (Res.ofO (cmpD p x y)).bind fun d => condR d (r3.bind fun z => Res.ofO (cmpD p2 y z)) (.ok (.bl false))) = andR (op2 (cmpD p) r r2) (op2 (cmpD p2) r2 r3) := by
  cases r with
  | exc c ns ds => rfl
  | stuck => rfl
  | ok x =>
    cases r2 with
    | exc c ns ds => rfl
    | stuck => rfl
    | ok y => rfl
@[simp] theorem ev_cmp2 : ev T (.cmp2 p p2 a b c) m ρ = andR (op2 (cmpD p) (ev T a .bor ρ) (ev T b .bor ρ)) (op2 (cmpD p2) (ev T b .bor ρ) (ev T c .bor ρ)) := by simp only [ev]; exact and2
@[simp] theorem ev_not : ev T (.not_ a) .val ρ = notR' (ev T a .val ρ) := by simp only [ev]; rfl
@[simp] theorem ev_notB : ev T (.not_ a) .bor ρ = notR' (ev T a .val ρ) := by simp only [ev]; rfl
@[simp] theorem ev_notT : ev T (.not_ a) .tst ρ = notR' (ev T a .tst ρ) := by simp only [ev]; rfl
@[simp] theorem ev_and : ev T (.ands xs) .val ρ = evAnd T xs .val ρ := by simp only [ev]
@[simp] theorem ev_andB : ev T (.ands xs) .bor ρ = evAnd T xs .val ρ := by simp only [ev]
@[simp] theorem ev_andT : ev T (.ands xs) .tst ρ = evAnd T xs .tst ρ := by simp only [ev]
@[simp] theorem ev_or : ev T (.ors xs) .val ρ = evOr T xs .val ρ := by simp only [ev]
@[simp] theorem ev_orB : ev T (.ors xs) .bor ρ = evOr T xs .val ρ := by simp only [ev]
@[simp] theorem ev_orT : ev T (.ors xs) .tst ρ = evOr T xs .tst ρ := by simp only [ev]
theorem bind_ok {r : Res D} : (r.bind fun d => .ok d) = r := by cases r <;> rfl
@[simp] theorem evAnd_1 : evAnd T (.cons a .nil) m ρ = ev T a m ρ := by
  simp only [evAnd, Es.isNil, if_true]
  exact bind_ok
@[simp] theorem evAnd_2 : evAnd T (.cons a (.cons b xs)) m ρ = andR (ev T a m ρ) (evAnd T (.cons b xs) m ρ) := by
  rw [evAnd]
  simp only [Es.isNil, Bool.false_eq_true, if_false]
  rfl
@[simp] theorem evOr_1 : evOr T (.cons a .nil) m ρ = ev T a m ρ := by
  simp only [evOr, Es.isNil, if_true]
  exact bind_ok
@[simp] theorem evOr_2 : evOr T (.cons a (.cons b xs)) m ρ = orR (ev T a m ρ) (evOr T (.cons b xs) m ρ) := by
  rw [evOr]
  simp only [Es.isNil, Bool.false_eq_true, if_false]
  rfl
@[simp] theorem ev_ife : ev T (.ife a b c) .val ρ = iteR (ev T a .tst ρ) (ev T b .val ρ) (ev T c .val ρ) := by simp only [ev]; rfl
@[simp] theorem ev_ifeB : ev T (.ife a b c) .bor ρ = iteR (ev T a .tst ρ) (ev T b .val ρ) (ev T c .val ρ) := by simp only [ev]; rfl
@[simp] theorem ev_call : ev T (.call f xs) .val ρ = apR (T.fn f xs.len) (evs T xs ρ) := by simp only [ev, fin]
@[simp] theorem ev_callB : ev T (.call f xs) .bor ρ = apR (T.fn f xs.len) (evs T xs ρ) := by simp only [ev, fin]
@[simp] theorem ev_callT : ev T (.call f xs) .tst ρ = op1 truD (apR (T.fn f xs.len) (evs T xs ρ)) := by simp only [ev, fin]; rfl
@[simp] theorem ev_callk : ev T (.callk f xs ks ys) .val ρ = apR (T.fk f xs.len ks) (appR2 (evs T xs ρ) (evs T ys ρ)) := by simp only [ev, fin]; rfl
@[simp] theorem ev_callkB : ev T (.callk f xs ks ys) .bor ρ = apR (T.fk f xs.len ks) (appR2 (evs T xs ρ) (evs T ys ρ)) := by simp only [ev, fin]; rfl
@[simp] theorem ev_bi : ev T (.bi k xs) .val ρ = biR k (evsB T xs ρ) := by simp only [ev, fin]; rfl
@[simp] theorem ev_biB : ev T (.bi k xs) .bor ρ = biR k (evsB T xs ρ) := by simp only [ev, fin]; rfl
@[simp] theorem ev_biT : ev T (.bi k xs) .tst ρ = op1 truD (biR k (evsB T xs ρ)) := by simp only [ev, fin]; rfl
@[simp] theorem ev_isi : ev T (.isi a ts) .val ρ = tyR (isTys ts) (ev T a .bor ρ) := by simp only [ev, fin]; rfl
@[simp] theorem ev_isiT : ev T (.isi a ts) .tst ρ = op1 truD (tyR (isTys ts) (ev T a .bor ρ)) := by simp only [ev, fin]; rfl
@[simp] theorem ev_isi1 : ev T (.isi1 a t) .val ρ = tyR (isTy t) (ev T a .bor ρ) := by simp only [ev, fin]; rfl
@[simp] theorem ev_isi1T : ev T (.isi1 a t) .tst ρ = op1 truD (tyR (isTy t) (ev T a .bor ρ)) := by simp only [ev, fin]; rfl
@[simp] theorem ev_fld : ev T (.fld a f) .val ρ = fldR2 T f (ev T a .bor ρ) := by simp only [ev, fin]; rfl
@[simp] theorem ev_fldB : ev T (.fld a f) .bor ρ = fldR2 T f (ev T a .bor ρ) := by simp only [ev, fin]; rfl
@[simp] theorem ev_fldT : ev T (.fld a f) .tst ρ = op1 truD (fldR2 T f (ev T a .bor ρ)) := by simp only [ev, fin]; rfl
@[simp] theorem ev_idx : ev T (.idx a b) .val ρ = op2 idxD (ev T a .bor ρ) (ev T b .bor ρ) := by simp only [ev, fin]; rfl
@[simp] theorem ev_idxB : ev T (.idx a b) .bor ρ = op2 idxD (ev T a .bor ρ) (ev T b .bor ρ) := by simp only [ev, fin]; rfl
@[simp] theorem ev_idxT : ev T (.idx a b) .tst ρ = op1 truD (op2 idxD (ev T a .bor ρ) (ev T b .bor ρ)) := by simp only [ev, fin]; rfl
def evoR (T : Tab) (ρ : Ro) : Eo → Option (Res D)
  | .no => none
  | .yes e => some (ev T e .bor ρ)
def slcR (a : Res D) (lo hi : Option (Res D)) : Res D := a.bind fun x => prR lo fun l => prR hi fun u => Res.ofO (slcD x l u)
@[simp] theorem slcR_ok {x : D} {l u : Option (Res D)} : slcR (.ok x) l u = prR l fun l => prR u fun u => Res.ofO (slcD x l u) := rfl
theorem prt_prR {o : Eo} {k : Option Int → Res D} : prt (evo T o) ρ k = prR (evoR T ρ o) k := by
  cases o with
  | no => simp only [evo, evoR]; rfl
  | yes e =>
    simp only [evo, evoR]
    show (ev T e .bor ρ).bind _ = (ev T e .bor ρ).bind _
    refine congrArg _ (funext fun d => ?_)
    cases d <;> rfl
@[simp] theorem ev_slc : ev T (.slc a lo hi) .val ρ = slcR (ev T a .bor ρ) (evoR T ρ lo) (evoR T ρ hi) := by
  simp only [ev, fin, slc, slcR, prt_prR]
@[simp] theorem ev_slcB : ev T (.slc a lo hi) .bor ρ = slcR (ev T a .bor ρ) (evoR T ρ lo) (evoR T ρ hi) := by
  simp only [ev, fin, slc, slcR, prt_prR]
@[simp] theorem evoR_no : evoR T ρ .no = none := rfl
@[simp] theorem evoR_yes {e : E} : evoR T ρ (.yes e) = some (ev T e .bor ρ) := rfl
@[simp] theorem ev_tup : ev T (.tup xs) .val ρ = tupR (evs T xs ρ) := by simp only [ev, fin]; rfl
@[simp] theorem ev_tupB : ev T (.tup xs) .bor ρ = tupR (evs T xs ρ) := by simp only [ev, fin]; rfl
@[simp] theorem ev_lst : ev T (.lst xs) .val ρ = lstR (evs T xs ρ) := by simp only [ev, fin]; rfl
@[simp] theorem ev_lstB : ev T (.lst xs) .bor ρ = lstR (evs T xs ρ) := by simp only [ev, fin]; rfl
theorem lc_eq {rs : Res (List D)} {k : List D → Res (List D)} : (rs.bind fun ds => (k ds).bind fun ys => .ok (.lst ys)) = lcR rs k := by cases rs <;> rfl
@[simp] theorem ev_lc {own : List (Str × Nat)} {elt : E} {tg : Tg} {it : It} {c : Eo} : ev T (.lc own elt tg it c) .val ρ = lcR (evi T it true ρ) (lcL (asg tg) (evc T c) (ev T elt .val) (wipeR ρ (own.map (·.2)))) := by
  simp only [ev, fin]
  exact lc_eq
@[simp] theorem ev_lcB {own : List (Str × Nat)} {elt : E} {tg : Tg} {it : It} {c : Eo} : ev T (.lc own elt tg it c) .bor ρ = lcR (evi T it true ρ) (lcL (asg tg) (evc T c) (ev T elt .val) (wipeR ρ (own.map (·.2)))) := by
  simp only [ev, fin]
  exact lc_eq
@[simp] theorem evs_nil : evs T .nil ρ = .ok [] := by simp only [evs]
@[simp] theorem evs_cons {es : Es} : evs T (.cons a es) ρ = consR (ev T a .val ρ) (evs T es ρ) := by simp only [evs]; rfl
@[simp] theorem evsB_nil : evsB T .nil ρ = .ok [] := by simp only [evsB]
@[simp] theorem evsB_cons {es : Es} : evsB T (.cons a es) ρ = consR (ev T a .bor ρ) (evsB T es ρ) := by simp only [evsB]; rfl
@[simp] theorem evi_seqT : evi T (.seq a) true ρ = itR itemsR (ev T a .bor ρ) := by simp only [evi]; rfl
@[simp] theorem evi_seqF : evi T (.seq a) false ρ = itR itemsR (ev T a .val ρ) := by simp only [evi]; rfl
@[simp] theorem evi_rng {bb : Bool} : evi T (.rng a) bb ρ = rngR1 (ev T a .bor ρ) := by cases bb <;> (simp only [evi]; rfl)
@[simp] theorem evi_rng2 {bb : Bool} : evi T (.rng2 a b) bb ρ = rngR2 (ev T a .bor ρ) (ev T b .bor ρ) := by cases bb <;> (simp only [evi]; rfl)
@[simp] theorem evi_revT : evi T (.rev a) true ρ = itR revR (ev T a .bor ρ) := by simp only [evi]; rfl
@[simp] theorem evi_revF : evi T (.rev a) false ρ = itR revR (ev T a .val ρ) := by simp only [evi]; rfl
@[simp] theorem evc_no : evc T .no ρ = .ok (.bl true) := by simp only [evc]
@[simp] theorem evc_yes : evc T (.yes a) ρ = ev T a .tst ρ := by simp only [evc]
end
/-! slots -/
section
variable {ρ : Ro} {i : Nat} {d : D} {ds : List D} {x : Sl} {c : Str} {ns : List Str} {is : List Nat}
@[simp] theorem getV_0 : getV (.val d :: ρ) 0 = .ok d := rfl
@[simp] theorem getV_s : getV (x :: ρ) (i + 1) = getV ρ i := rfl
@[simp] theorem getB_0 : getB (.val d :: ρ) 0 = .ok d := rfl
@[simp] theorem getB_o : getB (.own ds :: ρ) 0 = .ok (.lst ds) := rfl
@[simp] theorem getB_j : getB (.obj c ns ds :: ρ) 0 = .ok (.ins c ns ds) := rfl
@[simp] theorem getB_s : getB (x :: ρ) (i + 1) = getB ρ i := rfl
@[simp] theorem pub1_v : pub1 (.val d :: ρ) 0 = .val d :: ρ := rfl
@[simp] theorem pub1_n : pub1 (.no :: ρ) 0 = .no :: ρ := rfl
@[simp] theorem pub1_j : pub1 (.obj c ns ds :: ρ) 0 = .obj c ns ds :: ρ := rfl
@[simp] theorem pub1_o : pub1 (.own ds :: ρ) 0 = .val (.lst ds) :: ρ := rfl
@[simp] theorem pub1_s : pub1 (x :: ρ) (i + 1) = x :: pub1 ρ i := by
  unfold pub1
  rw [List.getElem?_cons_succ]
  cases ρ[i]? with
  | none => rfl
  | some s => cases s <;> rfl
@[simp] theorem pubs_nil : pubs [] ρ = ρ := rfl
@[simp] theorem pubs_cons : pubs (i :: is) ρ = pubs is (pub1 ρ i) := rfl
@[simp] theorem set_0 {y : Sl} : (y :: ρ).set 0 x = x :: ρ := rfl
@[simp] theorem set_s {y : Sl} : (y :: ρ).set (i + 1) x = y :: ρ.set i x := rfl
end
/-! statements -/
def rtR (ρ : Ro) (r : Res D) : SR := onD ρ r .rt
def setR (ss : Ss) (T : Tab) (i : Nat) (e : E) (ρ : Ro) (r : Res D) : SR := thenR (onD ρ r fun d => .nx (ρ.set i (slOf e d))) (exs T ss)
def setTR (ss : Ss) (T : Tab) (tg : Tg) (ρ : Ro) (r : Res D) : SR := thenR (onD ρ r fun d => asgR tg ρ d) (exs T ss)
def appS (ss : Ss) (T : Tab) (i : Nat) (ρ : Ro) (r : Res D) : SR := thenR (ownR ρ i fun ds => onD ρ r fun d => appR ρ i ds d) (exs T ss)
def setIS (ss : Ss) (T : Tab) (i : Nat) (ρ : Ro) (r k : Res D) : SR := thenR (onD ρ r fun d => ownR ρ i fun ds => onD ρ k fun k => setIR ρ i ds d k) (exs T ss)
def setFS (ss : Ss) (T : Tab) (i : Nat) (f : Str) (ρ : Ro) (r : Res D) : SR := thenR (onD ρ r fun d => objR ρ i (setFR T ρ i f d)) (exs T ss)
def iteS (ss a b : Ss) (T : Tab) (ρ : Ro) (r : Res D) : SR := thenR (onB ρ r (exs T a ρ) (exs T b ρ)) (exs T ss)
def forS (ss : Ss) (tg : Tg) (b : Ss) (T : Tab) (ρ : Ro) (r : Res (List D)) : SR := thenR (forR tg (exs T b) ρ r) (exs T ss)
def expS (ss : Ss) (T : Tab) (ρ : Ro) (r : Res D) : SR := thenR (onD ρ r fun _ => .nx ρ) (exs T ss)
/-! .. each at the slots where its lists have been handed on -/
def atSet (ss : Ss) (T : Tab) (i : Nat) (e : E) (ρ : Ro) : SR := setR ss T i e ρ (ev T e .val ρ)
def atSetT (ss : Ss) (T : Tab) (tg : Tg) (e : E) (ρ : Ro) : SR := setTR ss T tg ρ (ev T e .val ρ)
def atApp (ss : Ss) (T : Tab) (i : Nat) (e : E) (ρ : Ro) : SR := appS ss T i ρ (ev T e .val ρ)
def atSetI (ss : Ss) (T : Tab) (i : Nat) (ix e : E) (ρ : Ro) : SR := setIS ss T i ρ (ev T e .val ρ) (ev T ix .bor ρ)
def atSetF (ss : Ss) (T : Tab) (i : Nat) (f : Str) (e : E) (ρ : Ro) : SR := setFS ss T i f ρ (ev T e .val ρ)
def atIte (ss : Ss) (T : Tab) (c : E) (a b : Ss) (ρ : Ro) : SR := iteS ss a b T ρ (ev T c .tst ρ)
def atFor (ss : Ss) (T : Tab) (tg : Tg) (it : It) (b : Ss) (ρ : Ro) : SR := forS ss tg b T ρ (evi T it false ρ)
def atExp (ss : Ss) (T : Tab) (e : E) (ρ : Ro) : SR := expS ss T ρ (ev T e .val ρ)
def atRet (T : Tab) (e : E) (ρ : Ro) : SR := rtR ρ (ev T e .val ρ)
section
variable {T : Tab} {ρ : Ro} {ss a b : Ss} {e c ix : E} {i : Nat} {tg : Tg} {it : It} {f : Str} {d k : D} {ds : List D}
@[simp] theorem exs_nil : exs T .nil ρ = .nx ρ := by simp only [exs]
@[simp] theorem exs_set : exs T (.cons (.set i e) ss) ρ = atSet ss T i e (pubs (pv e .val) ρ) := by simp only [exs, ex]; rfl
@[simp] theorem exs_setT : exs T (.cons (.setT tg e) ss) ρ = atSetT ss T tg e (pubs (pv e .val) ρ) := by simp only [exs, ex]; rfl
@[simp] theorem exs_app : exs T (.cons (.app i e) ss) ρ = atApp ss T i e (pubs (pv e .val) ρ) := by simp only [exs, ex]; rfl
@[simp] theorem exs_setI : exs T (.cons (.setI i ix e) ss) ρ = atSetI ss T i ix e (pubs (pv e .val ++ pv ix .bor) ρ) := by simp only [exs, ex]; rfl
@[simp] theorem exs_setF : exs T (.cons (.setF i f e) ss) ρ = atSetF ss T i f e (pubs (pv e .val) ρ) := by simp only [exs, ex]; rfl
@[simp] theorem exs_ite : exs T (.cons (.ite c a b) ss) ρ = atIte ss T c a b (pubs (pv c .tst) ρ) := by simp only [exs, ex]; rfl
@[simp] theorem exs_for : exs T (.cons (.for_ tg it b) ss) ρ = atFor ss T tg it b (pubs (pvi it .val) ρ) := by simp only [exs, ex]; rfl
@[simp] theorem exs_exp : exs T (.cons (.exp e) ss) ρ = atExp ss T e (pubs (pv e .val) ρ) := by simp only [exs, ex]; rfl
theorem onD_rt {r : Res D} : thenR (onD ρ r .rt) (exs T ss) = rtR ρ r := by cases r <;> rfl
@[simp] theorem exs_ret : exs T (.cons (.ret (.yes e)) ss) ρ = atRet T e (pubs (pv e .val) ρ) := by
  simp only [exs, ex]
  exact onD_rt
@[simp] theorem exs_retN : exs T (.cons (.ret .no) ss) ρ = .rt .non := by simp only [exs, ex]; rfl
@[simp] theorem exs_brk : exs T (.cons .brk ss) ρ = .bk ρ := by simp only [exs, ex]; rfl
@[simp] theorem exs_cnt : exs T (.cons .cnt ss) ρ = .ct ρ := by simp only [exs, ex]; rfl
@[simp] theorem exs_pass : exs T (.cons .pass ss) ρ = exs T ss ρ := by simp only [exs, ex]; rfl
@[simp] theorem atSet_eq : atSet ss T i e ρ = setR ss T i e ρ (ev T e .val ρ) := rfl
@[simp] theorem atSetT_eq : atSetT ss T tg e ρ = setTR ss T tg ρ (ev T e .val ρ) := rfl
@[simp] theorem atApp_eq : atApp ss T i e ρ = appS ss T i ρ (ev T e .val ρ) := rfl
@[simp] theorem atSetI_eq : atSetI ss T i ix e ρ = setIS ss T i ρ (ev T e .val ρ) (ev T ix .bor ρ) := rfl
@[simp] theorem atSetF_eq : atSetF ss T i f e ρ = setFS ss T i f ρ (ev T e .val ρ) := rfl
@[simp] theorem atIte_eq : atIte ss T c a b ρ = iteS ss a b T ρ (ev T c .tst ρ) := rfl
@[simp] theorem atFor_eq : atFor ss T tg it b ρ = forS ss tg b T ρ (evi T it false ρ) := rfl
@[simp] theorem atExp_eq : atExp ss T e ρ = expS ss T ρ (ev T e .val ρ) := rfl
@[simp] theorem atRet_eq : atRet T e ρ = rtR ρ (ev T e .val ρ) := rfl
@[simp] theorem rtR_ok : rtR ρ (.ok d) = .rt d := rfl
@[simp] theorem setR_ok : setR ss T i e ρ (.ok d) = exs T ss (ρ.set i (slOf e d)) := rfl
theorem setTR_ok {xs : List D} {is : List Nat} (h : xs.length = is.length) : setTR ss T (.tp is) ρ (.ok (.tup xs)) = exs T ss (setAll is xs ρ) := by
  unfold setTR
  simp only [onD, asgR, asg, if_pos h, thenR]
theorem appS_ok (h : ρ[i]? = some (.own ds)) (hl : ds.length < 16777216) : appS ss T i ρ (.ok d) = exs T ss (ρ.set i (.own (ds ++ [d]))) := by
  unfold appS
  simp only [ownR, h, onD, appR]
  rw [if_pos (by rw [PySem.sizeLine_eq]; exact hl)]
  rfl
theorem setFS_ok {cn : Str} {ns : List Str} (h : ρ[i]? = some (.obj cn ns ds)) (h1 : T.fd cn f = true) (h2 : f ∉ ns) (h3 : ns.length < 999) : setFS ss T i f ρ (.ok d) = exs T ss (ρ.set i (.obj cn (ns ++ [f]) (ds ++ [d]))) := by
  unfold setFS
  simp only [onD, objR, h, setFR]
  rw [if_pos ⟨h1, h2, h3⟩]
  rfl
@[simp] theorem iteS_t : iteS ss a b T ρ (.ok (.bl true)) = thenR (exs T a ρ) (exs T ss) := rfl
@[simp] theorem iteS_f : iteS ss a b T ρ (.ok (.bl false)) = thenR (exs T b ρ) (exs T ss) := rfl
@[simp] theorem iteS_b {p : Bool} : iteS ss a b T ρ (.ok (.bl p)) = if p = true then thenR (exs T a ρ) (exs T ss) else thenR (exs T b ρ) (exs T ss) := by cases p <;> rfl
@[simp] theorem forS_ok : forS ss tg b T ρ (.ok ds) = thenR (forL tg (exs T b) ds ρ) (exs T ss) := rfl
@[simp] theorem expS_ok : expS ss T ρ (.ok d) = exs T ss ρ := rfl
@[simp] theorem thenR_nx {k : Ro → SR} : thenR (.nx ρ) k = k ρ := rfl
@[simp] theorem thenR_rt {k : Ro → SR} : thenR (.rt d) k = .rt d := rfl
@[simp] theorem thenR_bk {k : Ro → SR} : thenR (.bk ρ) k = .bk ρ := rfl
@[simp] theorem thenR_ct {k : Ro → SR} : thenR (.ct ρ) k = .ct ρ := rfl
@[simp] theorem endD_nx : endD (.nx ρ) = .ok .non := rfl
@[simp] theorem endD_rt : endD (.rt d) = .ok d := rfl
@[simp] theorem endI_nx {cn : Str} {ns : List Str} : endI (.nx (.obj cn ns ds :: ρ)) = .ok (.ins cn ns ds) := rfl
theorem slOf_v (h : fresh e = false) : slOf e d = .val d := slOf_not h
end
/-! own lists and objects, slot by slot -/
def contR (ss : Ss) (T : Tab) : Option Ro → SR
  | some ρ => exs T ss ρ
  | none => .stuck
def appAt : Ro → Nat → D → Option Ro
  | [], _, _ => none
  | x :: ρ, 0, d => match x with
    | .own ds => if ds.length < 16777216 then some (.own (ds ++ [d]) :: ρ) else none
    | _ => none
  | x :: ρ, i + 1, d => (appAt ρ i d).map (x :: ·)
def setIAt : Ro → Nat → D → D → Option Ro
  | [], _, _, _ => none
  | x :: ρ, 0, d, k => match x, k with
    | .own ds, .int z => (ixN ds.length z).map fun j => .own (ds.set j d) :: ρ
    | _, _ => none
  | x :: ρ, i + 1, d, k => (setIAt ρ i d k).map (x :: ·)
def setFAt (T : Tab) : Ro → Nat → Str → D → Option Ro
  | [], _, _, _ => none
  | x :: ρ, 0, f, d => match x with
    | .obj c ns ds => if T.fd c f = true ∧ f ∉ ns ∧ ns.length < 999 then some (.obj c (ns ++ [f]) (ds ++ [d]) :: ρ) else none
    | _ => none
  | x :: ρ, i + 1, f, d => (setFAt T ρ i f d).map (x :: ·)
theorem cont_map {ss : Ss} {T : Tab} {o : Option Ro} {r : SR} {k : Ro → Ro} (h : ∀ ρ, o = some ρ → r = .nx (k ρ)) (h2 : o = none → r = .stuck) : thenR r (exs T ss) = contR ss T (o.map k) := by
  cases o with
  | none => rw [h2 rfl]; rfl
  | some ρ => rw [h ρ rfl]; rfl
theorem appAt_eq : ∀ (ρ : Ro) (i : Nat) (d : D), appAt ρ i d = match ρ[i]? with
    | some (.own ds) => if ds.length < 16777216 then some (ρ.set i (.own (ds ++ [d]))) else none
    | _ => none
  | [], i, d => by simp [appAt]
  | x :: ρ, 0, d => by cases x <;> rfl
  | x :: ρ, i + 1, d => by
    rw [appAt, appAt_eq ρ i d, List.getElem?_cons_succ]
    cases e : ρ[i]? with
    | none => rfl
    | some s =>
      cases s with
      | own ds =>
        dsimp only
        split <;> rfl
      | _ => rfl
theorem setIAt_eq : ∀ (ρ : Ro) (i : Nat) (d k : D), setIAt ρ i d k = match ρ[i]?, k with
    | some (.own ds), .int z => (ixN ds.length z).map fun j => ρ.set i (.own (ds.set j d))
    | _, _ => none
  | [], i, d, k => by simp [setIAt]
  | x :: ρ, 0, d, k => by cases x <;> cases k <;> rfl
  | x :: ρ, i + 1, d, k => by
    rw [setIAt, setIAt_eq ρ i d k, List.getElem?_cons_succ]
    cases e : ρ[i]? with
    | none => rfl
    | some s =>
      cases s with
      | own ds =>
        cases k with
        | int z =>
          dsimp only
          cases ixN ds.length z <;> rfl
        | _ => rfl
      | _ => rfl
theorem setFAt_eq (T : Tab) : ∀ (ρ : Ro) (i : Nat) (f : Str) (d : D), setFAt T ρ i f d = match ρ[i]? with
    | some (.obj c ns ds) => if T.fd c f = true ∧ f ∉ ns ∧ ns.length < 999 then some (ρ.set i (.obj c (ns ++ [f]) (ds ++ [d]))) else none
    | _ => none
  | [], i, f, d => by simp [setFAt]
  | x :: ρ, 0, f, d => by cases x <;> rfl
  | x :: ρ, i + 1, f, d => by
    rw [setFAt, setFAt_eq T ρ i f d, List.getElem?_cons_succ]
    cases e : ρ[i]? with
    | none => rfl
    | some s =>
      cases s with
      | obj c ns ds =>
        dsimp only
        split <;> rfl
      | _ => rfl
section
variable {T : Tab} {ρ : Ro} {ss : Ss} {i : Nat} {f : Str} {d k : D} {ds : List D} {x : Sl}
@[simp] theorem appS_go : appS ss T i ρ (.ok d) = contR ss T (appAt ρ i d) := by
  rw [appAt_eq]
  unfold appS
  cases e : ρ[i]? with
  | none => simp only [ownR, e]; rfl
  | some s =>
    cases s with
    | own ds =>
      simp only [ownR, e, onD, appR, PySem.sizeLine_eq]
      split <;> rfl
    | _ => simp only [ownR, e]; rfl
@[simp] theorem setIS_go : setIS ss T i ρ (.ok d) (.ok k) = contR ss T (setIAt ρ i d k) := by
  rw [setIAt_eq]
  unfold setIS
  cases e : ρ[i]? with
  | none => simp only [onD, ownR, e]; rfl
  | some s =>
    cases s with
    | own ds =>
      cases k with
      | int z =>
        simp only [onD, ownR, e, setIR]
        cases ixN ds.length z <;> rfl
      | _ => simp only [onD, ownR, e, setIR]; rfl
    | _ => simp only [onD, ownR, e]; rfl
@[simp] theorem setFS_go : setFS ss T i f ρ (.ok d) = contR ss T (setFAt T ρ i f d) := by
  rw [setFAt_eq]
  unfold setFS
  cases e : ρ[i]? with
  | none => simp only [onD, objR, e]; rfl
  | some s =>
    cases s with
    | obj c ns ds =>
      simp only [onD, objR, e, setFR]
      split <;> rfl
    | _ => simp only [onD, objR, e]; rfl
@[simp] theorem contR_some : contR ss T (some ρ) = exs T ss ρ := rfl
@[simp] theorem appAt_0 (h : ds.length < 16777216) : appAt (.own ds :: ρ) 0 d = some (.own (ds ++ [d]) :: ρ) := if_pos h
@[simp] theorem appAt_s : appAt (x :: ρ) (i + 1) d = (appAt ρ i d).map (x :: ·) := rfl
@[simp] theorem setIAt_0 {z : Int} {j : Nat} (h : ixN ds.length z = some j) : setIAt (.own ds :: ρ) 0 d (.int z) = some (.own (ds.set j d) :: ρ) := by
  show (ixN ds.length z).map _ = _
  rw [h]
  rfl
@[simp] theorem setIAt_s : setIAt (x :: ρ) (i + 1) d k = (setIAt ρ i d k).map (x :: ·) := rfl
@[simp] theorem setFAt_0 {c : Str} {ns : List Str} (h1 : T.fd c f = true) (h2 : f ∉ ns) (h3 : ns.length < 999) : setFAt T (.obj c ns ds :: ρ) 0 f d = some (.obj c (ns ++ [f]) (ds ++ [d]) :: ρ) := if_pos ⟨h1, h2, h3⟩
@[simp] theorem setFAt_s : setFAt T (x :: ρ) (i + 1) f d = (setFAt T ρ i f d).map (x :: ·) := rfl
end

/-! ### the operations on plain values -/
section
variable {i j : Int} {p q : Bool} {x y : Str} {d : D} {xs ys : List D}
@[simp] theorem binD_add : binD .Add = addD := rfl
@[simp] theorem binD_sub : binD .Sub = subD := rfl
@[simp] theorem binD_mul : binD .Mult = mulD := rfl
@[simp] theorem binD_fdiv : binD .FloorDiv = fdivD := rfl
@[simp] theorem binD_mod : binD .Mod = modD := rfl
@[simp] theorem binD_pow : binD .Pow = powD := rfl
@[simp] theorem cmpD_eq : cmpD .Eq = eqD := rfl
@[simp] theorem cmpD_ne : cmpD .NotEq = neD := rfl
@[simp] theorem cmpD_lt : cmpD .Lt = ltD := rfl
@[simp] theorem cmpD_le : cmpD .LtE = leD := rfl
@[simp] theorem cmpD_gt : cmpD .Gt = gtD := rfl
@[simp] theorem cmpD_ge : cmpD .GtE = geD := rfl
@[simp] theorem cmpD_is : cmpD .Is = isD := rfl
@[simp] theorem cmpD_isNot : cmpD .IsNot = isNotD := rfl
@[simp] theorem cmpD_in : cmpD .In = inD := rfl
@[simp] theorem cmpD_notIn : cmpD .NotIn = notInD := rfl
@[simp] theorem addD_int : addD (.int i) (.int j) = some (.int (i + j)) := rfl
@[simp] theorem subD_int : subD (.int i) (.int j) = some (.int (i - j)) := rfl
@[simp] theorem negD_int : negD (.int i) = some (.int (-i)) := rfl
@[simp] theorem ltD_int : ltD (.int i) (.int j) = some (.bl (decide (i < j))) := rfl
@[simp] theorem leD_int : leD (.int i) (.int j) = some (.bl (decide (i ≤ j))) := rfl
@[simp] theorem gtD_int : gtD (.int i) (.int j) = some (.bl (decide (j < i))) := rfl
@[simp] theorem geD_int : geD (.int i) (.int j) = some (.bl (decide (j ≤ i))) := rfl
@[simp] theorem eqD_int : eqD (.int i) (.int j) = some (.bl (decide (i = j))) := by rw [eqD_fit rfl rfl]; rfl
@[simp] theorem neD_int : neD (.int i) (.int j) = some (.bl (!decide (i = j))) := by rw [neD_fit rfl rfl]; rfl
@[simp] theorem eqD_bl : eqD (.bl p) (.bl q) = some (.bl (p == q)) := by rw [eqD_fit rfl rfl]; rfl
@[simp] theorem isD_none : isD d .non = some (.bl (isNonD d)) := by cases d <;> rfl
@[simp] theorem isNotD_none : isNotD d .non = some (.bl (!isNonD d)) := by cases d <;> rfl
@[simp] theorem truD_bl : truD (.bl p) = some (.bl p) := rfl
@[simp] theorem truD_int : truD (.int i) = some (.bl (i != 0)) := rfl
@[simp] theorem truD_non : truD .non = some (.bl false) := rfl
@[simp] theorem truD_lst : truD (.lst xs) = some (.bl (!xs.isEmpty)) := rfl
@[simp] theorem truD_tup : truD (.tup xs) = some (.bl (!xs.isEmpty)) := rfl
theorem small_eq {n : Nat} (h : n ≤ 16777216) : n ≤ sizeLine := by
  rw [PySem.sizeLine_eq]
  exact h
theorem addD_tup (h : xs.length + ys.length ≤ 16777216) : addD (.tup xs) (.tup ys) = some (.tup (xs ++ ys)) := if_pos (small_eq h)
theorem addD_lst (h : xs.length + ys.length ≤ 16777216) : addD (.lst xs) (.lst ys) = some (.lst (xs ++ ys)) := if_pos (small_eq h)
theorem addD_str (h : x.length + y.length ≤ 16777216) : addD (.str x) (.str y) = some (.str (x ++ y)) := if_pos (small_eq h)
theorem modD_int (h : j ≠ 0) : modD (.int i) (.int j) = some (.int (i.fmod j)) := if_pos h
theorem log2_lt {n k : Nat} (h : n < 2 ^ k) (hk : 0 < k) : n.log2 < k := by
  by_cases e : n = 0
  · subst e
    rw [Nat.log2_zero]
    exact hk
  · exact (Nat.log2_lt e).mpr h
theorem fdivD_int (h : j ≠ 0) (h2 : j.natAbs < 2 ^ 64) : fdivD (.int i) (.int j) = some (.int (i.fdiv j)) := if_pos ⟨h, Nat.lt_trans (log2_lt h2 (by decide)) (by decide)⟩
theorem mulD_int (h : i.natAbs < 2 ^ 240) (h2 : j.natAbs < 2 ^ 240) : mulD (.int i) (.int j) = some (.int (i * j)) := if_pos (by
  have a := log2_lt h (by decide)
  have b := log2_lt h2 (by decide)
  omega)
theorem powD_int (h : 0 ≤ j ∧ j ≤ 1000000 ∧ i.natAbs < 2 ^ 64) : powD (.int i) (.int j) = some (.int (i ^ j.toNat)) := if_pos h
@[simp] theorem lenD_lst : lenD (.lst xs) = some (.int xs.length) := rfl
@[simp] theorem lenD_frl : lenD (.frl xs) = some (.int xs.length) := rfl
@[simp] theorem lenD_tup : lenD (.tup xs) = some (.int xs.length) := rfl
theorem lenD_str (h : x.length ≤ 16777216) : lenD (.str x) = some (.int x.length) := if_pos (small_eq h)
@[simp] theorem bi_len : BI.fn .len [d] = lenD d := rfl
@[simp] theorem bi_int : BI.fn .int [d] = intD d := rfl
@[simp] theorem bi_list : BI.fn .list [d] = listD d := rfl
@[simp] theorem bi_tuple : BI.fn .tuple [d] = tupleD d := rfl
@[simp] theorem bi_max1 : BI.fn .max [.lst xs] = maxLD (.lst xs) := rfl
@[simp] theorem bi_max2 : BI.fn .max [.int i, .int j] = some (.int (if j > i then j else i)) := rfl
@[simp] theorem bi_min2 : BI.fn .min [.int i, .int j] = some (.int (if j < i then j else i)) := rfl
@[simp] theorem intD_int : intD (.int i) = some (.int i) := rfl
@[simp] theorem listD_lst : listD (.lst xs) = some (.lst xs) := rfl
@[simp] theorem listD_frl : listD (.frl xs) = some (.lst xs) := rfl
@[simp] theorem listD_tup : listD (.tup xs) = some (.lst xs) := rfl
@[simp] theorem tupleD_lst : tupleD (.lst xs) = some (.tup xs) := rfl
@[simp] theorem tupleD_frl : tupleD (.frl xs) = some (.tup xs) := rfl
@[simp] theorem tupleD_tup : tupleD (.tup xs) = some (.tup xs) := rfl
theorem atI_nat {xs : List D} {i : Nat} {d : D} (h : xs[i]? = some d) : atI xs (i : Int) = some d := by
  have hl : i < xs.length := (List.getElem?_eq_some_iff.mp h).1
  have e : ixN xs.length (i : Int) = some i := by
    unfold ixN
    rw [if_pos (by omega), if_pos (by omega)]
    rfl
  unfold atI
  rw [e]
  exact h
theorem idxD_lst {i : Nat} (h : xs[i]? = some d) : idxD (.lst xs) (.int (i : Int)) = some d := atI_nat h
theorem idxD_tup {i : Nat} (h : xs[i]? = some d) : idxD (.tup xs) (.int (i : Int)) = some d := atI_nat h
theorem idxD_frl {i : Nat} (h : xs[i]? = some d) : idxD (.frl xs) (.int (i : Int)) = some d := atI_nat h
end
/-! ### loops -/
theorem forL_ind {tg : Tg} {body : Ro → SR} (P : Nat → Ro → Prop) {ds : List D} {ρ : Ro} (h0 : P 0 ρ) (hs : ∀ i d ρ, ds[i]? = some d → P i ρ → ∃ ρ1 ρ2, asg tg d ρ = some ρ1 ∧ (body ρ1 = .nx ρ2 ∨ body ρ1 = .ct ρ2) ∧ P (i + 1) ρ2) :
    ∃ ρ', forL tg body ds ρ = .nx ρ' ∧ P ds.length ρ' := by
  induction ds generalizing ρ P with
  | nil => exact ⟨ρ, rfl, h0⟩
  | cons d ds ih =>
    obtain ⟨ρ1, ρ2, e1, e2, h2⟩ := hs 0 d ρ rfl h0
    obtain ⟨ρ', e3, h3⟩ := ih (P := fun i => P (i + 1)) h2 fun i d ρ hi hp => hs (i + 1) d ρ (by simpa using hi) hp
    refine ⟨ρ', ?_, by simpa using h3⟩
    unfold forL
    rw [e1]
    rcases e2 with e2 | e2
    · simp only [e2]
      exact e3
    · simp only [e2]
      exact e3
/-- a loop that ends early: at the first item where it does -/
theorem forL_find {tg : Tg} {body : Ro → SR} (P : Nat → Ro → Prop) {ds : List D} {ρ : Ro} {n : Nat} {R : SR} (hn : n < ds.length) (h0 : P 0 ρ)
    (hs : ∀ i d ρ, i < n → ds[i]? = some d → P i ρ → ∃ ρ1 ρ2, asg tg d ρ = some ρ1 ∧ (body ρ1 = .nx ρ2 ∨ body ρ1 = .ct ρ2) ∧ P (i + 1) ρ2)
    (he : ∀ d ρ, ds[n]? = some d → P n ρ → ∃ ρ1 r, asg tg d ρ = some ρ1 ∧ body ρ1 = .rt r ∧ R = .rt r) : forL tg body ds ρ = R := by
  induction ds generalizing ρ P n with
  | nil => cases hn
  | cons d ds ih =>
    cases n with
    | zero =>
      obtain ⟨ρ1, r, e1, e2, e3⟩ := he d ρ rfl h0
      unfold forL
      rw [e1]
      simp only [e2]
      exact e3.symm
    | succ n =>
      obtain ⟨ρ1, ρ2, e1, e2, h2⟩ := hs 0 d ρ (Nat.succ_pos _) rfl h0
      have := ih (P := fun i => P (i + 1)) (n := n) (by simpa using hn) h2 (fun i d ρ hl hi hp => hs (i + 1) d ρ (Nat.succ_lt_succ hl) (by simpa using hi) hp) (fun d ρ hi hp => he d ρ (by simpa using hi) hp)
      unfold forL
      rw [e1]
      rcases e2 with e2 | e2
      · simp only [e2]
        exact this
      · simp only [e2]
        exact this
/-- a comprehension -/
theorem lcL_map {g : D → Ro → Option Ro} {c f : Ro → Res D} {ρ : Ro} {h : D → D} : ∀ {ds : List D}, (∀ d ∈ ds, ∃ ρ1, g d ρ = some ρ1 ∧ c ρ1 = .ok (.bl true) ∧ f ρ1 = .ok (h d)) → lcL g c f ρ ds = .ok (ds.map h)
  | [], _ => rfl
  | d :: ds, hh => by
    obtain ⟨ρ1, e1, e2, e3⟩ := hh d (List.mem_cons_self ..)
    have ih := lcL_map (ds := ds) fun x hx => hh x (List.mem_cons_of_mem _ hx)
    unfold lcL
    rw [e1]
    simp only [e2, noX, Res.bind, e3, ih, List.map_cons]
theorem lcL_filter {g : D → Ro → Option Ro} {c f : Ro → Res D} {ρ : Ro} {p : D → Bool} {h : D → D} : ∀ {ds : List D}, (∀ d ∈ ds, ∃ ρ1, g d ρ = some ρ1 ∧ c ρ1 = .ok (.bl (p d)) ∧ (p d = true → f ρ1 = .ok (h d))) → lcL g c f ρ ds = .ok ((ds.filter p).map h)
  | [], _ => rfl
  | d :: ds, hh => by
    obtain ⟨ρ1, e1, e2, e3⟩ := hh d (List.mem_cons_self ..)
    have ih := lcL_filter (ds := ds) fun x hx => hh x (List.mem_cons_of_mem _ hx)
    unfold lcL
    rw [e1]
    cases hp : p d with
    | true =>
      rw [hp] at e2
      rw [List.filter_cons_of_pos hp, List.map_cons]
      simp only [e2, noX, Res.bind, e3 hp, ih]
    | false =>
      rw [hp] at e2
      rw [List.filter_cons_of_neg (by rw [hp]; exact Bool.false_ne_true)]
      simp only [e2, noX, Res.bind, ih]
end Pu
/-! PuR: the defs that many laws share: the script's cells, its digits, what is frozen. -/
namespace Pu
open PySem L2

/-! ### a script's cell -/
def bCell : Ss :=
  (.cons (.ite (.cmp .Lt (.var 1) (.bi .len (.cons (.var 0) .nil))) (.cons (.ret (.yes (.idx (.var 0) (.var 1))))
    .nil) .nil)
    (.cons (.set 2 (.int 17))
    (.cons (.for_ (.nm 3) (.seq (.var 0)) (.cons (.set 2 (.bin .Mod (.bi .int (.cons (.bin .Add (.bin .Mult (.var 2) (.int 31)) (.bin .Mod (.bi .int (.cons (.var 3) .nil)) (.int 1000003))) .nil)) (.int 1000003)))
    .nil))
    (.cons (.ret (.yes (.bin .Mod (.bi .int (.cons (.bin .Mult (.bin .Mult (.bin .Add (.var 2) (.int 7)) (.bin .Add (.var 1) (.int 3))) (.int 69621)) .nil)) (.int 2147483647))))
    .nil))))
theorem fmod_range {i j : Int} (h : 0 < j) : 0 ≤ i.fmod j ∧ i.fmod j < j := ⟨Int.fmod_nonneg_of_pos i h, Int.fmod_lt_of_pos i h⟩
theorem cell_ok (T : Tab) (ns : List Int) (k : Nat) (hk : k < 2 ^ 32) : ∃ c : Int, runFn T 4 bCell [.frl (ns.map D.int), .int (k : Int)] = .ok (.int c) := by
  by_cases hl : k < ns.length
  · have hd : ((k : Int) < ns.length) := by omega
    have hx : (ns.map D.int)[k]? = some (.int ns[k]) := by simp [hl]
    refine ⟨ns[k], ?_⟩
    unfold runFn
    simp [bCell, hd, idxD_frl hx]
  · have hd : ¬ ((k : Int) < ns.length) := by omega
    obtain ⟨ρ', e1, sd, x, e2, h0, h1⟩ := forL_ind (tg := .nm 3) (body := exs T (.cons (.set 2 (.bin .Mod (.bi .int (.cons (.bin .Add (.bin .Mult (.var 2) (.int 31)) (.bin .Mod (.bi .int (.cons (.var 3) .nil)) (.int 1000003))) .nil)) (.int 1000003))) .nil))
      (ds := ns.map D.int) (ρ := [.val (.frl (ns.map D.int)), .val (.int k), .val (.int 17), .no])
      (fun _ ρ => ∃ (sd : Int) (x : Sl), ρ = [.val (.frl (ns.map D.int)), .val (.int k), .val (.int sd), x] ∧ 0 ≤ sd ∧ sd < 1000003)
      ⟨17, _, rfl, by decide, by decide⟩ (fun i d ρ hi ⟨sd, x, e, h0, h1⟩ => by
        subst e
        rw [List.getElem?_map] at hi
        cases hn : ns[i]? with
        | none => rw [hn] at hi; cases hi
        | some z =>
          rw [hn] at hi
          cases hi
          have r := fmod_range (i := z) (j := 1000003) (by decide)
          refine ⟨_, _, rfl, .inl ?_, (sd * 31 + z.fmod 1000003).fmod 1000003, .val (.int z), rfl, fmod_range (by decide)⟩
          simp [mulD_int (i := sd) (j := 31) (by omega) (by decide), modD_int (j := 1000003)])
    subst e2
    unfold runFn
    have m1 : mulD (.int (sd + 7)) (.int ((k : Int) + 3)) = some (.int ((sd + 7) * ((k : Int) + 3))) := mulD_int (by omega) (by omega)
    have b1 : (sd + 7) * ((k : Int) + 3) ≤ 1000010 * (2 ^ 32 + 3) := Int.mul_le_mul (by omega) (by omega) (by omega) (by decide)
    have b0 : 0 ≤ (sd + 7) * ((k : Int) + 3) := Int.mul_nonneg (by omega) (by omega)
    have m2 : mulD (.int ((sd + 7) * ((k : Int) + 3))) (.int 69621) = some (.int ((sd + 7) * ((k : Int) + 3) * 69621)) := mulD_int (by omega) (by decide)
    refine ⟨((sd + 7) * ((k : Int) + 3) * 69621).fmod 2147483647, ?_⟩
    simp [bCell, hd, e1, m1, m2, modD_int]

/-! ### a cell's digits -/
def bDigits : Ss :=
  (.cons (.set 2 (.lst .nil))
    (.cons (.set 3 (.bi .int (.cons (.var 0) .nil)))
    (.cons (.ite (.cmp .GtE (.var 3) (.bin .Pow (.int 10) (.int 18))) (.cons (.set 3 (.bin .Sub (.var 3) (.bin .Pow (.int 10) (.int 18))))
    (.cons (.for_ (.nm 4) (.seq (.var 1)) (.cons (.app 2 (.bin .Mod (.bi .int (.cons (.var 3) .nil)) (.var 4)))
    (.cons (.set 3 (.bin .FloorDiv (.bi .int (.cons (.var 3) .nil)) (.var 4)))
    .nil)))
    (.cons (.ret (.yes (.var 2)))
    .nil))) .nil)
    (.cons (.set 5 (.bin .Mod (.bi .int (.cons (.var 3) .nil)) (.int 2147483629)))
    (.cons (.for_ (.nm 6) (.rng (.bi .len (.cons (.var 1) .nil))) (.cons (.set 5 (.bin .Mod (.bi .int (.cons (.bin .Add (.bin .Add (.bin .Mult (.var 5) (.int 48271)) (.bin .Mult (.int 974711) (.var 6))) (.int 12345)) .nil)) (.int 2147483647)))
    (.cons (.set 7 (.bin .Mod (.bi .int (.cons (.bin .Mult (.var 5) (.bin .Add (.bin .FloorDiv (.var 5) (.int 65537)) (.int 3))) .nil)) (.int 2147483629)))
    (.cons (.app 2 (.bin .Mod (.bin .FloorDiv (.var 7) (.int 19)) (.idx (.var 1) (.var 6))))
    .nil))))
    (.cons (.ret (.yes (.var 2)))
    .nil))))))
/-- digits below their sizes -/
def Below (ds ss : List Int) : Prop := ds.length = ss.length ∧ ∀ (i : Nat) (d s : Int), ds[i]? = some d → ss[i]? = some s → 0 ≤ d ∧ d < s
theorem below_nil : Below [] [] := ⟨rfl, fun i d s h => by simp at h⟩
theorem take_succ {α : Type} {xs : List α} {i : Nat} {x : α} (h : xs[i]? = some x) : xs.take (i + 1) = xs.take i ++ [x] := by
  rw [List.take_add_one, h]
  rfl
theorem Below.snoc {ds ss : List Int} {i : Nat} {d s : Int} (b : Below ds (ss.take i)) (hs : ss[i]? = some s) (h : 0 ≤ d ∧ d < s) : Below (ds ++ [d]) (ss.take (i + 1)) := by
  rw [take_succ hs]
  refine ⟨by rw [List.length_append, List.length_append, b.1]; rfl, fun j x y h1 h2 => ?_⟩
  by_cases hj : j < ds.length
  · rw [List.getElem?_append_left hj] at h1
    rw [List.getElem?_append_left (by rw [← b.1]; exact hj)] at h2
    exact b.2 j x y h1 h2
  · rw [List.getElem?_append_right (by omega)] at h1
    rw [List.getElem?_append_right (by rw [← b.1]; omega), ← b.1] at h2
    cases e : j - ds.length with
    | zero =>
      rw [e] at h1 h2
      cases h1
      cases h2
      exact h
    | succ m => rw [e] at h1; simp at h1
theorem map_at {ns : List Int} {i : Nat} {d : D} (h : (ns.map D.int)[i]? = some d) : ∃ z, ns[i]? = some z ∧ d = .int z := by
  rw [List.getElem?_map] at h
  cases e : ns[i]? with
  | none => rw [e] at h; cases h
  | some z => rw [e] at h; cases h; exact ⟨z, rfl, rfl⟩
theorem nats_at {n i : Nat} {d : D} (h : (nats n)[i]? = some d) : i < n ∧ d = .int (i : Int) := by
  unfold nats at h
  rw [List.getElem?_map] at h
  by_cases hi : i < n
  · rw [List.getElem?_range hi] at h
    cases h
    exact ⟨hi, rfl⟩
  · rw [List.getElem?_eq_none (by rw [List.length_range]; omega)] at h
    cases h
theorem nats_len {n : Nat} : (nats n).length = n := by simp [nats]
theorem pow18 : powD (.int 10) (.int 18) = some (.int 1000000000000000000) := by
  rw [powD_int ⟨by decide, by decide, by decide⟩]
  rw [show (10 : Int) ^ (18 : Int).toNat = 1000000000000000000 by decide +kernel]
theorem digits_big (T : Tab) (c : Int) (ss : List Int) (hc : (1000000000000000000 : Int) ≤ c) (hl : ss.length ≤ 100000) (hs : ∀ s ∈ ss, 0 < s ∧ s < 2 ^ 60) :
    ∃ ds : List Int, runFn T 8 bDigits [.int c, .lst (ss.map D.int)] = .ok (.lst (ds.map D.int)) ∧ Below ds ss := by
  have hp : powD (.int 10) (.int 18) = some (.int 1000000000000000000) := pow18
  obtain ⟨ρ', e1, ds, x, r, e2, hb⟩ := forL_ind (tg := .nm 4) (body := exs T (.cons (.app 2 (.bin .Mod (.bi .int (.cons (.var 3) .nil)) (.var 4))) (.cons (.set 3 (.bin .FloorDiv (.bi .int (.cons (.var 3) .nil)) (.var 4))) .nil)))
    (ds := ss.map D.int) (ρ := [.val (.int c), .val (.lst (ss.map D.int)), .own [], .val (.int (c - 1000000000000000000)), .no, .no, .no, .no])
    (fun i ρ => ∃ (ds : List Int) (x : Sl) (r : Int), ρ = [.val (.int c), .val (.lst (ss.map D.int)), .own (ds.map D.int), .val (.int r), x, .no, .no, .no] ∧ Below ds (ss.take i))
    ⟨[], _, _, rfl, by simpa using below_nil⟩ (fun i d ρ hi ⟨ds, x, r, e, hb⟩ => by
      subst e
      obtain ⟨s, hsi, rfl⟩ := map_at hi
      obtain ⟨s0, s1⟩ := hs s (List.mem_of_getElem? hsi)
      have hll : ds.length < 16777216 := by
        have h1 := hb.1
        rw [List.length_take] at h1
        omega
      refine ⟨_, _, rfl, .inl ?_, ds ++ [r.fmod s], .val (.int s), r.fdiv s, rfl, hb.snoc hsi (fmod_range s0)⟩
      have a1 : appS (.cons (.set 3 (.bin .FloorDiv (.bi .int (.cons (.var 3) .nil)) (.var 4))) .nil) T 2 [.val (.int c), .val (.lst (ss.map D.int)), .own (ds.map D.int), .val (.int r), .val (.int s), .no, .no, .no] (.ok (.int (r.fmod s))) = _ :=
        appS_ok (ds := ds.map D.int) rfl (by simpa using hll)
      simp [modD_int (i := r) (j := s) (by omega), fdivD_int (i := r) (j := s) (by omega) (by omega), a1])
  subst e2
  refine ⟨ds, ?_, by simpa using hb⟩
  unfold runFn
  simp [bDigits, hp, hc, e1]
theorem digits_small (T : Tab) (c : Int) (ss : List Int) {q18 : Int} (hp : powD (.int 10) (.int 18) = some (.int q18)) (hc : ¬ q18 ≤ c) (hl : ss.length ≤ 100000) (hs : ∀ s ∈ ss, 0 < s ∧ s < 2 ^ 60) :
    ∃ ds : List Int, runFn T 8 bDigits [.int c, .lst (ss.map D.int)] = .ok (.lst (ds.map D.int)) ∧ Below ds ss := by
  obtain ⟨ρ', e1, ds, x, y, sd, e2, h0, h1, hb⟩ := forL_ind (tg := .nm 6) (body := exs T (.cons (.set 5 (.bin .Mod (.bi .int (.cons (.bin .Add (.bin .Add (.bin .Mult (.var 5) (.int 48271)) (.bin .Mult (.int 974711) (.var 6))) (.int 12345)) .nil)) (.int 2147483647)))
  (.cons (.set 7 (.bin .Mod (.bi .int (.cons (.bin .Mult (.var 5) (.bin .Add (.bin .FloorDiv (.var 5) (.int 65537)) (.int 3))) .nil)) (.int 2147483629)))
  (.cons (.app 2 (.bin .Mod (.bin .FloorDiv (.var 7) (.int 19)) (.idx (.var 1) (.var 6)))) .nil))))
    (ds := nats ss.length) (ρ := [.val (.int c), .val (.lst (ss.map D.int)), .own [], .val (.int c), .no, .val (.int (c.fmod 2147483629)), .no, .no])
    (fun i ρ => ∃ (ds : List Int) (x y : Sl) (sd : Int), ρ = [.val (.int c), .val (.lst (ss.map D.int)), .own (ds.map D.int), .val (.int c), .no, .val (.int sd), x, y] ∧ 0 ≤ sd ∧ sd < 2147483647 ∧ Below ds (ss.take i))
    ⟨[], _, _, _, rfl, (fmod_range (by decide)).1, Int.lt_trans (fmod_range (by decide)).2 (by decide), by simpa using below_nil⟩ (fun i d ρ hi ⟨ds, x, y, sd, e, h0, h1, hb⟩ => by
      subst e
      obtain ⟨hi', rfl⟩ := nats_at hi
      have hsi : ss[i]? = some ss[i] := List.getElem?_eq_getElem hi'
      generalize ss[i] = s at hsi
      obtain ⟨s0, s1⟩ := hs s (List.mem_of_getElem? hsi)
      have hx : (ss.map D.int)[i]? = some (.int s) := by rw [List.getElem?_map, hsi]; rfl
      have hll : ds.length < 16777216 := by
        have h1 := hb.1
        rw [List.length_take] at h1
        omega
      have r1 := fmod_range (i := sd * 48271 + 974711 * (i : Int) + 12345) (j := 2147483647) (by decide)
      generalize hz : (sd * 48271 + 974711 * (i : Int) + 12345).fmod 2147483647 = z at r1
      have q0 : 0 ≤ z.fdiv 65537 := Int.fdiv_nonneg r1.1 (by decide)
      have q1 : z.fdiv 65537 ≤ z := by
        rw [Int.fdiv_eq_ediv_of_nonneg _ (by decide)]
        omega
      generalize hq : z.fdiv 65537 = qq at q0 q1
      refine ⟨_, _, rfl, .inl ?_, ds ++ [(((z * (qq + 3)).fmod 2147483629).fdiv 19).fmod s], .val (.int i), .val (.int ((z * (qq + 3)).fmod 2147483629)), z, rfl, r1.1, r1.2, hb.snoc hsi (fmod_range s0)⟩
      have m1 : mulD (.int sd) (.int 48271) = some (.int (sd * 48271)) := mulD_int (by omega) (by decide)
      have m2 : mulD (.int 974711) (.int (i : Int)) = some (.int (974711 * (i : Int))) := mulD_int (by decide) (by omega)
      have m3 : mulD (.int z) (.int (qq + 3)) = some (.int (z * (qq + 3))) := mulD_int (by omega) (by omega)
      have a1 : ∀ w1 w2 w3 w4, appS .nil T 2 [.val (.int c), .val (.lst (ss.map D.int)), .own (ds.map D.int), .val (.int c), .no, w1, w2, w3] (.ok w4) = _ := fun w1 w2 w3 w4 => appS_ok (ds := ds.map D.int) rfl (by simpa using hll)
      simp [m1, m2, modD_int, hz, fdivD_int, hq, m3, idxD_lst hx, modD_int (j := s) (by omega), a1])
  subst e2
  refine ⟨ds, ?_, by rw [nats_len] at hb; simpa using hb⟩
  unfold runFn
  have hd : decide (q18 ≤ c) = false := decide_eq_false hc
  have hm : modD (.int c) (.int 2147483629) = some (.int (c.fmod 2147483629)) := modD_int (by decide)
  have hr := rngR1_nat (n := ss.length) (by omega)
  clear hc
  simp -implicitDefEqProofs [bDigits, hp, hd, hm, hr, e1]
theorem digits_ok (T : Tab) (c : Int) (ss : List Int) (hl : ss.length ≤ 100000) (hs : ∀ s ∈ ss, 0 < s ∧ s < 2 ^ 60) :
    ∃ ds : List Int, runFn T 8 bDigits [.int c, .lst (ss.map D.int)] = .ok (.lst (ds.map D.int)) ∧ Below ds ss := by
  by_cases hc : (1000000000000000000 : Int) ≤ c
  · exact digits_big T c ss hc hl hs
  · exact digits_small T c ss pow18 hc hl hs

/-! ### what is frozen -/
mutual
def frz : D → D
  | .lst xs => .tup (frzs xs)
  | .frl xs => .tup (frzs xs)
  | .tup xs => .tup (frzs xs)
  | .non => .non
  | .bl b => .bl b
  | .int i => .int i
  | .str x => .str x
  | .ins c ns xs => .ins c ns xs
def frzs : List D → List D
  | [] => []
  | d :: ds => frz d :: frzs ds
end
theorem frzs_map : ∀ ds : List D, frzs ds = ds.map frz
  | [] => rfl
  | d :: ds => by simp only [frzs, List.map_cons, frzs_map ds]
mutual
/-- how deep lists lie in one another (objects: none) -/
def flatTo : D → Nat → Bool
  | .lst xs, n => match n with
    | 0 => false
    | m + 1 => flatsTo xs m
  | .frl xs, n => match n with
    | 0 => false
    | m + 1 => flatsTo xs m
  | .tup xs, n => match n with
    | 0 => false
    | m + 1 => flatsTo xs m
  | .ins _ _ _, _ => false
  | .non, _ => true
  | .bl _, _ => true
  | .int _, _ => true
  | .str _, _ => true
def flatsTo : List D → Nat → Bool
  | [], _ => true
  | d :: ds, n => flatTo d n && flatsTo ds n
end
theorem flatsTo_mem {ds : List D} {n : Nat} : flatsTo ds n = true ↔ ∀ d ∈ ds, flatTo d n = true := by
  induction ds with
  | nil => simp [flatsTo]
  | cons d ds ih => simp [flatsTo, ih]
def bFrozen : Ss :=
  (.cons (.ite (.isi (.var 0) [.list, .tuple]) (.cons (.ret (.yes (.bi .tuple (.cons (.lc [("item", 1)] (.call "frozen" (.cons (.var 1) .nil)) (.nm 1) (.seq (.var 0)) .no) .nil))))
    .nil) .nil)
    (.cons (.ret (.yes (.var 0)))
    .nil))
theorem frozen_seq {T : Tab} {k : Nat} {d : D} {xs : List D} (ht : isTys [.list, .tuple] d = some true) (hi : itR itemsR (.ok d) = .ok xs) (ih : ∀ x ∈ xs, runRec T "frozen" 1 2 bFrozen k [x] = .ok (frz x)) :
    runRec T "frozen" 1 2 bFrozen (k + 1) [d] = .ok (.tup (xs.map frz)) := by
  have hl : lcL (asg (.nm 1)) (evc (T.add "frozen" 1 (runRec T "frozen" 1 2 bFrozen k)) .no) (ev (T.add "frozen" 1 (runRec T "frozen" 1 2 bFrozen k)) (.call "frozen" (.cons (.var 1) .nil)) .val) [.val d, .no] xs = .ok (xs.map frz) :=
    lcL_map fun x hx => ⟨[.val d, .val x], rfl, evc_no, by simp -implicitDefEqProofs [Tab.add_same, ih x hx]⟩
  unfold runRec runFn
  generalize T.add "frozen" 1 (runRec T "frozen" 1 2 bFrozen k) = T' at hl ⊢
  simp -implicitDefEqProofs [bFrozen, tyR_ok ht, hi, lcR_ok hl]
theorem frozen_atom {T : Tab} {k : Nat} {d : D} (ht : isTys [.list, .tuple] d = some false) : runRec T "frozen" 1 2 bFrozen (k + 1) [d] = .ok d := by
  unfold runRec runFn
  generalize T.add "frozen" 1 (runRec T "frozen" 1 2 bFrozen k) = T'
  simp -implicitDefEqProofs [bFrozen, tyR_ok ht]
theorem frozen_ok (T : Tab) : ∀ (k : Nat) (d : D), flatTo d k = true → runRec T "frozen" 1 2 bFrozen (k + 1) [d] = .ok (frz d) := by
  intro k
  induction k with
  | zero =>
    intro d h
    cases d with
    | lst xs => simp only [flatTo] at h; cases h
    | frl xs => simp only [flatTo] at h; cases h
    | tup xs => simp only [flatTo] at h; cases h
    | ins _ _ _ => simp only [flatTo] at h; cases h
    | _ => simp only [frz]; exact frozen_atom rfl
  | succ k ih =>
    intro d h
    cases d with
    | lst xs =>
      simp only [flatTo] at h
      simp only [frz, frzs_map]
      exact frozen_seq rfl itR_lst fun x hx => ih x (flatsTo_mem.mp h x hx)
    | frl xs =>
      simp only [flatTo] at h
      simp only [frz, frzs_map]
      exact frozen_seq rfl itR_frl fun x hx => ih x (flatsTo_mem.mp h x hx)
    | tup xs =>
      simp only [flatTo] at h
      simp only [frz, frzs_map]
      exact frozen_seq rfl itR_tup fun x hx => ih x (flatsTo_mem.mp h x hx)
    | ins _ _ _ => simp only [flatTo] at h; cases h
    | _ => simp only [frz]; exact frozen_atom rfl

/-! ### closed reckoning: by the kernel -/
mutual
def beqD : D → D → Bool
  | .non, y => match y with
    | .non => true
    | _ => false
  | .bl a, y => match y with
    | .bl b => decide (a = b)
    | _ => false
  | .int a, y => match y with
    | .int b => decide (a = b)
    | _ => false
  | .str a, y => match y with
    | .str b => decide (a = b)
    | _ => false
  | .lst xs, y => match y with
    | .lst ys => beqDs xs ys
    | _ => false
  | .tup xs, y => match y with
    | .tup ys => beqDs xs ys
    | _ => false
  | .frl xs, y => match y with
    | .frl ys => beqDs xs ys
    | _ => false
  | .ins c ns xs, y => match y with
    | .ins d ms ys => decide (c = d) && decide (ns = ms) && beqDs xs ys
    | _ => false
def beqDs : List D → List D → Bool
  | [], ys => match ys with
    | [] => true
    | _ => false
  | x :: xs, ys => match ys with
    | [] => false
    | y :: ys => beqD x y && beqDs xs ys
end
mutual
theorem beqD_eq : ∀ (x y : D), beqD x y = true → x = y
  | .non, y, h => by cases y <;> simp only [beqD] at h <;> first | rfl | cases h
  | .bl a, y, h => by
    cases y with
    | bl b => simp only [beqD, decide_eq_true_eq] at h; rw [h]
    | _ => simp only [beqD] at h; cases h
  | .int a, y, h => by
    cases y with
    | int b => simp only [beqD, decide_eq_true_eq] at h; rw [h]
    | _ => simp only [beqD] at h; cases h
  | .str a, y, h => by
    cases y with
    | str b => simp only [beqD, decide_eq_true_eq] at h; rw [h]
    | _ => simp only [beqD] at h; cases h
  | .lst xs, y, h => by
    cases y with
    | lst ys => simp only [beqD] at h; rw [beqDs_eq xs ys h]
    | _ => simp only [beqD] at h; cases h
  | .tup xs, y, h => by
    cases y with
    | tup ys => simp only [beqD] at h; rw [beqDs_eq xs ys h]
    | _ => simp only [beqD] at h; cases h
  | .frl xs, y, h => by
    cases y with
    | frl ys => simp only [beqD] at h; rw [beqDs_eq xs ys h]
    | _ => simp only [beqD] at h; cases h
  | .ins c ns xs, y, h => by
    cases y with
    | ins d ms ys =>
      simp only [beqD, Bool.and_eq_true, decide_eq_true_eq] at h
      obtain ⟨⟨h1, h2⟩, h3⟩ := h
      rw [h1, h2, beqDs_eq xs ys h3]
    | _ => simp only [beqD] at h; cases h
theorem beqDs_eq : ∀ (xs ys : List D), beqDs xs ys = true → xs = ys
  | [], ys, h => by cases ys <;> simp only [beqDs] at h <;> first | rfl | cases h
  | x :: xs, ys, h => by
    cases ys with
    | nil => simp only [beqDs] at h; cases h
    | cons y ys =>
      simp only [beqDs, Bool.and_eq_true] at h
      rw [beqD_eq x y h.1, beqDs_eq xs ys h.2]
end
def isOk (r : Res D) (d : D) : Bool := match r with
  | .ok x => beqD x d
  | _ => false
theorem isOk_eq {r : Res D} {d : D} (h : isOk r d = true) : r = .ok d := by
  cases r with
  | ok x => rw [beqD_eq x d h]
  | exc c ns ds => cases h
  | stuck => cases h
def isSome (o : Option D) (d : D) : Bool := match o with
  | some x => beqD x d
  | none => false
theorem isSome_eq {o : Option D} {d : D} (h : isSome o d = true) : o = some d := by
  cases o with
  | some x => rw [beqD_eq x d h]
  | none => cases h
end Pu
/-! PuT: evaluation of the later expressions; ratios. -/
namespace Pu
open PySem PySem.Spec PyProof.Rows L2

section
variable {T : Tab} {ρ : Ro} {a b : E} {xs : Es} {t : Bool} {f : Str} {d : D} {ds : List D} {i j : Int} {m : Md}
def gcdR (T : Tab) (r : Res (List D)) : Res D := if T.gc = true then r.bind fun ds => Res.ofO (gcdF ds) else .stuck
def lenmR2 (T : Tab) (r : Res D) : Res D := r.bind fun d => lenmR T d
def methR2 (T : Tab) (m : Str) (n : Nat) (r : Res (List D)) (a : Res D) : Res D := a.bind fun d => methR T m n r d
def sqR (t : Bool) (r : Res (List D)) : Res D := r.bind fun ds => .ok (sqD t ds)
def revR1 (r : Res D) : Res (List D) := r.bind revLR
def fmtR (r : Res D) : Res D := r.bind fun d => Res.ofO (fmtD d)
def joinR2 (acc : Str) (k : Str → Res D) (r : Res D) : Res D := r.bind fun d => joinR acc k d
def idxofR2 (r a : Res D) : Res D := a.bind fun d => idxofR r d
@[simp] theorem ev_gcd : ev T (.gcd xs) .val ρ = gcdR T (evsB T xs ρ) := by simp only [ev, fin]; rfl
@[simp] theorem ev_gcdB : ev T (.gcd xs) .bor ρ = gcdR T (evsB T xs ρ) := by simp only [ev, fin]; rfl
@[simp] theorem ev_lenm : ev T (.lenm a) .val ρ = lenmR2 T (ev T a .val ρ) := by simp only [ev, fin]; rfl
@[simp] theorem ev_lenmB : ev T (.lenm a) .bor ρ = lenmR2 T (ev T a .val ρ) := by simp only [ev, fin]; rfl
@[simp] theorem ev_meth : ev T (.meth a f xs) .val ρ = methR2 T f xs.len (evs T xs ρ) (ev T a .val ρ) := by simp only [ev, fin]; rfl
@[simp] theorem ev_methB : ev T (.meth a f xs) .bor ρ = methR2 T f xs.len (evs T xs ρ) (ev T a .val ρ) := by simp only [ev, fin]; rfl
@[simp] theorem ev_sqr : ev T (.sqr t a) .val ρ = sqR t (revR1 (ev T a .bor ρ)) := by
  simp only [ev, fin]
  cases ev T a .bor ρ with
  | ok d => rfl
  | exc c ns ds => rfl
  | stuck => rfl
@[simp] theorem ev_sqrB : ev T (.sqr t a) .bor ρ = sqR t (revR1 (ev T a .bor ρ)) := by
  rw [← ev_sqr]
  simp only [ev, fin]
@[simp] theorem ev_sq1 : ev T (.sq1 t a) .val ρ = sqR t (rngR1 (ev T a .bor ρ)) := by
  simp only [ev, fin]
  cases ev T a .bor ρ with
  | ok d => rfl
  | exc c ns ds => rfl
  | stuck => rfl
@[simp] theorem ev_sq1B : ev T (.sq1 t a) .bor ρ = sqR t (rngR1 (ev T a .bor ρ)) := by
  rw [← ev_sq1]
  simp only [ev, fin]
@[simp] theorem ev_sq2 : ev T (.sq2 t a b) .val ρ = sqR t (rngR2 (ev T a .bor ρ) (ev T b .bor ρ)) := by
  simp only [ev, fin]
  cases ev T a .bor ρ with
  | ok d => cases ev T b .bor ρ <;> rfl
  | exc c ns ds => rfl
  | stuck => rfl
@[simp] theorem ev_sq2B : ev T (.sq2 t a b) .bor ρ = sqR t (rngR2 (ev T a .bor ρ) (ev T b .bor ρ)) := by
  rw [← ev_sq2]
  simp only [ev, fin]
@[simp] theorem ev_fmt : ev T (.fmt a) .val ρ = fmtR (ev T a .bor ρ) := by simp only [ev, fin]; rfl
@[simp] theorem ev_fmtB : ev T (.fmt a) .bor ρ = fmtR (ev T a .bor ρ) := by simp only [ev, fin]; rfl
@[simp] theorem ev_joined : ev T (.joined xs) .val ρ = evJ T xs Str.empty ρ := by simp only [ev, fin]
@[simp] theorem ev_joinedB : ev T (.joined xs) .bor ρ = evJ T xs Str.empty ρ := by simp only [ev, fin]
@[simp] theorem evJ_nil {acc : Str} : evJ T .nil acc ρ = .ok (.str acc) := by simp only [evJ]
@[simp] theorem evJ_cons {acc : Str} : evJ T (.cons a xs) acc ρ = joinR2 acc (fun x => evJ T xs x ρ) (ev T a .bor ρ) := by simp only [evJ]; rfl
@[simp] theorem ev_idxof : ev T (.idxof a b) .val ρ = idxofR2 (ev T b .bor ρ) (ev T a .bor ρ) := by simp only [ev, fin]; rfl
@[simp] theorem ev_idxofB : ev T (.idxof a b) .bor ρ = idxofR2 (ev T b .bor ρ) (ev T a .bor ρ) := by simp only [ev, fin]; rfl
theorem gcdR_ok (h : T.gc = true) : gcdR T (.ok [D.int i, D.int j]) = .ok (D.int ((Nat.gcd i.natAbs j.natAbs : Nat) : Int)) := by
  unfold gcdR
  rw [if_pos h]
  rfl
@[simp] theorem sqR_ok : sqR t (.ok ds) = .ok (sqD t ds) := rfl
@[simp] theorem sqD_t : sqD true ds = .tup ds := rfl
@[simp] theorem sqD_f : sqD false ds = .lst ds := rfl
@[simp] theorem revR1_lst : revR1 (.ok (.lst ds)) = .ok ds.reverse := rfl
@[simp] theorem revR1_frl : revR1 (.ok (.frl ds)) = .ok ds.reverse := rfl
@[simp] theorem fmtR_ok : fmtR (.ok d) = Res.ofO (fmtD d) := rfl
theorem fmtD_int (h : i.natAbs < 2 ^ 1900) : fmtD (.int i) = some (.str (toString i)) := if_pos (Nat.lt_of_lt_of_le (log2_lt h (by decide)) (by decide))
theorem joinR2_ok {acc y : Str} {k : Str → Res D} (h : (acc ++ y).length ≤ 16777216) : joinR2 acc k (.ok (.str y)) = k (acc ++ y) := if_pos (small_eq h)
theorem lenmR2_ok {c : Str} {ns : List Str} {F : List D → Res D} {n : Int} (h1 : T.mt c "__len__" 0 = some F) (h2 : F [.ins c ns ds] = .ok (.int n)) (h3 : 0 ≤ n ∧ n < 9223372036854775808) : lenmR2 T (.ok (.ins c ns ds)) = .ok (.int n) := by
  show (match T.mt c "__len__" 0 with | some F => (F [.ins c ns ds]).bind lenOk | none => .stuck) = _
  rw [h1]
  show (F [.ins c ns ds]).bind lenOk = _
  rw [h2]
  show (if 0 ≤ n ∧ n < 2 ^ 63 then Res.ok (D.int n) else .stuck) = _
  rw [if_pos]
  refine ⟨h3.1, ?_⟩
  have : (2 : Int) ^ 63 = 9223372036854775808 := by decide +kernel
  rw [this]
  exact h3.2
theorem methR2_ok {c : Str} {ns : List Str} {F : List D → Res D} {n : Nat} {es : List D} (h0 : f ∉ ns) (h1 : T.mt c f n = some F) : methR2 T f n (.ok es) (.ok (.ins c ns ds)) = F (.ins c ns ds :: es) := by
  show (if f ∈ ns then Res.stuck else match T.mt c f n with | some F => (Res.ok es).bind fun ds' => F (.ins c ns ds :: ds') | none => .stuck) = _
  rw [if_neg h0, h1]
  rfl
theorem mulD_lt {p q : Nat} (h : i.natAbs < 2 ^ p) (h2 : j.natAbs < 2 ^ q) (hp : 0 < p) (hq : 0 < q) (hpq : p + q ≤ 1000000) : mulD (.int i) (.int j) = some (.int (i * j)) := if_pos (by
  have a := log2_lt h hp
  have b := log2_lt h2 hq
  omega)
theorem fdivD_lt (h : j ≠ 0) (h2 : j.natAbs < 2 ^ 9000) : fdivD (.int i) (.int j) = some (.int (i.fdiv j)) := if_pos ⟨h, log2_lt h2 (by decide)⟩
end

/-! ### the place of an item -/
theorem find_fit {x : D} {p : PyData} (e : toPy x = some p) : ∀ {ys : List D} {ps : List PyData}, toPys ys = some ps → (ps.findIdx? fun z => PyData.eqv z p) = ys.findIdx? fun y => eqvD y x
  | [], ps, h => by
    simp only [toPys] at h
    cases h
    rfl
  | y :: ys, ps, h => by
    simp only [toPys] at h
    split at h
    · rename_i q qs e1 e2
      cases h
      rw [List.findIdx?_cons, List.findIdx?_cons, find_fit e e2, eqv_fit y x q p e1 e]
    · cases h
theorem idxof_fit {x : D} {ys : List D} {j : Nat} (h1 : fitD x 64 = true) (h2 : fitDs ys 63 = true) (hj : (ys.findIdx? fun y => eqvD y x) = some j) : idxofR2 (.ok x) (.ok (.lst ys)) = .ok (.int (j : Nat)) := by
  obtain ⟨p, e1, f1⟩ := shaped_fit h1
  obtain ⟨q, e2, f2⟩ := shaped_fit (d := .lst ys) (by simpa only [fitD] using h2)
  simp only [toPy, Option.map_eq_some_iff] at e2
  obtain ⟨qs, e2, rfl⟩ := e2
  show idxofR (.ok x) (.lst ys) = _
  unfold idxofR
  rw [show rowPy (.lst ys) = some qs from e2]
  show Res.ofO (idxofD qs x) = _
  unfold idxofD
  rw [e1]
  show Res.ofO (if SeqAt.shaped p = true ∧ SeqAt.shaped (.list qs) = true then (qs.findIdx? fun z => PyData.eqv z p).map fun j => D.int (j : Nat) else none) = _
  rw [if_pos ⟨f1, f2⟩, find_fit e1 e2, hj]
  rfl

/-! ### ratios -/
def ratD (r : Rat) : D := .tup [.int r.num, .int (r.den : Int)]
/-- a ratio of so many bits -/
def Bits (k : Nat) (r : Rat) : Prop := r.num.natAbs < 2 ^ k ∧ r.den < 2 ^ k
theorem Bits.mono {k l : Nat} {r : Rat} (h : Bits k r) (hl : k ≤ l) : Bits l r := ⟨Nat.lt_of_lt_of_le h.1 (Nat.pow_le_pow_right (by decide) hl), Nat.lt_of_lt_of_le h.2 (Nat.pow_le_pow_right (by decide) hl)⟩
theorem mul_lt_pow {a b k l : Nat} (h : a < 2 ^ k) (h2 : b < 2 ^ l) : a * b < 2 ^ (k + l) := by
  rw [Nat.pow_add]
  exact Nat.lt_of_le_of_lt (Nat.mul_le_mul (Nat.le_of_lt h) (Nat.le_refl _)) (Nat.mul_lt_mul_of_pos_left h2 (Nat.pow_pos (by decide)))
theorem norm_num {t : Int} {b : Nat} (hb : b ≠ 0) : (Rat.normalize t b hb).num = t / ((Nat.gcd t.natAbs b : Nat) : Int) := by rw [Rat.num_normalize]
theorem norm_den {t : Int} {b : Nat} (hb : b ≠ 0) : (Rat.normalize t b hb).den = b / Nat.gcd t.natAbs b := by rw [Rat.den_normalize]
theorem norm_bits {t : Int} {b k : Nat} (hb : b ≠ 0) (h1 : t.natAbs < 2 ^ k) (h2 : b < 2 ^ k) : Bits k (Rat.normalize t b hb) := by
  refine ⟨?_, ?_⟩
  · rw [norm_num]
    refine Nat.lt_of_le_of_lt ?_ h1
    exact Int.natAbs_ediv_le_natAbs ..
  · rw [norm_den]
    exact Nat.lt_of_le_of_lt (Nat.div_le_self ..) h2
theorem Bits.mul {k l : Nat} {r s : Rat} (h : Bits k r) (h2 : Bits l s) : Bits (k + l) (r * s) := by
  rw [Rat.mul_def]
  refine norm_bits _ ?_ (mul_lt_pow h.2 h2.2)
  rw [Int.natAbs_mul]
  exact mul_lt_pow h.1 h2.1
theorem Bits.add {k l : Nat} {r s : Rat} (h : Bits k r) (h2 : Bits l s) : Bits (k + l + 1) (r + s) := by
  rw [Rat.add_def]
  have e : 2 ^ (k + l + 1) = 2 ^ (k + l) + 2 ^ (k + l) := by rw [Nat.pow_succ]; omega
  refine norm_bits _ ?_ ?_
  · refine Nat.lt_of_le_of_lt (Int.natAbs_add_le _ _) ?_
    rw [Int.natAbs_mul, Int.natAbs_mul, Int.natAbs_natCast, Int.natAbs_natCast, e]
    have a := mul_lt_pow h.1 h2.2
    have b := mul_lt_pow h2.1 h.2
    rw [Nat.add_comm l k] at b
    omega
  · have := mul_lt_pow h.2 h2.2
    omega

def bLowest : Ss :=
  (.cons (.set 2 (.gcd (.cons (.var 0) (.cons (.var 1) .nil))))
    (.cons (.ite (.cmp .Lt (.var 1) (.int 0)) (.cons (.set 2 (.neg (.var 2)))
    .nil) .nil)
    (.cons (.ret (.yes (.tup (.cons (.bin .FloorDiv (.var 0) (.var 2)) (.cons (.bin .FloorDiv (.var 1) (.var 2)) .nil)))))
    .nil)))
theorem lowest_ok (T : Tab) (hg : T.gc = true) {t : Int} {b : Nat} (hb : b ≠ 0) (h2 : b < 2 ^ 9000) : runFn T 3 bLowest [.int t, .int (b : Int)] = .ok (ratD (Rat.normalize t b hb)) := by
  have hn : ¬ ((b : Int) < 0) := by omega
  have hp : 0 < Nat.gcd t.natAbs b := Nat.gcd_pos_of_pos_right _ (Nat.pos_of_ne_zero hb)
  have hc : ((Nat.gcd t.natAbs b : Nat) : Int) ≠ 0 := by omega
  have hz : ((Nat.gcd t.natAbs b : Nat) : Int).natAbs < 2 ^ 9000 := by
    rw [Int.natAbs_natCast]
    exact Nat.lt_of_le_of_lt (Nat.le_of_dvd (Nat.pos_of_ne_zero hb) (Nat.gcd_dvd_right _ _)) h2
  have hz2 := Int.natAbs_natCast b
  generalize hG : ((Nat.gcd t.natAbs b : Nat) : Int) = g at *
  unfold runFn
  simp -implicitDefEqProofs [bLowest, gcdR_ok hg, hn]
  rw [hG]
  rw [fdivD_lt hc hz, fdivD_lt hc hz]
  simp -implicitDefEqProofs [ratD, norm_num hb, norm_den hb]
  subst hG
  rw [Int.fdiv_eq_ediv_of_nonneg _ (by omega), Int.fdiv_eq_ediv_of_nonneg _ (by omega)]
  exact ⟨rfl, rfl⟩
def bPlus : Ss :=
  (.cons (.ret (.yes (.call "lowest" (.cons (.bin .Add (.bin .Mult (.idx (.var 0) (.int 0)) (.idx (.var 1) (.int 1))) (.bin .Mult (.idx (.var 1) (.int 0)) (.idx (.var 0) (.int 1)))) (.cons (.bin .Mult (.idx (.var 0) (.int 1)) (.idx (.var 1) (.int 1))) .nil)))))
    .nil)
def bTimes : Ss :=
  (.cons (.ret (.yes (.call "lowest" (.cons (.bin .Mult (.idx (.var 0) (.int 0)) (.idx (.var 1) (.int 0))) (.cons (.bin .Mult (.idx (.var 0) (.int 1)) (.idx (.var 1) (.int 1))) .nil)))))
    .nil)
def bCompare : Ss :=
  (.cons (.set 2 (.bin .Mult (.idx (.var 0) (.int 0)) (.idx (.var 1) (.int 1))))
    (.cons (.set 3 (.bin .Mult (.idx (.var 1) (.int 0)) (.idx (.var 0) (.int 1))))
    (.cons (.ite (.cmp .Lt (.var 2) (.var 3)) (.cons (.ret (.yes (.neg (.int 1))))
    .nil) .nil)
    (.cons (.ite (.cmp .Gt (.var 2) (.var 3)) (.cons (.ret (.yes (.int 1)))
    .nil) .nil)
    (.cons (.ret (.yes (.int 0)))
    .nil)))))
/-- what lowest is worth -/
def LowOk (F : List D → Res D) : Prop := ∀ (t : Int) (b : Nat) (hb : b ≠ 0), b < 2 ^ 9000 → F [.int t, .int (b : Int)] = .ok (ratD (Rat.normalize t b hb))
theorem ix0 {x y : D} : idxD (.tup [x, y]) (.int 0) = some x := idxD_tup (i := 0) rfl
theorem ix1 {x y : D} : idxD (.tup [x, y]) (.int 1) = some y := idxD_tup (i := 1) rfl
theorem Bits.num {k : Nat} {r : Rat} (h : Bits k r) : r.num.natAbs < 2 ^ k := h.1
theorem Bits.den {k : Nat} {r : Rat} (h : Bits k r) : ((r.den : Nat) : Int).natAbs < 2 ^ k := by rw [Int.natAbs_natCast]; exact h.2
theorem plus_ok (T : Tab) {F : List D → Res D} (hf : T.fn "lowest" 2 = some F) (hF : LowOk F) {r s : Rat} {k l : Nat} (h1 : Bits k r) (h2 : Bits l s) (hk : 0 < k) (hl : 0 < l) (h3 : k + l ≤ 9000) :
    runFn T 2 bPlus [ratD r, ratD s] = .ok (ratD (r + s)) := by
  have m1 := mulD_lt h1.num h2.den hk hl (by omega)
  have m2 := mulD_lt h2.num h1.den hl hk (by omega)
  have m3 := mulD_lt h1.den h2.den hk hl (by omega)
  have m4 := hF (r.num * s.den + s.num * r.den) (r.den * s.den) (Nat.mul_ne_zero r.den_nz s.den_nz) (Nat.lt_of_lt_of_le (mul_lt_pow h1.2 h2.2) (Nat.pow_le_pow_right (by decide) h3))
  rw [Int.natCast_mul, ← Rat.add_def] at m4
  show runFn T 2 bPlus [.tup [.int r.num, .int (r.den : Int)], .tup [.int s.num, .int (s.den : Int)]] = _
  unfold runFn
  simp -implicitDefEqProofs [bPlus, ix0, ix1, m1, m2, m3, hf, m4]
theorem times_ok (T : Tab) {F : List D → Res D} (hf : T.fn "lowest" 2 = some F) (hF : LowOk F) {r s : Rat} {k l : Nat} (h1 : Bits k r) (h2 : Bits l s) (hk : 0 < k) (hl : 0 < l) (h3 : k + l ≤ 9000) :
    runFn T 2 bTimes [ratD r, ratD s] = .ok (ratD (r * s)) := by
  have m1 := mulD_lt h1.num h2.num hk hl (by omega)
  have m3 := mulD_lt h1.den h2.den hk hl (by omega)
  have m4 := hF (r.num * s.num) (r.den * s.den) (Nat.mul_ne_zero r.den_nz s.den_nz) (Nat.lt_of_lt_of_le (mul_lt_pow h1.2 h2.2) (Nat.pow_le_pow_right (by decide) h3))
  rw [Int.natCast_mul, ← Rat.mul_def] at m4
  show runFn T 2 bTimes [.tup [.int r.num, .int (r.den : Int)], .tup [.int s.num, .int (s.den : Int)]] = _
  unfold runFn
  simp -implicitDefEqProofs [bTimes, ix0, ix1, m1, m3, hf, m4]
/-- -1, 0 or 1 -/
def cmpR (r s : Rat) : Int := if r < s then -1 else if s < r then 1 else 0
theorem compare_ok (T : Tab) {r s : Rat} {k l : Nat} (h1 : Bits k r) (h2 : Bits l s) (hk : 0 < k) (hl : 0 < l) (h3 : k + l ≤ 9000) : runFn T 4 bCompare [ratD r, ratD s] = .ok (.int (cmpR r s)) := by
  have m1 := mulD_lt h1.num h2.den hk hl (by omega)
  have m2 := mulD_lt h2.num h1.den hl hk (by omega)
  have e : cmpR r s = if r.num * s.den < s.num * r.den then -1 else if s.num * r.den < r.num * s.den then 1 else 0 := by simp only [cmpR, Rat.lt_iff]
  rw [e]
  show runFn T 4 bCompare [.tup [.int r.num, .int (r.den : Int)], .tup [.int s.num, .int (s.den : Int)]] = _
  unfold runFn
  by_cases c1 : r.num * s.den < s.num * r.den
  · simp -implicitDefEqProofs [bCompare, ix0, ix1, m1, m2, c1]
  · by_cases c2 : s.num * r.den < r.num * s.den
    · simp -implicitDefEqProofs [bCompare, ix0, ix1, m1, m2, c1, c2]
    · simp -implicitDefEqProofs [bCompare, ix0, ix1, m1, m2, c1, c2]
end Pu
/-! PuU: machines: their checks and their making. -/
namespace Pu
open PySem PySem.Spec PyProof.Rows L2
def bIsWhole : Ss :=
  (.cons (.ret (.yes (.ands (.cons (.isi1 (.var 0) .int) (.cons (.not_ (.isi1 (.var 0) .bool)) .nil)))))
    .nil)
def bIsRow : Ss :=
  (.cons (.ret (.yes (.ands (.cons (.isi (.var 0) [.list, .tuple]) (.cons (.cmp .Eq (.bi .len (.cons (.var 0) .nil)) (.var 1)) .nil)))))
    .nil)
def bIsState : Ss :=
  (.cons (.ret (.yes (.ands (.cons (.call "is_whole" (.cons (.var 0) .nil)) (.cons (.cmp2 .LtE .Lt (.int 0) (.var 0) (.var 1)) .nil)))))
    .nil)
def bIsRatio : Ss :=
  (.cons (.ite (.ors (.cons (.not_ (.isi1 (.var 0) .tuple)) (.cons (.cmp .NotEq (.bi .len (.cons (.var 0) .nil)) (.int 2)) .nil))) (.cons (.ret (.yes (.bl false)))
    .nil) .nil)
    (.cons (.ite (.ors (.cons (.not_ (.call "is_whole" (.cons (.idx (.var 0) (.int 0)) .nil))) (.cons (.not_ (.call "is_whole" (.cons (.idx (.var 0) (.int 1)) .nil))) (.cons (.cmp .Lt (.idx (.var 0) (.int 1)) (.int 1)) .nil)))) (.cons (.ret (.yes (.bl false)))
    .nil) .nil)
    (.cons (.ret (.yes (.cmp .Eq (.gcd (.cons (.idx (.var 0) (.int 0)) (.cons (.idx (.var 0) (.int 1)) .nil))) (.int 1))))
    .nil)))
def bIsPositive : Ss :=
  (.cons (.ret (.yes (.ands (.cons (.call "is_ratio" (.cons (.var 0) .nil)) (.cons (.cmp .Gt (.idx (.var 0) (.int 0)) (.int 0)) .nil)))))
    .nil)
def bIsStep : Ss :=
  (.cons (.ite (.ors (.cons (.not_ (.call "is_row" (.cons (.var 0) (.cons (.int 4) .nil)))) (.cons (.not_ (.call "is_state" (.cons (.idx (.var 0) (.int 0)) (.cons (.var 1) .nil)))) (.cons (.not_ (.call "is_state" (.cons (.idx (.var 0) (.int 1)) (.cons (.var 1) .nil)))) (.cons (.cmp .Eq (.idx (.var 0) (.int 0)) (.idx (.var 0) (.int 1))) .nil))))) (.cons (.ret (.yes (.bl false)))
    .nil) .nil)
    (.cons (.ret (.yes (.ands (.cons (.call "is_positive" (.cons (.idx (.var 0) (.int 2)) .nil)) (.cons (.call "is_whole" (.cons (.idx (.var 0) (.int 3)) .nil)) (.cons (.cmp2 .LtE .LtE (.int 0) (.idx (.var 0) (.int 3)) (.glob "MOST_COST")) .nil))))))
    .nil))
def bRaised : Ss :=
  (.cons (.ite (.cmp .Lt (.var 1) (.int 0)) (.cons (.ite (.cmp .Eq (.idx (.var 0) (.int 0)) (.int 0)) (.cons .bad
    .nil) .nil)
    (.cons (.ret (.yes (.call "raised" (.cons (.call "lowest" (.cons (.idx (.var 0) (.int 1)) (.cons (.idx (.var 0) (.int 0)) .nil))) (.cons (.neg (.var 1)) .nil)))))
    .nil)) .nil)
    (.cons (.set 2 (.int 1))
    (.cons (.set 3 (.int 1))
    (.cons (.for_ (.nm 4) (.rng (.var 1)) (.cons (.set 2 (.bin .Mult (.var 2) (.idx (.var 0) (.int 0))))
    (.cons (.set 3 (.bin .Mult (.var 3) (.idx (.var 0) (.int 1))))
    .nil)))
    (.cons (.ret (.yes (.tup (.cons (.var 2) (.cons (.var 3) .nil)))))
    .nil)))))
def bStepChance : Ss :=
  (.cons (.ret (.yes (.call "times" (.cons (.idx (.var 0) (.int 2)) (.cons (.call "raised" (.cons (.var 1) (.cons (.idx (.var 0) (.int 3)) .nil))) .nil)))))
    .nil)
def bChanceOut : Ss :=
  (.cons (.set 3 (.glob "ZERO"))
    (.cons (.for_ (.nm 4) (.seq (.var 0)) (.cons (.ite (.cmp .Eq (.idx (.var 4) (.int 0)) (.var 1)) (.cons (.set 3 (.call "plus" (.cons (.var 3) (.cons (.call "step_chance" (.cons (.var 4) (.cons (.var 2) .nil))) .nil))))
    .nil) .nil)
    .nil))
    (.cons (.ret (.yes (.var 3)))
    .nil)))
def bCheckedSteps : Ss :=
  (.cons (.for_ (.nm 2) (.rng (.bi .len (.cons (.var 0) .nil))) (.cons (.ite (.not_ (.call "is_step" (.cons (.idx (.var 0) (.var 2)) (.cons (.var 1) .nil)))) (.cons .bad
    .nil) .nil)
    .nil))
    (.cons (.ret (.yes (.var 0)))
    .nil))
def bReachedFrom : Ss :=
  (.cons (.set 3 (.lc [("state", 4)] (.cmp .Eq (.var 4) (.var 2)) (.nm 4) (.rng (.var 1)) .no))
    (.cons (.for_ (.nm 5) (.rng (.var 1)) (.cons (.for_ (.nm 6) (.seq (.var 0)) (.cons (.ite (.idx (.var 3) (.idx (.var 6) (.int 0))) (.cons (.setI 3 (.idx (.var 6) (.int 1)) (.bl true))
    .nil) .nil)
    .nil))
    .nil))
    (.cons (.ret (.yes (.var 3)))
    .nil)))
def bCheckWays : Ss :=
  (.cons (.for_ (.nm 2) (.rng (.var 1)) (.cons (.set 3 (.call "reached_from" (.cons (.var 0) (.cons (.var 1) (.cons (.var 2) .nil)))))
    (.cons (.for_ (.nm 4) (.rng (.var 1)) (.cons (.ite (.not_ (.idx (.var 3) (.var 4))) (.cons .bad
    .nil) .nil)
    .nil))
    .nil)))
    .nil)
def bLeavingRows : Ss :=
  (.cons (.ret (.yes (.bi .tuple (.cons (.lc [("state", 2)] (.bi .tuple (.cons (.lc [("index", 3)] (.var 3) (.nm 3) (.rng (.bi .len (.cons (.var 0) .nil))) (.yes (.cmp .Eq (.idx (.idx (.var 0) (.var 3)) (.int 0)) (.var 2)))) .nil)) (.nm 2) (.rng (.var 1)) .no) .nil))))
    .nil)
def bMachine : Ss :=
  (.cons (.setF 0 "names" (.call "checked_names" (.cons (.call "frozen" (.cons (.var 1) .nil)) .nil)))
    (.cons (.setF 0 "steps" (.call "checked_steps" (.cons (.call "frozen" (.cons (.var 2) .nil)) (.cons (.bi .len (.cons (.fld (.var 0) "names") .nil)) .nil))))
    (.cons (.ite (.ors (.cons (.not_ (.call "is_positive" (.cons (.var 3) .nil))) (.cons (.cmp .Gt (.call "compare" (.cons (.var 3) (.cons (.glob "ONE") .nil))) (.int 0)) .nil))) (.cons .bad
    .nil) .nil)
    (.cons (.setF 0 "first" (.var 3))
    (.cons (.for_ (.nm 4) (.rng (.bi .len (.cons (.fld (.var 0) "names") .nil))) (.cons (.ite (.cmp .Gt (.call "compare" (.cons (.call "chance_out" (.cons (.fld (.var 0) "steps") (.cons (.var 4) (.cons (.var 3) .nil)))) (.cons (.glob "ONE") .nil))) (.int 0)) (.cons .bad
    .nil) .nil)
    .nil))
    (.cons (.exp (.call "check_ways" (.cons (.fld (.var 0) "steps") (.cons (.bi .len (.cons (.fld (.var 0) "names") .nil)) .nil))))
    (.cons (.setF 0 "leaving" (.call "leaving_rows" (.cons (.fld (.var 0) "steps") (.cons (.bi .len (.cons (.fld (.var 0) "names") .nil)) .nil))))
    .nil)))))))
/-- a step: start, goal, factor, cost -/
structure St4 where
  s : Nat
  g : Nat
  f : Rat
  c : Nat
def stD (t : St4) : D := .tup [.int (t.s : Nat), .int (t.g : Nat), ratD t.f, .int (t.c : Nat)]
def stsD (ts : List St4) : D := .tup (ts.map stD)
theorem four0 {a b c d : D} : idxD (.tup [a, b, c, d]) (.int 0) = some a := idxD_tup (i := 0) rfl
theorem four1 {a b c d : D} : idxD (.tup [a, b, c, d]) (.int 1) = some b := idxD_tup (i := 1) rfl
theorem four2 {a b c d : D} : idxD (.tup [a, b, c, d]) (.int 2) = some c := idxD_tup (i := 2) rfl
theorem four3 {a b c d : D} : idxD (.tup [a, b, c, d]) (.int 3) = some d := idxD_tup (i := 3) rfl

/-! ### the small checks -/
theorem is_whole_int (T : Tab) {i : Int} : runFn T 1 bIsWhole [.int i] = .ok (.bl true) := by
  unfold runFn
  simp -implicitDefEqProofs [bIsWhole, tyR_ok (show isTy .int (.int i) = some true from rfl), tyR_ok (show isTy .bool (.int i) = some false from rfl)]
theorem is_state_ok (T : Tab) {F : List D → Res D} (h : T.fn "is_whole" 1 = some F) (hF : ∀ i : Int, F [.int i] = .ok (.bl true)) {i n : Nat} (hi : i < n) : runFn T 2 bIsState [.int (i : Nat), .int (n : Nat)] = .ok (.bl true) := by
  have h1 : (0 : Int) ≤ (i : Int) := by omega
  have h2 : (i : Int) < (n : Int) := by omega
  unfold runFn
  simp -implicitDefEqProofs [bIsState, h, hF, h1, h2]
theorem is_ratio_ok (T : Tab) {F : List D → Res D} (h : T.fn "is_whole" 1 = some F) (hF : ∀ i : Int, F [.int i] = .ok (.bl true)) (hg : T.gc = true) (r : Rat) : runFn T 1 bIsRatio [ratD r] = .ok (.bl true) := by
  have h1 : ¬ ((r.den : Int) < 1) := by have := r.den_nz; omega
  have h2 : Nat.gcd r.num.natAbs r.den = 1 := r.reduced
  show runFn T 1 bIsRatio [.tup [.int r.num, .int (r.den : Int)]] = _
  unfold runFn
  simp -implicitDefEqProofs [bIsRatio, h, hF, h1, ix0, ix1, gcdR_ok hg, h2, tyR_ok (show isTy .tuple (.tup [.int r.num, .int (r.den : Int)]) = some true from rfl)]
theorem is_positive_ok (T : Tab) {F : List D → Res D} (h : T.fn "is_ratio" 1 = some F) (hF : ∀ r : Rat, F [ratD r] = .ok (.bl true)) {r : Rat} (hr : 0 < r) : runFn T 1 bIsPositive [ratD r] = .ok (.bl true) := by
  have h1 : 0 < r.num := by simpa [Rat.lt_iff] using hr
  have h2 := hF r
  show runFn T 1 bIsPositive [.tup [.int r.num, .int (r.den : Int)]] = _
  unfold runFn
  unfold ratD at h2
  simp -implicitDefEqProofs [bIsPositive, h, h2, ix0, h1]
theorem is_row_tup (T : Tab) {xs : List D} {n : Nat} (h : xs.length = n) : runFn T 2 bIsRow [.tup xs, .int (n : Nat)] = .ok (.bl true) := by
  unfold runFn
  simp -implicitDefEqProofs [bIsRow, h, tyR_ok (show isTys [.list, .tuple] (.tup xs) = some true from rfl)]
theorem is_step_ok (T : Tab) {Fr Fs Fp Fw : List D → Res D} (h1 : T.fn "is_row" 2 = some Fr) (h2 : T.fn "is_state" 2 = some Fs) (h3 : T.fn "is_positive" 1 = some Fp) (h4 : T.fn "is_whole" 1 = some Fw) (hm : T.gl "MOST_COST" = some (.int 60))
    (e1 : ∀ xs : List D, xs.length = 4 → Fr [.tup xs, .int 4] = .ok (.bl true)) (e2 : ∀ i n : Nat, i < n → Fs [.int (i : Nat), .int (n : Nat)] = .ok (.bl true)) (e3 : ∀ r : Rat, 0 < r → Fp [ratD r] = .ok (.bl true)) (e4 : ∀ i : Int, Fw [.int i] = .ok (.bl true))
    {t : St4} {n : Nat} (a1 : t.s < n) (a2 : t.g < n) (a3 : t.s ≠ t.g) (a4 : 0 < t.f) (a5 : t.c ≤ 60) : runFn T 2 bIsStep [stD t, .int (n : Nat)] = .ok (.bl true) := by
  have b1 := e2 t.s n a1
  have b2 := e2 t.g n a2
  have b3 : ¬ ((t.s : Int) = (t.g : Int)) := by omega
  have b4 := e3 t.f a4
  have b5 : (0 : Int) ≤ (t.c : Int) := by omega
  have b6 : (t.c : Int) ≤ 60 := by omega
  have b7 := e1 [.int (t.s : Nat), .int (t.g : Nat), ratD t.f, .int (t.c : Nat)] rfl
  have b8 := e4 (t.c : Int)
  unfold stD
  unfold runFn
  simp -implicitDefEqProofs [bIsStep, h1, h2, h3, h4, hm, b1, b2, b3, b4, b5, b6, b7, b8, four0, four1, four2, four3]
/-! ### powers, chances -/
theorem pow_lt_pow {a k : Nat} (h : a < 2 ^ k) : ∀ n : Nat, a ^ n < 2 ^ (k * n + 1)
  | 0 => by simp
  | n + 1 => by
    have ih := pow_lt_pow h n
    have := mul_lt_pow ih h
    rw [Nat.pow_succ]
    rw [show k * (n + 1) + 1 = k * n + 1 + k by rw [Nat.mul_succ]; omega]
    exact this
theorem raised_ok (T : Tab) {r : Rat} {k n : Nat} (h : Bits k r) (hk : 0 < k) (hn : n ≤ 10000) (hb : k * (n + 1) ≤ 900000) : runFn T 5 bRaised [ratD r, .int (n : Nat)] = .ok (ratD (r ^ n)) := by
  have hneg : ¬ ((n : Int) < 0) := by omega
  obtain ⟨ρ', hl, z, hz⟩ := forL_ind (tg := .nm 4) (body := exs T (.cons (.set 2 (.bin .Mult (.var 2) (.idx (.var 0) (.int 0)))) (.cons (.set 3 (.bin .Mult (.var 3) (.idx (.var 0) (.int 1)))) .nil))) (ds := nats n)
    (ρ := [.val (ratD r), .val (.int (n : Nat)), .val (.int 1), .val (.int 1), .no])
    (fun i ρ => ∃ z, ρ = [.val (ratD r), .val (.int (n : Nat)), .val (.int (r.num ^ i)), .val (.int ((r.den : Int) ^ i)), z]) ⟨.no, by simp⟩ (fun i d ρ hd ⟨z, hρ⟩ => by
      obtain ⟨hi, rfl⟩ := nats_at hd
      subst hρ
      have hki : k * i + 1 + k ≤ 1000000 := by
        have : k * i ≤ k * n := Nat.mul_le_mul (Nat.le_refl _) (Nat.le_of_lt hi)
        rw [Nat.mul_succ] at hb
        omega
      have m1 : mulD (.int (r.num ^ i)) (.int r.num) = some (.int (r.num ^ (i + 1))) := by
        rw [mulD_lt (p := k * i + 1) (q := k) (by rw [Int.natAbs_pow]; exact pow_lt_pow h.1 i) h.1 (by omega) hk hki, Int.pow_succ]
      have m2 : mulD (.int ((r.den : Int) ^ i)) (.int (r.den : Int)) = some (.int ((r.den : Int) ^ (i + 1))) := by
        rw [mulD_lt (p := k * i + 1) (q := k) (by rw [Int.natAbs_pow, Int.natAbs_natCast]; exact pow_lt_pow h.2 i) h.den (by omega) hk hki, Int.pow_succ]
      refine ⟨_, _, rfl, .inl ?_, .val (.int (i : Int)), rfl⟩
      unfold ratD
      simp -implicitDefEqProofs [ix0, ix1, m1, m2])
  rw [nats_len] at hz
  subst hz
  have e : ratD (r ^ n) = .tup [.int (r.num ^ n), .int ((r.den : Int) ^ n)] := by unfold ratD; rw [Rat.num_pow, Rat.den_pow, Int.natCast_pow]
  rw [e]
  have hr := rngR1_nat (n := n) (by omega)
  unfold runFn
  simp -implicitDefEqProofs [bRaised, hneg, hr, hl]
theorem runRec_6 {T : Tab} {x : Str} {m n : Nat} {b : Ss} {ds : List D} : runRec T x m n b 6 ds = runFn (T.add x m (runRec T x m n b 5)) n b ds := rfl
theorem step_chance_ok (T : Tab) {Ft Fr : List D → Res D} (h1 : T.fn "times" 2 = some Ft) (h2 : T.fn "raised" 2 = some Fr) {t : St4} {e : Rat} {d : D} (e1 : Fr [ratD e, .int (t.c : Nat)] = .ok (ratD (e ^ t.c))) (e2 : Ft [ratD t.f, ratD (e ^ t.c)] = .ok d) :
    runFn T 2 bStepChance [stD t, ratD e] = .ok d := by
  unfold stD
  unfold runFn
  simp -implicitDefEqProofs [bStepChance, h1, h2, four2, four3, e1, e2]
/-- the sum of the chances of a state's steps -/
def outSum (e : Rat) (x : Nat) : List St4 → Rat → Rat
  | [], acc => acc
  | t :: ts, acc => outSum e x ts (if t.s = x then acc + t.f * e ^ t.c else acc)
theorem chance_out_ok (T : Tab) {Fs Fp : List D → Res D} (h1 : T.fn "plus" 2 = some Fp) (h2 : T.fn "step_chance" 2 = some Fs) (hz : T.gl "ZERO" = some (ratD 0)) {ts : List St4} {e : Rat} {x : Nat}
    (e1 : ∀ t ∈ ts, t.s = x → Fs [stD t, ratD e] = .ok (ratD (t.f * e ^ t.c)))
    (e2 : ∀ us t vs, ts = us ++ t :: vs → t.s = x → Fp [ratD (outSum e x us 0), ratD (t.f * e ^ t.c)] = .ok (ratD (outSum e x us 0 + t.f * e ^ t.c))) :
    runFn T 5 bChanceOut [stsD ts, .int (x : Nat), ratD e] = .ok (ratD (outSum e x ts 0)) := by
  have snoc : ∀ us t acc, outSum e x (us ++ [t]) acc = if t.s = x then outSum e x us acc + t.f * e ^ t.c else outSum e x us acc := fun us => by
    induction us with
    | nil => intro t acc; rfl
    | cons u us ih => intro t acc; exact ih t _
  obtain ⟨ρ', hl, z, hz'⟩ := forL_ind (tg := .nm 4) (body := exs T (.cons (.ite (.cmp .Eq (.idx (.var 4) (.int 0)) (.var 1)) (.cons (.set 3 (.call "plus" (.cons (.var 3) (.cons (.call "step_chance" (.cons (.var 4) (.cons (.var 2) .nil))) .nil)))) .nil) .nil) .nil)) (ds := ts.map stD)
    (ρ := [.val (stsD ts), .val (.int (x : Nat)), .val (ratD e), .val (ratD 0), .no])
    (fun i ρ => ∃ z, ρ = [.val (stsD ts), .val (.int (x : Nat)), .val (ratD e), .val (ratD (outSum e x (ts.take i) 0)), z]) ⟨.no, rfl⟩ (fun i d ρ hd ⟨z, hρ⟩ => by
      rw [List.getElem?_map] at hd
      obtain ⟨t, ht, rfl⟩ := Option.map_eq_some_iff.mp hd
      subst hρ
      have hmem := List.mem_of_getElem? ht
      have hsplit : ts = ts.take i ++ t :: ts.drop (i + 1) := by
        obtain ⟨hi, hh⟩ := List.getElem?_eq_some_iff.mp ht
        rw [← hh, ← List.drop_eq_getElem_cons hi, List.take_append_drop]
      refine ⟨_, _, rfl, .inl ?_, .val (stD t), rfl⟩
      rw [take_succ ht, snoc]
      by_cases c : t.s = x
      · have f1 := e1 t hmem c
        have f2 := e2 (ts.take i) t (ts.drop (i + 1)) hsplit c
        have c' : ((t.s : Nat) : Int) = (x : Int) := by omega
        rw [if_pos c]
        have i0 : idxD (stD t) (.int 0) = some (.int (t.s : Nat)) := four0
        simp -implicitDefEqProofs [h1, h2, f1, f2, i0, c']
      · have c' : ¬ ((t.s : Nat) : Int) = (x : Int) := by omega
        rw [if_neg c]
        have i0 : idxD (stD t) (.int 0) = some (.int (t.s : Nat)) := four0
        simp -implicitDefEqProofs [i0, c'])
  rw [List.length_map, List.take_length] at hz'
  subst hz'
  unfold runFn
  unfold stsD at *
  simp -implicitDefEqProofs [bChanceOut, hz, hl]
theorem checked_steps_ok (T : Tab) {F : List D → Res D} (h : T.fn "is_step" 2 = some F) {ts : List St4} {n : Nat} (hl : ts.length ≤ 1000000) (hF : ∀ t ∈ ts, F [stD t, .int (n : Nat)] = .ok (.bl true)) :
    runFn T 3 bCheckedSteps [stsD ts, .int (n : Nat)] = .ok (stsD ts) := by
  obtain ⟨ρ', hlp, z, hz⟩ := forL_ind (tg := .nm 2) (body := exs T (.cons (.ite (.not_ (.call "is_step" (.cons (.idx (.var 0) (.var 2)) (.cons (.var 1) .nil)))) (.cons .bad .nil) .nil) .nil)) (ds := nats ts.length)
    (ρ := [.val (stsD ts), .val (.int (n : Nat)), .no])
    (fun i ρ => ∃ z, ρ = [.val (stsD ts), .val (.int (n : Nat)), z]) ⟨.no, rfl⟩ (fun i d ρ hd ⟨z, hρ⟩ => by
      obtain ⟨hi, rfl⟩ := nats_at hd
      subst hρ
      have hx : (ts.map stD)[i]? = some (stD ts[i]) := by rw [List.getElem?_map, List.getElem?_eq_getElem hi]; rfl
      have hx2 := idxD_tup hx
      have hf := hF ts[i] (List.getElem_mem hi)
      refine ⟨_, _, rfl, .inl ?_, .val (.int (i : Int)), rfl⟩
      unfold stsD
      simp -implicitDefEqProofs [hx2, h, hf])
  subst hz
  have hr := rngR1_nat (n := ts.length) (by omega)
  have hlen : lenD (stsD ts) = some (.int (ts.length : Nat)) := by unfold stsD; rw [lenD_tup, List.length_map]
  unfold runFn
  simp -implicitDefEqProofs [bCheckedSteps, hlen, hr, hlp]
/-! ### ways -/
def bls (b : List Bool) : List D := b.map D.bl
def relax (b : List Bool) (t : St4) : List Bool := if b.getD t.s false = true then b.set t.g true else b
def relaxN (ts : List St4) : Nat → List Bool → List Bool
  | 0, b => b
  | k + 1, b => ts.foldl relax (relaxN ts k b)
def at1 (n x : Nat) : List Bool := (List.range n).map fun y => decide (y = x)
theorem relax_len {b : List Bool} {t : St4} : (relax b t).length = b.length := by unfold relax; split <;> simp
theorem fold_len (ts : List St4) : ∀ b : List Bool, (ts.foldl relax b).length = b.length := by
  induction ts with
  | nil => intro b; rfl
  | cons t ts ih => intro b; rw [List.foldl_cons, ih, relax_len]
theorem relaxN_len {ts : List St4} {b : List Bool} : ∀ k, (relaxN ts k b).length = b.length
  | 0 => rfl
  | k + 1 => by rw [relaxN, fold_len, relaxN_len k]
theorem relax_keep {b : List Bool} {t : St4} {y : Nat} (h : b.getD y false = true) : (relax b t).getD y false = true := by
  unfold relax
  split
  · rw [List.getD_eq_getElem?_getD] at h ⊢
    by_cases e : t.g = y
    · subst e
      by_cases hl : t.g < b.length
      · rw [List.getElem?_set_self hl]; rfl
      · rw [List.getElem?_eq_none (by omega)] at h; cases h
    · rw [List.getElem?_set_ne e]; exact h
  · exact h
theorem fold_keep (ts : List St4) {y : Nat} : ∀ b : List Bool, b.getD y false = true → (ts.foldl relax b).getD y false = true := by
  induction ts with
  | nil => intro b h; exact h
  | cons t ts ih => intro b h; exact ih _ (relax_keep h)
theorem fold_step {t : St4} : ∀ (ts : List St4) (b : List Bool), t ∈ ts → t.g < b.length → b.getD t.s false = true → (ts.foldl relax b).getD t.g false = true := by
  intro ts
  induction ts with
  | nil => intro b h; cases h
  | cons u ts ih =>
    intro b h hl hb
    rw [List.foldl_cons]
    rcases List.mem_cons.mp h with rfl | h
    · refine fold_keep ts _ ?_
      unfold relax
      rw [if_pos hb, List.getD_eq_getElem?_getD, List.getElem?_set_self hl]
      rfl
    · exact ih _ h (by rw [relax_len]; exact hl) (relax_keep hb)
theorem relaxN_keep {ts : List St4} {b : List Bool} {y k : Nat} (h : (relaxN ts k b).getD y false = true) : ∀ j, (relaxN ts (k + j) b).getD y false = true
  | 0 => h
  | j + 1 => fold_keep ts _ (relaxN_keep h j)
/-- so many steps lead from x to y -/
inductive Way (ts : List St4) : Nat → Nat → Nat → Prop
  | nil (x : Nat) : Way ts 0 x x
  | snoc {k x y : Nat} {t : St4} (w : Way ts k x y) (h : t ∈ ts) (e : t.s = y) : Way ts (k + 1) x t.g
theorem way_true {ts : List St4} {n x : Nat} (hx : x < n) (hg : ∀ t ∈ ts, t.g < n) {k y : Nat} (w : Way ts k x y) : (relaxN ts k (at1 n x)).getD y false = true := by
  induction w with
  | nil x =>
    unfold relaxN at1
    rw [List.getD_eq_getElem?_getD, List.getElem?_map, List.getElem?_range hx]
    simp
  | @snoc k x y t w h e ih =>
    subst e
    exact fold_step ts _ h (by rw [relaxN_len]; unfold at1; rw [List.length_map, List.length_range]; exact hg t h) (ih hx)
theorem ixN_nat {n i : Nat} (h : i < n) : ixN n (i : Int) = some i := by
  unfold ixN
  simp
  omega
theorem bls_at {b : List Bool} {i : Nat} (h : i < b.length) : (bls b)[i]? = some (.bl (b.getD i false)) := by
  unfold bls
  rw [List.getElem?_map, List.getElem?_eq_getElem h, List.getD_eq_getElem?_getD, List.getElem?_eq_getElem h]
  rfl
theorem bls_set {b : List Bool} {i : Nat} : (bls b).set i (.bl true) = bls (b.set i true) := by
  unfold bls
  rw [List.map_set]
def eqTo (x : Nat) : D → D
  | .int i => .bl (decide (i = (x : Int)))
  | _ => .non
theorem eqTo_nats {n x : Nat} : (nats n).map (eqTo x) = bls (at1 n x) := by
  have e : bls (at1 n x) = (List.range n).map (fun y => D.bl (decide (y = x))) := by unfold bls at1; rw [List.map_map]; rfl
  have e2 : (nats n).map (eqTo x) = (List.range n).map (fun y : Nat => D.bl (decide ((y : Int) = (x : Int)))) := by unfold nats; rw [List.map_map]; rfl
  rw [e, e2]
  refine List.map_congr_left fun y _ => ?_
  congr 1
  rw [decide_eq_decide]
  omega
theorem reached_from_ok (T : Tab) {ts : List St4} {n x : Nat} (hn : n ≤ 1000000) (hs : ∀ t ∈ ts, t.s < n ∧ t.g < n) :
    runFn T 7 bReachedFrom [stsD ts, .int (n : Nat), .int (x : Nat)] = .ok (.lst (bls (relaxN ts n (at1 n x)))) := by
  have inner : ∀ (b : List Bool) (z4 z5 z6 : Sl), b.length = n → ∃ z, forL (.nm 6) (exs T (.cons (.ite (.idx (.var 3) (.idx (.var 6) (.int 0))) (.cons (.setI 3 (.idx (.var 6) (.int 1)) (.bl true)) .nil) .nil) .nil)) (ts.map stD)
      [.val (stsD ts), .val (.int (n : Nat)), .val (.int (x : Nat)), .own (bls b), z4, z5, z6] = .nx [.val (stsD ts), .val (.int (n : Nat)), .val (.int (x : Nat)), .own (bls (ts.foldl relax b)), z4, z5, z] := fun b z4 z5 z6 hb => by
    obtain ⟨ρ', hl, z, hz⟩ := forL_ind (tg := .nm 6) (body := exs T (.cons (.ite (.idx (.var 3) (.idx (.var 6) (.int 0))) (.cons (.setI 3 (.idx (.var 6) (.int 1)) (.bl true)) .nil) .nil) .nil)) (ds := ts.map stD)
      (ρ := [.val (stsD ts), .val (.int (n : Nat)), .val (.int (x : Nat)), .own (bls b), z4, z5, z6])
      (fun i ρ => ∃ z, ρ = [.val (stsD ts), .val (.int (n : Nat)), .val (.int (x : Nat)), .own (bls ((ts.take i).foldl relax b)), z4, z5, z]) ⟨z6, rfl⟩ (fun i d ρ hd ⟨z, hρ⟩ => by
        rw [List.getElem?_map] at hd
        obtain ⟨t, ht, rfl⟩ := Option.map_eq_some_iff.mp hd
        subst hρ
        have hm := hs t (List.mem_of_getElem? ht)
        have i0 : idxD (stD t) (.int 0) = some (.int (t.s : Nat)) := four0
        have i1 : idxD (stD t) (.int 1) = some (.int (t.g : Nat)) := four1
        have hlen : ((ts.take i).foldl relax b).length = n := by rw [fold_len, hb]
        refine ⟨_, _, rfl, .inl ?_, .val (stD t), rfl⟩
        rw [take_succ ht, List.foldl_append, List.foldl_cons, List.foldl_nil]
        generalize (ts.take i).foldl relax b = c at *
        have hx := idxD_lst (bls_at (b := c) (i := t.s) (by omega))
        have hx2 : ixN (bls c).length ((t.g : Nat) : Int) = some t.g := ixN_nat (by unfold bls; rw [List.length_map]; omega)
        unfold relax
        by_cases cc : c.getD t.s false = true
        · rw [cc] at hx
          rw [if_pos cc, ← bls_set]
          simp -implicitDefEqProofs [i0, i1, hx, setIAt_0 hx2]
        · rw [Bool.not_eq_true] at cc
          rw [cc] at hx
          rw [cc, if_neg Bool.false_ne_true]
          simp -implicitDefEqProofs [i0, hx])
    rw [List.length_map, List.take_length] at hz
    subst hz
    exact ⟨z, hl⟩
  obtain ⟨ρ', hl, z5, z6, hz⟩ := forL_ind (tg := .nm 5) (body := exs T (.cons (.for_ (.nm 6) (.seq (.var 0)) (.cons (.ite (.idx (.var 3) (.idx (.var 6) (.int 0))) (.cons (.setI 3 (.idx (.var 6) (.int 1)) (.bl true)) .nil) .nil) .nil)) .nil)) (ds := nats n)
    (ρ := [.val (stsD ts), .val (.int (n : Nat)), .val (.int (x : Nat)), .own (bls (at1 n x)), .no, .no, .no])
    (fun i ρ => ∃ z5 z6, ρ = [.val (stsD ts), .val (.int (n : Nat)), .val (.int (x : Nat)), .own (bls (relaxN ts i (at1 n x))), .no, z5, z6]) ⟨.no, .no, rfl⟩ (fun i d ρ hd ⟨z5, z6, hρ⟩ => by
      subst hρ
      obtain ⟨z, hin⟩ := inner (relaxN ts i (at1 n x)) .no (.val d) z6 (by rw [relaxN_len]; unfold at1; rw [List.length_map, List.length_range])
      refine ⟨_, _, rfl, .inl ?_, .val d, z, rfl⟩
      unfold stsD at *
      simp -implicitDefEqProofs [hin, relaxN])
  rw [nats_len] at hz
  subst hz
  have hr := rngR1_nat (n := n) (by omega)
  have hlc : ∀ ρ : Ro, ρ = [.val (stsD ts), .val (.int (n : Nat)), .val (.int (x : Nat)), .no, .no, .no, .no] → lcL (asg (.nm 4)) (evc T .no) (ev T (.cmp .Eq (.var 4) (.var 2)) .val) ρ (nats n) = .ok (bls (at1 n x)) := fun ρ e => by
    subst e
    rw [lcL_map (h := eqTo x) (fun d hd => ?_)]
    · rw [eqTo_nats]
    · obtain ⟨y, hy⟩ := List.mem_iff_getElem?.mp hd
      obtain ⟨hyn, rfl⟩ := nats_at hy
      exact ⟨_, rfl, by simp [evc], by simp [eqTo]⟩
  unfold runFn
  simp -implicitDefEqProofs [bReachedFrom, hr, lcR_ok (hlc _ rfl), hl]
theorem check_ways_ok (T : Tab) {F : List D → Res D} (h : T.fn "reached_from" 3 = some F) {ts : List St4} {n : Nat} (hn : n ≤ 1000000)
    (hF : ∀ x < n, F [stsD ts, .int (n : Nat), .int (x : Nat)] = .ok (.lst (bls (relaxN ts n (at1 n x))))) (hall : ∀ x y, x < n → y < n → (relaxN ts n (at1 n x)).getD y false = true) :
    runFn T 5 bCheckWays [stsD ts, .int (n : Nat)] = .ok .non := by
  have inner : ∀ (x : Nat) (z : Sl), x < n → ∃ z', forL (.nm 4) (exs T (.cons (.ite (.not_ (.idx (.var 3) (.var 4))) (.cons .bad .nil) .nil) .nil)) (nats n)
      [.val (stsD ts), .val (.int (n : Nat)), .val (.int (x : Nat)), .val (.lst (bls (relaxN ts n (at1 n x)))), z] = .nx [.val (stsD ts), .val (.int (n : Nat)), .val (.int (x : Nat)), .val (.lst (bls (relaxN ts n (at1 n x)))), z'] := fun x z hx => by
    obtain ⟨ρ', hl, z', hz⟩ := forL_ind (tg := .nm 4) (body := exs T (.cons (.ite (.not_ (.idx (.var 3) (.var 4))) (.cons .bad .nil) .nil) .nil)) (ds := nats n)
      (ρ := [.val (stsD ts), .val (.int (n : Nat)), .val (.int (x : Nat)), .val (.lst (bls (relaxN ts n (at1 n x)))), z])
      (fun i ρ => ∃ z, ρ = [.val (stsD ts), .val (.int (n : Nat)), .val (.int (x : Nat)), .val (.lst (bls (relaxN ts n (at1 n x)))), z]) ⟨z, rfl⟩ (fun i d ρ hd ⟨z, hρ⟩ => by
        obtain ⟨hi, rfl⟩ := nats_at hd
        subst hρ
        have hx2 := idxD_lst (bls_at (b := relaxN ts n (at1 n x)) (i := i) (by rw [relaxN_len]; unfold at1; rw [List.length_map, List.length_range]; exact hi))
        rw [hall x i hx hi] at hx2
        refine ⟨_, _, rfl, .inl ?_, .val (.int (i : Int)), rfl⟩
        simp -implicitDefEqProofs [hx2])
    subst hz
    exact ⟨z', hl⟩
  obtain ⟨ρ', hl, z2, z3, z4, hz⟩ := forL_ind (tg := .nm 2) (body := exs T (.cons (.set 3 (.call "reached_from" (.cons (.var 0) (.cons (.var 1) (.cons (.var 2) .nil))))) (.cons (.for_ (.nm 4) (.rng (.var 1)) (.cons (.ite (.not_ (.idx (.var 3) (.var 4))) (.cons .bad .nil) .nil) .nil)) .nil))) (ds := nats n)
    (ρ := [.val (stsD ts), .val (.int (n : Nat)), .no, .no, .no])
    (fun i ρ => ∃ z2 z3 z4, ρ = [.val (stsD ts), .val (.int (n : Nat)), z2, z3, z4]) ⟨.no, .no, .no, rfl⟩ (fun i d ρ hd ⟨z2, z3, z4, hρ⟩ => by
      obtain ⟨hi, rfl⟩ := nats_at hd
      subst hρ
      obtain ⟨z', hin⟩ := inner i z4 hi
      have hf := hF i hi
      have hr := rngR1_nat (n := n) (by omega)
      refine ⟨_, _, rfl, .inl ?_, .val (.int (i : Int)), .val (.lst (bls (relaxN ts n (at1 n i)))), z', rfl⟩
      simp -implicitDefEqProofs [h, hf, hr, hin])
  subst hz
  have hr := rngR1_nat (n := n) (by omega)
  unfold runFn
  simp -implicitDefEqProofs [bCheckWays, hr, hl]
/-- for each state the numbers of the steps that start there -/
def leaveD (ts : List St4) (n : Nat) : D := .tup ((List.range n).map fun x => .tup (((List.range ts.length).filter fun i => decide ((ts[i]?.map St4.s) = some x)).map fun i => .int (i : Nat)))
def startIs (ts : List St4) (x : Nat) : D → Bool
  | .int i => decide ((ts[i.toNat]?.map St4.s) = some x)
  | _ => false
theorem leaving_rows_ok (T : Tab) {ts : List St4} {n : Nat} (hn : n ≤ 1000000) (ht : ts.length ≤ 1000000) : runFn T 4 bLeavingRows [stsD ts, .int (n : Nat)] = .ok (leaveD ts n) := by
  have hr := rngR1_nat (n := n) (by omega)
  have hr2 := rngR1_nat (n := ts.length) (by omega)
  have hlen : lenD (stsD ts) = some (.int (ts.length : Nat)) := by unfold stsD; rw [lenD_tup, List.length_map]
  have inner : ∀ x : Nat, x < n → ∀ z3 : Sl, lcL (asg (.nm 3)) (evc T (.yes (.cmp .Eq (.idx (.idx (.var 0) (.var 3)) (.int 0)) (.var 2)))) (ev T (.var 3) .val) [.val (stsD ts), .val (.int (n : Nat)), .val (.int (x : Nat)), .no] (nats ts.length)
      = .ok (((List.range ts.length).filter fun i => decide ((ts[i]?.map St4.s) = some x)).map fun i => .int (i : Nat)) := fun x hx z3 => by
    rw [lcL_filter (p := startIs ts x) (h := fun d => d) (fun d hd => ?_)]
    · rw [List.map_id']
      unfold nats
      rw [List.filter_map]
      rfl
    · obtain ⟨y, hy⟩ := List.mem_iff_getElem?.mp hd
      obtain ⟨hyn, rfl⟩ := nats_at hy
      have hx1 : (ts.map stD)[y]? = some (stD ts[y]) := by rw [List.getElem?_map, List.getElem?_eq_getElem hyn]; rfl
      have hx2 := idxD_tup hx1
      have i0 : idxD (stD ts[y]) (.int 0) = some (.int (ts[y].s : Nat)) := four0
      refine ⟨_, rfl, ?_, fun _ => by simp⟩
      unfold stsD
      simp -implicitDefEqProofs [evc, hx2, i0, startIs, List.getElem?_eq_getElem hyn]
      omega
  have outer : lcL (asg (.nm 2)) (evc T .no) (ev T (.bi .tuple (.cons (.lc [("index", 3)] (.var 3) (.nm 3) (.rng (.bi .len (.cons (.var 0) .nil))) (.yes (.cmp .Eq (.idx (.idx (.var 0) (.var 3)) (.int 0)) (.var 2)))) .nil)) .val) [.val (stsD ts), .val (.int (n : Nat)), .no, .no] (nats n)
      = .ok ((List.range n).map fun x => .tup (((List.range ts.length).filter fun i => decide ((ts[i]?.map St4.s) = some x)).map fun i => .int (i : Nat))) := by
    rw [lcL_map (h := fun d => match d with | .int x => .tup (((List.range ts.length).filter fun i => decide ((ts[i]?.map St4.s) = some x.toNat)).map fun i => .int (i : Nat)) | _ => .non) (fun d hd => ?_)]
    · unfold nats
      rw [List.map_map]
      rfl
    · obtain ⟨y, hy⟩ := List.mem_iff_getElem?.mp hd
      obtain ⟨hyn, rfl⟩ := nats_at hy
      have hin := inner y hyn .no
      refine ⟨_, rfl, by simp [evc], ?_⟩
      simp -implicitDefEqProofs [hlen, hr2, lcR_ok hin]
  unfold runFn
  simp -implicitDefEqProofs [bLeavingRows, hr, lcR_ok outer, leaveD]
/-! ### the making of a machine -/
abbrev mcN : List Str := ["names", "steps", "first", "leaving"]
def machD (names : List D) (ts : List St4) (r : Rat) : D := .ins "Machine" mcN [.tup names, stsD ts, ratD r, leaveD ts names.length]
theorem machine_ok (T : Tab) {Ffz Fcn Fcs Fip Fcm Fco Fcw Flr : List D → Res D} (h1 : T.fn "frozen" 1 = some Ffz) (h2 : T.fn "checked_names" 1 = some Fcn) (h3 : T.fn "checked_steps" 2 = some Fcs) (h4 : T.fn "is_positive" 1 = some Fip) (h5 : T.fn "compare" 2 = some Fcm)
    (h6 : T.fn "chance_out" 3 = some Fco) (h7 : T.fn "check_ways" 2 = some Fcw) (h8 : T.fn "leaving_rows" 2 = some Flr) (hO : T.gl "ONE" = some (ratD 1))
    (f1 : T.fd "Machine" "names" = true) (f2 : T.fd "Machine" "steps" = true) (f3 : T.fd "Machine" "first" = true) (f4 : T.fd "Machine" "leaving" = true)
    {names0 steps0 : D} {names : List D} {ts : List St4} {r : Rat} {c : Nat → D} (hn : names.length ≤ 1000000)
    (a1 : Ffz [names0] = .ok (.tup names)) (a2 : Ffz [steps0] = .ok (stsD ts)) (a3 : Fcn [.tup names] = .ok (.tup names)) (a4 : Fcs [stsD ts, .int (names.length : Nat)] = .ok (stsD ts)) (a5 : Fip [ratD r] = .ok (.bl true))
    (a6 : ∃ z : Int, Fcm [ratD r, ratD 1] = .ok (.int z) ∧ z ≤ 0) (a7 : ∀ x < names.length, ∃ z : Int, Fco [stsD ts, .int (x : Nat), ratD r] = .ok (c x) ∧ Fcm [c x, ratD 1] = .ok (.int z) ∧ z ≤ 0)
    (a8 : Fcw [stsD ts, .int (names.length : Nat)] = .ok .non) (a9 : Flr [stsD ts, .int (names.length : Nat)] = .ok (leaveD ts names.length)) :
    runInit T "Machine" 5 bMachine [names0, steps0, ratD r] = .ok (machD names ts r) := by
  obtain ⟨z6, e6, g6⟩ := a6
  have g6' : ¬ (0 < z6) := by omega
  have hfn : fldR T "names" (.ins "Machine" ["names"] [.tup names]) = .ok (.tup names) := fldR_at f1 rfl
  have k1 : fldR T "names" (.ins "Machine" ["names", "steps", "first"] [.tup names, stsD ts, ratD r]) = .ok (.tup names) := fldR_at f1 rfl
  have k2 : fldR T "steps" (.ins "Machine" ["names", "steps", "first"] [.tup names, stsD ts, ratD r]) = .ok (stsD ts) := fldR_at f2 rfl
  have hr := rngR1_nat (n := names.length) (by omega)
  obtain ⟨ρ', hl, z, hz⟩ := forL_ind (tg := .nm 4) (body := exs T (.cons (.ite (.cmp .Gt (.call "compare" (.cons (.call "chance_out" (.cons (.fld (.var 0) "steps") (.cons (.var 4) (.cons (.var 3) .nil)))) (.cons (.glob "ONE") .nil))) (.int 0)) (.cons .bad .nil) .nil) .nil)) (ds := nats names.length)
    (ρ := [.obj "Machine" ["names", "steps", "first"] [.tup names, stsD ts, ratD r], .val names0, .val steps0, .val (ratD r), .no])
    (fun i ρ => ∃ z, ρ = [.obj "Machine" ["names", "steps", "first"] [.tup names, stsD ts, ratD r], .val names0, .val steps0, .val (ratD r), z]) ⟨.no, rfl⟩ (fun i d ρ hd ⟨z, hρ⟩ => by
      obtain ⟨hi, rfl⟩ := nats_at hd
      subst hρ
      obtain ⟨y, q1, q2, q3⟩ := a7 i hi
      have q3' : ¬ (0 < y) := by omega
      refine ⟨_, _, rfl, .inl ?_, .val (.int (i : Int)), rfl⟩
      simp -implicitDefEqProofs [h5, h6, hO, k2, q1, q2, q3'])
  subst hz
  have n0 : ("names" : Str) ∉ ([] : List Str) := by decide +kernel
  have n1 : ("steps" : Str) ∉ (["names"] : List Str) := by decide +kernel
  have n2 : ("first" : Str) ∉ (["names", "steps"] : List Str) := by decide +kernel
  have n3 : ("leaving" : Str) ∉ (["names", "steps", "first"] : List Str) := by decide +kernel
  have s0 : setFAt T [.obj "Machine" [] [], .val names0, .val steps0, .val (ratD r), .no] 0 "names" (.tup names) = some [.obj "Machine" ["names"] [.tup names], .val names0, .val steps0, .val (ratD r), .no] := setFAt_0 f1 n0 (by decide)
  have s1 : setFAt T [.obj "Machine" ["names"] [.tup names], .val names0, .val steps0, .val (ratD r), .no] 0 "steps" (stsD ts) = some [.obj "Machine" ["names", "steps"] [.tup names, stsD ts], .val names0, .val steps0, .val (ratD r), .no] := setFAt_0 f2 n1 (by decide)
  have s2 : setFAt T [.obj "Machine" ["names", "steps"] [.tup names, stsD ts], .val names0, .val steps0, .val (ratD r), .no] 0 "first" (ratD r) = some [.obj "Machine" ["names", "steps", "first"] [.tup names, stsD ts, ratD r], .val names0, .val steps0, .val (ratD r), .no] := setFAt_0 f3 n2 (by decide)
  have s3 : setFAt T [.obj "Machine" ["names", "steps", "first"] [.tup names, stsD ts, ratD r], .val names0, .val steps0, .val (ratD r), z] 0 "leaving" (leaveD ts names.length) = some [.obj "Machine" mcN [.tup names, stsD ts, ratD r, leaveD ts names.length], .val names0, .val steps0, .val (ratD r), z] := setFAt_0 f4 n3 (by decide)
  unfold runInit
  simp -implicitDefEqProofs [bMachine, s0, s1, s2, s3, h1, h2, h3, h4, h5, h7, h8, hO, a1, a2, a3, a4, a5, a8, a9, e6, g6', hfn, k1, k2, hr, hl, machD]
end Pu
/-! PuV: the chances of a machine's steps, as parts of a whole number. -/
namespace Pu
open PySem PySem.Spec PyProof.Rows L2

theorem den_dvd {r : Rat} {M : Nat} {z : Int} (h : r * (M : Rat) = (z : Rat)) : r.den ∣ M := by
  have h1 : r.num * (M : Int) = z * (r.den : Int) := by
    have hd : ((r.den : Nat) : Rat) ≠ 0 := by
      intro e
      have := r.den_nz
      have e2 : ((r.den : Nat) : Rat) = ((0 : Nat) : Rat) := e
      exact this (Rat.natCast_inj.mp e2)
    have hr : r = (r.num : Rat) / ((r.den : Nat) : Rat) := by
      rw [← Rat.mkRat_eq_div]
      exact (Rat.mkRat_self r).symm
    have key : ∀ x m n d w : Rat, d ≠ 0 → x = n / d → x * m = w → n * m = w * d := by
      intro x m n d w h1 h2 h3
      subst h2
      grind
    have this := key r (M : Rat) (r.num : Rat) ((r.den : Nat) : Rat) (z : Rat) hd hr h
    have e3 : ((r.num * (M : Int) : Int) : Rat) = ((z * (r.den : Int) : Int) : Rat) := by
      rw [Rat.intCast_mul, Rat.intCast_mul]
      exact this
    exact Rat.intCast_inj.mp e3
  have h2 : (r.den : Int) ∣ r.num * (M : Int) := ⟨z, by rw [h1, Int.mul_comm]⟩
  have h3 : r.den ∣ r.num.natAbs * M := by
    have := Int.natAbs_dvd_natAbs.mpr h2
    rwa [Int.natAbs_mul, Int.natAbs_natCast, Int.natAbs_natCast] at this
  exact Nat.Coprime.dvd_of_dvd_mul_left (Nat.Coprime.symm r.reduced) h3
/-- a ratio that is u parts of M -/
def Part (M u : Nat) (r : Rat) : Prop := r * (M : Rat) = ((u : Int) : Rat)
theorem prt_bits {M u : Nat} {r : Rat} (h : Part M u r) (hM : 0 < M) (h2 : M < 2 ^ 100) (hu : u ≤ M) : Bits 100 r := by
  have hd : r.den ∣ M := den_dvd h
  have hdl := Nat.le_of_dvd hM hd
  refine ⟨?_, Nat.lt_of_le_of_lt hdl h2⟩
  have hMr : (0 : Rat) < (M : Rat) := by
    have : ((0 : Nat) : Rat) < (M : Rat) := Rat.natCast_lt_natCast.mpr hM
    exact this
  have h1 : r ≤ 1 := by
    have hle : ((u : Int) : Rat) ≤ (M : Rat) := by
      have : ((u : Int) : Rat) ≤ ((M : Int) : Rat) := Rat.intCast_le_intCast.mpr (by omega)
      exact this
    have key : ∀ x m w : Rat, 0 < m → x * m = w → w ≤ m → x ≤ 1 := by
      intro x m w a b c
      have e1 : x * m ≤ 1 * m := by rw [b, Rat.one_mul]; exact c
      exact Rat.le_of_mul_le_mul_right e1 a
    exact key r (M : Rat) _ hMr h hle
  have h0 : 0 ≤ r := by
    have hle : (0 : Rat) ≤ ((u : Int) : Rat) := by
      have : ((0 : Int) : Rat) ≤ ((u : Int) : Rat) := Rat.intCast_le_intCast.mpr (by omega)
      exact this
    have key : ∀ x m w : Rat, 0 < m → x * m = w → 0 ≤ w → 0 ≤ x := by
      intro x m w a b c
      have e1 : 0 * m ≤ x * m := by rw [b, Rat.zero_mul]; exact c
      exact Rat.le_of_mul_le_mul_right e1 a
    exact key r (M : Rat) _ hMr h hle
  have a1 : r.num ≤ (r.den : Int) := by
    have := (Rat.le_iff r 1).mp h1
    simpa using this
  have a0 : 0 ≤ r.num := Rat.num_nonneg.mpr h0
  have : r.num.natAbs ≤ r.den := by omega
  omega
theorem prt_add {M u v : Nat} {r s : Rat} (h : Part M u r) (h2 : Part M v s) : Part M (u + v) (r + s) := by
  unfold Part at *
  rw [Rat.add_mul, h, h2, ← Rat.intCast_add]
  rfl
theorem prt_zero {M : Nat} : Part M 0 0 := by
  unfold Part
  rw [Rat.zero_mul]
  rfl
theorem prt_le {M u : Nat} {r : Rat} (h : Part M u r) (hM : 0 < M) (hu : u ≤ M) : ¬ (1 : Rat) < r := by
  intro hlt
  have hMr : (0 : Rat) < (M : Rat) := by
    have : ((0 : Nat) : Rat) < (M : Rat) := Rat.natCast_lt_natCast.mpr hM
    exact this
  have hle : ((u : Int) : Rat) ≤ (M : Rat) := by
    have : ((u : Int) : Rat) ≤ ((M : Int) : Rat) := Rat.intCast_le_intCast.mpr (by omega)
    exact this
  have key : ∀ x m w : Rat, 0 < m → x * m = w → w ≤ m → x ≤ 1 := by
    intro x m w a b c
    have e1 : x * m ≤ 1 * m := by rw [b, Rat.one_mul]; exact c
    exact Rat.le_of_mul_le_mul_right e1 a
  have := key r (M : Rat) _ hMr h hle
  exact Rat.not_le.mpr hlt this
theorem one_powR : ∀ n : Nat, (1 : Rat) ^ n = 1
  | 0 => Rat.pow_zero 1
  | n + 1 => by rw [Rat.pow_succ, one_powR n, Rat.mul_one]
/-- the parts of a state's steps -/
def partSum (u : St4 → Nat) (x : Nat) (ts : List St4) : Nat := ts.foldl (fun a t => if t.s = x then a + u t else a) 0
theorem part_fold (u : St4 → Nat) (x : Nat) : ∀ (ts : List St4) (a : Nat), ts.foldl (fun a t => if t.s = x then a + u t else a) a = a + partSum u x ts := by
  intro ts
  unfold partSum
  induction ts with
  | nil => intro a; rfl
  | cons t ts ih =>
    intro a
    rw [List.foldl_cons, List.foldl_cons, ih, ih (if t.s = x then 0 + u t else 0)]
    split <;> omega
theorem partSum_cons (u : St4 → Nat) (x : Nat) (t : St4) (ts : List St4) : partSum u x (t :: ts) = (if t.s = x then u t else 0) + partSum u x ts := by
  show (t :: ts).foldl (fun a t => if t.s = x then a + u t else a) 0 = _
  rw [List.foldl_cons, part_fold]
  split <;> omega
theorem partSum_app (u : St4 → Nat) (x : Nat) (ts us : List St4) : partSum u x (ts ++ us) = partSum u x ts + partSum u x us := by
  show (ts ++ us).foldl (fun a t => if t.s = x then a + u t else a) 0 = _
  rw [List.foldl_append, part_fold]
  rfl
theorem outSum_prt {M : Nat} {u : St4 → Nat} {x : Nat} : ∀ (ts : List St4) (acc : Rat) (a : Nat), (∀ t ∈ ts, t.s = x → Part M (u t) t.f) → Part M a acc → Part M (a + partSum u x ts) (outSum 1 x ts acc)
  | [], acc, a, _, h => by simpa [partSum, outSum] using h
  | t :: ts, acc, a, hu, h => by
    rw [partSum_cons]
    unfold outSum
    have one : (1 : Rat) ^ t.c = 1 := one_powR t.c
    rw [one, Rat.mul_one]
    by_cases c : t.s = x
    · rw [if_pos c, if_pos c, ← Nat.add_assoc]
      exact outSum_prt ts _ _ (fun t ht => hu t (List.mem_cons_of_mem _ ht)) (prt_add h (hu t List.mem_cons_self c))
    · rw [if_neg c, if_neg c, Nat.zero_add]
      exact outSum_prt ts _ _ (fun t ht => hu t (List.mem_cons_of_mem _ ht)) h
end Pu
/-! IR and checks of rareslips_k83_town_machines, as gen.py has printed them -/
namespace L83
open PySem L2 Pu
def top (i : Nat) : Stmt := PySem.Challenge.pw_rareslips_k83_town_machines.main.body.getD i (.Pass ⟨0, 0, 0, 0⟩)
abbrev s_l_whole : Stmt := top 70
abbrev N_l_whole : List Str := ["value"]
def b_l_whole : Ss :=
  (.cons (.ret (.yes (.ands (.cons (.isi1 (.var 0) .int) (.cons (.not_ (.isi1 (.var 0) .bool)) .nil)))))
    .nil)
theorem sc_l_whole : FnScope N_l_whole ["value"] (defScope s_l_whole) := ⟨rfl, rfl, rfl, by decide +kernel, rfl, by decide +kernel, by decide +kernel⟩
theorem c_l_whole : chSs N_l_whole (defScope s_l_whole) b_l_whole (defBody s_l_whole) = true := by decide +kernel
abbrev s_l_is_ratio : Stmt := top 73
abbrev N_l_is_ratio : List Str := ["value", "due"]
def b_l_is_ratio : Ss :=
  (.cons (.ite (.ors (.cons (.not_ (.isi1 (.var 0) .tuple)) (.cons (.cmp .NotEq (.bi .len (.cons (.var 0) .nil)) (.int 2)) .nil))) (.cons (.ret (.yes (.bl false)))
    .nil) .nil)
    (.cons (.ite (.ors (.cons (.not_ (.call "_law_whole" (.cons (.idx (.var 0) (.int 0)) .nil))) (.cons (.not_ (.call "_law_whole" (.cons (.idx (.var 0) (.int 1)) .nil))) .nil))) (.cons (.ret (.yes (.bl false)))
    .nil) .nil)
    (.cons (.ret (.yes (.ands (.cons (.cmp .Eq (.idx (.var 0) (.int 0)) (.idx (.var 1) (.int 0))) (.cons (.cmp .Eq (.idx (.var 0) (.int 1)) (.idx (.var 1) (.int 1))) .nil)))))
    .nil)))
theorem sc_l_is_ratio : FnScope N_l_is_ratio ["value", "due"] (defScope s_l_is_ratio) := ⟨rfl, rfl, rfl, by decide +kernel, rfl, by decide +kernel, by decide +kernel⟩
theorem c_l_is_ratio : chSs N_l_is_ratio (defScope s_l_is_ratio) b_l_is_ratio (defBody s_l_is_ratio) = true := by decide +kernel
abbrev s_l_rows : Stmt := top 76
abbrev N_l_rows : List Str := ["drawn", "rows", "customs", "grown", "row", "k"]
def b_l_rows : Ss :=
  (.cons (.set 1 (.lst (.cons (.tup .nil) .nil)))
    (.cons (.for_ (.nm 2) (.seq (.idx (.var 0) (.int 0))) (.cons (.set 3 (.lst .nil))
    (.cons (.for_ (.nm 4) (.seq (.var 1)) (.cons (.for_ (.nm 5) (.rng (.bi .len (.cons (.var 2) .nil))) (.cons (.app 3 (.bin .Add (.var 4) (.tup (.cons (.var 5) .nil))))
    .nil))
    .nil))
    (.cons (.set 1 (.bi .list (.cons (.var 3) .nil)))
    .nil))))
    (.cons (.ret (.yes (.var 1)))
    .nil)))
theorem sc_l_rows : FnScope N_l_rows ["drawn"] (defScope s_l_rows) := ⟨rfl, rfl, rfl, by decide +kernel, rfl, by decide +kernel, by decide +kernel⟩
theorem c_l_rows : chSs N_l_rows (defScope s_l_rows) b_l_rows (defBody s_l_rows) = true := by decide +kernel
abbrev s_l_with : Stmt := top 77
abbrev N_l_with : List Str := ["row", "person", "custom"]
def b_l_with : Ss :=
  (.cons (.ret (.yes (.bin .Add (.bin .Add (.slc (.var 0) .no (.yes (.var 1))) (.tup (.cons (.var 2) .nil))) (.slc (.var 0) (.yes (.bin .Add (.var 1) (.int 1))) .no))))
    .nil)
theorem sc_l_with : FnScope N_l_with ["row", "person", "custom"] (defScope s_l_with) := ⟨rfl, rfl, rfl, by decide +kernel, rfl, by decide +kernel, by decide +kernel⟩
theorem c_l_with : chSs N_l_with (defScope s_l_with) b_l_with (defBody s_l_with) = true := by decide +kernel
abbrev s_l_worth : Stmt := top 78
abbrev N_l_worth : List Str := ["drawn", "row", "person", "told", "item"]
def b_l_worth : Ss :=
  (.cons (.set 3 (.int 0))
    (.cons (.for_ (.nm 4) (.seq (.idx (.var 0) (.int 1))) (.cons (.ite (.ands (.cons (.cmp .Eq (.idx (.var 4) (.int 0)) (.var 2)) (.cons (.cmp .Eq (.idx (.var 1) (.var 2)) (.idx (.var 4) (.int 1))) (.cons (.cmp .Eq (.idx (.var 1) (.idx (.var 4) (.int 2))) (.idx (.var 4) (.int 3))) .nil)))) (.cons (.set 3 (.bin .Add (.var 3) (.idx (.var 4) (.int 4))))
    .nil) .nil)
    .nil))
    (.cons (.ret (.yes (.var 3)))
    .nil)))
theorem sc_l_worth : FnScope N_l_worth ["drawn", "row", "person"] (defScope s_l_worth) := ⟨rfl, rfl, rfl, by decide +kernel, rfl, by decide +kernel, by decide +kernel⟩
theorem c_l_worth : chSs N_l_worth (defScope s_l_worth) b_l_worth (defBody s_l_worth) = true := by decide +kernel
abbrev s_l_worths : Stmt := top 79
abbrev N_l_worths : List Str := ["drawn", "row", "person", "k"]
def b_l_worths : Ss :=
  (.cons (.ret (.yes (.lc [("k", 3)] (.call "_law_worth" (.cons (.var 0) (.cons (.call "_law_with" (.cons (.var 1) (.cons (.var 2) (.cons (.var 3) .nil)))) (.cons (.var 2) .nil)))) (.nm 3) (.rng (.bi .len (.cons (.idx (.idx (.var 0) (.int 0)) (.var 2)) .nil))) .no)))
    .nil)
theorem sc_l_worths : FnScope N_l_worths ["drawn", "row", "person"] (defScope s_l_worths) := ⟨rfl, rfl, rfl, by decide +kernel, rfl, by decide +kernel, by decide +kernel⟩
theorem c_l_worths : chSs N_l_worths (defScope s_l_worths) b_l_worths (defBody s_l_worths) = true := by decide +kernel
abbrev s_l_town_steps : Stmt := top 80
abbrev N_l_town_steps : List Str := ["drawn", "rows", "steps", "row", "person", "worths", "highest", "many", "k", "goal", "step", "worth"]
def b_l_town_steps : Ss :=
  (.cons (.set 1 (.call "_law_rows" (.cons (.var 0) .nil)))
    (.cons (.set 2 (.lst .nil))
    (.cons (.for_ (.nm 3) (.seq (.var 1)) (.cons (.for_ (.nm 4) (.rng (.bi .len (.cons (.var 3) .nil))) (.cons (.set 5 (.call "_law_worths" (.cons (.var 0) (.cons (.var 3) (.cons (.var 4) .nil)))))
    (.cons (.set 6 (.bi .max (.cons (.var 5) .nil)))
    (.cons (.set 7 (.bi .len (.cons (.lc [("worth", 11)] (.var 11) (.nm 11) (.seq (.var 5)) (.yes (.cmp .Eq (.var 11) (.var 6)))) .nil)))
    (.cons (.for_ (.nm 8) (.rng (.bi .len (.cons (.var 5) .nil))) (.cons (.ite (.cmp .NotEq (.var 8) (.idx (.var 3) (.var 4))) (.cons (.set 9 (.idxof (.var 1) (.call "_law_with" (.cons (.var 3) (.cons (.var 4) (.cons (.var 8) .nil))))))
    (.cons (.set 10 (.tup (.cons (.idxof (.var 1) (.var 3)) (.cons (.var 9) (.cons (.tup (.cons (.int 1) (.cons (.bin .Mult (.bi .len (.cons (.var 3) .nil)) (.bi .len (.cons (.var 5) .nil))) .nil))) (.cons (.bin .Sub (.var 6) (.idx (.var 5) (.var 8))) .nil))))))
    (.cons (.ite (.cmp .Eq (.idx (.var 0) (.int 2)) (.str "even")) (.cons (.set 10 (.tup (.cons (.idxof (.var 1) (.var 3)) (.cons (.var 9) (.cons (.tup (.cons (.int 1) (.cons (.bin .Mult (.bin .Mult (.int 2) (.bi .len (.cons (.var 3) .nil))) (.bi .len (.cons (.var 5) .nil))) .nil))) (.cons (.int 1) .nil))))))
    (.cons (.ite (.cmp .Eq (.idx (.var 5) (.var 8)) (.var 6)) (.cons (.set 10 (.tup (.cons (.idxof (.var 1) (.var 3)) (.cons (.var 9) (.cons (.tup (.cons (.int 1) (.cons (.bin .Mult (.bin .Mult (.int 2) (.bi .len (.cons (.var 3) .nil))) (.var 7)) .nil))) (.cons (.int 0) .nil))))))
    .nil) .nil)
    .nil)) .nil)
    (.cons (.app 2 (.var 10))
    .nil)))) .nil)
    .nil))
    .nil)))))
    .nil))
    (.cons (.ret (.yes (.var 2)))
    .nil))))
theorem sc_l_town_steps : FnScope N_l_town_steps ["drawn"] (defScope s_l_town_steps) := ⟨rfl, rfl, rfl, by decide +kernel, rfl, by decide +kernel, by decide +kernel⟩
theorem c_l_town_steps : chSs N_l_town_steps (defScope s_l_town_steps) b_l_town_steps (defBody s_l_town_steps) = true := by decide +kernel
abbrev s_leaving_rows : Stmt := top 44
abbrev N_leaving_rows : List Str := ["steps", "size", "state", "index"]
def b_leaving_rows : Ss :=
  (.cons (.ret (.yes (.bi .tuple (.cons (.lc [("state", 2)] (.bi .tuple (.cons (.lc [("index", 3)] (.var 3) (.nm 3) (.rng (.bi .len (.cons (.var 0) .nil))) (.yes (.cmp .Eq (.idx (.idx (.var 0) (.var 3)) (.int 0)) (.var 2)))) .nil)) (.nm 2) (.rng (.var 1)) .no) .nil))))
    .nil)
theorem sc_leaving_rows : FnScope N_leaving_rows ["steps", "size"] (defScope s_leaving_rows) := ⟨rfl, rfl, rfl, by decide +kernel, rfl, by decide +kernel, by decide +kernel⟩
theorem c_leaving_rows : chSs N_leaving_rows (defScope s_leaving_rows) b_leaving_rows (defBody s_leaving_rows) = true := by decide +kernel
abbrev s_reached_from : Stmt := top 42
abbrev N_reached_from : List Str := ["steps", "size", "start", "told", "state", "_", "step"]
def b_reached_from : Ss :=
  (.cons (.set 3 (.lc [("state", 4)] (.cmp .Eq (.var 4) (.var 2)) (.nm 4) (.rng (.var 1)) .no))
    (.cons (.for_ (.nm 5) (.rng (.var 1)) (.cons (.for_ (.nm 6) (.seq (.var 0)) (.cons (.ite (.idx (.var 3) (.idx (.var 6) (.int 0))) (.cons (.setI 3 (.idx (.var 6) (.int 1)) (.bl true))
    .nil) .nil)
    .nil))
    .nil))
    (.cons (.ret (.yes (.var 3)))
    .nil)))
theorem sc_reached_from : FnScope N_reached_from ["steps", "size", "start"] (defScope s_reached_from) := ⟨rfl, rfl, rfl, by decide +kernel, rfl, by decide +kernel, by decide +kernel⟩
theorem c_reached_from : chSs N_reached_from (defScope s_reached_from) b_reached_from (defBody s_reached_from) = true := by decide +kernel
abbrev s_check_ways : Stmt := top 43
abbrev N_check_ways : List Str := ["steps", "size", "start", "reached", "goal"]
def b_check_ways : Ss :=
  (.cons (.for_ (.nm 2) (.rng (.var 1)) (.cons (.set 3 (.call "reached_from" (.cons (.var 0) (.cons (.var 1) (.cons (.var 2) .nil)))))
    (.cons (.for_ (.nm 4) (.rng (.var 1)) (.cons (.ite (.not_ (.idx (.var 3) (.var 4))) (.cons .bad
    .nil) .nil)
    .nil))
    .nil)))
    .nil)
theorem sc_check_ways : FnScope N_check_ways ["steps", "size"] (defScope s_check_ways) := ⟨rfl, rfl, rfl, by decide +kernel, rfl, by decide +kernel, by decide +kernel⟩
theorem c_check_ways : chSs N_check_ways (defScope s_check_ways) b_check_ways (defBody s_check_ways) = true := by decide +kernel
abbrev s_compare : Stmt := top 30
abbrev N_compare : List Str := ["a", "b", "left", "right"]
def b_compare : Ss :=
  (.cons (.set 2 (.bin .Mult (.idx (.var 0) (.int 0)) (.idx (.var 1) (.int 1))))
    (.cons (.set 3 (.bin .Mult (.idx (.var 1) (.int 0)) (.idx (.var 0) (.int 1))))
    (.cons (.ite (.cmp .Lt (.var 2) (.var 3)) (.cons (.ret (.yes (.neg (.int 1))))
    .nil) .nil)
    (.cons (.ite (.cmp .Gt (.var 2) (.var 3)) (.cons (.ret (.yes (.int 1)))
    .nil) .nil)
    (.cons (.ret (.yes (.int 0)))
    .nil)))))
theorem sc_compare : FnScope N_compare ["a", "b"] (defScope s_compare) := ⟨rfl, rfl, rfl, by decide +kernel, rfl, by decide +kernel, by decide +kernel⟩
theorem c_compare : chSs N_compare (defScope s_compare) b_compare (defBody s_compare) = true := by decide +kernel
abbrev s_lowest : Stmt := top 26
abbrev N_lowest : List Str := ["top", "bottom", "common"]
def b_lowest : Ss :=
  (.cons (.set 2 (.gcd (.cons (.var 0) (.cons (.var 1) .nil))))
    (.cons (.ite (.cmp .Lt (.var 1) (.int 0)) (.cons (.set 2 (.neg (.var 2)))
    .nil) .nil)
    (.cons (.ret (.yes (.tup (.cons (.bin .FloorDiv (.var 0) (.var 2)) (.cons (.bin .FloorDiv (.var 1) (.var 2)) .nil)))))
    .nil)))
theorem sc_lowest : FnScope N_lowest ["top", "bottom"] (defScope s_lowest) := ⟨rfl, rfl, rfl, by decide +kernel, rfl, by decide +kernel, by decide +kernel⟩
theorem c_lowest : chSs N_lowest (defScope s_lowest) b_lowest (defBody s_lowest) = true := by decide +kernel
abbrev s_plus : Stmt := top 27
abbrev N_plus : List Str := ["a", "b"]
def b_plus : Ss :=
  (.cons (.ret (.yes (.call "lowest" (.cons (.bin .Add (.bin .Mult (.idx (.var 0) (.int 0)) (.idx (.var 1) (.int 1))) (.bin .Mult (.idx (.var 1) (.int 0)) (.idx (.var 0) (.int 1)))) (.cons (.bin .Mult (.idx (.var 0) (.int 1)) (.idx (.var 1) (.int 1))) .nil)))))
    .nil)
theorem sc_plus : FnScope N_plus ["a", "b"] (defScope s_plus) := ⟨rfl, rfl, rfl, by decide +kernel, rfl, by decide +kernel, by decide +kernel⟩
theorem c_plus : chSs N_plus (defScope s_plus) b_plus (defBody s_plus) = true := by decide +kernel
abbrev s_times : Stmt := top 28
abbrev N_times : List Str := ["a", "b"]
def b_times : Ss :=
  (.cons (.ret (.yes (.call "lowest" (.cons (.bin .Mult (.idx (.var 0) (.int 0)) (.idx (.var 1) (.int 0))) (.cons (.bin .Mult (.idx (.var 0) (.int 1)) (.idx (.var 1) (.int 1))) .nil)))))
    .nil)
theorem sc_times : FnScope N_times ["a", "b"] (defScope s_times) := ⟨rfl, rfl, rfl, by decide +kernel, rfl, by decide +kernel, by decide +kernel⟩
theorem c_times : chSs N_times (defScope s_times) b_times (defBody s_times) = true := by decide +kernel
abbrev s_raised : Stmt := top 29
abbrev N_raised : List Str := ["a", "exponent", "top", "bottom", "_"]
def b_raised : Ss :=
  (.cons (.ite (.cmp .Lt (.var 1) (.int 0)) (.cons (.ite (.cmp .Eq (.idx (.var 0) (.int 0)) (.int 0)) (.cons .bad
    .nil) .nil)
    (.cons (.ret (.yes (.call "raised" (.cons (.call "lowest" (.cons (.idx (.var 0) (.int 1)) (.cons (.idx (.var 0) (.int 0)) .nil))) (.cons (.neg (.var 1)) .nil)))))
    .nil)) .nil)
    (.cons (.set 2 (.int 1))
    (.cons (.set 3 (.int 1))
    (.cons (.for_ (.nm 4) (.rng (.var 1)) (.cons (.set 2 (.bin .Mult (.var 2) (.idx (.var 0) (.int 0))))
    (.cons (.set 3 (.bin .Mult (.var 3) (.idx (.var 0) (.int 1))))
    .nil)))
    (.cons (.ret (.yes (.tup (.cons (.var 2) (.cons (.var 3) .nil)))))
    .nil)))))
theorem sc_raised : FnScope N_raised ["a", "exponent"] (defScope s_raised) := ⟨rfl, rfl, rfl, by decide +kernel, rfl, by decide +kernel, by decide +kernel⟩
theorem c_raised : chSs N_raised (defScope s_raised) b_raised (defBody s_raised) = true := by decide +kernel
abbrev s_step_chance : Stmt := top 40
abbrev N_step_chance : List Str := ["step", "e"]
def b_step_chance : Ss :=
  (.cons (.ret (.yes (.call "times" (.cons (.idx (.var 0) (.int 2)) (.cons (.call "raised" (.cons (.var 1) (.cons (.idx (.var 0) (.int 3)) .nil))) .nil)))))
    .nil)
theorem sc_step_chance : FnScope N_step_chance ["step", "e"] (defScope s_step_chance) := ⟨rfl, rfl, rfl, by decide +kernel, rfl, by decide +kernel, by decide +kernel⟩
theorem c_step_chance : chSs N_step_chance (defScope s_step_chance) b_step_chance (defBody s_step_chance) = true := by decide +kernel
abbrev s_chance_out : Stmt := top 41
abbrev N_chance_out : List Str := ["steps", "state", "e", "told", "step"]
def b_chance_out : Ss :=
  (.cons (.set 3 (.glob "ZERO"))
    (.cons (.for_ (.nm 4) (.seq (.var 0)) (.cons (.ite (.cmp .Eq (.idx (.var 4) (.int 0)) (.var 1)) (.cons (.set 3 (.call "plus" (.cons (.var 3) (.cons (.call "step_chance" (.cons (.var 4) (.cons (.var 2) .nil))) .nil))))
    .nil) .nil)
    .nil))
    (.cons (.ret (.yes (.var 3)))
    .nil)))
theorem sc_chance_out : FnScope N_chance_out ["steps", "state", "e"] (defScope s_chance_out) := ⟨rfl, rfl, rfl, by decide +kernel, rfl, by decide +kernel, by decide +kernel⟩
theorem c_chance_out : chSs N_chance_out (defScope s_chance_out) b_chance_out (defBody s_chance_out) = true := by decide +kernel
abbrev s_is_whole : Stmt := top 19
abbrev N_is_whole : List Str := ["value"]
def b_is_whole : Ss :=
  (.cons (.ret (.yes (.ands (.cons (.isi1 (.var 0) .int) (.cons (.not_ (.isi1 (.var 0) .bool)) .nil)))))
    .nil)
theorem sc_is_whole : FnScope N_is_whole ["value"] (defScope s_is_whole) := ⟨rfl, rfl, rfl, by decide +kernel, rfl, by decide +kernel, by decide +kernel⟩
theorem c_is_whole : chSs N_is_whole (defScope s_is_whole) b_is_whole (defBody s_is_whole) = true := by decide +kernel
abbrev s_is_ratio : Stmt := top 31
abbrev N_is_ratio : List Str := ["value"]
def b_is_ratio : Ss :=
  (.cons (.ite (.ors (.cons (.not_ (.isi1 (.var 0) .tuple)) (.cons (.cmp .NotEq (.bi .len (.cons (.var 0) .nil)) (.int 2)) .nil))) (.cons (.ret (.yes (.bl false)))
    .nil) .nil)
    (.cons (.ite (.ors (.cons (.not_ (.call "is_whole" (.cons (.idx (.var 0) (.int 0)) .nil))) (.cons (.not_ (.call "is_whole" (.cons (.idx (.var 0) (.int 1)) .nil))) (.cons (.cmp .Lt (.idx (.var 0) (.int 1)) (.int 1)) .nil)))) (.cons (.ret (.yes (.bl false)))
    .nil) .nil)
    (.cons (.ret (.yes (.cmp .Eq (.gcd (.cons (.idx (.var 0) (.int 0)) (.cons (.idx (.var 0) (.int 1)) .nil))) (.int 1))))
    .nil)))
theorem sc_is_ratio : FnScope N_is_ratio ["value"] (defScope s_is_ratio) := ⟨rfl, rfl, rfl, by decide +kernel, rfl, by decide +kernel, by decide +kernel⟩
theorem c_is_ratio : chSs N_is_ratio (defScope s_is_ratio) b_is_ratio (defBody s_is_ratio) = true := by decide +kernel
abbrev s_is_positive : Stmt := top 32
abbrev N_is_positive : List Str := ["value"]
def b_is_positive : Ss :=
  (.cons (.ret (.yes (.ands (.cons (.call "is_ratio" (.cons (.var 0) .nil)) (.cons (.cmp .Gt (.idx (.var 0) (.int 0)) (.int 0)) .nil)))))
    .nil)
theorem sc_is_positive : FnScope N_is_positive ["value"] (defScope s_is_positive) := ⟨rfl, rfl, rfl, by decide +kernel, rfl, by decide +kernel, by decide +kernel⟩
theorem c_is_positive : chSs N_is_positive (defScope s_is_positive) b_is_positive (defBody s_is_positive) = true := by decide +kernel
abbrev s_is_state : Stmt := top 37
abbrev N_is_state : List Str := ["value", "size"]
def b_is_state : Ss :=
  (.cons (.ret (.yes (.ands (.cons (.call "is_whole" (.cons (.var 0) .nil)) (.cons (.cmp2 .LtE .Lt (.int 0) (.var 0) (.var 1)) .nil)))))
    .nil)
theorem sc_is_state : FnScope N_is_state ["value", "size"] (defScope s_is_state) := ⟨rfl, rfl, rfl, by decide +kernel, rfl, by decide +kernel, by decide +kernel⟩
theorem c_is_state : chSs N_is_state (defScope s_is_state) b_is_state (defBody s_is_state) = true := by decide +kernel
abbrev s_is_row : Stmt := top 22
abbrev N_is_row : List Str := ["value", "size"]
def b_is_row : Ss :=
  (.cons (.ret (.yes (.ands (.cons (.isi (.var 0) [.list, .tuple]) (.cons (.cmp .Eq (.bi .len (.cons (.var 0) .nil)) (.var 1)) .nil)))))
    .nil)
theorem sc_is_row : FnScope N_is_row ["value", "size"] (defScope s_is_row) := ⟨rfl, rfl, rfl, by decide +kernel, rfl, by decide +kernel, by decide +kernel⟩
theorem c_is_row : chSs N_is_row (defScope s_is_row) b_is_row (defBody s_is_row) = true := by decide +kernel
abbrev s_is_step : Stmt := top 38
abbrev N_is_step : List Str := ["step", "size"]
def b_is_step : Ss :=
  (.cons (.ite (.ors (.cons (.not_ (.call "is_row" (.cons (.var 0) (.cons (.int 4) .nil)))) (.cons (.not_ (.call "is_state" (.cons (.idx (.var 0) (.int 0)) (.cons (.var 1) .nil)))) (.cons (.not_ (.call "is_state" (.cons (.idx (.var 0) (.int 1)) (.cons (.var 1) .nil)))) (.cons (.cmp .Eq (.idx (.var 0) (.int 0)) (.idx (.var 0) (.int 1))) .nil))))) (.cons (.ret (.yes (.bl false)))
    .nil) .nil)
    (.cons (.ret (.yes (.ands (.cons (.call "is_positive" (.cons (.idx (.var 0) (.int 2)) .nil)) (.cons (.call "is_whole" (.cons (.idx (.var 0) (.int 3)) .nil)) (.cons (.cmp2 .LtE .LtE (.int 0) (.idx (.var 0) (.int 3)) (.glob "MOST_COST")) .nil))))))
    .nil))
theorem sc_is_step : FnScope N_is_step ["step", "size"] (defScope s_is_step) := ⟨rfl, rfl, rfl, by decide +kernel, rfl, by decide +kernel, by decide +kernel⟩
theorem c_is_step : chSs N_is_step (defScope s_is_step) b_is_step (defBody s_is_step) = true := by decide +kernel
abbrev s_checked_steps : Stmt := top 39
abbrev N_checked_steps : List Str := ["steps", "size", "index"]
def b_checked_steps : Ss :=
  (.cons (.for_ (.nm 2) (.rng (.bi .len (.cons (.var 0) .nil))) (.cons (.ite (.not_ (.call "is_step" (.cons (.idx (.var 0) (.var 2)) (.cons (.var 1) .nil)))) (.cons .bad
    .nil) .nil)
    .nil))
    (.cons (.ret (.yes (.var 0)))
    .nil))
theorem sc_checked_steps : FnScope N_checked_steps ["steps", "size"] (defScope s_checked_steps) := ⟨rfl, rfl, rfl, by decide +kernel, rfl, by decide +kernel, by decide +kernel⟩
theorem c_checked_steps : chSs N_checked_steps (defScope s_checked_steps) b_checked_steps (defBody s_checked_steps) = true := by decide +kernel
abbrev s_frozen : Stmt := top 20
abbrev N_frozen : List Str := ["value", "item"]
def b_frozen : Ss :=
  (.cons (.ite (.isi (.var 0) [.list, .tuple]) (.cons (.ret (.yes (.bi .tuple (.cons (.lc [("item", 1)] (.call "frozen" (.cons (.var 1) .nil)) (.nm 1) (.seq (.var 0)) .no) .nil))))
    .nil) .nil)
    (.cons (.ret (.yes (.var 0)))
    .nil))
theorem sc_frozen : FnScope N_frozen ["value"] (defScope s_frozen) := ⟨rfl, rfl, rfl, by decide +kernel, rfl, by decide +kernel, by decide +kernel⟩
theorem c_frozen : chSs N_frozen (defScope s_frozen) b_frozen (defBody s_frozen) = true := by decide +kernel
abbrev s_is_name : Stmt := top 21
abbrev N_is_name : List Str := ["value", "char"]
def b_is_name : Ss :=
  (.cons (.ite (.ors (.cons (.not_ (.isi1 (.var 0) .str)) (.cons (.not_ (.cmp2 .LtE .LtE (.int 1) (.bi .len (.cons (.var 0) .nil)) (.int 12))) (.cons (.cmp .NotIn (.idx (.var 0) (.int 0)) (.glob "LETTERS")) .nil)))) (.cons (.ret (.yes (.bl false)))
    .nil) .nil)
    (.cons (.for_ (.nm 1) (.seq (.var 0)) (.cons (.ite (.ands (.cons (.cmp .NotIn (.var 1) (.glob "LETTERS")) (.cons (.cmp .NotIn (.var 1) (.glob "DIGITS")) (.cons (.cmp .NotEq (.var 1) (.str "-")) .nil)))) (.cons (.ret (.yes (.bl false)))
    .nil) .nil)
    .nil))
    (.cons (.ret (.yes (.bl true)))
    .nil)))
theorem sc_is_name : FnScope N_is_name ["value"] (defScope s_is_name) := ⟨rfl, rfl, rfl, by decide +kernel, rfl, by decide +kernel, by decide +kernel⟩
theorem c_is_name : chSs N_is_name (defScope s_is_name) b_is_name (defBody s_is_name) = true := by decide +kernel
abbrev s_checked_names : Stmt := top 36
abbrev N_checked_names : List Str := ["names", "index"]
def b_checked_names : Ss :=
  (.cons (.ite (.cmp .Eq (.bi .len (.cons (.var 0) .nil)) (.int 0)) (.cons .bad
    .nil) .nil)
    (.cons (.for_ (.nm 1) (.rng (.bi .len (.cons (.var 0) .nil))) (.cons (.ite (.ors (.cons (.not_ (.call "is_name" (.cons (.idx (.var 0) (.var 1)) .nil))) (.cons (.cmp .In (.idx (.var 0) (.var 1)) (.slc (.var 0) .no (.yes (.var 1)))) .nil))) (.cons .bad
    .nil) .nil)
    .nil))
    (.cons (.ret (.yes (.var 0)))
    .nil)))
theorem sc_checked_names : FnScope N_checked_names ["names"] (defScope s_checked_names) := ⟨rfl, rfl, rfl, by decide +kernel, rfl, by decide +kernel, by decide +kernel⟩
theorem c_checked_names : chSs N_checked_names (defScope s_checked_names) b_checked_names (defBody s_checked_names) = true := by decide +kernel
abbrev s_Machine : Stmt := inClass (top 35) 0
abbrev N_Machine : List Str := ["self", "names", "steps", "first", "state"]
def b_Machine : Ss :=
  (.cons (.setF 0 "names" (.call "checked_names" (.cons (.call "frozen" (.cons (.var 1) .nil)) .nil)))
    (.cons (.setF 0 "steps" (.call "checked_steps" (.cons (.call "frozen" (.cons (.var 2) .nil)) (.cons (.bi .len (.cons (.fld (.var 0) "names") .nil)) .nil))))
    (.cons (.ite (.ors (.cons (.not_ (.call "is_positive" (.cons (.var 3) .nil))) (.cons (.cmp .Gt (.call "compare" (.cons (.var 3) (.cons (.glob "ONE") .nil))) (.int 0)) .nil))) (.cons .bad
    .nil) .nil)
    (.cons (.setF 0 "first" (.var 3))
    (.cons (.for_ (.nm 4) (.rng (.bi .len (.cons (.fld (.var 0) "names") .nil))) (.cons (.ite (.cmp .Gt (.call "compare" (.cons (.call "chance_out" (.cons (.fld (.var 0) "steps") (.cons (.var 4) (.cons (.var 3) .nil)))) (.cons (.glob "ONE") .nil))) (.int 0)) (.cons .bad
    .nil) .nil)
    .nil))
    (.cons (.exp (.call "check_ways" (.cons (.fld (.var 0) "steps") (.cons (.bi .len (.cons (.fld (.var 0) "names") .nil)) .nil))))
    (.cons (.setF 0 "leaving" (.call "leaving_rows" (.cons (.fld (.var 0) "steps") (.cons (.bi .len (.cons (.fld (.var 0) "names") .nil)) .nil))))
    .nil)))))))
theorem sc_Machine : FnScope N_Machine ["self", "names", "steps", "first"] (defScope s_Machine) := ⟨rfl, rfl, rfl, by decide +kernel, rfl, by decide +kernel, by decide +kernel⟩
theorem c_Machine : chSs N_Machine (defScope s_Machine) b_Machine (defBody s_Machine) = true := by decide +kernel
abbrev s_number_of : Stmt := top 57
abbrev N_number_of : List Str := ["town", "row", "told", "person"]
def b_number_of : Ss :=
  (.cons (.set 2 (.int 0))
    (.cons (.for_ (.nm 3) (.rng (.bi .len (.cons (.var 1) .nil))) (.cons (.set 2 (.bin .Add (.bin .Mult (.var 2) (.bi .len (.cons (.idx (.fld (.var 0) "customs") (.var 3)) .nil))) (.idx (.var 1) (.var 3))))
    .nil))
    (.cons (.ret (.yes (.var 2)))
    .nil)))
theorem sc_number_of : FnScope N_number_of ["town", "row"] (defScope s_number_of) := ⟨rfl, rfl, rfl, by decide +kernel, rfl, by decide +kernel, by decide +kernel⟩
theorem c_number_of : chSs N_number_of (defScope s_number_of) b_number_of (defBody s_number_of) = true := by decide +kernel
abbrev s_worth_of : Stmt := top 61
abbrev N_worth_of : List Str := ["town", "row", "person", "told", "one", "custom", "other", "held", "worth"]
def b_worth_of : Ss :=
  (.cons (.set 3 (.int 0))
    (.cons (.for_ (.tp [4, 5, 6, 7, 8]) (.seq (.fld (.var 0) "worths")) (.cons (.ite (.ands (.cons (.cmp .Eq (.var 4) (.var 2)) (.cons (.cmp .Eq (.idx (.var 1) (.var 2)) (.var 5)) (.cons (.cmp .Eq (.idx (.var 1) (.var 6)) (.var 7)) .nil)))) (.cons (.set 3 (.bin .Add (.var 3) (.var 8)))
    .nil) .nil)
    .nil))
    (.cons (.ret (.yes (.var 3)))
    .nil)))
theorem sc_worth_of : FnScope N_worth_of ["town", "row", "person"] (defScope s_worth_of) := ⟨rfl, rfl, rfl, by decide +kernel, rfl, by decide +kernel, by decide +kernel⟩
theorem c_worth_of : chSs N_worth_of (defScope s_worth_of) b_worth_of (defBody s_worth_of) = true := by decide +kernel
abbrev s_with_custom : Stmt := top 59
abbrev N_with_custom : List Str := ["row", "person", "custom", "index"]
def b_with_custom : Ss :=
  (.cons (.ret (.yes (.bi .tuple (.cons (.lc [("index", 3)] (.ife (.cmp .Eq (.var 3) (.var 1)) (.var 2) (.idx (.var 0) (.var 3))) (.nm 3) (.rng (.bi .len (.cons (.var 0) .nil))) .no) .nil))))
    .nil)
theorem sc_with_custom : FnScope N_with_custom ["row", "person", "custom"] (defScope s_with_custom) := ⟨rfl, rfl, rfl, by decide +kernel, rfl, by decide +kernel, by decide +kernel⟩
theorem c_with_custom : chSs N_with_custom (defScope s_with_custom) b_with_custom (defBody s_with_custom) = true := by decide +kernel
abbrev s_worth_row : Stmt := top 62
abbrev N_worth_row : List Str := ["town", "row", "person", "custom"]
def b_worth_row : Ss :=
  (.cons (.ret (.yes (.lc [("custom", 3)] (.call "worth_of" (.cons (.var 0) (.cons (.call "with_custom" (.cons (.var 1) (.cons (.var 2) (.cons (.var 3) .nil)))) (.cons (.var 2) .nil)))) (.nm 3) (.rng (.bi .len (.cons (.idx (.fld (.var 0) "customs") (.var 2)) .nil))) .no)))
    .nil)
theorem sc_worth_row : FnScope N_worth_row ["town", "row", "person"] (defScope s_worth_row) := ⟨rfl, rfl, rfl, by decide +kernel, rfl, by decide +kernel, by decide +kernel⟩
theorem c_worth_row : chSs N_worth_row (defScope s_worth_row) b_worth_row (defBody s_worth_row) = true := by decide +kernel
abbrev s_best : Stmt := top 63
abbrev N_best : List Str := ["town", "row", "person", "worths", "highest", "custom"]
def b_best : Ss :=
  (.cons (.set 3 (.call "worth_row" (.cons (.var 0) (.cons (.var 1) (.cons (.var 2) .nil)))))
    (.cons (.set 4 (.bi .max (.cons (.var 3) .nil)))
    (.cons (.ret (.yes (.bi .tuple (.cons (.lc [("custom", 5)] (.var 5) (.nm 5) (.rng (.bi .len (.cons (.var 3) .nil))) (.yes (.cmp .Eq (.idx (.var 3) (.var 5)) (.var 4)))) .nil))))
    .nil)))
theorem sc_best : FnScope N_best ["town", "row", "person"] (defScope s_best) := ⟨rfl, rfl, rfl, by decide +kernel, rfl, by decide +kernel, by decide +kernel⟩
theorem c_best : chSs N_best (defScope s_best) b_best (defBody s_best) = true := by decide +kernel
abbrev s_even_step : Stmt := top 65
abbrev N_even_step : List Str := ["town", "row", "person", "custom", "good"]
def b_even_step : Ss :=
  (.cons (.set 4 (.call "best" (.cons (.var 0) (.cons (.var 1) (.cons (.var 2) .nil)))))
    (.cons (.ite (.cmp .In (.var 3) (.var 4)) (.cons (.ret (.yes (.tup (.cons (.tup (.cons (.int 1) (.cons (.bin .Mult (.bin .Mult (.int 2) (.bi .len (.cons (.fld (.var 0) "people") .nil))) (.bi .len (.cons (.var 4) .nil))) .nil))) (.cons (.int 0) .nil)))))
    .nil) .nil)
    (.cons (.ret (.yes (.tup (.cons (.tup (.cons (.int 1) (.cons (.bin .Mult (.bin .Mult (.int 2) (.bi .len (.cons (.fld (.var 0) "people") .nil))) (.bi .len (.cons (.idx (.fld (.var 0) "customs") (.var 2)) .nil))) .nil))) (.cons (.int 1) .nil)))))
    .nil)))
theorem sc_even_step : FnScope N_even_step ["town", "row", "person", "custom"] (defScope s_even_step) := ⟨rfl, rfl, rfl, by decide +kernel, rfl, by decide +kernel, by decide +kernel⟩
theorem c_even_step : chSs N_even_step (defScope s_even_step) b_even_step (defBody s_even_step) = true := by decide +kernel
abbrev s_loss_step : Stmt := top 66
abbrev N_loss_step : List Str := ["town", "row", "person", "custom", "worths"]
def b_loss_step : Ss :=
  (.cons (.set 4 (.call "worth_row" (.cons (.var 0) (.cons (.var 1) (.cons (.var 2) .nil)))))
    (.cons (.ret (.yes (.tup (.cons (.tup (.cons (.int 1) (.cons (.bin .Mult (.bi .len (.cons (.fld (.var 0) "people") .nil)) (.bi .len (.cons (.idx (.fld (.var 0) "customs") (.var 2)) .nil))) .nil))) (.cons (.bin .Sub (.bi .max (.cons (.var 4) .nil)) (.idx (.var 4) (.var 3))) .nil)))))
    .nil))
theorem sc_loss_step : FnScope N_loss_step ["town", "row", "person", "custom"] (defScope s_loss_step) := ⟨rfl, rfl, rfl, by decide +kernel, rfl, by decide +kernel, by decide +kernel⟩
theorem c_loss_step : chSs N_loss_step (defScope s_loss_step) b_loss_step (defBody s_loss_step) = true := by decide +kernel
abbrev s_town_steps : Stmt := top 67
abbrev N_town_steps : List Str := ["town", "row", "told", "person", "custom", "goal", "factor", "cost"]
def b_town_steps : Ss :=
  (.cons (.set 2 (.lst .nil))
    (.cons (.for_ (.nm 3) (.rng (.bi .len (.cons (.var 1) .nil))) (.cons (.for_ (.nm 4) (.rng (.bi .len (.cons (.idx (.fld (.var 0) "customs") (.var 3)) .nil))) (.cons (.ite (.cmp .NotEq (.var 4) (.idx (.var 1) (.var 3))) (.cons (.set 5 (.call "number_of" (.cons (.var 0) (.cons (.call "with_custom" (.cons (.var 1) (.cons (.var 3) (.cons (.var 4) .nil)))) .nil))))
    (.cons (.ite (.cmp .Eq (.fld (.var 0) "slips") (.str "even")) (.cons (.setT (.tp [6, 7]) (.call "even_step" (.cons (.var 0) (.cons (.var 1) (.cons (.var 3) (.cons (.var 4) .nil))))))
    .nil) (.cons (.setT (.tp [6, 7]) (.call "loss_step" (.cons (.var 0) (.cons (.var 1) (.cons (.var 3) (.cons (.var 4) .nil))))))
    .nil))
    (.cons (.app 2 (.tup (.cons (.call "number_of" (.cons (.var 0) (.cons (.var 1) .nil))) (.cons (.var 5) (.cons (.var 6) (.cons (.var 7) .nil))))))
    .nil))) .nil)
    .nil))
    .nil))
    (.cons (.ret (.yes (.var 2)))
    .nil)))
theorem sc_town_steps : FnScope N_town_steps ["town", "row"] (defScope s_town_steps) := ⟨rfl, rfl, rfl, by decide +kernel, rfl, by decide +kernel, by decide +kernel⟩
theorem c_town_steps : chSs N_town_steps (defScope s_town_steps) b_town_steps (defBody s_town_steps) = true := by decide +kernel
abbrev s_row_of : Stmt := top 56
abbrev N_row_of : List Str := ["town", "number", "told", "rest", "row"]
def b_row_of : Ss :=
  (.cons (.set 2 (.lst .nil))
    (.cons (.set 3 (.var 1))
    (.cons (.for_ (.nm 4) (.rev (.fld (.var 0) "customs")) (.cons (.app 2 (.bin .Sub (.var 3) (.bin .Mult (.bin .FloorDiv (.var 3) (.bi .len (.cons (.var 4) .nil))) (.bi .len (.cons (.var 4) .nil)))))
    (.cons (.set 3 (.bin .FloorDiv (.var 3) (.bi .len (.cons (.var 4) .nil))))
    .nil)))
    (.cons (.ret (.yes (.sqr true (.var 2))))
    .nil))))
theorem sc_row_of : FnScope N_row_of ["town", "number"] (defScope s_row_of) := ⟨rfl, rfl, rfl, by decide +kernel, rfl, by decide +kernel, by decide +kernel⟩
theorem c_row_of : chSs N_row_of (defScope s_row_of) b_row_of (defBody s_row_of) = true := by decide +kernel
abbrev s_row_count : Stmt := top 53
abbrev N_row_count : List Str := ["customs", "count", "row"]
def b_row_count : Ss :=
  (.cons (.set 1 (.int 1))
    (.cons (.for_ (.nm 2) (.seq (.var 0)) (.cons (.set 1 (.bin .Mult (.var 1) (.bi .len (.cons (.var 2) .nil))))
    .nil))
    (.cons (.ret (.yes (.var 1)))
    .nil)))
theorem sc_row_count : FnScope N_row_count ["customs"] (defScope s_row_count) := ⟨rfl, rfl, rfl, by decide +kernel, rfl, by decide +kernel, by decide +kernel⟩
theorem c_row_count : chSs N_row_count (defScope s_row_count) b_row_count (defBody s_row_count) = true := by decide +kernel
abbrev s_every_row : Stmt := top 58
abbrev N_every_row : List Str := ["town", "number"]
def b_every_row : Ss :=
  (.cons (.ret (.yes (.lc [("number", 1)] (.call "row_of" (.cons (.var 0) (.cons (.var 1) .nil))) (.nm 1) (.rng (.call "row_count" (.cons (.fld (.var 0) "customs") .nil))) .no)))
    .nil)
theorem sc_every_row : FnScope N_every_row ["town"] (defScope s_every_row) := ⟨rfl, rfl, rfl, by decide +kernel, rfl, by decide +kernel, by decide +kernel⟩
theorem c_every_row : chSs N_every_row (defScope s_every_row) b_every_row (defBody s_every_row) = true := by decide +kernel
abbrev s_town_machine : Stmt := top 68
abbrev N_town_machine : List Str := ["town", "steps", "rows", "row", "number"]
def b_town_machine : Ss :=
  (.cons (.set 1 (.lst .nil))
    (.cons (.set 2 (.call "every_row" (.cons (.var 0) .nil)))
    (.cons (.for_ (.nm 3) (.seq (.var 2)) (.cons (.set 1 (.bin .Add (.var 1) (.call "town_steps" (.cons (.var 0) (.cons (.var 3) .nil)))))
    .nil))
    (.cons (.ret (.yes (.call "Machine" (.cons (.lc [("number", 4)] (.joined (.cons (.str "s") (.cons (.fmt (.var 4)) .nil))) (.nm 4) (.rng (.bi .len (.cons (.var 2) .nil))) .no) (.cons (.var 1) .nil)))))
    .nil))))
theorem sc_town_machine : FnScope N_town_machine ["town"] (defScope s_town_machine) := ⟨rfl, rfl, rfl, by decide +kernel, rfl, by decide +kernel, by decide +kernel⟩
theorem c_town_machine : chSs N_town_machine (defScope s_town_machine) b_town_machine (defBody s_town_machine) = true := by decide +kernel
abbrev s_is_worth : Stmt := top 54
abbrev N_is_worth : List Str := ["item", "customs"]
def b_is_worth : Ss :=
  (.cons (.ite (.ors (.cons (.not_ (.call "is_row" (.cons (.var 0) (.cons (.int 5) .nil)))) (.cons (.not_ (.call "is_state" (.cons (.idx (.var 0) (.int 0)) (.cons (.bi .len (.cons (.var 1) .nil)) .nil)))) (.cons (.not_ (.call "is_state" (.cons (.idx (.var 0) (.int 2)) (.cons (.bi .len (.cons (.var 1) .nil)) .nil)))) .nil)))) (.cons (.ret (.yes (.bl false)))
    .nil) .nil)
    (.cons (.ite (.ors (.cons (.cmp .Eq (.idx (.var 0) (.int 0)) (.idx (.var 0) (.int 2))) (.cons (.not_ (.call "is_state" (.cons (.idx (.var 0) (.int 1)) (.cons (.bi .len (.cons (.idx (.var 1) (.idx (.var 0) (.int 0))) .nil)) .nil)))) .nil))) (.cons (.ret (.yes (.bl false)))
    .nil) .nil)
    (.cons (.ite (.not_ (.call "is_state" (.cons (.idx (.var 0) (.int 3)) (.cons (.bi .len (.cons (.idx (.var 1) (.idx (.var 0) (.int 2))) .nil)) .nil)))) (.cons (.ret (.yes (.bl false)))
    .nil) .nil)
    (.cons (.ret (.yes (.ands (.cons (.call "is_whole" (.cons (.idx (.var 0) (.int 4)) .nil)) (.cons (.cmp2 .LtE .LtE (.neg (.glob "MOST_WORTH")) (.idx (.var 0) (.int 4)) (.glob "MOST_WORTH")) .nil)))))
    .nil))))
theorem sc_is_worth : FnScope N_is_worth ["item", "customs"] (defScope s_is_worth) := ⟨rfl, rfl, rfl, by decide +kernel, rfl, by decide +kernel, by decide +kernel⟩
theorem c_is_worth : chSs N_is_worth (defScope s_is_worth) b_is_worth (defBody s_is_worth) = true := by decide +kernel
abbrev s_checked_worths : Stmt := top 55
abbrev N_checked_worths : List Str := ["worths", "customs", "known", "index"]
def b_checked_worths : Ss :=
  (.cons (.set 2 (.lst .nil))
    (.cons (.for_ (.nm 3) (.rng (.bi .len (.cons (.var 0) .nil))) (.cons (.ite (.ors (.cons (.not_ (.call "is_worth" (.cons (.idx (.var 0) (.var 3)) (.cons (.var 1) .nil)))) (.cons (.cmp .In (.slc (.idx (.var 0) (.var 3)) .no (.yes (.int 4))) (.var 2)) .nil))) (.cons .bad
    .nil) .nil)
    (.cons (.app 2 (.slc (.idx (.var 0) (.var 3)) .no (.yes (.int 4))))
    .nil)))
    (.cons (.ret (.yes (.var 0)))
    .nil)))
theorem sc_checked_worths : FnScope N_checked_worths ["worths", "customs"] (defScope s_checked_worths) := ⟨rfl, rfl, rfl, by decide +kernel, rfl, by decide +kernel, by decide +kernel⟩
theorem c_checked_worths : chSs N_checked_worths (defScope s_checked_worths) b_checked_worths (defBody s_checked_worths) = true := by decide +kernel
abbrev s_are_customs : Stmt := top 51
abbrev N_are_customs : List Str := ["row", "index"]
def b_are_customs : Ss :=
  (.cons (.ite (.ors (.cons (.not_ (.isi1 (.var 0) .tuple)) (.cons (.not_ (.cmp2 .LtE .LtE (.int 1) (.bi .len (.cons (.var 0) .nil)) (.glob "MOST_CUSTOMS"))) .nil))) (.cons (.ret (.yes (.bl false)))
    .nil) .nil)
    (.cons (.for_ (.nm 1) (.rng (.bi .len (.cons (.var 0) .nil))) (.cons (.ite (.ors (.cons (.not_ (.call "is_name" (.cons (.idx (.var 0) (.var 1)) .nil))) (.cons (.cmp .In (.idx (.var 0) (.var 1)) (.slc (.var 0) .no (.yes (.var 1)))) .nil))) (.cons (.ret (.yes (.bl false)))
    .nil) .nil)
    .nil))
    (.cons (.ret (.yes (.bl true)))
    .nil)))
theorem sc_are_customs : FnScope N_are_customs ["row"] (defScope s_are_customs) := ⟨rfl, rfl, rfl, by decide +kernel, rfl, by decide +kernel, by decide +kernel⟩
theorem c_are_customs : chSs N_are_customs (defScope s_are_customs) b_are_customs (defBody s_are_customs) = true := by decide +kernel
abbrev s_checked_customs : Stmt := top 52
abbrev N_checked_customs : List Str := ["customs", "size", "index"]
def b_checked_customs : Ss :=
  (.cons (.for_ (.nm 2) (.rng (.bi .max (.cons (.bi .len (.cons (.var 0) .nil)) (.cons (.var 1) .nil)))) (.cons (.ite (.ors (.cons (.cmp .GtE (.var 2) (.var 1)) (.cons (.cmp .GtE (.var 2) (.bi .len (.cons (.var 0) .nil))) (.cons (.not_ (.call "are_customs" (.cons (.idx (.var 0) (.var 2)) .nil))) .nil)))) (.cons .bad
    .nil) .nil)
    .nil))
    (.cons (.ret (.yes (.var 0)))
    .nil))
theorem sc_checked_customs : FnScope N_checked_customs ["customs", "size"] (defScope s_checked_customs) := ⟨rfl, rfl, rfl, by decide +kernel, rfl, by decide +kernel, by decide +kernel⟩
theorem c_checked_customs : chSs N_checked_customs (defScope s_checked_customs) b_checked_customs (defBody s_checked_customs) = true := by decide +kernel
abbrev s_checked_people : Stmt := top 50
abbrev N_checked_people : List Str := ["people", "index"]
def b_checked_people : Ss :=
  (.cons (.ite (.cmp .Eq (.bi .len (.cons (.var 0) .nil)) (.int 0)) (.cons .bad
    .nil) .nil)
    (.cons (.for_ (.nm 1) (.rng (.bi .len (.cons (.var 0) .nil))) (.cons (.ite (.ors (.cons (.not_ (.call "is_name" (.cons (.idx (.var 0) (.var 1)) .nil))) (.cons (.cmp .In (.idx (.var 0) (.var 1)) (.slc (.var 0) .no (.yes (.var 1)))) .nil))) (.cons .bad
    .nil) .nil)
    .nil))
    (.cons (.ret (.yes (.var 0)))
    .nil)))
theorem sc_checked_people : FnScope N_checked_people ["people"] (defScope s_checked_people) := ⟨rfl, rfl, rfl, by decide +kernel, rfl, by decide +kernel, by decide +kernel⟩
theorem c_checked_people : chSs N_checked_people (defScope s_checked_people) b_checked_people (defBody s_checked_people) = true := by decide +kernel
abbrev s_Town : Stmt := inClass (top 49) 0
abbrev N_Town : List Str := ["self", "people", "customs", "worths", "slips", "count"]
def b_Town : Ss :=
  (.cons (.setF 0 "people" (.call "checked_people" (.cons (.call "frozen" (.cons (.var 1) .nil)) .nil)))
    (.cons (.setF 0 "customs" (.call "checked_customs" (.cons (.call "frozen" (.cons (.var 2) .nil)) (.cons (.bi .len (.cons (.fld (.var 0) "people") .nil)) .nil))))
    (.cons (.set 5 (.call "row_count" (.cons (.fld (.var 0) "customs") .nil)))
    (.cons (.ite (.cmp .Gt (.var 5) (.glob "MOST_ROWS")) (.cons .bad
    .nil) .nil)
    (.cons (.setF 0 "worths" (.call "checked_worths" (.cons (.call "frozen" (.cons (.var 3) .nil)) (.cons (.fld (.var 0) "customs") .nil))))
    (.cons (.ite (.cmp .NotIn (.var 4) (.tup (.cons (.str "even") (.cons (.str "loss") .nil)))) (.cons .bad
    .nil) .nil)
    (.cons (.setF 0 "slips" (.var 4))
    .nil)))))))
theorem sc_Town : FnScope N_Town ["self", "people", "customs", "worths", "slips"] (defScope s_Town) := ⟨rfl, rfl, rfl, by decide +kernel, rfl, by decide +kernel, by decide +kernel⟩
theorem c_Town : chSs N_Town (defScope s_Town) b_Town (defBody s_Town) = true := by decide +kernel
abbrev s_l_people : Stmt := top 75
abbrev N_l_people : List Str := ["drawn"]
def b_l_people : Ss :=
  (.cons (.ret (.yes (.slc (.lst (.cons (.str "ann") (.cons (.str "bob") (.cons (.str "cid") (.cons (.str "dee") .nil))))) .no (.yes (.bi .len (.cons (.idx (.var 0) (.int 0)) .nil))))))
    .nil)
theorem sc_l_people : FnScope N_l_people ["drawn"] (defScope s_l_people) := ⟨rfl, rfl, rfl, by decide +kernel, rfl, by decide +kernel, by decide +kernel⟩
theorem c_l_people : chSs N_l_people (defScope s_l_people) b_l_people (defBody s_l_people) = true := by decide +kernel
abbrev s_l_digits : Stmt := top 72
abbrev N_l_digits : List Str := ["cell", "sizes", "row", "rest", "size", "seed", "k", "twice"]
def b_l_digits : Ss :=
  (.cons (.set 2 (.lst .nil))
    (.cons (.set 3 (.bi .int (.cons (.var 0) .nil)))
    (.cons (.ite (.cmp .GtE (.var 3) (.bin .Pow (.int 10) (.int 18))) (.cons (.set 3 (.bin .Sub (.var 3) (.bin .Pow (.int 10) (.int 18))))
    (.cons (.for_ (.nm 4) (.seq (.var 1)) (.cons (.app 2 (.bin .Mod (.bi .int (.cons (.var 3) .nil)) (.var 4)))
    (.cons (.set 3 (.bin .FloorDiv (.bi .int (.cons (.var 3) .nil)) (.var 4)))
    .nil)))
    (.cons (.ret (.yes (.var 2)))
    .nil))) .nil)
    (.cons (.set 5 (.bin .Mod (.bi .int (.cons (.var 3) .nil)) (.int 2147483629)))
    (.cons (.for_ (.nm 6) (.rng (.bi .len (.cons (.var 1) .nil))) (.cons (.set 5 (.bin .Mod (.bi .int (.cons (.bin .Add (.bin .Add (.bin .Mult (.var 5) (.int 48271)) (.bin .Mult (.int 974711) (.var 6))) (.int 12345)) .nil)) (.int 2147483647)))
    (.cons (.set 7 (.bin .Mod (.bi .int (.cons (.bin .Mult (.var 5) (.bin .Add (.bin .FloorDiv (.var 5) (.int 65537)) (.int 3))) .nil)) (.int 2147483629)))
    (.cons (.app 2 (.bin .Mod (.bin .FloorDiv (.var 7) (.int 19)) (.idx (.var 1) (.var 6))))
    .nil))))
    (.cons (.ret (.yes (.var 2)))
    .nil))))))
theorem sc_l_digits : FnScope N_l_digits ["cell", "sizes"] (defScope s_l_digits) := ⟨rfl, rfl, rfl, by decide +kernel, rfl, by decide +kernel, by decide +kernel⟩
theorem c_l_digits : chSs N_l_digits (defScope s_l_digits) b_l_digits (defBody s_l_digits) = true := by decide +kernel
abbrev s_l_cell : Stmt := top 71
abbrev N_l_cell : List Str := ["script", "k", "seed", "cell"]
def b_l_cell : Ss :=
  (.cons (.ite (.cmp .Lt (.var 1) (.bi .len (.cons (.var 0) .nil))) (.cons (.ret (.yes (.idx (.var 0) (.var 1))))
    .nil) .nil)
    (.cons (.set 2 (.int 17))
    (.cons (.for_ (.nm 3) (.seq (.var 0)) (.cons (.set 2 (.bin .Mod (.bi .int (.cons (.bin .Add (.bin .Mult (.var 2) (.int 31)) (.bin .Mod (.bi .int (.cons (.var 3) .nil)) (.int 1000003))) .nil)) (.int 1000003)))
    .nil))
    (.cons (.ret (.yes (.bin .Mod (.bi .int (.cons (.bin .Mult (.bin .Mult (.bin .Add (.var 2) (.int 7)) (.bin .Add (.var 1) (.int 3))) (.int 69621)) .nil)) (.int 2147483647))))
    .nil))))
theorem sc_l_cell : FnScope N_l_cell ["script", "k"] (defScope s_l_cell) := ⟨rfl, rfl, rfl, by decide +kernel, rfl, by decide +kernel, by decide +kernel⟩
theorem c_l_cell : chSs N_l_cell (defScope s_l_cell) b_l_cell (defBody s_l_cell) = true := by decide +kernel
abbrev s_l_town : Stmt := top 74
abbrev N_l_town : List Str := ["script", "at", "shared", "shape", "counts", "menu", "customs", "count", "k", "row", "other", "worths", "place", "i", "j", "a", "b", "one", "two"]
def b_l_town : Ss :=
  (.cons (.set 3 (.call "_law_digits" (.cons (.call "_law_cell" (.cons (.var 0) (.cons (.var 1) .nil))) (.cons (.lst (.cons (.int 12) (.cons (.int 2) (.cons (.int 97) (.cons (.int 3) .nil))))) .nil))))
    (.cons (.set 4 (.idx (.lst (.cons (.lst (.cons (.int 2) (.cons (.int 2) .nil))) (.cons (.lst (.cons (.int 2) (.cons (.int 2) (.cons (.int 2) .nil)))) (.cons (.lst (.cons (.int 3) (.cons (.int 2) .nil))) (.cons (.lst (.cons (.int 2) (.cons (.int 3) .nil))) (.cons (.lst (.cons (.int 3) (.cons (.int 3) .nil))) (.cons (.lst (.cons (.int 2) .nil)) (.cons (.lst (.cons (.int 1) (.cons (.int 2) .nil))) (.cons (.lst (.cons (.int 2) (.cons (.int 2) (.cons (.int 2) (.cons (.int 2) .nil))))) (.cons (.lst (.cons (.int 4) (.cons (.int 2) .nil))) (.cons (.lst (.cons (.int 4) (.cons (.int 4) .nil))) (.cons (.lst (.cons (.int 1) (.cons (.int 1) (.cons (.int 2) .nil)))) (.cons (.lst (.cons (.int 2) (.cons (.int 2) (.cons (.int 3) .nil)))) .nil))))))))))))) (.idx (.var 3) (.int 0))))
    (.cons (.set 5 (.lst (.cons (.str "left") (.cons (.str "right") (.cons (.str "mid") (.cons (.str "far") .nil))))))
    (.cons (.set 6 (.lc [("count", 7)] (.lc [("k", 8)] (.idx (.var 5) (.var 8)) (.nm 8) (.rng (.var 7)) .no) (.nm 7) (.seq (.var 4)) .no))
    (.cons (.set 9 (.call "_law_digits" (.cons (.call "_law_cell" (.cons (.var 0) (.cons (.bin .Add (.var 1) (.int 1)) .nil))) (.cons (.bin .Mult (.lst (.cons (.int 21) (.cons (.int 3) .nil))) (.int 48)) .nil))))
    (.cons (.set 10 (.call "_law_digits" (.cons (.call "_law_cell" (.cons (.var 0) (.cons (.bin .Add (.var 1) (.int 2)) .nil))) (.cons (.bin .Mult (.lst (.cons (.int 21) (.cons (.int 4) .nil))) (.int 48)) .nil))))
    (.cons (.set 11 (.lst .nil))
    (.cons (.set 12 (.int 0))
    (.cons (.for_ (.nm 13) (.rng (.bi .len (.cons (.var 4) .nil))) (.cons (.for_ (.nm 14) (.rng2 (.bin .Add (.var 13) (.int 1)) (.bi .len (.cons (.var 4) .nil))) (.cons (.for_ (.nm 15) (.rng (.idx (.var 4) (.var 13))) (.cons (.for_ (.nm 16) (.rng (.idx (.var 4) (.var 14))) (.cons (.set 17 (.idx (.lst (.cons (.bin .Sub (.idx (.var 9) (.bin .Mult (.int 2) (.var 12))) (.int 10)) (.cons (.bin .FloorDiv (.idx (.var 9) (.bin .Mult (.int 2) (.var 12))) (.int 4)) (.cons (.int 0) .nil)))) (.idx (.var 9) (.bin .Add (.bin .Mult (.int 2) (.var 12)) (.int 1)))))
    (.cons (.set 18 (.var 17))
    (.cons (.ite (.ands (.cons (.not_ (.var 2)) (.cons (.cmp .Gt (.idx (.var 10) (.bin .Add (.bin .Mult (.int 2) (.var 12)) (.int 1))) (.int 0)) .nil))) (.cons (.set 18 (.bin .Sub (.idx (.var 10) (.bin .Mult (.int 2) (.var 12))) (.int 10)))
    .nil) .nil)
    (.cons (.ite (.ors (.cons (.cmp .Gt (.idx (.var 3) (.int 3)) (.int 0)) (.cons (.cmp .NotEq (.idx (.var 9) (.bin .Add (.bin .Mult (.int 2) (.var 12)) (.int 1))) (.int 2)) .nil))) (.cons (.app 11 (.lst (.cons (.var 13) (.cons (.var 15) (.cons (.var 14) (.cons (.var 16) (.cons (.var 17) .nil)))))))
    (.cons (.app 11 (.lst (.cons (.var 14) (.cons (.var 16) (.cons (.var 13) (.cons (.var 15) (.cons (.var 18) .nil)))))))
    .nil)) .nil)
    (.cons (.set 12 (.bin .Mod (.bi .int (.cons (.bin .Add (.var 12) (.int 1)) .nil)) (.int 48)))
    .nil))))))
    .nil))
    .nil))
    .nil))
    (.cons (.ret (.yes (.lst (.cons (.var 6) (.cons (.var 11) (.cons (.idx (.lst (.cons (.str "even") (.cons (.str "loss") .nil))) (.idx (.var 3) (.int 1))) .nil))))))
    .nil))))))))))
theorem sc_l_town : FnScope N_l_town ["script", "at", "shared"] (defScope s_l_town) := ⟨rfl, rfl, rfl, by decide +kernel, rfl, by decide +kernel, by decide +kernel⟩
theorem c_l_town : chSs N_l_town (defScope s_l_town) b_l_town (defBody s_l_town) = true := by decide +kernel
abbrev s_law : Stmt := top 81
abbrev N_law : List Str := ["script", "drawn", "people", "slips", "one", "machine", "due", "k"]
def b_law : Ss :=
  (.cons (.set 1 (.call "_law_town" (.cons (.var 0) (.cons (.int 0) (.cons (.bl false) .nil)))))
    (.cons (.set 2 (.call "_law_people" (.cons (.var 1) .nil)))
    (.cons (.for_ (.nm 3) (.seq (.lst (.cons (.idx (.var 1) (.int 2)) (.cons (.idx (.lst (.cons (.str "even") (.cons (.str "loss") .nil))) (.bi .int (.cons (.cmp .Eq (.idx (.var 1) (.int 2)) (.str "even")) .nil))) .nil)))) (.cons (.set 4 (.lst (.cons (.idx (.var 1) (.int 0)) (.cons (.idx (.var 1) (.int 1)) (.cons (.var 3) .nil)))))
    (.cons (.set 5 (.call "town_machine" (.cons (.callk "Town" (.cons (.var 2) (.cons (.idx (.var 1) (.int 0)) (.cons (.idx (.var 1) (.int 1)) .nil))) ["slips"] (.cons (.var 3) .nil)) .nil)))
    (.cons (.set 6 (.call "_law_town_steps" (.cons (.var 4) .nil)))
    (.cons (.ite (.ors (.cons (.cmp .NotEq (.fld (.var 5) "first") (.tup (.cons (.int 1) (.cons (.int 1) .nil)))) (.cons (.cmp .NotEq (.fld (.var 5) "names") (.bi .tuple (.cons (.lc [("k", 7)] (.bin .Add (.str "s") (.bi .str (.cons (.var 7) .nil))) (.nm 7) (.rng (.bi .len (.cons (.call "_law_rows" (.cons (.var 4) .nil)) .nil))) .no) .nil))) .nil))) (.cons (.ret (.yes (.bl false)))
    .nil) .nil)
    (.cons (.ite (.ors (.cons (.not_ (.isi1 (.fld (.var 5) "steps") .tuple)) (.cons (.cmp .NotEq (.fld (.var 5) "steps") (.bi .tuple (.cons (.var 6) .nil))) .nil))) (.cons (.ret (.yes (.bl false)))
    .nil) .nil)
    (.cons (.for_ (.nm 7) (.rng (.bi .len (.cons (.var 6) .nil))) (.cons (.ite (.ors (.cons (.not_ (.call "_law_is_ratio" (.cons (.idx (.idx (.fld (.var 5) "steps") (.var 7)) (.int 2)) (.cons (.idx (.idx (.var 6) (.var 7)) (.int 2)) .nil)))) (.cons (.not_ (.call "_law_whole" (.cons (.idx (.idx (.fld (.var 5) "steps") (.var 7)) (.int 3)) .nil))) .nil))) (.cons (.ret (.yes (.bl false)))
    .nil) .nil)
    .nil))
    .nil)))))))
    (.cons (.ret (.yes (.bl true)))
    .nil))))
theorem sc_law : FnScope N_law ["script"] (defScope s_law) := ⟨rfl, rfl, rfl, by decide +kernel, rfl, by decide +kernel, by decide +kernel⟩
theorem c_law : chSs N_law (defScope s_law) b_law (defBody s_law) = true := by decide +kernel
def gs : List (Str × D) := [("ZERO", .tup [.int (0), .int (1)]), ("MOST_COST", .int (60)), ("DIGITS", .str "0123456789"), ("LETTERS", .str "abcdefghijklmnopqrstuvwxyz"), ("ONE", .tup [.int (1), .int (1)]), ("MOST_WORTH", .int (10)), ("MOST_CUSTOMS", .int (4)), ("MOST_ROWS", .int (16))]
def cs : List (Str × List Str) := [("Machine", ["names", "steps", "first", "leaving"]), ("Town", ["people", "customs", "worths", "slips"])]
def T_0 : Tab := tab0 (2 ^ 200) gs cs true
def F_l_whole : List D → Res D := runFn T_0 1 b_l_whole
abbrev TP_l_whole : Tab := T_0
def T_l_whole : Tab := T_0.add "_law_whole" 1 F_l_whole
def F_l_is_ratio : List D → Res D := runFn T_l_whole 2 b_l_is_ratio
abbrev TP_l_is_ratio : Tab := T_l_whole
def T_l_is_ratio : Tab := T_l_whole.add "_law_is_ratio" 2 F_l_is_ratio
def F_l_rows : List D → Res D := runFn T_l_is_ratio 6 b_l_rows
abbrev TP_l_rows : Tab := T_l_is_ratio
def T_l_rows : Tab := T_l_is_ratio.add "_law_rows" 1 F_l_rows
def F_l_with : List D → Res D := runFn T_l_rows 3 b_l_with
abbrev TP_l_with : Tab := T_l_rows
def T_l_with : Tab := T_l_rows.add "_law_with" 3 F_l_with
def F_l_worth : List D → Res D := runFn T_l_with 5 b_l_worth
abbrev TP_l_worth : Tab := T_l_with
def T_l_worth : Tab := T_l_with.add "_law_worth" 3 F_l_worth
def F_l_worths : List D → Res D := runFn T_l_worth 4 b_l_worths
abbrev TP_l_worths : Tab := T_l_worth
def T_l_worths : Tab := T_l_worth.add "_law_worths" 3 F_l_worths
def F_l_town_steps : List D → Res D := runFn T_l_worths 12 b_l_town_steps
abbrev TP_l_town_steps : Tab := T_l_worths
def T_l_town_steps : Tab := T_l_worths.add "_law_town_steps" 1 F_l_town_steps
def F_leaving_rows : List D → Res D := runFn T_l_town_steps 4 b_leaving_rows
abbrev TP_leaving_rows : Tab := T_l_town_steps
def T_leaving_rows : Tab := T_l_town_steps.add "leaving_rows" 2 F_leaving_rows
def F_reached_from : List D → Res D := runFn T_leaving_rows 7 b_reached_from
abbrev TP_reached_from : Tab := T_leaving_rows
def T_reached_from : Tab := T_leaving_rows.add "reached_from" 3 F_reached_from
def F_check_ways : List D → Res D := runFn T_reached_from 5 b_check_ways
abbrev TP_check_ways : Tab := T_reached_from
def T_check_ways : Tab := T_reached_from.add "check_ways" 2 F_check_ways
def F_compare : List D → Res D := runFn T_check_ways 4 b_compare
abbrev TP_compare : Tab := T_check_ways
def T_compare : Tab := T_check_ways.add "compare" 2 F_compare
def F_lowest : List D → Res D := runFn T_compare 3 b_lowest
abbrev TP_lowest : Tab := T_compare
def T_lowest : Tab := T_compare.add "lowest" 2 F_lowest
def F_plus : List D → Res D := runFn T_lowest 2 b_plus
abbrev TP_plus : Tab := T_lowest
def T_plus : Tab := T_lowest.add "plus" 2 F_plus
def F_times : List D → Res D := runFn T_plus 2 b_times
abbrev TP_times : Tab := T_plus
def T_times : Tab := T_plus.add "times" 2 F_times
def F_raised : List D → Res D := runRec T_times "raised" 2 5 b_raised 6
abbrev TP_raised : Tab := T_times
def T_raised : Tab := T_times.add "raised" 2 F_raised
def F_step_chance : List D → Res D := runFn T_raised 2 b_step_chance
abbrev TP_step_chance : Tab := T_raised
def T_step_chance : Tab := T_raised.add "step_chance" 2 F_step_chance
def F_chance_out : List D → Res D := runFn T_step_chance 5 b_chance_out
abbrev TP_chance_out : Tab := T_step_chance
def T_chance_out : Tab := T_step_chance.add "chance_out" 3 F_chance_out
def F_is_whole : List D → Res D := runFn T_chance_out 1 b_is_whole
abbrev TP_is_whole : Tab := T_chance_out
def T_is_whole : Tab := T_chance_out.add "is_whole" 1 F_is_whole
def F_is_ratio : List D → Res D := runFn T_is_whole 1 b_is_ratio
abbrev TP_is_ratio : Tab := T_is_whole
def T_is_ratio : Tab := T_is_whole.add "is_ratio" 1 F_is_ratio
def F_is_positive : List D → Res D := runFn T_is_ratio 1 b_is_positive
abbrev TP_is_positive : Tab := T_is_ratio
def T_is_positive : Tab := T_is_ratio.add "is_positive" 1 F_is_positive
def F_is_state : List D → Res D := runFn T_is_positive 2 b_is_state
abbrev TP_is_state : Tab := T_is_positive
def T_is_state : Tab := T_is_positive.add "is_state" 2 F_is_state
def F_is_row : List D → Res D := runFn T_is_state 2 b_is_row
abbrev TP_is_row : Tab := T_is_state
def T_is_row : Tab := T_is_state.add "is_row" 2 F_is_row
def F_is_step : List D → Res D := runFn T_is_row 2 b_is_step
abbrev TP_is_step : Tab := T_is_row
def T_is_step : Tab := T_is_row.add "is_step" 2 F_is_step
def F_checked_steps : List D → Res D := runFn T_is_step 3 b_checked_steps
abbrev TP_checked_steps : Tab := T_is_step
def T_checked_steps : Tab := T_is_step.add "checked_steps" 2 F_checked_steps
def F_frozen : List D → Res D := runRec T_checked_steps "frozen" 1 2 b_frozen 6
abbrev TP_frozen : Tab := T_checked_steps
def T_frozen : Tab := T_checked_steps.add "frozen" 1 F_frozen
def F_is_name : List D → Res D := runFn T_frozen 2 b_is_name
abbrev TP_is_name : Tab := T_frozen
def T_is_name : Tab := T_frozen.add "is_name" 1 F_is_name
def F_checked_names : List D → Res D := runFn T_is_name 2 b_checked_names
abbrev TP_checked_names : Tab := T_is_name
def T_checked_names : Tab := T_is_name.add "checked_names" 1 F_checked_names
abbrev TP_Machine : Tab := T_checked_names
def dflt_Machine : List D := [.tup [.int (1), .int (1)]]
def F_Machine : List D → Res D := fun as => runInit T_checked_names "Machine" 5 b_Machine (as ++ dflt_Machine)
def T_Machine : Tab := T_checked_names.add "Machine" 2 F_Machine
def F_number_of : List D → Res D := runFn T_Machine 4 b_number_of
abbrev TP_number_of : Tab := T_Machine
def T_number_of : Tab := T_Machine.add "number_of" 2 F_number_of
def F_worth_of : List D → Res D := runFn T_number_of 9 b_worth_of
abbrev TP_worth_of : Tab := T_number_of
def T_worth_of : Tab := T_number_of.add "worth_of" 3 F_worth_of
def F_with_custom : List D → Res D := runFn T_worth_of 4 b_with_custom
abbrev TP_with_custom : Tab := T_worth_of
def T_with_custom : Tab := T_worth_of.add "with_custom" 3 F_with_custom
def F_worth_row : List D → Res D := runFn T_with_custom 4 b_worth_row
abbrev TP_worth_row : Tab := T_with_custom
def T_worth_row : Tab := T_with_custom.add "worth_row" 3 F_worth_row
def F_best : List D → Res D := runFn T_worth_row 6 b_best
abbrev TP_best : Tab := T_worth_row
def T_best : Tab := T_worth_row.add "best" 3 F_best
def F_even_step : List D → Res D := runFn T_best 5 b_even_step
abbrev TP_even_step : Tab := T_best
def T_even_step : Tab := T_best.add "even_step" 4 F_even_step
def F_loss_step : List D → Res D := runFn T_even_step 5 b_loss_step
abbrev TP_loss_step : Tab := T_even_step
def T_loss_step : Tab := T_even_step.add "loss_step" 4 F_loss_step
def F_town_steps : List D → Res D := runFn T_loss_step 8 b_town_steps
abbrev TP_town_steps : Tab := T_loss_step
def T_town_steps : Tab := T_loss_step.add "town_steps" 2 F_town_steps
def F_row_of : List D → Res D := runFn T_town_steps 5 b_row_of
abbrev TP_row_of : Tab := T_town_steps
def T_row_of : Tab := T_town_steps.add "row_of" 2 F_row_of
def F_row_count : List D → Res D := runFn T_row_of 3 b_row_count
abbrev TP_row_count : Tab := T_row_of
def T_row_count : Tab := T_row_of.add "row_count" 1 F_row_count
def F_every_row : List D → Res D := runFn T_row_count 2 b_every_row
abbrev TP_every_row : Tab := T_row_count
def T_every_row : Tab := T_row_count.add "every_row" 1 F_every_row
def F_town_machine : List D → Res D := runFn T_every_row 5 b_town_machine
abbrev TP_town_machine : Tab := T_every_row
def T_town_machine : Tab := T_every_row.add "town_machine" 1 F_town_machine
def F_is_worth : List D → Res D := runFn T_town_machine 2 b_is_worth
abbrev TP_is_worth : Tab := T_town_machine
def T_is_worth : Tab := T_town_machine.add "is_worth" 2 F_is_worth
def F_checked_worths : List D → Res D := runFn T_is_worth 4 b_checked_worths
abbrev TP_checked_worths : Tab := T_is_worth
def T_checked_worths : Tab := T_is_worth.add "checked_worths" 2 F_checked_worths
def F_are_customs : List D → Res D := runFn T_checked_worths 2 b_are_customs
abbrev TP_are_customs : Tab := T_checked_worths
def T_are_customs : Tab := T_checked_worths.add "are_customs" 1 F_are_customs
def F_checked_customs : List D → Res D := runFn T_are_customs 3 b_checked_customs
abbrev TP_checked_customs : Tab := T_are_customs
def T_checked_customs : Tab := T_are_customs.add "checked_customs" 2 F_checked_customs
def F_checked_people : List D → Res D := runFn T_checked_customs 2 b_checked_people
abbrev TP_checked_people : Tab := T_checked_customs
def T_checked_people : Tab := T_checked_customs.add "checked_people" 1 F_checked_people
abbrev TP_Town : Tab := T_checked_people
def F_Town : List D → Res D := runInit T_checked_people "Town" 6 b_Town
def T_Town : Tab := T_checked_people.addk "Town" 3 ["slips"] F_Town
def F_l_people : List D → Res D := runFn T_Town 1 b_l_people
abbrev TP_l_people : Tab := T_Town
def T_l_people : Tab := T_Town.add "_law_people" 1 F_l_people
def F_l_digits : List D → Res D := runFn T_l_people 8 b_l_digits
abbrev TP_l_digits : Tab := T_l_people
def T_l_digits : Tab := T_l_people.add "_law_digits" 2 F_l_digits
def F_l_cell : List D → Res D := runFn T_l_digits 4 b_l_cell
abbrev TP_l_cell : Tab := T_l_digits
def T_l_cell : Tab := T_l_digits.add "_law_cell" 2 F_l_cell
def F_l_town : List D → Res D := runFn T_l_cell 19 b_l_town
abbrev TP_l_town : Tab := T_l_cell
def T_l_town : Tab := T_l_cell.add "_law_town" 3 F_l_town
def F_law : List D → Res D := runFn T_l_town 8 b_law
abbrev TP_law : Tab := T_l_town
theorem t_l_is_ratio_l_whole : T_l_whole.fn "_law_whole" 1 = some F_l_whole := Tab.add_same
theorem t_l_worths_l_worth : T_l_worth.fn "_law_worth" 3 = some F_l_worth := Tab.add_same
theorem t_l_worths_l_with : T_l_worth.fn "_law_with" 3 = some F_l_with := (Tab.add_ne (by decide +kernel)).trans (Tab.add_same)
theorem t_l_town_steps_l_with : T_l_worths.fn "_law_with" 3 = some F_l_with := (Tab.add_ne (by decide +kernel)).trans ((Tab.add_ne (by decide +kernel)).trans (Tab.add_same))
theorem t_l_town_steps_l_worths : T_l_worths.fn "_law_worths" 3 = some F_l_worths := Tab.add_same
theorem t_l_town_steps_l_rows : T_l_worths.fn "_law_rows" 1 = some F_l_rows := (Tab.add_ne (by decide +kernel)).trans ((Tab.add_ne (by decide +kernel)).trans ((Tab.add_ne (by decide +kernel)).trans (Tab.add_same)))
theorem t_check_ways_reached_from : T_reached_from.fn "reached_from" 3 = some F_reached_from := Tab.add_same
theorem t_plus_lowest : T_lowest.fn "lowest" 2 = some F_lowest := Tab.add_same
theorem t_times_lowest : T_plus.fn "lowest" 2 = some F_lowest := (Tab.add_ne (by decide +kernel)).trans (Tab.add_same)
theorem t_raised_lowest : T_times.fn "lowest" 2 = some F_lowest := (Tab.add_ne (by decide +kernel)).trans ((Tab.add_ne (by decide +kernel)).trans (Tab.add_same))
theorem t_step_chance_times : T_raised.fn "times" 2 = some F_times := (Tab.add_ne (by decide +kernel)).trans (Tab.add_same)
theorem t_step_chance_raised : T_raised.fn "raised" 2 = some F_raised := Tab.add_same
theorem t_chance_out_plus : T_step_chance.fn "plus" 2 = some F_plus := (Tab.add_ne (by decide +kernel)).trans ((Tab.add_ne (by decide +kernel)).trans ((Tab.add_ne (by decide +kernel)).trans (Tab.add_same)))
theorem t_chance_out_step_chance : T_step_chance.fn "step_chance" 2 = some F_step_chance := Tab.add_same
theorem t_is_ratio_is_whole : T_is_whole.fn "is_whole" 1 = some F_is_whole := Tab.add_same
theorem t_is_positive_is_ratio : T_is_ratio.fn "is_ratio" 1 = some F_is_ratio := Tab.add_same
theorem t_is_state_is_whole : T_is_positive.fn "is_whole" 1 = some F_is_whole := (Tab.add_ne (by decide +kernel)).trans ((Tab.add_ne (by decide +kernel)).trans (Tab.add_same))
theorem t_is_step_is_whole : T_is_row.fn "is_whole" 1 = some F_is_whole := (Tab.add_ne (by decide +kernel)).trans ((Tab.add_ne (by decide +kernel)).trans ((Tab.add_ne (by decide +kernel)).trans ((Tab.add_ne (by decide +kernel)).trans (Tab.add_same))))
theorem t_is_step_is_positive : T_is_row.fn "is_positive" 1 = some F_is_positive := (Tab.add_ne (by decide +kernel)).trans ((Tab.add_ne (by decide +kernel)).trans (Tab.add_same))
theorem t_is_step_is_state : T_is_row.fn "is_state" 2 = some F_is_state := (Tab.add_ne (by decide +kernel)).trans (Tab.add_same)
theorem t_is_step_is_row : T_is_row.fn "is_row" 2 = some F_is_row := Tab.add_same
theorem t_checked_steps_is_step : T_is_step.fn "is_step" 2 = some F_is_step := Tab.add_same
theorem t_checked_names_is_name : T_is_name.fn "is_name" 1 = some F_is_name := Tab.add_same
theorem t_Machine_leaving_rows : T_checked_names.fn "leaving_rows" 2 = some F_leaving_rows := (Tab.add_ne (by decide +kernel)).trans ((Tab.add_ne (by decide +kernel)).trans ((Tab.add_ne (by decide +kernel)).trans ((Tab.add_ne (by decide +kernel)).trans ((Tab.add_ne (by decide +kernel)).trans ((Tab.add_ne (by decide +kernel)).trans ((Tab.add_ne (by decide +kernel)).trans ((Tab.add_ne (by decide +kernel)).trans ((Tab.add_ne (by decide +kernel)).trans ((Tab.add_ne (by decide +kernel)).trans ((Tab.add_ne (by decide +kernel)).trans ((Tab.add_ne (by decide +kernel)).trans ((Tab.add_ne (by decide +kernel)).trans ((Tab.add_ne (by decide +kernel)).trans ((Tab.add_ne (by decide +kernel)).trans ((Tab.add_ne (by decide +kernel)).trans ((Tab.add_ne (by decide +kernel)).trans ((Tab.add_ne (by decide +kernel)).trans ((Tab.add_ne (by decide +kernel)).trans (Tab.add_same)))))))))))))))))))
theorem t_Machine_check_ways : T_checked_names.fn "check_ways" 2 = some F_check_ways := (Tab.add_ne (by decide +kernel)).trans ((Tab.add_ne (by decide +kernel)).trans ((Tab.add_ne (by decide +kernel)).trans ((Tab.add_ne (by decide +kernel)).trans ((Tab.add_ne (by decide +kernel)).trans ((Tab.add_ne (by decide +kernel)).trans ((Tab.add_ne (by decide +kernel)).trans ((Tab.add_ne (by decide +kernel)).trans ((Tab.add_ne (by decide +kernel)).trans ((Tab.add_ne (by decide +kernel)).trans ((Tab.add_ne (by decide +kernel)).trans ((Tab.add_ne (by decide +kernel)).trans ((Tab.add_ne (by decide +kernel)).trans ((Tab.add_ne (by decide +kernel)).trans ((Tab.add_ne (by decide +kernel)).trans ((Tab.add_ne (by decide +kernel)).trans ((Tab.add_ne (by decide +kernel)).trans (Tab.add_same)))))))))))))))))
theorem t_Machine_compare : T_checked_names.fn "compare" 2 = some F_compare := (Tab.add_ne (by decide +kernel)).trans ((Tab.add_ne (by decide +kernel)).trans ((Tab.add_ne (by decide +kernel)).trans ((Tab.add_ne (by decide +kernel)).trans ((Tab.add_ne (by decide +kernel)).trans ((Tab.add_ne (by decide +kernel)).trans ((Tab.add_ne (by decide +kernel)).trans ((Tab.add_ne (by decide +kernel)).trans ((Tab.add_ne (by decide +kernel)).trans ((Tab.add_ne (by decide +kernel)).trans ((Tab.add_ne (by decide +kernel)).trans ((Tab.add_ne (by decide +kernel)).trans ((Tab.add_ne (by decide +kernel)).trans ((Tab.add_ne (by decide +kernel)).trans ((Tab.add_ne (by decide +kernel)).trans ((Tab.add_ne (by decide +kernel)).trans (Tab.add_same))))))))))))))))
theorem t_Machine_chance_out : T_checked_names.fn "chance_out" 3 = some F_chance_out := (Tab.add_ne (by decide +kernel)).trans ((Tab.add_ne (by decide +kernel)).trans ((Tab.add_ne (by decide +kernel)).trans ((Tab.add_ne (by decide +kernel)).trans ((Tab.add_ne (by decide +kernel)).trans ((Tab.add_ne (by decide +kernel)).trans ((Tab.add_ne (by decide +kernel)).trans ((Tab.add_ne (by decide +kernel)).trans ((Tab.add_ne (by decide +kernel)).trans ((Tab.add_ne (by decide +kernel)).trans (Tab.add_same))))))))))
theorem t_Machine_is_positive : T_checked_names.fn "is_positive" 1 = some F_is_positive := (Tab.add_ne (by decide +kernel)).trans ((Tab.add_ne (by decide +kernel)).trans ((Tab.add_ne (by decide +kernel)).trans ((Tab.add_ne (by decide +kernel)).trans ((Tab.add_ne (by decide +kernel)).trans ((Tab.add_ne (by decide +kernel)).trans ((Tab.add_ne (by decide +kernel)).trans (Tab.add_same)))))))
theorem t_Machine_checked_steps : T_checked_names.fn "checked_steps" 2 = some F_checked_steps := (Tab.add_ne (by decide +kernel)).trans ((Tab.add_ne (by decide +kernel)).trans ((Tab.add_ne (by decide +kernel)).trans (Tab.add_same)))
theorem t_Machine_frozen : T_checked_names.fn "frozen" 1 = some F_frozen := (Tab.add_ne (by decide +kernel)).trans ((Tab.add_ne (by decide +kernel)).trans (Tab.add_same))
theorem t_Machine_checked_names : T_checked_names.fn "checked_names" 1 = some F_checked_names := Tab.add_same
theorem t_worth_row_worth_of : T_with_custom.fn "worth_of" 3 = some F_worth_of := (Tab.add_ne (by decide +kernel)).trans (Tab.add_same)
theorem t_worth_row_with_custom : T_with_custom.fn "with_custom" 3 = some F_with_custom := Tab.add_same
theorem t_best_worth_row : T_worth_row.fn "worth_row" 3 = some F_worth_row := Tab.add_same
theorem t_even_step_best : T_best.fn "best" 3 = some F_best := Tab.add_same
theorem t_loss_step_worth_row : T_even_step.fn "worth_row" 3 = some F_worth_row := (Tab.add_ne (by decide +kernel)).trans ((Tab.add_ne (by decide +kernel)).trans (Tab.add_same))
theorem t_town_steps_number_of : T_loss_step.fn "number_of" 2 = some F_number_of := (Tab.add_ne (by decide +kernel)).trans ((Tab.add_ne (by decide +kernel)).trans ((Tab.add_ne (by decide +kernel)).trans ((Tab.add_ne (by decide +kernel)).trans ((Tab.add_ne (by decide +kernel)).trans ((Tab.add_ne (by decide +kernel)).trans (Tab.add_same))))))
theorem t_town_steps_even_step : T_loss_step.fn "even_step" 4 = some F_even_step := (Tab.add_ne (by decide +kernel)).trans (Tab.add_same)
theorem t_town_steps_loss_step : T_loss_step.fn "loss_step" 4 = some F_loss_step := Tab.add_same
theorem t_town_steps_with_custom : T_loss_step.fn "with_custom" 3 = some F_with_custom := (Tab.add_ne (by decide +kernel)).trans ((Tab.add_ne (by decide +kernel)).trans ((Tab.add_ne (by decide +kernel)).trans ((Tab.add_ne (by decide +kernel)).trans (Tab.add_same))))
theorem t_every_row_row_of : T_row_count.fn "row_of" 2 = some F_row_of := (Tab.add_ne (by decide +kernel)).trans (Tab.add_same)
theorem t_every_row_row_count : T_row_count.fn "row_count" 1 = some F_row_count := Tab.add_same
theorem t_town_machine_Machine : T_every_row.fn "Machine" 2 = some F_Machine := (Tab.add_ne (by decide +kernel)).trans ((Tab.add_ne (by decide +kernel)).trans ((Tab.add_ne (by decide +kernel)).trans ((Tab.add_ne (by decide +kernel)).trans ((Tab.add_ne (by decide +kernel)).trans ((Tab.add_ne (by decide +kernel)).trans ((Tab.add_ne (by decide +kernel)).trans ((Tab.add_ne (by decide +kernel)).trans ((Tab.add_ne (by decide +kernel)).trans ((Tab.add_ne (by decide +kernel)).trans ((Tab.add_ne (by decide +kernel)).trans (Tab.add_same)))))))))))
theorem t_town_machine_town_steps : T_every_row.fn "town_steps" 2 = some F_town_steps := (Tab.add_ne (by decide +kernel)).trans ((Tab.add_ne (by decide +kernel)).trans ((Tab.add_ne (by decide +kernel)).trans (Tab.add_same)))
theorem t_town_machine_every_row : T_every_row.fn "every_row" 1 = some F_every_row := Tab.add_same
theorem t_is_worth_is_whole : T_town_machine.fn "is_whole" 1 = some F_is_whole := (Tab.add_ne (by decide +kernel)).trans ((Tab.add_ne (by decide +kernel)).trans ((Tab.add_ne (by decide +kernel)).trans ((Tab.add_ne (by decide +kernel)).trans ((Tab.add_ne (by decide +kernel)).trans ((Tab.add_ne (by decide +kernel)).trans ((Tab.add_ne (by decide +kernel)).trans ((Tab.add_ne (by decide +kernel)).trans ((Tab.add_ne (by decide +kernel)).trans ((Tab.add_ne (by decide +kernel)).trans ((Tab.add_ne (by decide +kernel)).trans ((Tab.add_ne (by decide +kernel)).trans ((Tab.add_ne (by decide +kernel)).trans ((Tab.add_ne (by decide +kernel)).trans ((Tab.add_ne (by decide +kernel)).trans ((Tab.add_ne (by decide +kernel)).trans ((Tab.add_ne (by decide +kernel)).trans ((Tab.add_ne (by decide +kernel)).trans ((Tab.add_ne (by decide +kernel)).trans ((Tab.add_ne (by decide +kernel)).trans ((Tab.add_ne (by decide +kernel)).trans ((Tab.add_ne (by decide +kernel)).trans (Tab.add_same))))))))))))))))))))))
theorem t_is_worth_is_state : T_town_machine.fn "is_state" 2 = some F_is_state := (Tab.add_ne (by decide +kernel)).trans ((Tab.add_ne (by decide +kernel)).trans ((Tab.add_ne (by decide +kernel)).trans ((Tab.add_ne (by decide +kernel)).trans ((Tab.add_ne (by decide +kernel)).trans ((Tab.add_ne (by decide +kernel)).trans ((Tab.add_ne (by decide +kernel)).trans ((Tab.add_ne (by decide +kernel)).trans ((Tab.add_ne (by decide +kernel)).trans ((Tab.add_ne (by decide +kernel)).trans ((Tab.add_ne (by decide +kernel)).trans ((Tab.add_ne (by decide +kernel)).trans ((Tab.add_ne (by decide +kernel)).trans ((Tab.add_ne (by decide +kernel)).trans ((Tab.add_ne (by decide +kernel)).trans ((Tab.add_ne (by decide +kernel)).trans ((Tab.add_ne (by decide +kernel)).trans ((Tab.add_ne (by decide +kernel)).trans ((Tab.add_ne (by decide +kernel)).trans (Tab.add_same)))))))))))))))))))
theorem t_is_worth_is_row : T_town_machine.fn "is_row" 2 = some F_is_row := (Tab.add_ne (by decide +kernel)).trans ((Tab.add_ne (by decide +kernel)).trans ((Tab.add_ne (by decide +kernel)).trans ((Tab.add_ne (by decide +kernel)).trans ((Tab.add_ne (by decide +kernel)).trans ((Tab.add_ne (by decide +kernel)).trans ((Tab.add_ne (by decide +kernel)).trans ((Tab.add_ne (by decide +kernel)).trans ((Tab.add_ne (by decide +kernel)).trans ((Tab.add_ne (by decide +kernel)).trans ((Tab.add_ne (by decide +kernel)).trans ((Tab.add_ne (by decide +kernel)).trans ((Tab.add_ne (by decide +kernel)).trans ((Tab.add_ne (by decide +kernel)).trans ((Tab.add_ne (by decide +kernel)).trans ((Tab.add_ne (by decide +kernel)).trans ((Tab.add_ne (by decide +kernel)).trans ((Tab.add_ne (by decide +kernel)).trans (Tab.add_same))))))))))))))))))
theorem t_checked_worths_is_worth : T_is_worth.fn "is_worth" 2 = some F_is_worth := Tab.add_same
theorem t_are_customs_is_name : T_checked_worths.fn "is_name" 1 = some F_is_name := (Tab.add_ne (by decide +kernel)).trans ((Tab.add_ne (by decide +kernel)).trans ((Tab.add_ne (by decide +kernel)).trans ((Tab.add_ne (by decide +kernel)).trans ((Tab.add_ne (by decide +kernel)).trans ((Tab.add_ne (by decide +kernel)).trans ((Tab.add_ne (by decide +kernel)).trans ((Tab.add_ne (by decide +kernel)).trans ((Tab.add_ne (by decide +kernel)).trans ((Tab.add_ne (by decide +kernel)).trans ((Tab.add_ne (by decide +kernel)).trans ((Tab.add_ne (by decide +kernel)).trans ((Tab.add_ne (by decide +kernel)).trans ((Tab.add_ne (by decide +kernel)).trans ((Tab.add_ne (by decide +kernel)).trans ((Tab.add_ne (by decide +kernel)).trans (Tab.add_same))))))))))))))))
theorem t_checked_customs_are_customs : T_are_customs.fn "are_customs" 1 = some F_are_customs := Tab.add_same
theorem t_checked_people_is_name : T_checked_customs.fn "is_name" 1 = some F_is_name := (Tab.add_ne (by decide +kernel)).trans ((Tab.add_ne (by decide +kernel)).trans ((Tab.add_ne (by decide +kernel)).trans ((Tab.add_ne (by decide +kernel)).trans ((Tab.add_ne (by decide +kernel)).trans ((Tab.add_ne (by decide +kernel)).trans ((Tab.add_ne (by decide +kernel)).trans ((Tab.add_ne (by decide +kernel)).trans ((Tab.add_ne (by decide +kernel)).trans ((Tab.add_ne (by decide +kernel)).trans ((Tab.add_ne (by decide +kernel)).trans ((Tab.add_ne (by decide +kernel)).trans ((Tab.add_ne (by decide +kernel)).trans ((Tab.add_ne (by decide +kernel)).trans ((Tab.add_ne (by decide +kernel)).trans ((Tab.add_ne (by decide +kernel)).trans ((Tab.add_ne (by decide +kernel)).trans ((Tab.add_ne (by decide +kernel)).trans (Tab.add_same))))))))))))))))))
theorem t_Town_checked_worths : T_checked_people.fn "checked_worths" 2 = some F_checked_worths := (Tab.add_ne (by decide +kernel)).trans ((Tab.add_ne (by decide +kernel)).trans ((Tab.add_ne (by decide +kernel)).trans (Tab.add_same)))
theorem t_Town_frozen : T_checked_people.fn "frozen" 1 = some F_frozen := (Tab.add_ne (by decide +kernel)).trans ((Tab.add_ne (by decide +kernel)).trans ((Tab.add_ne (by decide +kernel)).trans ((Tab.add_ne (by decide +kernel)).trans ((Tab.add_ne (by decide +kernel)).trans ((Tab.add_ne (by decide +kernel)).trans ((Tab.add_ne (by decide +kernel)).trans ((Tab.add_ne (by decide +kernel)).trans ((Tab.add_ne (by decide +kernel)).trans ((Tab.add_ne (by decide +kernel)).trans ((Tab.add_ne (by decide +kernel)).trans ((Tab.add_ne (by decide +kernel)).trans ((Tab.add_ne (by decide +kernel)).trans ((Tab.add_ne (by decide +kernel)).trans ((Tab.add_ne (by decide +kernel)).trans ((Tab.add_ne (by decide +kernel)).trans ((Tab.add_ne (by decide +kernel)).trans ((Tab.add_ne (by decide +kernel)).trans ((Tab.add_ne (by decide +kernel)).trans ((Tab.add_ne (by decide +kernel)).trans (Tab.add_same))))))))))))))))))))
theorem t_Town_row_count : T_checked_people.fn "row_count" 1 = some F_row_count := (Tab.add_ne (by decide +kernel)).trans ((Tab.add_ne (by decide +kernel)).trans ((Tab.add_ne (by decide +kernel)).trans ((Tab.add_ne (by decide +kernel)).trans ((Tab.add_ne (by decide +kernel)).trans ((Tab.add_ne (by decide +kernel)).trans ((Tab.add_ne (by decide +kernel)).trans (Tab.add_same)))))))
theorem t_Town_checked_customs : T_checked_people.fn "checked_customs" 2 = some F_checked_customs := (Tab.add_ne (by decide +kernel)).trans (Tab.add_same)
theorem t_Town_checked_people : T_checked_people.fn "checked_people" 1 = some F_checked_people := Tab.add_same
theorem t_l_town_l_digits : T_l_cell.fn "_law_digits" 2 = some F_l_digits := (Tab.add_ne (by decide +kernel)).trans (Tab.add_same)
theorem t_l_town_l_cell : T_l_cell.fn "_law_cell" 2 = some F_l_cell := Tab.add_same
theorem t_law_l_whole : T_l_town.fn "_law_whole" 1 = some F_l_whole := (Tab.add_ne (by decide +kernel)).trans ((Tab.add_ne (by decide +kernel)).trans ((Tab.add_ne (by decide +kernel)).trans ((Tab.add_ne (by decide +kernel)).trans (Tab.addk_fn.trans ((Tab.add_ne (by decide +kernel)).trans ((Tab.add_ne (by decide +kernel)).trans ((Tab.add_ne (by decide +kernel)).trans ((Tab.add_ne (by decide +kernel)).trans ((Tab.add_ne (by decide +kernel)).trans ((Tab.add_ne (by decide +kernel)).trans ((Tab.add_ne (by decide +kernel)).trans ((Tab.add_ne (by decide +kernel)).trans ((Tab.add_ne (by decide +kernel)).trans ((Tab.add_ne (by decide +kernel)).trans ((Tab.add_ne (by decide +kernel)).trans ((Tab.add_ne (by decide +kernel)).trans ((Tab.add_ne (by decide +kernel)).trans ((Tab.add_ne (by decide +kernel)).trans ((Tab.add_ne (by decide +kernel)).trans ((Tab.add_ne (by decide +kernel)).trans ((Tab.add_ne (by decide +kernel)).trans ((Tab.add_ne (by decide +kernel)).trans ((Tab.add_ne (by decide +kernel)).trans ((Tab.add_ne (by decide +kernel)).trans ((Tab.add_ne (by decide +kernel)).trans ((Tab.add_ne (by decide +kernel)).trans ((Tab.add_ne (by decide +kernel)).trans ((Tab.add_ne (by decide +kernel)).trans ((Tab.add_ne (by decide +kernel)).trans ((Tab.add_ne (by decide +kernel)).trans ((Tab.add_ne (by decide +kernel)).trans ((Tab.add_ne (by decide +kernel)).trans ((Tab.add_ne (by decide +kernel)).trans ((Tab.add_ne (by decide +kernel)).trans ((Tab.add_ne (by decide +kernel)).trans ((Tab.add_ne (by decide +kernel)).trans ((Tab.add_ne (by decide +kernel)).trans ((Tab.add_ne (by decide +kernel)).trans ((Tab.add_ne (by decide +kernel)).trans ((Tab.add_ne (by decide +kernel)).trans ((Tab.add_ne (by decide +kernel)).trans ((Tab.add_ne (by decide +kernel)).trans ((Tab.add_ne (by decide +kernel)).trans ((Tab.add_ne (by decide +kernel)).trans ((Tab.add_ne (by decide +kernel)).trans ((Tab.add_ne (by decide +kernel)).trans ((Tab.add_ne (by decide +kernel)).trans ((Tab.add_ne (by decide +kernel)).trans (Tab.add_same)))))))))))))))))))))))))))))))))))))))))))))))))
theorem t_law_l_is_ratio : T_l_town.fn "_law_is_ratio" 2 = some F_l_is_ratio := (Tab.add_ne (by decide +kernel)).trans ((Tab.add_ne (by decide +kernel)).trans ((Tab.add_ne (by decide +kernel)).trans ((Tab.add_ne (by decide +kernel)).trans (Tab.addk_fn.trans ((Tab.add_ne (by decide +kernel)).trans ((Tab.add_ne (by decide +kernel)).trans ((Tab.add_ne (by decide +kernel)).trans ((Tab.add_ne (by decide +kernel)).trans ((Tab.add_ne (by decide +kernel)).trans ((Tab.add_ne (by decide +kernel)).trans ((Tab.add_ne (by decide +kernel)).trans ((Tab.add_ne (by decide +kernel)).trans ((Tab.add_ne (by decide +kernel)).trans ((Tab.add_ne (by decide +kernel)).trans ((Tab.add_ne (by decide +kernel)).trans ((Tab.add_ne (by decide +kernel)).trans ((Tab.add_ne (by decide +kernel)).trans ((Tab.add_ne (by decide +kernel)).trans ((Tab.add_ne (by decide +kernel)).trans ((Tab.add_ne (by decide +kernel)).trans ((Tab.add_ne (by decide +kernel)).trans ((Tab.add_ne (by decide +kernel)).trans ((Tab.add_ne (by decide +kernel)).trans ((Tab.add_ne (by decide +kernel)).trans ((Tab.add_ne (by decide +kernel)).trans ((Tab.add_ne (by decide +kernel)).trans ((Tab.add_ne (by decide +kernel)).trans ((Tab.add_ne (by decide +kernel)).trans ((Tab.add_ne (by decide +kernel)).trans ((Tab.add_ne (by decide +kernel)).trans ((Tab.add_ne (by decide +kernel)).trans ((Tab.add_ne (by decide +kernel)).trans ((Tab.add_ne (by decide +kernel)).trans ((Tab.add_ne (by decide +kernel)).trans ((Tab.add_ne (by decide +kernel)).trans ((Tab.add_ne (by decide +kernel)).trans ((Tab.add_ne (by decide +kernel)).trans ((Tab.add_ne (by decide +kernel)).trans ((Tab.add_ne (by decide +kernel)).trans ((Tab.add_ne (by decide +kernel)).trans ((Tab.add_ne (by decide +kernel)).trans ((Tab.add_ne (by decide +kernel)).trans ((Tab.add_ne (by decide +kernel)).trans ((Tab.add_ne (by decide +kernel)).trans ((Tab.add_ne (by decide +kernel)).trans ((Tab.add_ne (by decide +kernel)).trans ((Tab.add_ne (by decide +kernel)).trans (Tab.add_same))))))))))))))))))))))))))))))))))))))))))))))))
theorem t_law_l_rows : T_l_town.fn "_law_rows" 1 = some F_l_rows := (Tab.add_ne (by decide +kernel)).trans ((Tab.add_ne (by decide +kernel)).trans ((Tab.add_ne (by decide +kernel)).trans ((Tab.add_ne (by decide +kernel)).trans (Tab.addk_fn.trans ((Tab.add_ne (by decide +kernel)).trans ((Tab.add_ne (by decide +kernel)).trans ((Tab.add_ne (by decide +kernel)).trans ((Tab.add_ne (by decide +kernel)).trans ((Tab.add_ne (by decide +kernel)).trans ((Tab.add_ne (by decide +kernel)).trans ((Tab.add_ne (by decide +kernel)).trans ((Tab.add_ne (by decide +kernel)).trans ((Tab.add_ne (by decide +kernel)).trans ((Tab.add_ne (by decide +kernel)).trans ((Tab.add_ne (by decide +kernel)).trans ((Tab.add_ne (by decide +kernel)).trans ((Tab.add_ne (by decide +kernel)).trans ((Tab.add_ne (by decide +kernel)).trans ((Tab.add_ne (by decide +kernel)).trans ((Tab.add_ne (by decide +kernel)).trans ((Tab.add_ne (by decide +kernel)).trans ((Tab.add_ne (by decide +kernel)).trans ((Tab.add_ne (by decide +kernel)).trans ((Tab.add_ne (by decide +kernel)).trans ((Tab.add_ne (by decide +kernel)).trans ((Tab.add_ne (by decide +kernel)).trans ((Tab.add_ne (by decide +kernel)).trans ((Tab.add_ne (by decide +kernel)).trans ((Tab.add_ne (by decide +kernel)).trans ((Tab.add_ne (by decide +kernel)).trans ((Tab.add_ne (by decide +kernel)).trans ((Tab.add_ne (by decide +kernel)).trans ((Tab.add_ne (by decide +kernel)).trans ((Tab.add_ne (by decide +kernel)).trans ((Tab.add_ne (by decide +kernel)).trans ((Tab.add_ne (by decide +kernel)).trans ((Tab.add_ne (by decide +kernel)).trans ((Tab.add_ne (by decide +kernel)).trans ((Tab.add_ne (by decide +kernel)).trans ((Tab.add_ne (by decide +kernel)).trans ((Tab.add_ne (by decide +kernel)).trans ((Tab.add_ne (by decide +kernel)).trans ((Tab.add_ne (by decide +kernel)).trans ((Tab.add_ne (by decide +kernel)).trans ((Tab.add_ne (by decide +kernel)).trans ((Tab.add_ne (by decide +kernel)).trans (Tab.add_same)))))))))))))))))))))))))))))))))))))))))))))))
theorem t_law_l_town_steps : T_l_town.fn "_law_town_steps" 1 = some F_l_town_steps := (Tab.add_ne (by decide +kernel)).trans ((Tab.add_ne (by decide +kernel)).trans ((Tab.add_ne (by decide +kernel)).trans ((Tab.add_ne (by decide +kernel)).trans (Tab.addk_fn.trans ((Tab.add_ne (by decide +kernel)).trans ((Tab.add_ne (by decide +kernel)).trans ((Tab.add_ne (by decide +kernel)).trans ((Tab.add_ne (by decide +kernel)).trans ((Tab.add_ne (by decide +kernel)).trans ((Tab.add_ne (by decide +kernel)).trans ((Tab.add_ne (by decide +kernel)).trans ((Tab.add_ne (by decide +kernel)).trans ((Tab.add_ne (by decide +kernel)).trans ((Tab.add_ne (by decide +kernel)).trans ((Tab.add_ne (by decide +kernel)).trans ((Tab.add_ne (by decide +kernel)).trans ((Tab.add_ne (by decide +kernel)).trans ((Tab.add_ne (by decide +kernel)).trans ((Tab.add_ne (by decide +kernel)).trans ((Tab.add_ne (by decide +kernel)).trans ((Tab.add_ne (by decide +kernel)).trans ((Tab.add_ne (by decide +kernel)).trans ((Tab.add_ne (by decide +kernel)).trans ((Tab.add_ne (by decide +kernel)).trans ((Tab.add_ne (by decide +kernel)).trans ((Tab.add_ne (by decide +kernel)).trans ((Tab.add_ne (by decide +kernel)).trans ((Tab.add_ne (by decide +kernel)).trans ((Tab.add_ne (by decide +kernel)).trans ((Tab.add_ne (by decide +kernel)).trans ((Tab.add_ne (by decide +kernel)).trans ((Tab.add_ne (by decide +kernel)).trans ((Tab.add_ne (by decide +kernel)).trans ((Tab.add_ne (by decide +kernel)).trans ((Tab.add_ne (by decide +kernel)).trans ((Tab.add_ne (by decide +kernel)).trans ((Tab.add_ne (by decide +kernel)).trans ((Tab.add_ne (by decide +kernel)).trans ((Tab.add_ne (by decide +kernel)).trans ((Tab.add_ne (by decide +kernel)).trans ((Tab.add_ne (by decide +kernel)).trans ((Tab.add_ne (by decide +kernel)).trans (Tab.add_same)))))))))))))))))))))))))))))))))))))))))))
theorem t_law_town_machine : T_l_town.fn "town_machine" 1 = some F_town_machine := (Tab.add_ne (by decide +kernel)).trans ((Tab.add_ne (by decide +kernel)).trans ((Tab.add_ne (by decide +kernel)).trans ((Tab.add_ne (by decide +kernel)).trans (Tab.addk_fn.trans ((Tab.add_ne (by decide +kernel)).trans ((Tab.add_ne (by decide +kernel)).trans ((Tab.add_ne (by decide +kernel)).trans ((Tab.add_ne (by decide +kernel)).trans ((Tab.add_ne (by decide +kernel)).trans (Tab.add_same))))))))))
theorem t_law_Town : T_l_town.fk "Town" 3 ["slips"] = some F_Town := Tab.add_fk.trans (Tab.add_fk.trans (Tab.add_fk.trans (Tab.add_fk.trans (Tab.addk_same))))
theorem t_law_l_people : T_l_town.fn "_law_people" 1 = some F_l_people := (Tab.add_ne (by decide +kernel)).trans ((Tab.add_ne (by decide +kernel)).trans ((Tab.add_ne (by decide +kernel)).trans (Tab.add_same)))
theorem t_law_l_town : T_l_town.fn "_law_town" 3 = some F_l_town := Tab.add_same
section
variable {P : Program} {w : World} {K : PySem.W.Frag} {mg : Str → Option Value} {base : Heap} {Cl : ClT}
theorem fx_l_whole (h : Facts T_0 P w K mg base Cl 0) (hd : DefAt K mg "_law_whole" s_l_whole) : Facts T_l_whole P w K mg base Cl 1 := h.def_ hd sc_l_whole c_l_whole (fun _ _ _ _ _ _ us hl => match us, hl with | [_], _ => rfl)
theorem fx_l_is_ratio (h : Facts T_l_whole P w K mg base Cl 1) (hd : DefAt K mg "_law_is_ratio" s_l_is_ratio) : Facts T_l_is_ratio P w K mg base Cl 2 := h.def_ hd sc_l_is_ratio c_l_is_ratio (fun _ _ _ _ _ _ us hl => match us, hl with | [_, _], _ => rfl)
theorem fx_l_rows (h : Facts T_l_is_ratio P w K mg base Cl 2) (hd : DefAt K mg "_law_rows" s_l_rows) : Facts T_l_rows P w K mg base Cl 3 := h.def_ hd sc_l_rows c_l_rows (fun _ _ _ _ _ _ us hl => match us, hl with | [_], _ => rfl)
theorem fx_l_with (h : Facts T_l_rows P w K mg base Cl 3) (hd : DefAt K mg "_law_with" s_l_with) : Facts T_l_with P w K mg base Cl 4 := h.def_ hd sc_l_with c_l_with (fun _ _ _ _ _ _ us hl => match us, hl with | [_, _, _], _ => rfl)
theorem fx_l_worth (h : Facts T_l_with P w K mg base Cl 4) (hd : DefAt K mg "_law_worth" s_l_worth) : Facts T_l_worth P w K mg base Cl 5 := h.def_ hd sc_l_worth c_l_worth (fun _ _ _ _ _ _ us hl => match us, hl with | [_, _, _], _ => rfl)
theorem fx_l_worths (h : Facts T_l_worth P w K mg base Cl 5) (hd : DefAt K mg "_law_worths" s_l_worths) : Facts T_l_worths P w K mg base Cl 6 := h.def_ hd sc_l_worths c_l_worths (fun _ _ _ _ _ _ us hl => match us, hl with | [_, _, _], _ => rfl)
theorem fx_l_town_steps (h : Facts T_l_worths P w K mg base Cl 6) (hd : DefAt K mg "_law_town_steps" s_l_town_steps) : Facts T_l_town_steps P w K mg base Cl 7 := h.def_ hd sc_l_town_steps c_l_town_steps (fun _ _ _ _ _ _ us hl => match us, hl with | [_], _ => rfl)
theorem fx_leaving_rows (h : Facts T_l_town_steps P w K mg base Cl 7) (hd : DefAt K mg "leaving_rows" s_leaving_rows) : Facts T_leaving_rows P w K mg base Cl 8 := h.def_ hd sc_leaving_rows c_leaving_rows (fun _ _ _ _ _ _ us hl => match us, hl with | [_, _], _ => rfl)
theorem fx_reached_from (h : Facts T_leaving_rows P w K mg base Cl 8) (hd : DefAt K mg "reached_from" s_reached_from) : Facts T_reached_from P w K mg base Cl 9 := h.def_ hd sc_reached_from c_reached_from (fun _ _ _ _ _ _ us hl => match us, hl with | [_, _, _], _ => rfl)
theorem fx_check_ways (h : Facts T_reached_from P w K mg base Cl 9) (hd : DefAt K mg "check_ways" s_check_ways) : Facts T_check_ways P w K mg base Cl 10 := h.def_ hd sc_check_ways c_check_ways (fun _ _ _ _ _ _ us hl => match us, hl with | [_, _], _ => rfl)
theorem fx_compare (h : Facts T_check_ways P w K mg base Cl 10) (hd : DefAt K mg "compare" s_compare) : Facts T_compare P w K mg base Cl 11 := h.def_ hd sc_compare c_compare (fun _ _ _ _ _ _ us hl => match us, hl with | [_, _], _ => rfl)
theorem fx_lowest (h : Facts T_compare P w K mg base Cl 11) (hd : DefAt K mg "lowest" s_lowest) : Facts T_lowest P w K mg base Cl 12 := h.def_ hd sc_lowest c_lowest (fun _ _ _ _ _ _ us hl => match us, hl with | [_, _], _ => rfl)
theorem fx_plus (h : Facts T_lowest P w K mg base Cl 12) (hd : DefAt K mg "plus" s_plus) : Facts T_plus P w K mg base Cl 13 := h.def_ hd sc_plus c_plus (fun _ _ _ _ _ _ us hl => match us, hl with | [_, _], _ => rfl)
theorem fx_times (h : Facts T_plus P w K mg base Cl 13) (hd : DefAt K mg "times" s_times) : Facts T_times P w K mg base Cl 14 := h.def_ hd sc_times c_times (fun _ _ _ _ _ _ us hl => match us, hl with | [_, _], _ => rfl)
theorem fx_raised (h : Facts T_times P w K mg base Cl 14) (hd : DefAt K mg "raised" s_raised) : Facts T_raised P w K mg base Cl 20 := h.rec_ hd sc_raised c_raised (fun _ _ _ _ _ _ us hl => match us, hl with | [_, _], _ => rfl) 6
theorem fx_step_chance (h : Facts T_raised P w K mg base Cl 20) (hd : DefAt K mg "step_chance" s_step_chance) : Facts T_step_chance P w K mg base Cl 21 := h.def_ hd sc_step_chance c_step_chance (fun _ _ _ _ _ _ us hl => match us, hl with | [_, _], _ => rfl)
theorem fx_chance_out (h : Facts T_step_chance P w K mg base Cl 21) (hd : DefAt K mg "chance_out" s_chance_out) : Facts T_chance_out P w K mg base Cl 22 := h.def_ hd sc_chance_out c_chance_out (fun _ _ _ _ _ _ us hl => match us, hl with | [_, _, _], _ => rfl)
theorem fx_is_whole (h : Facts T_chance_out P w K mg base Cl 22) (hd : DefAt K mg "is_whole" s_is_whole) : Facts T_is_whole P w K mg base Cl 23 := h.def_ hd sc_is_whole c_is_whole (fun _ _ _ _ _ _ us hl => match us, hl with | [_], _ => rfl)
theorem fx_is_ratio (h : Facts T_is_whole P w K mg base Cl 23) (hd : DefAt K mg "is_ratio" s_is_ratio) : Facts T_is_ratio P w K mg base Cl 24 := h.def_ hd sc_is_ratio c_is_ratio (fun _ _ _ _ _ _ us hl => match us, hl with | [_], _ => rfl)
theorem fx_is_positive (h : Facts T_is_ratio P w K mg base Cl 24) (hd : DefAt K mg "is_positive" s_is_positive) : Facts T_is_positive P w K mg base Cl 25 := h.def_ hd sc_is_positive c_is_positive (fun _ _ _ _ _ _ us hl => match us, hl with | [_], _ => rfl)
theorem fx_is_state (h : Facts T_is_positive P w K mg base Cl 25) (hd : DefAt K mg "is_state" s_is_state) : Facts T_is_state P w K mg base Cl 26 := h.def_ hd sc_is_state c_is_state (fun _ _ _ _ _ _ us hl => match us, hl with | [_, _], _ => rfl)
theorem fx_is_row (h : Facts T_is_state P w K mg base Cl 26) (hd : DefAt K mg "is_row" s_is_row) : Facts T_is_row P w K mg base Cl 27 := h.def_ hd sc_is_row c_is_row (fun _ _ _ _ _ _ us hl => match us, hl with | [_, _], _ => rfl)
theorem fx_is_step (h : Facts T_is_row P w K mg base Cl 27) (hd : DefAt K mg "is_step" s_is_step) : Facts T_is_step P w K mg base Cl 28 := h.def_ hd sc_is_step c_is_step (fun _ _ _ _ _ _ us hl => match us, hl with | [_, _], _ => rfl)
theorem fx_checked_steps (h : Facts T_is_step P w K mg base Cl 28) (hd : DefAt K mg "checked_steps" s_checked_steps) : Facts T_checked_steps P w K mg base Cl 29 := h.def_ hd sc_checked_steps c_checked_steps (fun _ _ _ _ _ _ us hl => match us, hl with | [_, _], _ => rfl)
theorem fx_frozen (h : Facts T_checked_steps P w K mg base Cl 29) (hd : DefAt K mg "frozen" s_frozen) : Facts T_frozen P w K mg base Cl 35 := h.rec_ hd sc_frozen c_frozen (fun _ _ _ _ _ _ us hl => match us, hl with | [_], _ => rfl) 6
theorem fx_is_name (h : Facts T_frozen P w K mg base Cl 35) (hd : DefAt K mg "is_name" s_is_name) : Facts T_is_name P w K mg base Cl 36 := h.def_ hd sc_is_name c_is_name (fun _ _ _ _ _ _ us hl => match us, hl with | [_], _ => rfl)
theorem fx_checked_names (h : Facts T_is_name P w K mg base Cl 36) (hd : DefAt K mg "checked_names" s_checked_names) : Facts T_checked_names P w K mg base Cl 37 := h.def_ hd sc_checked_names c_checked_names (fun _ _ _ _ _ _ us hl => match us, hl with | [_], _ => rfl)
theorem fx_Machine {C : Addr} {w0 : V} (h : Facts T_checked_names P w K mg base Cl 37) (hC : Cl "Machine" = some C) (hd : ClassAt K mg "Machine" "Machine.__init__" s_Machine [("first", w0)] C) (hdf : ∀ H : Hp, Reps K Cl H dflt_Machine [w0]) : Facts T_Machine P w K mg base Cl 39 :=
  h.classD (ps := ["names", "steps", "first"]) hC hd (List.cons_ne_nil _ _) hdf sc_Machine c_Machine rfl (fun _ _ _ _ _ _ us mv hl hl2 => match us, mv, hl, hl2 with | [_, _, _], [_], _, _ => by (repeat (first | exact rfl | refine ⟨_, _, _, _, _, _, rfl, rfl, ?_⟩)))
theorem fx_number_of (h : Facts T_Machine P w K mg base Cl 39) (hd : DefAt K mg "number_of" s_number_of) : Facts T_number_of P w K mg base Cl 40 := h.def_ hd sc_number_of c_number_of (fun _ _ _ _ _ _ us hl => match us, hl with | [_, _], _ => rfl)
theorem fx_worth_of (h : Facts T_number_of P w K mg base Cl 40) (hd : DefAt K mg "worth_of" s_worth_of) : Facts T_worth_of P w K mg base Cl 41 := h.def_ hd sc_worth_of c_worth_of (fun _ _ _ _ _ _ us hl => match us, hl with | [_, _, _], _ => rfl)
theorem fx_with_custom (h : Facts T_worth_of P w K mg base Cl 41) (hd : DefAt K mg "with_custom" s_with_custom) : Facts T_with_custom P w K mg base Cl 42 := h.def_ hd sc_with_custom c_with_custom (fun _ _ _ _ _ _ us hl => match us, hl with | [_, _, _], _ => rfl)
theorem fx_worth_row (h : Facts T_with_custom P w K mg base Cl 42) (hd : DefAt K mg "worth_row" s_worth_row) : Facts T_worth_row P w K mg base Cl 43 := h.def_ hd sc_worth_row c_worth_row (fun _ _ _ _ _ _ us hl => match us, hl with | [_, _, _], _ => rfl)
theorem fx_best (h : Facts T_worth_row P w K mg base Cl 43) (hd : DefAt K mg "best" s_best) : Facts T_best P w K mg base Cl 44 := h.def_ hd sc_best c_best (fun _ _ _ _ _ _ us hl => match us, hl with | [_, _, _], _ => rfl)
theorem fx_even_step (h : Facts T_best P w K mg base Cl 44) (hd : DefAt K mg "even_step" s_even_step) : Facts T_even_step P w K mg base Cl 45 := h.def_ hd sc_even_step c_even_step (fun _ _ _ _ _ _ us hl => match us, hl with | [_, _, _, _], _ => rfl)
theorem fx_loss_step (h : Facts T_even_step P w K mg base Cl 45) (hd : DefAt K mg "loss_step" s_loss_step) : Facts T_loss_step P w K mg base Cl 46 := h.def_ hd sc_loss_step c_loss_step (fun _ _ _ _ _ _ us hl => match us, hl with | [_, _, _, _], _ => rfl)
theorem fx_town_steps (h : Facts T_loss_step P w K mg base Cl 46) (hd : DefAt K mg "town_steps" s_town_steps) : Facts T_town_steps P w K mg base Cl 47 := h.def_ hd sc_town_steps c_town_steps (fun _ _ _ _ _ _ us hl => match us, hl with | [_, _], _ => rfl)
theorem fx_row_of (h : Facts T_town_steps P w K mg base Cl 47) (hd : DefAt K mg "row_of" s_row_of) : Facts T_row_of P w K mg base Cl 48 := h.def_ hd sc_row_of c_row_of (fun _ _ _ _ _ _ us hl => match us, hl with | [_, _], _ => rfl)
theorem fx_row_count (h : Facts T_row_of P w K mg base Cl 48) (hd : DefAt K mg "row_count" s_row_count) : Facts T_row_count P w K mg base Cl 49 := h.def_ hd sc_row_count c_row_count (fun _ _ _ _ _ _ us hl => match us, hl with | [_], _ => rfl)
theorem fx_every_row (h : Facts T_row_count P w K mg base Cl 49) (hd : DefAt K mg "every_row" s_every_row) : Facts T_every_row P w K mg base Cl 50 := h.def_ hd sc_every_row c_every_row (fun _ _ _ _ _ _ us hl => match us, hl with | [_], _ => rfl)
theorem fx_town_machine (h : Facts T_every_row P w K mg base Cl 50) (hd : DefAt K mg "town_machine" s_town_machine) : Facts T_town_machine P w K mg base Cl 51 := h.def_ hd sc_town_machine c_town_machine (fun _ _ _ _ _ _ us hl => match us, hl with | [_], _ => rfl)
theorem fx_is_worth (h : Facts T_town_machine P w K mg base Cl 51) (hd : DefAt K mg "is_worth" s_is_worth) : Facts T_is_worth P w K mg base Cl 52 := h.def_ hd sc_is_worth c_is_worth (fun _ _ _ _ _ _ us hl => match us, hl with | [_, _], _ => rfl)
theorem fx_checked_worths (h : Facts T_is_worth P w K mg base Cl 52) (hd : DefAt K mg "checked_worths" s_checked_worths) : Facts T_checked_worths P w K mg base Cl 53 := h.def_ hd sc_checked_worths c_checked_worths (fun _ _ _ _ _ _ us hl => match us, hl with | [_, _], _ => rfl)
theorem fx_are_customs (h : Facts T_checked_worths P w K mg base Cl 53) (hd : DefAt K mg "are_customs" s_are_customs) : Facts T_are_customs P w K mg base Cl 54 := h.def_ hd sc_are_customs c_are_customs (fun _ _ _ _ _ _ us hl => match us, hl with | [_], _ => rfl)
theorem fx_checked_customs (h : Facts T_are_customs P w K mg base Cl 54) (hd : DefAt K mg "checked_customs" s_checked_customs) : Facts T_checked_customs P w K mg base Cl 55 := h.def_ hd sc_checked_customs c_checked_customs (fun _ _ _ _ _ _ us hl => match us, hl with | [_, _], _ => rfl)
theorem fx_checked_people (h : Facts T_checked_customs P w K mg base Cl 55) (hd : DefAt K mg "checked_people" s_checked_people) : Facts T_checked_people P w K mg base Cl 56 := h.def_ hd sc_checked_people c_checked_people (fun _ _ _ _ _ _ us hl => match us, hl with | [_], _ => rfl)
theorem fx_Town {C : Addr} {kws : List (Str × V)} (h : Facts T_checked_people P w K mg base Cl 56) (hC : Cl "Town" = some C) (hd : ClassAt K mg "Town" "Town.__init__" s_Town kws C) : Facts T_Town P w K mg base Cl 58 :=
  h.classK (ps := ["people", "customs", "worths", "slips"]) hC hd sc_Town c_Town rfl (fun _ _ _ _ _ _ us ws hl hl2 => match us, ws, hl, hl2 with | [_, _, _, _], [_], _, _ => rfl)
theorem fx_l_people (h : Facts T_Town P w K mg base Cl 58) (hd : DefAt K mg "_law_people" s_l_people) : Facts T_l_people P w K mg base Cl 59 := h.def_ hd sc_l_people c_l_people (fun _ _ _ _ _ _ us hl => match us, hl with | [_], _ => rfl)
theorem fx_l_digits (h : Facts T_l_people P w K mg base Cl 59) (hd : DefAt K mg "_law_digits" s_l_digits) : Facts T_l_digits P w K mg base Cl 60 := h.def_ hd sc_l_digits c_l_digits (fun _ _ _ _ _ _ us hl => match us, hl with | [_, _], _ => rfl)
theorem fx_l_cell (h : Facts T_l_digits P w K mg base Cl 60) (hd : DefAt K mg "_law_cell" s_l_cell) : Facts T_l_cell P w K mg base Cl 61 := h.def_ hd sc_l_cell c_l_cell (fun _ _ _ _ _ _ us hl => match us, hl with | [_, _], _ => rfl)
theorem fx_l_town (h : Facts T_l_cell P w K mg base Cl 61) (hd : DefAt K mg "_law_town" s_l_town) : Facts T_l_town P w K mg base Cl 62 := h.def_ hd sc_l_town c_l_town (fun _ _ _ _ _ _ us hl => match us, hl with | [_, _, _], _ => rfl)
end
end L83

namespace L83
open PySem L2 Pu
/-! a machine whose steps take parts of a whole number, first 1 -/
theorem m_low : LowOk F_lowest := fun t b hb h => lowest_ok _ rfl hb h
theorem m_plus {r s : Rat} {k l : Nat} (h1 : Bits k r) (h2 : Bits l s) (hk : 0 < k) (hl : 0 < l) (h3 : k + l ≤ 9000) : F_plus [ratD r, ratD s] = .ok (ratD (r + s)) := plus_ok _ t_plus_lowest m_low h1 h2 hk hl h3
theorem m_times {r s : Rat} {k l : Nat} (h1 : Bits k r) (h2 : Bits l s) (hk : 0 < k) (hl : 0 < l) (h3 : k + l ≤ 9000) : F_times [ratD r, ratD s] = .ok (ratD (r * s)) := times_ok _ t_times_lowest m_low h1 h2 hk hl h3
theorem m_compare {r s : Rat} {k l : Nat} (h1 : Bits k r) (h2 : Bits l s) (hk : 0 < k) (hl : 0 < l) (h3 : k + l ≤ 9000) : F_compare [ratD r, ratD s] = .ok (.int (cmpR r s)) := compare_ok _ h1 h2 hk hl h3
theorem m_raised {r : Rat} {k n : Nat} (h : Bits k r) (hk : 0 < k) (hn : n ≤ 10000) (hb : k * (n + 1) ≤ 900000) : F_raised [ratD r, .int (n : Nat)] = .ok (ratD (r ^ n)) := by
  unfold F_raised
  rw [runRec_6]
  exact raised_ok _ h hk hn hb
theorem m_whole (i : Int) : F_is_whole [.int i] = .ok (.bl true) := is_whole_int _
theorem m_ratio (r : Rat) : F_is_ratio [ratD r] = .ok (.bl true) := is_ratio_ok _ t_is_ratio_is_whole m_whole rfl r
theorem m_positive {r : Rat} (h : 0 < r) : F_is_positive [ratD r] = .ok (.bl true) := is_positive_ok _ t_is_positive_is_ratio m_ratio h
theorem m_state {i n : Nat} (h : i < n) : F_is_state [.int (i : Nat), .int (n : Nat)] = .ok (.bl true) := is_state_ok _ t_is_state_is_whole m_whole h
theorem m_row (xs : List D) (h : xs.length = 4) : F_is_row [.tup xs, .int 4] = .ok (.bl true) := is_row_tup (n := 4) _ h
theorem m_step {t : St4} {n : Nat} (a1 : t.s < n) (a2 : t.g < n) (a3 : t.s ≠ t.g) (a4 : 0 < t.f) (a5 : t.c ≤ 60) : F_is_step [stD t, .int (n : Nat)] = .ok (.bl true) :=
  is_step_ok _ t_is_step_is_row t_is_step_is_state t_is_step_is_positive t_is_step_is_whole (isSome_eq (by decide +kernel)) m_row (fun i n h => m_state h) (fun r h => m_positive h) m_whole a1 a2 a3 a4 a5
/-- a machine's steps are right -/
structure StOk (n : Nat) (t : St4) : Prop where
  s : t.s < n
  g : t.g < n
  ne : t.s ≠ t.g
  f : 0 < t.f
  c : t.c ≤ 60
theorem m_steps {ts : List St4} {n : Nat} (hl : ts.length ≤ 1000000) (h : ∀ t ∈ ts, StOk n t) : F_checked_steps [stsD ts, .int (n : Nat)] = .ok (stsD ts) :=
  checked_steps_ok _ t_checked_steps_is_step hl fun t ht => m_step (h t ht).s (h t ht).g (h t ht).ne (h t ht).f (h t ht).c
theorem bits_one : Bits 1 1 := ⟨by decide, by decide⟩
theorem m_out {ts : List St4} {n x : Nat} (h : ∀ t ∈ ts, StOk n t) {M : Nat} {u : St4 → Nat} (hM : 0 < M) (hM2 : M < 2 ^ 100) (hu : ∀ t ∈ ts, t.s = x → Part M (u t) t.f) (hs : partSum u x ts ≤ M) :
    ∃ z : Int, F_chance_out [stsD ts, .int (x : Nat), ratD 1] = .ok (ratD (outSum 1 x ts 0)) ∧ F_compare [ratD (outSum 1 x ts 0), ratD 1] = .ok (.int z) ∧ z ≤ 0 := by
  have tot := outSum_prt (M := M) (u := u) (x := x) ts 0 0 hu prt_zero
  rw [Nat.zero_add] at tot
  have bt := prt_bits tot hM hM2 hs
  refine ⟨cmpR (outSum 1 x ts 0) 1, ?_, m_compare bt bits_one (by decide) (by decide) (by decide), ?_⟩
  · have fb : ∀ t ∈ ts, t.s = x → Bits 100 t.f := fun t ht hx => by
      refine prt_bits (hu t ht hx) hM hM2 (Nat.le_trans ?_ hs)
      obtain ⟨us, vs, rfl⟩ := List.append_of_mem ht
      rw [partSum_app, partSum_cons, if_pos hx]
      omega
    refine chance_out_ok _ t_chance_out_plus t_chance_out_step_chance (isSome_eq (by decide +kernel)) (fun t ht hx => ?_) fun us t vs e hx => ?_
    · have hc := (h t ht).c
      have r1 := m_raised (r := 1) (k := 1) (n := t.c) bits_one (by decide) (by omega) (by omega)
      refine step_chance_ok _ t_step_chance_times t_step_chance_raised r1 ?_
      rw [one_powR]
      exact m_times (fb t ht hx) bits_one (by decide) (by decide) (by decide)
    · have p1 := outSum_prt (M := M) (u := u) (x := x) us 0 0 (fun t' ht' => hu t' (by rw [e]; exact List.mem_append_left _ ht')) prt_zero
      rw [Nat.zero_add] at p1
      have hle : partSum u x us ≤ M := by
        refine Nat.le_trans ?_ hs
        rw [e, partSum_app]
        omega
      rw [one_powR, Rat.mul_one]
      exact m_plus (prt_bits p1 hM hM2 hle) (fb t (by rw [e]; exact List.mem_append_right _ List.mem_cons_self) hx) (by decide) (by decide) (by decide)
  · unfold cmpR
    have := prt_le tot hM hs
    by_cases c : outSum 1 x ts 0 < 1
    · rw [if_pos c]; omega
    · rw [if_neg c, if_neg this]; omega
/-- every state is reached from every other one -/
def Joined (n : Nat) (ts : List St4) : Prop := ∀ x y, x < n → y < n → ∃ k, k ≤ n ∧ Way ts k x y
theorem m_ways {ts : List St4} {n : Nat} (hn : n ≤ 1000000) (h : ∀ t ∈ ts, StOk n t) (hj : Joined n ts) : F_check_ways [stsD ts, .int (n : Nat)] = .ok .non := by
  refine check_ways_ok _ t_check_ways_reached_from hn (fun x hx => reached_from_ok _ hn fun t ht => ⟨(h t ht).s, (h t ht).g⟩) fun x y hx hy => ?_
  obtain ⟨k, hk, w⟩ := hj x y hx hy
  have := relaxN_keep (way_true hx (fun t ht => (h t ht).g) w) (n - k)
  rwa [show k + (n - k) = n by omega] at this
/-- the steps of a right machine with first 1 -/
structure MachOk (n : Nat) (ts : List St4) : Prop where
  small : n ≤ 1000000
  len : ts.length ≤ 1000000
  st : ∀ t ∈ ts, StOk n t
  out : ∀ x, x < n → ∃ (M : Nat) (u : St4 → Nat), 0 < M ∧ M < 2 ^ 100 ∧ (∀ t ∈ ts, t.s = x → Part M (u t) t.f) ∧ partSum u x ts ≤ M
  joined : Joined n ts
theorem m_make {ts : List St4} {names : List D} {names0 steps0 : D} (ok : MachOk names.length ts) (a1 : F_frozen [names0] = .ok (.tup names)) (a2 : F_frozen [steps0] = .ok (stsD ts)) (a3 : F_checked_names [.tup names] = .ok (.tup names)) :
    runInit TP_Machine "Machine" 5 b_Machine [names0, steps0, ratD 1] = .ok (machD names ts 1) := by
  have one : F_compare [ratD 1, ratD 1] = .ok (.int (cmpR 1 1)) := m_compare bits_one bits_one (by decide) (by decide) (by decide)
  have z1 : cmpR 1 1 ≤ 0 := by decide +kernel
  refine machine_ok _ t_Machine_frozen t_Machine_checked_names t_Machine_checked_steps t_Machine_is_positive t_Machine_compare t_Machine_chance_out t_Machine_check_ways t_Machine_leaving_rows (isSome_eq (by decide +kernel)) (by decide +kernel) (by decide +kernel) (by decide +kernel) (by decide +kernel) ok.small a1 a2 a3 (m_steps ok.len ok.st) (m_positive (by decide +kernel)) ⟨_, one, z1⟩ (c := fun x => ratD (outSum 1 x ts 0)) (fun x hx => ?_) (m_ways ok.small ok.st ok.joined) (leaving_rows_ok _ ok.small ok.len)
  obtain ⟨M, u, h1, h2, h3, h4⟩ := ok.out x hx
  obtain ⟨z, q1, q2, q3⟩ := m_out ok.st h1 h2 h3 h4
  exact ⟨z, q1, q2, q3⟩
/-! the law's town: what is drawn -/
structure Wo where
  i : Nat
  a : Nat
  j : Nat
  b : Nat
  w : Int
def cAt (cs : List Nat) (i : Nat) : Nat := cs.getD i 0
def wL (x : Wo) : D := .lst [.int x.i, .int x.a, .int x.j, .int x.b, .int x.w]
def wT (x : Wo) : D := .tup [.int x.i, .int x.a, .int x.j, .int x.b, .int x.w]
def Wo.key (x : Wo) : Nat × Nat × Nat × Nat := (x.i, x.a, x.j, x.b)
def okW (cs : List Nat) (x : Wo) : Prop := x.i < cs.length ∧ x.j < cs.length ∧ x.i ≠ x.j ∧ x.a < cAt cs x.i ∧ x.b < cAt cs x.j ∧ -10 ≤ x.w ∧ x.w ≤ 10
def countsL : List (List Nat) := [[2, 2], [2, 2, 2], [3, 2], [2, 3], [3, 3], [2], [1, 2], [2, 2, 2, 2], [4, 2], [4, 4], [1, 1, 2], [2, 2, 3]]
def intsN (cs : List Nat) : D := .lst (cs.map fun c : Nat => .int (c : Int))
def menu : List D := [.str "left", .str "right", .str "mid", .str "far"]
def custD (cs : List Nat) : D := .lst (cs.map fun c => .lst (menu.take c))
def k4 (i j a b : Nat) : List (Nat × Nat × Nat × Nat) := [(i, a, j, b), (j, b, i, a)]
def k3 (i j a n : Nat) : List (Nat × Nat × Nat × Nat) := (List.range n).flatMap fun b => k4 i j a b
def k2 (cs : List Nat) (i j n : Nat) : List (Nat × Nat × Nat × Nat) := (List.range n).flatMap fun a => k3 i j a (cAt cs j)
def k1 (cs : List Nat) (i n : Nat) : List (Nat × Nat × Nat × Nat) := (List.range n).flatMap fun t => k2 cs i (i + 1 + t) (cAt cs i)
def k0 (cs : List Nat) (n : Nat) : List (Nat × Nat × Nat × Nat) := (List.range n).flatMap fun i => k1 cs i (cs.length - (i + 1))
theorem range_flat {α : Type} {f : Nat → List α} (n : Nat) : (List.range (n + 1)).flatMap f = (List.range n).flatMap f ++ f n := by
  rw [List.range_succ, List.flatMap_append]
  simp
theorem keys_nodup : ∀ cs ∈ countsL, (k0 cs cs.length).Nodup := by decide +kernel
/-- the drawn town -/
structure Town where
  cs : List Nat
  ws : List Wo
  sl : Str
def Town.D (t : Town) : Pu.D := .lst [custD t.cs, .lst (t.ws.map wL), .str t.sl]
structure Town.Ok (t : Town) : Prop where
  cs : t.cs ∈ countsL
  ws : ∀ x ∈ t.ws, okW t.cs x
  nd : (t.ws.map Wo.key).Nodup
  sl : t.sl = "even" ∨ t.sl = "loss"
  len : t.ws.length ≤ 1000

/-! the slots while it is drawn -/
structure En where
  script : D
  at_ : D
  sh : List Int
  cs : List Nat
  x6 : Sl
  x7 : Sl
  x8 : Sl
  rw_ : List Int
  ot : List Int
abbrev En.ro (e : En) (ws : List Wo) (p : Nat) (x13 x14 x15 x16 x17 x18 : Sl) : Ro :=
  [.val e.script, .val e.at_, .val (.bl false), .val (.lst (e.sh.map D.int)), .val (intsN e.cs), .own menu, e.x6, e.x7, e.x8, .val (.lst (e.rw_.map D.int)), .val (.lst (e.ot.map D.int)), .own (ws.map wL), .val (.int (p : Int)), x13, x14, x15, x16, x17, x18]
structure En.Ok (e : En) : Prop where
  cs : e.cs ∈ countsL
  sh : ∃ x, e.sh[3]? = some x
  r : ∀ p, p < 48 → ∃ x y : Int, e.rw_[2 * p]? = some x ∧ e.rw_[2 * p + 1]? = some y ∧ 0 ≤ x ∧ x < 21 ∧ 0 ≤ y ∧ y < 3
  o : ∀ p, p < 48 → ∃ x y : Int, e.ot[2 * p]? = some x ∧ e.ot[2 * p + 1]? = some y ∧ 0 ≤ x ∧ x < 21
def bIn : Ss := (.cons (.set 17 (.idx (.lst (.cons (.bin .Sub (.idx (.var 9) (.bin .Mult (.int 2) (.var 12))) (.int 10)) (.cons (.bin .FloorDiv (.idx (.var 9) (.bin .Mult (.int 2) (.var 12))) (.int 4)) (.cons (.int 0) .nil)))) (.idx (.var 9) (.bin .Add (.bin .Mult (.int 2) (.var 12)) (.int 1)))))
    (.cons (.set 18 (.var 17))
    (.cons (.ite (.ands (.cons (.not_ (.var 2)) (.cons (.cmp .Gt (.idx (.var 10) (.bin .Add (.bin .Mult (.int 2) (.var 12)) (.int 1))) (.int 0)) .nil))) (.cons (.set 18 (.bin .Sub (.idx (.var 10) (.bin .Mult (.int 2) (.var 12))) (.int 10)))
    .nil) .nil)
    (.cons (.ite (.ors (.cons (.cmp .Gt (.idx (.var 3) (.int 3)) (.int 0)) (.cons (.cmp .NotEq (.idx (.var 9) (.bin .Add (.bin .Mult (.int 2) (.var 12)) (.int 1))) (.int 2)) .nil))) (.cons (.app 11 (.lst (.cons (.var 13) (.cons (.var 15) (.cons (.var 14) (.cons (.var 16) (.cons (.var 17) .nil)))))))
    (.cons (.app 11 (.lst (.cons (.var 14) (.cons (.var 16) (.cons (.var 13) (.cons (.var 15) (.cons (.var 18) .nil)))))))
    .nil)) .nil)
    (.cons (.set 12 (.bin .Mod (.bi .int (.cons (.bin .Add (.var 12) (.int 1)) .nil)) (.int 48)))
    .nil)))))
theorem int_at {ns : List Int} {i : Nat} {z : Int} (h : ns[i]? = some z) : (ns.map D.int)[i]? = some (.int z) := by rw [List.getElem?_map, h]; rfl
theorem pick3 {x y : Int} (hy : 0 ≤ y ∧ y < 3) (hx : 0 ≤ x ∧ x < 21) : ∃ o : Int, idxD (.lst [.int (x - 10), .int (x.fdiv 4), .int 0]) (.int y) = some (.int o) ∧ -10 ≤ o ∧ o ≤ 10 := by
  have q : x.fdiv 4 = x / 4 := Int.fdiv_eq_ediv_of_nonneg _ (by decide)
  have h : y = 0 ∨ y = 1 ∨ y = 2 := by omega
  rcases h with rfl | rfl | rfl
  · exact ⟨_, rfl, by omega, by omega⟩
  · exact ⟨_, rfl, by omega, by omega⟩
  · exact ⟨_, rfl, by omega, by omega⟩
theorem in_ok (T : Tab) {e : En} (ok : e.Ok) {ws : List Wo} {p i j a b : Nat} {x17 x18 : Sl} (hp : p < 48) (hl : ws.length ≤ 1000) :
    ∃ ws' p' y17 y18, exs T bIn (e.ro ws p (.val (.int (i : Int))) (.val (.int (j : Int))) (.val (.int (a : Int))) (.val (.int (b : Int))) x17 x18) = .nx (e.ro ws' p' (.val (.int (i : Int))) (.val (.int (j : Int))) (.val (.int (a : Int))) (.val (.int (b : Int))) y17 y18) ∧
      p' < 48 ∧ (ws' = ws ∨ ∃ o t : Int, ws' = ws ++ [⟨i, a, j, b, o⟩, ⟨j, b, i, a, t⟩] ∧ -10 ≤ o ∧ o ≤ 10 ∧ -10 ≤ t ∧ t ≤ 10) := by
  obtain ⟨x, y, r1, r2, hx0, hx1, hy0, hy1⟩ := ok.r p hp
  obtain ⟨u, v, o1, o2, hu0, hu1⟩ := ok.o p hp
  obtain ⟨s, hs⟩ := ok.sh
  have m : mulD (.int 2) (.int (p : Int)) = some (.int (2 * (p : Int))) := mulD_int (by decide) (by omega)
  have c1 : (2 * (p : Int)) = ((2 * p : Nat) : Int) := by omega
  have c2 : (2 * (p : Int)) + 1 = ((2 * p + 1 : Nat) : Int) := by omega
  have i1 : idxD (.lst (e.rw_.map D.int)) (.int (2 * (p : Int))) = some (.int x) := by rw [c1]; exact idxD_lst (int_at r1)
  have i2 : idxD (.lst (e.rw_.map D.int)) (.int (2 * (p : Int) + 1)) = some (.int y) := by rw [c2]; exact idxD_lst (int_at r2)
  have i3 : idxD (.lst (e.ot.map D.int)) (.int (2 * (p : Int))) = some (.int u) := by rw [c1]; exact idxD_lst (int_at o1)
  have i4 : idxD (.lst (e.ot.map D.int)) (.int (2 * (p : Int) + 1)) = some (.int v) := by rw [c2]; exact idxD_lst (int_at o2)
  have i5 : idxD (.lst (e.sh.map D.int)) (.int 3) = some (.int s) := idxD_lst (i := 3) (int_at hs)
  obtain ⟨o, hpick, ho⟩ := pick3 ⟨hy0, hy1⟩ ⟨hx0, hx1⟩
  have fd : fdivD (.int x) (.int 4) = some (.int (x.fdiv 4)) := fdivD_int (by decide) (by decide)
  have md : modD (.int ((p : Int) + 1)) (.int 48) = some (.int (((p + 1) % 48 : Nat) : Int)) := by
    rw [modD_int (by decide)]
    rw [Int.fmod_eq_emod_of_nonneg _ (by decide)]
    rfl
  have hlt : ws.length < 16777216 := by omega
  have hlt2 : ws.length + 1 < 16777216 := by omega
  have wl : ∀ (x1 x2 : Wo), (ws ++ [x1, x2]).map wL = ws.map wL ++ [wL x1, wL x2] := fun _ _ => by rw [List.map_append]; rfl
  by_cases hv : 0 < v
  · by_cases hs' : 0 < s
    · refine ⟨ws ++ [⟨i, a, j, b, o⟩, ⟨j, b, i, a, u - 10⟩], (p + 1) % 48, .val (.int o), .val (.int (u - 10)), ?_, by omega, .inr ⟨o, u - 10, rfl, ho.1, ho.2, by omega, by omega⟩⟩
      simp -implicitDefEqProofs [bIn, m, i1, i2, i3, i4, i5, hpick, fd, md, hv, hs', hlt, hlt2, wL]
    · by_cases hy : y = 2
      · refine ⟨ws, (p + 1) % 48, .val (.int o), .val (.int (u - 10)), ?_, by omega, .inl rfl⟩
        subst hy
        simp -implicitDefEqProofs [bIn, m, i1, i2, i3, i4, i5, hpick, fd, md, hv, hs', hlt, hlt2, wL]
      · refine ⟨ws ++ [⟨i, a, j, b, o⟩, ⟨j, b, i, a, u - 10⟩], (p + 1) % 48, .val (.int o), .val (.int (u - 10)), ?_, by omega, .inr ⟨o, u - 10, rfl, ho.1, ho.2, by omega, by omega⟩⟩
        simp -implicitDefEqProofs [bIn, m, i1, i2, i3, i4, i5, hpick, fd, md, hv, hs', hy, hlt, hlt2, wL]
  · by_cases hs' : 0 < s
    · refine ⟨ws ++ [⟨i, a, j, b, o⟩, ⟨j, b, i, a, o⟩], (p + 1) % 48, .val (.int o), .val (.int o), ?_, by omega, .inr ⟨o, o, rfl, ho.1, ho.2, ho.1, ho.2⟩⟩
      simp -implicitDefEqProofs [bIn, m, i1, i2, i3, i4, i5, hpick, fd, md, hv, hs', hlt, hlt2, wL]
    · by_cases hy : y = 2
      · refine ⟨ws, (p + 1) % 48, .val (.int o), .val (.int o), ?_, by omega, .inl rfl⟩
        subst hy
        simp -implicitDefEqProofs [bIn, m, i1, i2, i3, i4, i5, hpick, fd, md, hv, hs', hlt, hlt2, wL]
      · refine ⟨ws ++ [⟨i, a, j, b, o⟩, ⟨j, b, i, a, o⟩], (p + 1) % 48, .val (.int o), .val (.int o), ?_, by omega, .inr ⟨o, o, rfl, ho.1, ho.2, ho.1, ho.2⟩⟩
        simp -implicitDefEqProofs [bIn, m, i1, i2, i3, i4, i5, hpick, fd, md, hv, hs', hy, hlt, hlt2, wL]
/-! the loops around -/
def Good (cs : List Nat) (ws : List Wo) (pre : List (Nat × Nat × Nat × Nat)) : Prop := (∀ x ∈ ws, okW cs x) ∧ (ws.map Wo.key).Sublist pre
theorem Good.len {cs : List Nat} {ws : List Wo} {pre : List (Nat × Nat × Nat × Nat)} (h : Good cs ws pre) : ws.length ≤ pre.length := by
  have := h.2.length_le
  rwa [List.length_map] at this
theorem flat_mono {α : Type} {f : Nat → List α} {m n : Nat} (h : m ≤ n) : ((List.range m).flatMap f).length ≤ ((List.range n).flatMap f).length := by
  induction n with
  | zero => rw [Nat.le_zero.mp h]; exact Nat.le_refl _
  | succ n ih =>
    by_cases e : m = n + 1
    · subst e; exact Nat.le_refl _
    · have := ih (by omega)
      rw [range_flat, List.length_append]
      omega
theorem klevel {s : Nat} {body : Ro → SR} {cs : List Nat} (S : List Wo → Nat → Ro → Prop) (g : Nat → Nat) (f : Nat → List (Nat × Nat × Nat × Nat)) (n : Nat)
    (hstep : ∀ t, t < n → ∀ ws p ρ pre, S ws p ρ → p < 48 → Good cs ws pre → pre.length + (f t).length ≤ 1000 → ∃ ρ1 ρ2 ws' p', asg (.nm s) (.int (g t : Int)) ρ = some ρ1 ∧ body ρ1 = .nx ρ2 ∧ S ws' p' ρ2 ∧ p' < 48 ∧ Good cs ws' (pre ++ f t))
    {ws : List Wo} {p : Nat} {ρ : Ro} {pre : List (Nat × Nat × Nat × Nat)} (h0 : S ws p ρ) (h1 : p < 48) (h2 : Good cs ws pre) (hb : pre.length + ((List.range n).flatMap f).length ≤ 1000) :
    ∃ ws' p' ρ', forL (.nm s) body ((List.range n).map fun t => .int (g t : Int)) ρ = .nx ρ' ∧ S ws' p' ρ' ∧ p' < 48 ∧ Good cs ws' (pre ++ (List.range n).flatMap f) := by
  obtain ⟨ρ', e, ws', p', q1, q2, q3⟩ := forL_ind (tg := .nm s) (body := body) (ds := (List.range n).map fun t => .int (g t : Int)) (ρ := ρ)
    (fun i ρ => ∃ ws p, S ws p ρ ∧ p < 48 ∧ Good cs ws (pre ++ (List.range i).flatMap f)) ⟨ws, p, h0, h1, by simpa using h2⟩ (fun i d ρ hi ⟨ws, p, a1, a2, a3⟩ => by
      have hin : i < n := by
        have := (List.getElem?_eq_some_iff.mp hi).1
        simpa using this
      have hd : d = .int (g i : Int) := by
        rw [List.getElem?_map, List.getElem?_range hin] at hi
        cases hi
        rfl
      subst hd
      have hlen : (pre ++ (List.range i).flatMap f).length + (f i).length ≤ 1000 := by
        have := flat_mono (f := f) (m := i + 1) (n := n) hin
        rw [range_flat, List.length_append] at this
        rw [List.length_append]
        omega
      obtain ⟨ρ1, ρ2, ws', p', b1, b2, b3, b4, b5⟩ := hstep i hin ws p ρ _ a1 a2 a3 hlen
      exact ⟨ρ1, ρ2, b1, .inl b2, ws', p', b3, b4, by rw [range_flat, ← List.append_assoc]; exact b5⟩)
  exact ⟨ws', p', ρ', e, q1, q2, by simpa using q3⟩
theorem cs_small : ∀ cs ∈ countsL, cs.length ≤ 4 ∧ ∀ c ∈ cs, 1 ≤ c ∧ c ≤ 4 := by decide +kernel
theorem getD_at {cs : List Nat} {j : Nat} (h : j < cs.length) : cs[j]? = some (cAt cs j) := by simp [cAt, h]
theorem cs_get {cs : List Nat} (h : cs ∈ countsL) {j : Nat} (hj : j < cs.length) : 1 ≤ cAt cs j ∧ cAt cs j ≤ 4 := by
  refine (cs_small cs h).2 _ ?_
  exact List.mem_of_getElem? (getD_at hj)
theorem idx_cs {cs : List Nat} {j : Nat} (hj : j < cs.length) : idxD (intsN cs) (.int (j : Int)) = some (.int (cAt cs j : Int)) := by
  refine idxD_lst ?_
  rw [List.getElem?_map, getD_at hj]
  rfl
abbrev sb4 : Ss := .cons (.for_ (.nm 16) (.rng (.idx (.var 4) (.var 14))) bIn) .nil
abbrev sb3 : Ss := .cons (.for_ (.nm 15) (.rng (.idx (.var 4) (.var 13))) sb4) .nil
abbrev sb2 : Ss := .cons (.for_ (.nm 14) (.rng2 (.bin .Add (.var 13) (.int 1)) (.bi .len (.cons (.var 4) .nil))) sb3) .nil
section
variable (T : Tab) {e : En} (ok : e.Ok)
include ok
theorem l4 {i j a n : Nat} (hi : i < e.cs.length) (hj : j < e.cs.length) (hij : i ≠ j) (ha : a < cAt e.cs i) (hn : n ≤ cAt e.cs j) {ws : List Wo} {p : Nat} {x16 x17 x18 : Sl} {pre : List (Nat × Nat × Nat × Nat)} (h1 : p < 48) (h2 : Good e.cs ws pre) (hb : pre.length + (k3 i j a n).length ≤ 1000) :
    ∃ ws' p' y16 y17 y18, forL (.nm 16) (exs T bIn) (nats n) (e.ro ws p (.val (.int (i : Int))) (.val (.int (j : Int))) (.val (.int (a : Int))) x16 x17 x18) = .nx (e.ro ws' p' (.val (.int (i : Int))) (.val (.int (j : Int))) (.val (.int (a : Int))) y16 y17 y18) ∧ p' < 48 ∧ Good e.cs ws' (pre ++ k3 i j a n) := by
  obtain ⟨ws', p', ρ', e1, ⟨y16, y17, y18, e2⟩, e3, e4⟩ := klevel (s := 16) (body := exs T bIn) (cs := e.cs) (fun ws p ρ => ∃ y16 y17 y18, ρ = e.ro ws p (.val (.int (i : Int))) (.val (.int (j : Int))) (.val (.int (a : Int))) y16 y17 y18) (fun t => t) (fun b => k4 i j a b) n
    (fun t ht ws p ρ pre ⟨y16, y17, y18, e2⟩ hp hg hl => by
      subst e2
      have hlw := hg.len
      obtain ⟨ws', p', z17, z18, f1, f2, f3⟩ := in_ok T ok (ws := ws) (p := p) (i := i) (j := j) (a := a) (b := t) (x17 := y17) (x18 := y18) hp (by omega)
      refine ⟨_, _, ws', p', rfl, f1, ⟨_, _, _, rfl⟩, f2, ?_⟩
      rcases f3 with rfl | ⟨o, u, rfl, o1, o2, u1, u2⟩
      · exact ⟨hg.1, hg.2.trans (List.sublist_append_left _ _)⟩
      · refine ⟨fun x hx => ?_, ?_⟩
        · rcases List.mem_append.mp hx with hx | hx
          · exact hg.1 x hx
          · simp only [List.mem_cons, List.not_mem_nil, or_false] at hx
            rcases hx with rfl | rfl
            · exact ⟨hi, hj, hij, ha, Nat.lt_of_lt_of_le ht hn, o1, o2⟩
            · exact ⟨hj, hi, fun z => hij z.symm, Nat.lt_of_lt_of_le ht hn, ha, u1, u2⟩
        · rw [List.map_append]
          exact List.Sublist.append hg.2 (List.Sublist.refl _)) ⟨x16, x17, x18, rfl⟩ h1 h2 hb
  subst e2
  exact ⟨ws', p', y16, y17, y18, e1, e3, e4⟩
theorem l3 {i j n : Nat} (hi : i < e.cs.length) (hj : j < e.cs.length) (hij : i ≠ j) (hn : n ≤ cAt e.cs i) {ws : List Wo} {p : Nat} {x15 x16 x17 x18 : Sl} {pre : List (Nat × Nat × Nat × Nat)} (h1 : p < 48) (h2 : Good e.cs ws pre) (hb : pre.length + (k2 e.cs i j n).length ≤ 1000) :
    ∃ ws' p' y15 y16 y17 y18, forL (.nm 15) (exs T sb4) (nats n) (e.ro ws p (.val (.int (i : Int))) (.val (.int (j : Int))) x15 x16 x17 x18) = .nx (e.ro ws' p' (.val (.int (i : Int))) (.val (.int (j : Int))) y15 y16 y17 y18) ∧ p' < 48 ∧ Good e.cs ws' (pre ++ k2 e.cs i j n) := by
  obtain ⟨ws', p', ρ', e1, ⟨y15, y16, y17, y18, e2⟩, e3, e4⟩ := klevel (s := 15) (body := exs T sb4) (cs := e.cs) (fun ws p ρ => ∃ y15 y16 y17 y18, ρ = e.ro ws p (.val (.int (i : Int))) (.val (.int (j : Int))) y15 y16 y17 y18) (fun t => t) (fun a => k3 i j a (cAt e.cs j)) n
    (fun t ht ws p ρ pre ⟨y15, y16, y17, y18, e2⟩ hp hg hl => by
      subst e2
      obtain ⟨ws', p', z16, z17, z18, f1, f2, f3⟩ := l4 T ok (i := i) (j := j) (a := t) (n := cAt e.cs j) hi hj hij (Nat.lt_of_lt_of_le ht hn) (Nat.le_refl _) (x16 := y16) (x17 := y17) (x18 := y18) hp hg hl
      have hc := cs_get ok.cs hj
      have hr := rngR1_nat (n := cAt e.cs j) (by omega)
      refine ⟨_, _, ws', p', rfl, ?_, ⟨.val (.int (t : Int)), z16, z17, z18, rfl⟩, f2, f3⟩
      simp -implicitDefEqProofs [sb4, idx_cs hj, hr, f1]) ⟨x15, x16, x17, x18, rfl⟩ h1 h2 hb
  subst e2
  exact ⟨ws', p', y15, y16, y17, y18, e1, e3, e4⟩
theorem l2 {i n : Nat} (hi : i < e.cs.length) (hn : n ≤ e.cs.length - (i + 1)) {ws : List Wo} {p : Nat} {x14 x15 x16 x17 x18 : Sl} {pre : List (Nat × Nat × Nat × Nat)} (h1 : p < 48) (h2 : Good e.cs ws pre) (hb : pre.length + (k1 e.cs i n).length ≤ 1000) :
    ∃ ws' p' y14 y15 y16 y17 y18, forL (.nm 14) (exs T sb3) ((List.range n).map fun t => .int ((i + 1 + t : Nat) : Int)) (e.ro ws p (.val (.int (i : Int))) x14 x15 x16 x17 x18) = .nx (e.ro ws' p' (.val (.int (i : Int))) y14 y15 y16 y17 y18) ∧ p' < 48 ∧ Good e.cs ws' (pre ++ k1 e.cs i n) := by
  obtain ⟨ws', p', ρ', e1, ⟨y14, y15, y16, y17, y18, e2⟩, e3, e4⟩ := klevel (s := 14) (body := exs T sb3) (cs := e.cs) (fun ws p ρ => ∃ y14 y15 y16 y17 y18, ρ = e.ro ws p (.val (.int (i : Int))) y14 y15 y16 y17 y18) (fun t => i + 1 + t) (fun t => k2 e.cs i (i + 1 + t) (cAt e.cs i)) n
    (fun t ht ws p ρ pre ⟨y14, y15, y16, y17, y18, e2⟩ hp hg hl => by
      subst e2
      obtain ⟨ws', p', z15, z16, z17, z18, f1, f2, f3⟩ := l3 T ok (i := i) (j := i + 1 + t) (n := cAt e.cs i) hi (by omega) (by omega) (Nat.le_refl _) (x15 := y15) (x16 := y16) (x17 := y17) (x18 := y18) hp hg hl
      have hc := cs_get ok.cs hi
      have hr := rngR1_nat (n := cAt e.cs i) (by omega)
      refine ⟨_, _, ws', p', rfl, ?_, ⟨.val (.int ((i + 1 + t : Nat) : Int)), z15, z16, z17, z18, rfl⟩, f2, f3⟩
      simp -implicitDefEqProofs only [sb3, pvi, Pu.pv, List.append_nil, exs_for, pubs_nil, atFor_eq, evi_rng, ev_idxB, ev_varB, getB_s, getB_0, op2_ok, idx_cs hi, ofO_some, hr, forS_ok, set_s, set_0, f1, thenR_nx, exs_nil]) ⟨x14, x15, x16, x17, x18, rfl⟩ h1 h2 hb
  subst e2
  exact ⟨ws', p', y14, y15, y16, y17, y18, e1, e3, e4⟩
theorem l1 {ws : List Wo} {p : Nat} {x13 x14 x15 x16 x17 x18 : Sl} {pre : List (Nat × Nat × Nat × Nat)} (h1 : p < 48) (h2 : Good e.cs ws pre) (hb : pre.length + (k0 e.cs e.cs.length).length ≤ 1000) :
    ∃ ws' p' y13 y14 y15 y16 y17 y18, forL (.nm 13) (exs T sb2) (nats e.cs.length) (e.ro ws p x13 x14 x15 x16 x17 x18) = .nx (e.ro ws' p' y13 y14 y15 y16 y17 y18) ∧ p' < 48 ∧ Good e.cs ws' (pre ++ k0 e.cs e.cs.length) := by
  obtain ⟨ws', p', ρ', e1, ⟨y13, y14, y15, y16, y17, y18, e2⟩, e3, e4⟩ := klevel (s := 13) (body := exs T sb2) (cs := e.cs) (fun ws p ρ => ∃ y13 y14 y15 y16 y17 y18, ρ = e.ro ws p y13 y14 y15 y16 y17 y18) (fun t => t) (fun i => k1 e.cs i (e.cs.length - (i + 1))) e.cs.length
    (fun t ht ws p ρ pre ⟨y13, y14, y15, y16, y17, y18, e2⟩ hp hg hl => by
      subst e2
      obtain ⟨ws', p', z14, z15, z16, z17, z18, f1, f2, f3⟩ := l2 T ok (i := t) (n := e.cs.length - (t + 1)) ht (Nat.le_refl _) (x14 := y14) (x15 := y15) (x16 := y16) (x17 := y17) (x18 := y18) hp hg hl
      have hc := (cs_small e.cs ok.cs).1
      have hr := rngR2_nat (m := t + 1) (n := e.cs.length) (by omega) (by omega)
      have hcast : ((t + 1 : Nat) : Int) = (t : Int) + 1 := rfl
      rw [hcast] at hr
      refine ⟨_, _, ws', p', rfl, ?_, ⟨.val (.int (t : Int)), z14, z15, z16, z17, z18, rfl⟩, f2, f3⟩
      have hlen : lenD (intsN e.cs) = some (.int (e.cs.length : Int)) := by unfold intsN; rw [lenD_lst, List.length_map]
      simp -implicitDefEqProofs only [sb2, pvi, Pu.pv, pvs, List.append_nil, exs_for, pubs_nil, atFor_eq, evi_rng2, ev_binB, ev_intB, ev_biB, evsB_cons, evsB_nil, consR_ok, biR_ok, bi_len, hlen, binD_add, addD_int, ev_varB, getB_s, getB_0, op2_ok, ofO_some, hr, forS_ok, set_s, set_0, f1, thenR_nx, exs_nil]) ⟨x13, x14, x15, x16, x17, x18, rfl⟩ h1 h2 hb
  subst e2
  exact ⟨ws', p', y13, y14, y15, y16, y17, y18, e1, e3, e4⟩
end
/-! the whole of the drawn town -/
theorem menu_nats {c : Nat} (h : c ≤ 4) : (List.range c).map (fun k => menu.getD k .non) = menu.take c := by
  have : c = 0 ∨ c = 1 ∨ c = 2 ∨ c = 3 ∨ c = 4 := by omega
  rcases this with rfl | rfl | rfl | rfl | rfl <;> rfl
theorem menu_at {k : Nat} (h : k < 4) : menu[k]? = some (menu.getD k .non) := by
  have : k = 0 ∨ k = 1 ∨ k = 2 ∨ k = 3 := by omega
  rcases this with rfl | rfl | rfl | rfl <;> rfl
def pickM : D → D
  | .int k => menu.getD k.toNat .non
  | _ => .non
def cutM : D → D
  | .int k => .lst (menu.take k.toNat)
  | _ => .non
theorem cust_in (T : Tab) {ρ : Ro} {c : Nat} (hc : c ≤ 4) (h5 : ∀ x, getB (ρ.set 8 x) 5 = .ok (.lst menu)) (h8 : ∀ x, getB (ρ.set 8 (.val x)) 8 = .ok x) (h7 : getB ρ 7 = .ok (.int (c : Int))) (hw : ρ.set 8 .no = ρ) :
    ev T (.lc [("k", 8)] (.idx (.var 5) (.var 8)) (.nm 8) (.rng (.var 7)) .no) .val ρ = .ok (.lst (menu.take c)) := by
  have hr := rngR1_nat (n := c) (by omega)
  have hl : lcL (asg (.nm 8)) (evc T .no) (ev T (.idx (.var 5) (.var 8)) .val) ρ (nats c) = .ok (menu.take c) := by
    rw [lcL_map (h := pickM) fun d hd => ?_]
    · rw [← menu_nats hc]
      unfold nats
      rw [List.map_map]
      congr 1
    · obtain ⟨i, hi⟩ := List.mem_iff_getElem?.mp hd
      obtain ⟨hi', rfl⟩ := nats_at hi
      refine ⟨_, rfl, evc_no, ?_⟩
      simp -implicitDefEqProofs [h5, h8, idxD_lst (menu_at (k := i) (by omega)), pickM]
  simp -implicitDefEqProofs only [ev_lc, List.map_cons, List.map_nil, wipeR, hw, evi_rng, ev_varB, h7, hr]
  exact lcR_ok hl
theorem cust_out (T : Tab) {ρ : Ro} {cs : List Nat} (hcs : ∀ c ∈ cs, c ≤ 4) (h5 : ∀ x y, getB ((ρ.set 7 x).set 8 y) 5 = .ok (.lst menu)) (h8 : ∀ x y, getB ((ρ.set 7 x).set 8 (.val y)) 8 = .ok y) (h7 : ∀ x, getB (ρ.set 7 (.val x)) 7 = .ok x) (hw : ∀ x, (ρ.set 7 x).set 8 .no = ρ.set 7 x) :
    lcL (asg (.nm 7)) (evc T .no) (ev T (.lc [("k", 8)] (.idx (.var 5) (.var 8)) (.nm 8) (.rng (.var 7)) .no) .val) ρ (cs.map fun c : Nat => .int (c : Int)) = .ok (cs.map fun c => .lst (menu.take c)) := by
  rw [lcL_map (h := cutM) fun d hd => ?_]
  · rw [List.map_map]
    congr 1
  · obtain ⟨c, hc, rfl⟩ := List.mem_map.mp hd
    refine ⟨_, rfl, evc_no, ?_⟩
    exact cust_in T (hcs c hc) (h5 _) (h8 _) (h7 _) (hw _)
theorem mul_sz (y : Int) : ∃ sz : List Int, mulD (.lst [.int 21, .int y]) (.int 48) = some (.lst (sz.map D.int)) ∧ sz.length = 96 ∧ (∀ s ∈ sz, s = 21 ∨ s = y) ∧ ∀ p, p < 48 → sz[2 * p]? = some 21 ∧ sz[2 * p + 1]? = some y := by
  refine ⟨(List.replicate 48 [21, y]).flatten, ?_, rfl, fun s hs => ?_, fun p hp => ?_⟩
  · show (if -(2 ^ 63) ≤ (48 : Int) ∧ (48 : Int) < 2 ^ 63 ∧ [D.int 21, D.int y].length * (48 : Int).toNat ≤ sizeLine then some (D.lst (List.replicate (48 : Int).toNat [D.int 21, D.int y]).flatten) else none) = _
    rw [if_pos ⟨by decide, by decide, small_eq (show 2 * 48 ≤ 16777216 by decide)⟩]
    rfl
  · rw [List.mem_flatten] at hs
    obtain ⟨l, hl, hs⟩ := hs
    rw [List.eq_of_mem_replicate hl] at hs
    simpa using hs
  · have : ∀ n p, p < n → ((List.replicate n [21, y]).flatten)[2 * p]? = some 21 ∧ ((List.replicate n [21, y]).flatten)[2 * p + 1]? = some y := by
      intro n
      induction n with
      | zero => intro p h; omega
      | succ n ih =>
        intro p h
        cases p with
        | zero => exact ⟨rfl, rfl⟩
        | succ p =>
          obtain ⟨a, b⟩ := ih p (by omega)
          exact ⟨a, b⟩
    exact this 48 p hp
theorem below_at {ds ss : List Int} (h : Below ds ss) {i : Nat} {s : Int} (hs : ss[i]? = some s) : ∃ d, ds[i]? = some d ∧ 0 ≤ d ∧ d < s := by
  have hi : i < ds.length := by
    rw [h.1]
    exact (List.getElem?_eq_some_iff.mp hs).1
  exact ⟨ds[i], List.getElem?_eq_getElem hi, h.2 i _ s (List.getElem?_eq_getElem hi) hs⟩
theorem e_cell (ns : List Int) (k : Nat) (hk : k < 2 ^ 32) : ∃ c : Int, F_l_cell [.frl (ns.map D.int), .int (k : Int)] = .ok (.int c) := cell_ok _ ns k hk
theorem e_digits (c : Int) (ss : List Int) (hl : ss.length ≤ 100000) (hs : ∀ s ∈ ss, 0 < s ∧ s < 2 ^ 60) : ∃ ds : List Int, F_l_digits [.int c, .lst (ss.map D.int)] = .ok (.lst (ds.map D.int)) ∧ Below ds ss := digits_ok _ c ss hl hs
theorem counts_at {d : Int} (h0 : 0 ≤ d) (h1 : d < 12) : ∃ cs ∈ countsL, idxD (.lst [.lst [.int 2, .int 2], .lst [.int 2, .int 2, .int 2], .lst [.int 3, .int 2], .lst [.int 2, .int 3], .lst [.int 3, .int 3], .lst [.int 2], .lst [.int 1, .int 2], .lst [.int 2, .int 2, .int 2, .int 2], .lst [.int 4, .int 2], .lst [.int 4, .int 4], .lst [.int 1, .int 1, .int 2], .lst [.int 2, .int 2, .int 3]]) (.int d) = some (intsN cs) := by
  have h : d = 0 ∨ d = 1 ∨ d = 2 ∨ d = 3 ∨ d = 4 ∨ d = 5 ∨ d = 6 ∨ d = 7 ∨ d = 8 ∨ d = 9 ∨ d = 10 ∨ d = 11 := by omega
  rcases h with rfl | rfl | rfl | rfl | rfl | rfl | rfl | rfl | rfl | rfl | rfl | rfl
  · exact ⟨[2, 2], by decide, rfl⟩
  · exact ⟨[2, 2, 2], by decide, rfl⟩
  · exact ⟨[3, 2], by decide, rfl⟩
  · exact ⟨[2, 3], by decide, rfl⟩
  · exact ⟨[3, 3], by decide, rfl⟩
  · exact ⟨[2], by decide, rfl⟩
  · exact ⟨[1, 2], by decide, rfl⟩
  · exact ⟨[2, 2, 2, 2], by decide, rfl⟩
  · exact ⟨[4, 2], by decide, rfl⟩
  · exact ⟨[4, 4], by decide, rfl⟩
  · exact ⟨[1, 1, 2], by decide, rfl⟩
  · exact ⟨[2, 2, 3], by decide, rfl⟩
theorem slips_at {d : Int} (h0 : 0 ≤ d) (h1 : d < 2) : ∃ sl : Str, (sl = "even" ∨ sl = "loss") ∧ idxD (.lst [.str "even", .str "loss"]) (.int d) = some (.str sl) := by
  have h : d = 0 ∨ d = 1 := by omega
  rcases h with rfl | rfl
  · exact ⟨"even", .inl rfl, rfl⟩
  · exact ⟨"loss", .inr rfl, rfl⟩
theorem k0_len : ∀ cs ∈ countsL, (k0 cs cs.length).length ≤ 900 := by decide +kernel
theorem town_ok (ns : List Int) : ∃ t : Town, t.Ok ∧ F_l_town [.frl (ns.map D.int), .int 0, .bl false] = .ok t.D := by
  obtain ⟨c0, hc0⟩ := e_cell ns 0 (by decide)
  obtain ⟨c1, hc1⟩ := e_cell ns 1 (by decide)
  obtain ⟨c2, hc2⟩ := e_cell ns 2 (by decide)
  obtain ⟨sh, hsh, bsh⟩ := e_digits c0 [12, 2, 97, 3] (by decide) (by decide)
  obtain ⟨sz, m1, l1', p1, q1⟩ := mul_sz 3
  obtain ⟨sz2, m2, l2', p2, q2⟩ := mul_sz 4
  obtain ⟨rw_, hrw, brw⟩ := e_digits c1 sz (by omega) (fun s hs => by rcases p1 s hs with rfl | rfl <;> decide)
  obtain ⟨ot, hot, bot⟩ := e_digits c2 sz2 (by omega) (fun s hs => by rcases p2 s hs with rfl | rfl <;> decide)
  obtain ⟨s0, e0, a0, b0⟩ := below_at bsh (i := 0) rfl
  obtain ⟨s1, e1, a1, b1⟩ := below_at bsh (i := 1) rfl
  obtain ⟨s3, e3, a3, b3⟩ := below_at bsh (i := 3) rfl
  obtain ⟨cs, hcs, hix⟩ := counts_at a0 b0
  obtain ⟨sl, hsl, hslx⟩ := slips_at a1 b1
  have i0 : idxD (.lst (sh.map D.int)) (.int 0) = some (.int s0) := idxD_lst (i := 0) (int_at e0)
  have i1 : idxD (.lst (sh.map D.int)) (.int 1) = some (.int s1) := idxD_lst (i := 1) (int_at e1)
  have ok : En.Ok ⟨.frl (ns.map D.int), .int 0, sh, cs, .own (cs.map fun c => .lst (menu.take c)), .no, .no, rw_, ot⟩ := ⟨hcs, ⟨s3, e3⟩, fun p hp => by
    obtain ⟨x, ex, x0, x1⟩ := below_at brw (q1 p hp).1
    obtain ⟨y, ey, y0, y1⟩ := below_at brw (q1 p hp).2
    exact ⟨x, y, ex, ey, x0, x1, y0, y1⟩, fun p hp => by
    obtain ⟨x, ex, x0, x1⟩ := below_at bot (q2 p hp).1
    obtain ⟨y, ey, y0, y1⟩ := below_at bot (q2 p hp).2
    exact ⟨x, y, ex, ey, x0, x1⟩⟩
  obtain ⟨ws, p, y13, y14, y15, y16, y17, y18, hfor, hp, hg⟩ := l1 TP_l_town ok (ws := []) (p := 0) (x13 := .no) (x14 := .no) (x15 := .no) (x16 := .no) (x17 := .no) (x18 := .no) (pre := []) (by decide) ⟨fun x h => by simp at h, List.Sublist.refl _⟩ (by
    have := k0_len cs hcs
    simp only [List.length_nil]
    omega)
  have hlen : lenD (intsN cs) = some (.int (cs.length : Int)) := by unfold intsN; rw [lenD_lst, List.length_map]
  have hr := rngR1_nat (n := cs.length) (by have := (cs_small cs hcs).1; omega)
  have hc := cust_out TP_l_town (ρ := [.val (.frl (ns.map D.int)), .val (.int 0), .val (.bl false), .val (.lst (sh.map D.int)), .val (intsN cs), .own menu, .no, .no, .no, .no, .no, .no, .no, .no, .no, .no, .no, .no, .no]) (cs := cs) (fun c h => ((cs_small cs hcs).2 c h).2) (fun _ _ => rfl) (fun _ _ => rfl) (fun _ => rfl) (fun _ => rfl)
  have hit : itR itemsR (.ok (intsN cs)) = .ok (cs.map fun c : Nat => .int (c : Int)) := rfl
  refine ⟨⟨cs, ws, sl⟩, ⟨hcs, hg.1, hg.2.nodup (by simpa using keys_nodup cs hcs), hsl, by
    have h1 := hg.len
    have h2 := k0_len cs hcs
    rw [List.nil_append] at h1
    show ws.length ≤ 1000
    dsimp only at h1
    omega⟩, ?_⟩
  unfold F_l_town runFn
  simp only [List.map_cons, List.map_nil] at hsh
  have hcast1 : ((1 : Nat) : Int) = 1 := rfl
  have hcast2 : ((2 : Nat) : Int) = 2 := rfl
  have hcast0 : ((0 : Nat) : Int) = 0 := rfl
  rw [hcast0] at hc0
  rw [hcast1] at hc1
  rw [hcast2] at hc2
  have hcl := lcR_ok hc
  unfold menu at hcl
  simp -implicitDefEqProofs [En.ro, sb2, sb3, sb4, bIn, menu] at hfor
  simp -implicitDefEqProofs [b_l_town, t_l_town_l_cell, t_l_town_l_digits, hc0, hc1, hc2, hsh, i0, i1, hix, hit, m1, m2, hrw, hot, hcl, hlen, hr, hfor, hslx, Town.D, custD, menu]
/-! the rows of a town -/
def rowD (r : List Nat) : D := .tup (r.map fun k : Nat => .int (k : Int))
def stepR (R : List (List Nat)) (c : Nat) : List (List Nat) := R.flatMap fun r => (List.range c).map fun k => r ++ [k]
def rowsOf (cs : List Nat) : List (List Nat) := cs.foldl stepR [[]]
abbrev bApp : Ss := .cons (.app 3 (.bin .Add (.var 4) (.tup (.cons (.var 5) .nil)))) .nil
abbrev bRow : Ss := .cons (.for_ (.nm 5) (.rng (.bi .len (.cons (.var 2) .nil))) bApp) .nil
abbrev bCus : Ss := .cons (.set 3 (.lst .nil)) (.cons (.for_ (.nm 4) (.seq (.var 1)) bRow) (.cons (.set 1 (.bi .list (.cons (.var 3) .nil))) .nil))
theorem rowD_snoc (r : List Nat) (k : Nat) : rowD (r ++ [k]) = .tup (r.map (fun k : Nat => D.int (k : Int)) ++ [.int (k : Int)]) := by
  unfold rowD
  rw [List.map_append]
  rfl
theorem r_in (T : Tab) {d x1 : Sl} {cu : D} {r : List Nat} {c : Nat} {G : List D} {x5 : Sl} (hr : r.length ≤ 1000) (hG : G.length + c ≤ 10000) :
    ∃ y5, forL (.nm 5) (exs T bApp) (nats c) [d, x1, .val cu, .own G, .val (rowD r), x5] = .nx [d, x1, .val cu, .own (G ++ (List.range c).map fun k => rowD (r ++ [k])), .val (rowD r), y5] := by
  obtain ⟨ρ', e, hh⟩ := forL_ind (tg := .nm 5) (body := exs T bApp) (ds := nats c) (ρ := [d, x1, .val cu, .own G, .val (rowD r), x5])
    (fun i ρ => i ≤ c → ∃ y5, ρ = [d, x1, .val cu, .own (G ++ (List.range i).map fun k => rowD (r ++ [k])), .val (rowD r), y5]) (fun _ => ⟨x5, by simp⟩) (fun i dd ρ hi h => by
      obtain ⟨hi', rfl⟩ := nats_at hi
      obtain ⟨y5, rfl⟩ := h (by omega)
      refine ⟨_, _, rfl, .inl ?_, fun _ => ⟨.val (.int (i : Int)), rfl⟩⟩
      have hl : (G ++ (List.range i).map fun k => rowD (r ++ [k])).length < 16777216 := by
        rw [List.length_append, List.length_map, List.length_range]
        omega
      have ha : addD (rowD r) (.tup [.int (i : Int)]) = some (rowD (r ++ [i])) := by
        rw [rowD_snoc]
        exact addD_tup (by rw [List.length_map]; simp only [List.length_singleton]; omega)
      rw [List.range_succ, List.map_append, ← List.append_assoc]
      generalize (G ++ (List.range i).map fun k => rowD (r ++ [k])) = G' at hl ⊢
      simp -implicitDefEqProofs [ha, hl])
  obtain ⟨y5, e2⟩ := hh (by rw [nats_len]; exact Nat.le_refl _)
  rw [nats_len] at e2
  exact ⟨y5, by rw [e, e2]⟩
theorem r_mid (T : Tab) {d x1 : Sl} {c : Nat} {R : List (List Nat)} {x4 x5 : Sl} (hc : c ≤ 4) (hr : ∀ r ∈ R, r.length ≤ 1000) (hR : R.length * c ≤ 5000) :
    ∃ y4 y5, forL (.nm 4) (exs T bRow) (R.map rowD) [d, x1, .val (.lst (menu.take c)), .own [], x4, x5] = .nx [d, x1, .val (.lst (menu.take c)), .own ((stepR R c).map rowD), y4, y5] := by
  have hlen : lenD (.lst (menu.take c)) = some (.int (c : Int)) := by
    rw [lenD_lst, List.length_take]
    have : min c menu.length = c := Nat.min_eq_left hc
    rw [this]
  have hrg := rngR1_nat (n := c) (by omega)
  obtain ⟨ρ', e, hh⟩ := forL_ind (tg := .nm 4) (body := exs T bRow) (ds := R.map rowD) (ρ := [d, x1, .val (.lst (menu.take c)), .own [], x4, x5])
    (fun i ρ => ∃ y4 y5, ρ = [d, x1, .val (.lst (menu.take c)), .own ((stepR (R.take i) c).map rowD), y4, y5]) ⟨x4, x5, by simp [stepR]⟩ (fun i dd ρ hi ⟨y4, y5, e⟩ => by
      subst e
      rw [List.getElem?_map] at hi
      cases hri : R[i]? with
      | none => rw [hri] at hi; cases hi
      | some r =>
        rw [hri] at hi
        cases hi
        have hlen2 : ((stepR (R.take i) c).map rowD).length + c ≤ 10000 := by
          have h1 : (stepR (R.take i) c).length = (R.take i).length * c := by
            unfold stepR
            generalize R.take i = L
            induction L with
            | nil => simp
            | cons a L ih => rw [List.flatMap_cons, List.length_append, ih, List.length_map, List.length_range, List.length_cons, Nat.add_mul, Nat.one_mul, Nat.add_comm]
          have h2 : (R.take i).length ≤ R.length := by rw [List.length_take]; omega
          have h3 := Nat.mul_le_mul_right c h2
          rw [List.length_map, h1]
          omega
        obtain ⟨z5, hin⟩ := r_in T (d := d) (x1 := x1) (cu := .lst (menu.take c)) (r := r) (c := c) (G := (stepR (R.take i) c).map rowD) (x5 := y5) (hr r (List.mem_of_getElem? hri)) hlen2
        have hst : (stepR (R.take (i + 1)) c).map rowD = (stepR (R.take i) c).map rowD ++ (List.range c).map fun k => rowD (r ++ [k]) := by
          rw [take_succ hri]
          unfold stepR
          rw [List.flatMap_append, List.map_append]
          simp
        refine ⟨_, _, rfl, .inl ?_, .val (rowD r), z5, rfl⟩
        rw [hst]
        generalize (stepR (R.take i) c).map rowD = G' at hin ⊢
        generalize (List.range c).map (fun k => rowD (r ++ [k])) = G2 at hin ⊢
        simp -implicitDefEqProofs only [bRow, pvi, pvs, Pu.pv, List.append_nil, exs_for, pubs_nil, atFor_eq, evi_rng, ev_biB, evsB_cons, evsB_nil, ev_varB, getB_s, getB_0, consR_ok, biR_ok, bi_len, hlen, ofO_some, hrg, forS_ok, set_s, set_0, hin, thenR_nx, exs_nil])
  obtain ⟨y4, y5, e2⟩ := hh
  rw [List.length_map, List.take_length] at e2
  exact ⟨y4, y5, by rw [e, e2]⟩
theorem rows_small : ∀ cs ∈ countsL, ∀ i, i < 5 → (rowsOf (cs.take i)).length ≤ 100 ∧ ∀ r ∈ rowsOf (cs.take i), r.length ≤ 100 := by decide +kernel
theorem rowsOf_snoc (cs : List Nat) (c : Nat) : rowsOf (cs ++ [c]) = stepR (rowsOf cs) c := by
  unfold rowsOf
  rw [List.foldl_append]
  rfl
theorem e_rows {cs : List Nat} (hcs : cs ∈ countsL) (W s : D) : F_l_rows [.lst [custD cs, W, s]] = .ok (.lst ((rowsOf cs).map rowD)) := by
  have loop : ∀ T : Tab, ∃ y2 y3 y4 y5, forL (.nm 2) (exs T bCus) (cs.map fun c => .lst (menu.take c)) [.val (.lst [custD cs, W, s]), .own [.tup []], .no, .no, .no, .no] = .nx [.val (.lst [custD cs, W, s]), .own ((rowsOf cs).map rowD), y2, y3, y4, y5] := fun T => by
    obtain ⟨ρ', e, hh⟩ := forL_ind (tg := .nm 2) (body := exs T bCus) (ds := cs.map fun c => D.lst (menu.take c)) (ρ := [.val (.lst [custD cs, W, s]), .own [.tup []], .no, .no, .no, .no])
      (fun i ρ => ∃ y2 y3 y4 y5, ρ = [.val (.lst [custD cs, W, s]), .own ((rowsOf (cs.take i)).map rowD), y2, y3, y4, y5]) ⟨_, _, _, _, rfl⟩ (fun i dd ρ hi ⟨y2, y3, y4, y5, e⟩ => by
        subst e
        rw [List.getElem?_map] at hi
        cases hci : cs[i]? with
        | none => rw [hci] at hi; cases hi
        | some c =>
          rw [hci] at hi
          cases hi
          have hi5 : i < 5 := by
            have h1 := (List.getElem?_eq_some_iff.mp hci).1
            have h2 := (cs_small cs hcs).1
            omega
          obtain ⟨b1, b2⟩ := rows_small cs hcs i hi5
          have hc4 := ((cs_small cs hcs).2 c (List.mem_of_getElem? hci)).2
          have hmul : (rowsOf (cs.take i)).length * c ≤ 100 * 4 := Nat.mul_le_mul b1 hc4
          obtain ⟨z4, z5, hmid⟩ := r_mid T (d := .val (.lst [custD cs, W, s])) (x1 := .val (.lst ((rowsOf (cs.take i)).map rowD))) (c := c) (R := rowsOf (cs.take i)) (x4 := y4) (x5 := y5) hc4 (fun r hr => by have := b2 r hr; omega) (by omega)
          rw [take_succ hci, rowsOf_snoc]
          refine ⟨_, _, rfl, .inl ?_, .val (.lst (menu.take c)), .own ((stepR (rowsOf (cs.take i)) c).map rowD), z4, z5, rfl⟩
          generalize (stepR (rowsOf (cs.take i)) c).map rowD = G2 at hmid ⊢
          generalize (rowsOf (cs.take i)).map rowD = G1 at hmid ⊢
          simp -implicitDefEqProofs [hmid])
    obtain ⟨y2, y3, y4, y5, e2⟩ := hh
    rw [List.length_map, List.take_length] at e2
    exact ⟨y2, y3, y4, y5, by rw [e, e2]⟩
  obtain ⟨y2, y3, y4, y5, hl⟩ := loop TP_l_rows
  have hix : idxD (.lst [custD cs, W, s]) (.int 0) = some (custD cs) := rfl
  have hit : itR itemsR (.ok (custD cs)) = .ok (cs.map fun c => .lst (menu.take c)) := rfl
  unfold F_l_rows runFn
  simp -implicitDefEqProofs [b_l_rows, hix, hit, hl]
/-! the town that the program makes -/
def names4 : List D := [.str "ann", .str "bob", .str "cid", .str "dee"]
def peoT (n : Nat) : D := .tup (names4.take n)
def custT (cs : List Nat) : D := .tup (cs.map fun c => .tup (menu.take c))
def prodN (cs : List Nat) : Nat := cs.foldl (· * ·) 1
theorem k_people : ∀ n, n < 5 → n ≠ 0 → isOk (F_checked_people [peoT n]) (peoT n) = true := by decide +kernel
theorem k_customs : ∀ cs ∈ countsL, isOk (F_checked_customs [custT cs, .int (cs.length : Int)]) (custT cs) = true := by decide +kernel
theorem k_count : ∀ cs ∈ countsL, isOk (F_row_count [custT cs]) (.int (prodN cs : Int)) = true ∧ prodN cs ≤ 16 := by decide +kernel
def l_peo (n : Nat) : D := .lst (names4.take n)
theorem k_lpeople : ∀ cs ∈ countsL, isOk (F_l_people [.lst [custD cs, .non, .non]]) (l_peo cs.length) = true := by decide +kernel
theorem e_frozen {d : D} (h : flatTo d 5 = true) : F_frozen [d] = .ok (frz d) := frozen_ok _ 5 d h
theorem e_is_whole (i : Int) : F_is_whole [.int i] = .ok (.bl true) := rfl
theorem e_is_state (i n : Int) : F_is_state [.int i, .int n] = .ok (.bl (decide (0 ≤ i) && decide (i < n))) := by
  unfold F_is_state runFn
  simp -implicitDefEqProofs [b_is_state, t_is_state_is_whole, e_is_whole]
theorem e_is_row {a b c d e : D} : F_is_row [.tup [a, b, c, d, e], .int 5] = .ok (.bl true) := by
  unfold F_is_row runFn
  simp -implicitDefEqProofs [b_is_row, tyR_ok (F := isTys [.list, .tuple]) (d := .tup [a, b, c, d, e]) (p := true) rfl]
theorem g_worth : TP_is_worth.gl "MOST_WORTH" = some (.int 10) := isSome_eq (by decide +kernel)
theorem menu_len {c : Nat} (h : c ≤ 4) : lenD (.tup (menu.take c)) = some (.int (c : Int)) := by
  rw [lenD_tup, List.length_take]
  rw [show min c menu.length = c from Nat.min_eq_left h]
theorem idx_cust {cs : List Nat} {i : Nat} (h : i < cs.length) : idxD (custT cs) (.int (i : Int)) = some (.tup (menu.take (cAt cs i))) := by
  refine idxD_tup ?_
  rw [List.getElem?_map, getD_at h]
  rfl
theorem len_cust (cs : List Nat) : lenD (custT cs) = some (.int (cs.length : Int)) := by
  unfold custT
  rw [lenD_tup, List.length_map]
theorem e_is_worth {cs : List Nat} (hcs : cs ∈ countsL) {x : Wo} (ok : okW cs x) : F_is_worth [wT x, custT cs] = .ok (.bl true) := by
  obtain ⟨h1, h2, h3, h4, h5, h6, h7⟩ := ok
  have c1 : (x.i : Int) < (cs.length : Int) := by omega
  have c2 : (x.j : Int) < (cs.length : Int) := by omega
  have c3 : ¬ (x.i : Int) = (x.j : Int) := by omega
  have c4 : (x.a : Int) < (cAt cs x.i : Int) := by omega
  have c5 : (x.b : Int) < (cAt cs x.j : Int) := by omega
  have q0 : idxD (wT x) (.int 0) = some (.int x.i) := rfl
  have q1 : idxD (wT x) (.int 1) = some (.int x.a) := rfl
  have q2 : idxD (wT x) (.int 2) = some (.int x.j) := rfl
  have q3 : idxD (wT x) (.int 3) = some (.int x.b) := rfl
  have q4 : idxD (wT x) (.int 4) = some (.int x.w) := rfl
  have hrow : F_is_row [wT x, .int 5] = .ok (.bl true) := e_is_row
  have m1 := menu_len (cs_get hcs h1).2
  have m2 := menu_len (cs_get hcs h2).2
  unfold F_is_worth runFn
  simp -implicitDefEqProofs [b_is_worth, t_is_worth_is_row, t_is_worth_is_state, t_is_worth_is_whole, hrow, q0, q1, q2, q3, q4, e_is_state, e_is_whole, idx_cust h1, idx_cust h2, len_cust, m1, m2, g_worth, c1, c2, c3, c4, c5, h6, h7]
def keyT (x : Wo) : D := .tup [.int x.i, .int x.a, .int x.j, .int x.b]
theorem fit_key (x : Wo) (n : Nat) : fitD (keyT x) (n + 2) = true := by simp only [keyT, fitD, fitDs, Bool.and_self]
theorem key_ne {x y : Wo} (h : x.key ≠ y.key) : eqvD (keyT x) (keyT y) = false := by
  cases e : eqvD (keyT x) (keyT y) with
  | false => rfl
  | true =>
    refine absurd ?_ h
    simp only [keyT, eqvD, eqvDs, Bool.and_eq_true, beq_iff_eq, Int.ofNat_inj] at e
    obtain ⟨e1, e2, e3, e4, _⟩ := e
    unfold Wo.key
    have e1' : x.i = y.i := by omega
    have e2' : x.a = y.a := by omega
    have e3' : x.j = y.j := by omega
    have e4' : x.b = y.b := by omega
    rw [e1', e2', e3', e4']
theorem e_checked_worths {cs : List Nat} (hcs : cs ∈ countsL) {ws : List Wo} (ok : ∀ x ∈ ws, okW cs x) (nd : (ws.map Wo.key).Nodup) (hl : ws.length ≤ 1000) : F_checked_worths [.tup (ws.map wT), custT cs] = .ok (.tup (ws.map wT)) := by
  have hlen : lenD (.tup (ws.map wT)) = some (.int (ws.length : Int)) := by rw [lenD_tup, List.length_map]
  have hr := rngR1_nat (n := ws.length) (by omega)
  have loop : ∃ y3, forL (.nm 3) (exs TP_checked_worths (.cons (.ite (.ors (.cons (.not_ (.call "is_worth" (.cons (.idx (.var 0) (.var 3)) (.cons (.var 1) .nil)))) (.cons (.cmp .In (.slc (.idx (.var 0) (.var 3)) .no (.yes (.int 4))) (.var 2)) .nil))) (.cons .bad .nil) .nil)
    (.cons (.app 2 (.slc (.idx (.var 0) (.var 3)) .no (.yes (.int 4)))) .nil))) (nats ws.length) [.val (.tup (ws.map wT)), .val (custT cs), .own [], .no] = .nx [.val (.tup (ws.map wT)), .val (custT cs), .own (ws.map keyT), y3] := by
    obtain ⟨ρ', e, y3, e2⟩ := forL_ind (tg := .nm 3) (body := exs TP_checked_worths (.cons (.ite (.ors (.cons (.not_ (.call "is_worth" (.cons (.idx (.var 0) (.var 3)) (.cons (.var 1) .nil)))) (.cons (.cmp .In (.slc (.idx (.var 0) (.var 3)) .no (.yes (.int 4))) (.var 2)) .nil))) (.cons .bad .nil) .nil)
    (.cons (.app 2 (.slc (.idx (.var 0) (.var 3)) .no (.yes (.int 4)))) .nil))) (ds := nats ws.length) (ρ := [.val (.tup (ws.map wT)), .val (custT cs), .own [], .no])
      (fun i ρ => ∃ y3, ρ = [.val (.tup (ws.map wT)), .val (custT cs), .own ((ws.take i).map keyT), y3]) ⟨_, rfl⟩ (fun i dd ρ hi ⟨y3, e⟩ => by
        subst e
        obtain ⟨hi', rfl⟩ := nats_at hi
        obtain ⟨x, hx⟩ : ∃ x, ws[i]? = some x := ⟨_, List.getElem?_eq_getElem hi'⟩
        have hix : idxD (.tup (ws.map wT)) (.int (i : Int)) = some (wT x) := idxD_tup (by rw [List.getElem?_map, hx]; rfl)
        have hw := e_is_worth hcs (ok x (List.mem_of_getElem? hx))
        have hs : slcD (wT x) none (some 4) = some (keyT x) := rfl
        have hin : inD (keyT x) (.lst ((ws.take i).map keyT)) = some (.bl false) := by
          unfold inD
          have hm : memD (keyT x) (.lst ((ws.take i).map keyT)) = some (((ws.take i).map keyT).any fun y => eqvD y (keyT x)) := memD_fit (fit_key x 62) (fitDs_mem.mpr fun d hd => by obtain ⟨y, _, rfl⟩ := List.mem_map.mp hd; exact fit_key y 61)
          have hany : (((ws.take i).map keyT).any fun y => eqvD y (keyT x)) = false := ?hany
          rw [hm, hany]
          rfl
          rw [List.any_eq_false]
          intro d hd
          obtain ⟨y, hy, rfl⟩ := List.mem_map.mp hd
          rw [key_ne]
          · exact Bool.false_ne_true
          · intro hk
            obtain ⟨j, hj⟩ := List.mem_iff_getElem?.mp hy
            have hj1 : j < i := by
              have := (List.getElem?_eq_some_iff.mp hj).1
              rw [List.length_take] at this
              omega
            have hj2 : ws[j]? = some y := by rw [List.getElem?_take_of_lt hj1] at hj; exact hj
            have a1 : (ws.map Wo.key)[j]? = some y.key := by rw [List.getElem?_map, hj2]; rfl
            have a2 : (ws.map Wo.key)[i]? = some x.key := by rw [List.getElem?_map, hx]; rfl
            have hjl : j < (ws.map Wo.key).length := (List.getElem?_eq_some_iff.mp a1).1
            have hil : i < (ws.map Wo.key).length := (List.getElem?_eq_some_iff.mp a2).1
            have hji : j = i := (List.getElem?_inj hjl nd).mp (by rw [a1, a2, hk])
            omega
        have hll : ((ws.take i).map keyT).length < 16777216 := by
          rw [List.length_map, List.length_take]
          omega
        rw [take_succ hx, List.map_append]
        refine ⟨_, _, rfl, .inl ?_, .val (.int (i : Int)), rfl⟩
        generalize (ws.take i).map keyT = G at hin hll ⊢
        simp -implicitDefEqProofs [t_checked_worths_is_worth, hix, hw, hs, hin, hll])
    rw [nats_len, List.take_length] at e2
    exact ⟨y3, by rw [e, e2]⟩
  obtain ⟨y3, hloop⟩ := loop
  unfold F_checked_worths runFn
  simp -implicitDefEqProofs [b_checked_worths, hlen, hr, hloop]
theorem frz_worths (ws : List Wo) : frz (.lst (ws.map wL)) = .tup (ws.map wT) := by
  simp only [frz, frzs_map, List.map_map]
  rfl
theorem flat_worths (ws : List Wo) : flatTo (.lst (ws.map wL)) 5 = true := by
  simp only [flatTo]
  rw [flatsTo_mem]
  intro d hd
  obtain ⟨x, _, rfl⟩ := List.mem_map.mp hd
  rfl
def custM (cs : List Nat) : D := .lst (cs.map fun c => .tup (menu.take c))
theorem k_frzc : ∀ cs ∈ countsL, isOk (F_frozen [custM cs]) (custT cs) = true := by decide +kernel
theorem k_frzp : ∀ n, n < 5 → isOk (F_frozen [l_peo n]) (peoT n) = true := by decide +kernel
def townD (t : Town) : D := .ins "Town" ["people", "customs", "worths", "slips"] [peoT t.cs.length, custT t.cs, .tup (t.ws.map wT), .str t.sl]
theorem ne1 : ¬ (("customs" : Str) = "people") := by decide +kernel
theorem ne2 : ¬ (("worths" : Str) = "people") := by decide +kernel
theorem ne3 : ¬ (("worths" : Str) = "customs") := by decide +kernel
theorem ne4 : ¬ (("slips" : Str) = "people") := by decide +kernel
theorem ne5 : ¬ (("slips" : Str) = "customs") := by decide +kernel
theorem ne6 : ¬ (("slips" : Str) = "worths") := by decide +kernel
theorem fdt (f : Str) (h : f = "people" ∨ f = "customs" ∨ f = "worths" ∨ f = "slips") : TP_Town.fd "Town" f = true := by
  rcases h with rfl | rfl | rfl | rfl <;> decide +kernel
theorem g_rows : TP_Town.gl "MOST_ROWS" = some (.int 16) := isSome_eq (by decide +kernel)
theorem lk0 {a : D} {l : List (Str × D)} {x : Str} : ((x, a) :: l).lookup x = some a := by simp [List.lookup]
theorem lks {a : D} {l : List (Str × D)} {x y : Str} (h : ¬ x = y) : ((y, a) :: l).lookup x = l.lookup x := by
  have : (x == y) = false := beq_eq_false_iff_ne.mpr h
  simp [List.lookup, this]
theorem e_TownG {t : Town} (ok : t.Ok) (hl : t.ws.length ≤ 1000) {cD : D} (c1 : F_frozen [cD] = .ok (custT t.cs)) : F_Town [l_peo t.cs.length, cD, .lst (t.ws.map wL), .str t.sl] = .ok (townD t) := by
  obtain ⟨cs, ws, sl⟩ := t
  obtain ⟨hcs, hws, hnd, hsl, _⟩ := ok
  dsimp only at hcs hws hnd hsl hl c1 ⊢
  have hn := (cs_small cs hcs).1
  have hn0 : cs.length ≠ 0 := by
    have : ∀ cs ∈ countsL, cs.length ≠ 0 := by decide
    exact this cs hcs
  have p1 := isOk_eq (k_frzp cs.length (by omega))
  have p2 := isOk_eq (k_people cs.length (by omega) hn0)
  have c2 := isOk_eq (k_customs cs hcs)
  have r1 := isOk_eq (k_count cs hcs).1
  have r2 : ¬ (16 : Int) < (prodN cs : Int) := by have := (k_count cs hcs).2; omega
  have w1 : F_frozen [.lst (ws.map wL)] = .ok (.tup (ws.map wT)) := by rw [e_frozen (flat_worths ws), frz_worths]
  have w2 := e_checked_worths hcs hws hnd hl
  have hlen : lenD (peoT cs.length) = some (.int (cs.length : Int)) := by
    unfold peoT
    rw [lenD_tup, List.length_take, show min cs.length names4.length = cs.length from Nat.min_eq_left hn]
  have f1 : fldR TP_Town "people" (.ins "Town" ["people"] [peoT cs.length]) = .ok (peoT cs.length) := fldR_at (fdt _ (.inl rfl)) lk0
  have f2 : fldR TP_Town "customs" (.ins "Town" ["people", "customs"] [peoT cs.length, custT cs]) = .ok (custT cs) := fldR_at (fdt _ (.inr (.inl rfl))) ((lks ne1).trans lk0)
  have hs : notInD (.str sl) (.tup [.str "even", .str "loss"]) = some (.bl false) := by
    rcases hsl with rfl | rfl <;> exact isSome_eq (by decide +kernel)
  have d1 := fdt "people" (.inl rfl)
  have d2 := fdt "customs" (.inr (.inl rfl))
  have d3 := fdt "worths" (.inr (.inr (.inl rfl)))
  have d4 := fdt "slips" (.inr (.inr (.inr rfl)))
  unfold F_Town runInit
  simp -implicitDefEqProofs [b_Town, t_Town_checked_people, t_Town_frozen, t_Town_checked_customs, t_Town_row_count, t_Town_checked_worths, p1, p2, c1, c2, r1, r2, w1, w2, hlen, f1, f2, hs, d1, d2, d3, d4, ne1, ne2, ne3, ne4, ne5, ne6, g_rows, townD]
theorem e_Town {t : Town} (ok : t.Ok) (hl : t.ws.length ≤ 1000) : F_Town [l_peo t.cs.length, custM t.cs, .lst (t.ws.map wL), .str t.sl] = .ok (townD t) := e_TownG ok hl (isOk_eq (k_frzc t.cs ok.cs))
/-! worths of customs -/
def hit (r : List Nat) (p : Nat) (x : Wo) : Bool := decide (x.i = p) && decide (cAt r p = x.a) && decide (cAt r x.j = x.b)
def wsum (ws : List Wo) (r : List Nat) (p : Nat) : Int := ws.foldl (fun s x => if hit r p x = true then s + x.w else s) 0
theorem wsum_snoc (ws : List Wo) (x : Wo) (r : List Nat) (p : Nat) : wsum (ws ++ [x]) r p = if hit r p x = true then wsum ws r p + x.w else wsum ws r p := by
  unfold wsum
  rw [List.foldl_append]
  rfl
def RowOk (n : Nat) (rd : D) (r : List Nat) : Prop := ∀ i, i < n → idxD rd (.int (i : Int)) = some (.int (cAt r i : Int))
abbrev bWo : Ss := .cons (.ite (.ands (.cons (.cmp .Eq (.var 4) (.var 2)) (.cons (.cmp .Eq (.idx (.var 1) (.var 2)) (.var 5)) (.cons (.cmp .Eq (.idx (.var 1) (.var 6)) (.var 7)) .nil)))) (.cons (.set 3 (.bin .Add (.var 3) (.var 8))) .nil) .nil) .nil
theorem wo_loop (T : Tab) {tD rd : D} {n p : Nat} {r : List Nat} {ws : List Wo} (hp : p < n) (hr : RowOk n rd r) (hw : ∀ x ∈ ws, x.j < n) :
    ∃ y4 y5 y6 y7 y8, forL (.tp [4, 5, 6, 7, 8]) (exs T bWo) (ws.map wT) [.val tD, .val rd, .val (.int (p : Int)), .val (.int 0), .no, .no, .no, .no, .no] = .nx [.val tD, .val rd, .val (.int (p : Int)), .val (.int (wsum ws r p)), y4, y5, y6, y7, y8] := by
  obtain ⟨ρ', e, y4, y5, y6, y7, y8, e2⟩ := forL_ind (tg := .tp [4, 5, 6, 7, 8]) (body := exs T bWo) (ds := ws.map wT) (ρ := [.val tD, .val rd, .val (.int (p : Int)), .val (.int 0), .no, .no, .no, .no, .no])
    (fun i ρ => ∃ y4 y5 y6 y7 y8, ρ = [.val tD, .val rd, .val (.int (p : Int)), .val (.int (wsum (ws.take i) r p)), y4, y5, y6, y7, y8]) ⟨_, _, _, _, _, rfl⟩ (fun i dd ρ hi ⟨y4, y5, y6, y7, y8, e⟩ => by
      subst e
      rw [List.getElem?_map] at hi
      cases hx : ws[i]? with
      | none => rw [hx] at hi; cases hi
      | some x =>
        rw [hx] at hi
        cases hi
        have i1 := hr p hp
        have i2 := hr x.j (hw x (List.mem_of_getElem? hx))
        rw [take_succ hx, wsum_snoc]
        generalize wsum (ws.take i) r p = s
        refine ⟨_, _, rfl, .inl ?_, .val (.int x.i), .val (.int x.a), .val (.int x.j), .val (.int x.b), .val (.int x.w), rfl⟩
        by_cases h1 : x.i = p
        · by_cases h2 : cAt r p = x.a
          · by_cases h3 : cAt r x.j = x.b
            · have c1 : (x.i : Int) = (p : Int) := by omega
              have c2 : (cAt r p : Int) = (x.a : Int) := by omega
              have c3 : (cAt r x.j : Int) = (x.b : Int) := by omega
              simp -implicitDefEqProofs [i1, i2, hit, h1, h2, h3]
            · have c3 : ¬ (cAt r x.j : Int) = (x.b : Int) := by omega
              simp -implicitDefEqProofs [i1, i2, hit, h1, h2, h3, c3]
          · have c2 : ¬ (cAt r p : Int) = (x.a : Int) := by omega
            simp -implicitDefEqProofs [i1, i2, hit, h1, h2, c2]
        · have c1 : ¬ (x.i : Int) = (p : Int) := by omega
          simp -implicitDefEqProofs [i1, i2, hit, h1, c1])
  rw [List.length_map, List.take_length] at e2
  exact ⟨y4, y5, y6, y7, y8, by rw [e, e2]⟩
theorem fdw : TP_worth_of.fd "Town" "worths" = true := by decide +kernel
theorem fdc : TP_worth_row.fd "Town" "customs" = true := by decide +kernel
theorem e_worth_of {t : Town} (ok : t.Ok) {rd : D} {r : List Nat} {p : Nat} (hp : p < t.cs.length) (hr : RowOk t.cs.length rd r) : F_worth_of [townD t, rd, .int (p : Int)] = .ok (.int (wsum t.ws r p)) := by
  obtain ⟨y4, y5, y6, y7, y8, hl⟩ := wo_loop TP_worth_of (tD := townD t) (rd := rd) hp hr (fun x hx => (ok.ws x hx).2.1)
  have f1 : fldR TP_worth_of "worths" (townD t) = .ok (.tup (t.ws.map wT)) := fldR_at fdw ((lks ne2).trans ((lks ne3).trans lk0))
  unfold F_worth_of runFn
  simp -implicitDefEqProofs [b_worth_of, f1, hl]
abbrev bLw : Ss := .cons (.ite (.ands (.cons (.cmp .Eq (.idx (.var 4) (.int 0)) (.var 2)) (.cons (.cmp .Eq (.idx (.var 1) (.var 2)) (.idx (.var 4) (.int 1))) (.cons (.cmp .Eq (.idx (.var 1) (.idx (.var 4) (.int 2))) (.idx (.var 4) (.int 3))) .nil)))) (.cons (.set 3 (.bin .Add (.var 3) (.idx (.var 4) (.int 4)))) .nil) .nil) .nil
theorem lw_loop (T : Tab) {tD rd : D} {n p : Nat} {r : List Nat} {ws : List Wo} (hp : p < n) (hr : RowOk n rd r) (hw : ∀ x ∈ ws, x.j < n) :
    ∃ y4, forL (.nm 4) (exs T bLw) (ws.map wL) [.val tD, .val rd, .val (.int (p : Int)), .val (.int 0), .no] = .nx [.val tD, .val rd, .val (.int (p : Int)), .val (.int (wsum ws r p)), y4] := by
  obtain ⟨ρ', e, y4, e2⟩ := forL_ind (tg := .nm 4) (body := exs T bLw) (ds := ws.map wL) (ρ := [.val tD, .val rd, .val (.int (p : Int)), .val (.int 0), .no])
    (fun i ρ => ∃ y4, ρ = [.val tD, .val rd, .val (.int (p : Int)), .val (.int (wsum (ws.take i) r p)), y4]) ⟨_, rfl⟩ (fun i dd ρ hi ⟨y4, e⟩ => by
      subst e
      rw [List.getElem?_map] at hi
      cases hx : ws[i]? with
      | none => rw [hx] at hi; cases hi
      | some x =>
        rw [hx] at hi
        cases hi
        have i1 := hr p hp
        have i2 := hr x.j (hw x (List.mem_of_getElem? hx))
        have q0 : idxD (wL x) (.int 0) = some (.int x.i) := rfl
        have q1 : idxD (wL x) (.int 1) = some (.int x.a) := rfl
        have q2 : idxD (wL x) (.int 2) = some (.int x.j) := rfl
        have q3 : idxD (wL x) (.int 3) = some (.int x.b) := rfl
        have q4 : idxD (wL x) (.int 4) = some (.int x.w) := rfl
        rw [take_succ hx, wsum_snoc]
        generalize wsum (ws.take i) r p = s
        refine ⟨_, _, rfl, .inl ?_, .val (wL x), rfl⟩
        by_cases h1 : x.i = p
        · by_cases h2 : cAt r p = x.a
          · by_cases h3 : cAt r x.j = x.b
            · simp -implicitDefEqProofs [i1, i2, q0, q1, q2, q3, q4, hit, h1, h2, h3]
            · have c3 : ¬ (cAt r x.j : Int) = (x.b : Int) := by omega
              simp -implicitDefEqProofs [i1, i2, q0, q1, q2, q3, q4, hit, h1, h2, h3, c3]
          · have c2 : ¬ (cAt r p : Int) = (x.a : Int) := by omega
            simp -implicitDefEqProofs [i1, i2, q0, q1, q2, q3, q4, hit, h1, h2, c2]
        · have c1 : ¬ (x.i : Int) = (p : Int) := by omega
          simp -implicitDefEqProofs [i1, i2, q0, q1, q2, q3, q4, hit, h1, c1])
  rw [List.length_map, List.take_length] at e2
  exact ⟨y4, by rw [e, e2]⟩
theorem e_l_worth {t : Town} (ok : t.Ok) {rd : D} {r : List Nat} {p : Nat} (hp : p < t.cs.length) (hr : RowOk t.cs.length rd r) : F_l_worth [t.D, rd, .int (p : Int)] = .ok (.int (wsum t.ws r p)) := by
  obtain ⟨y4, hl⟩ := lw_loop TP_l_worth (tD := t.D) (rd := rd) hp hr (fun x hx => (ok.ws x hx).2.1)
  have f1 : idxD t.D (.int 1) = some (.lst (t.ws.map wL)) := rfl
  unfold F_l_worth runFn
  simp -implicitDefEqProofs [b_l_worth, f1, hl]
/-! rows with one custom changed, replies, the law -/
theorem rowD_at {r : List Nat} {i : Nat} (h : i < r.length) : (r.map fun k : Nat => D.int (k : Int))[i]? = some (.int (cAt r i : Int)) := by
  rw [List.getElem?_map, getD_at h]
  rfl
theorem rowOk_tup {r : List Nat} {n : Nat} (h : r.length = n) : RowOk n (rowD r) r := fun i hi => idxD_tup (rowD_at (by omega))
theorem rowOk_lst {r : List Nat} {n : Nat} (h : r.length = n) : RowOk n (.lst (r.map fun k : Nat => D.int (k : Int))) r := fun i hi => idxD_lst (rowD_at (by omega))
theorem len_row (r : List Nat) : lenD (rowD r) = some (.int (r.length : Int)) := by
  unfold rowD
  rw [lenD_tup, List.length_map]
theorem set_map (r : List Nat) (p k : Nat) : ((List.range r.length).map fun i => if i = p then k else cAt r i) = r.set p k := by
  refine List.ext_getElem (by simp) fun i h1 h2 => ?_
  rw [List.getElem_map, List.getElem_range, List.getElem_set]
  by_cases e : i = p
  · rw [if_pos e, if_pos e.symm]
  · rw [if_neg e, if_neg fun z => e z.symm]
    simp at h2
    simp [cAt, h2]
def putK (r : List Nat) (p k : Nat) : D → D
  | .int i => .int ((if i.toNat = p then k else cAt r i.toNat : Nat) : Int)
  | _ => .non
theorem e_with {r : List Nat} {p k : Nat} (hl : r.length ≤ 1000) : F_with_custom [rowD r, .int (p : Int), .int (k : Int)] = .ok (rowD (r.set p k)) := by
  have hr := rngR1_nat (n := r.length) (by omega)
  have hlc : lcL (asg (.nm 3)) (evc TP_with_custom .no) (ev TP_with_custom (.ife (.cmp .Eq (.var 3) (.var 1)) (.var 2) (.idx (.var 0) (.var 3))) .val) [.val (rowD r), .val (.int (p : Int)), .val (.int (k : Int)), .no] (nats r.length) = .ok ((r.set p k).map fun k : Nat => D.int (k : Int)) := by
    rw [lcL_map (h := putK r p k) fun d hd => ?_]
    · rw [← set_map, nats, List.map_map, List.map_map]
      congr 1
    · obtain ⟨i, hi⟩ := List.mem_iff_getElem?.mp hd
      obtain ⟨hi', rfl⟩ := nats_at hi
      have hx := rowOk_tup (r := r) rfl i hi'
      refine ⟨_, rfl, evc_no, ?_⟩
      by_cases e : i = p
      · subst e
        simp -implicitDefEqProofs [putK]
      · have e' : ¬ (i : Int) = (p : Int) := by omega
        simp -implicitDefEqProofs [putK, e, e', hx]
  have hrd : rowD (r.set p k) = .tup ((r.set p k).map fun k : Nat => D.int (k : Int)) := rfl
  rw [hrd]
  generalize (r.set p k).map (fun k : Nat => D.int (k : Int)) = L at hlc ⊢
  unfold F_with_custom runFn
  simp -implicitDefEqProofs [b_with_custom, len_row, hr, lcR_ok hlc]
theorem cut_to {xs : List D} {p : Nat} (h : p ≤ xs.length) : cutD xs none (some (p : Int)) = xs.take p := by
  unfold cutD
  rw [HT.sIx_none, HT.sIx_nat, List.drop_zero, Nat.min_eq_left h, Nat.sub_zero]
theorem cut_from {xs : List D} {p : Nat} (h : p ≤ xs.length) : cutD xs (some (p : Int)) none = xs.drop p := by
  unfold cutD
  rw [HT.sIx_none, HT.sIx_nat, Nat.min_eq_left h]
  exact List.take_of_length_le (by rw [List.length_drop]; exact Nat.le_refl _)
theorem e_lwith {r : List Nat} {p k : Nat} (hp : p < r.length) (hl : r.length ≤ 1000) : F_l_with [rowD r, .int (p : Int), .int (k : Int)] = .ok (rowD (r.set p k)) := by
  have s1 : slcD (rowD r) none (some (p : Int)) = some (.tup ((r.map fun k : Nat => D.int (k : Int)).take p)) := by
    show some (D.tup (cutD _ _ _)) = _
    rw [cut_to (by rw [List.length_map]; omega)]
  have s2 : slcD (rowD r) (some ((p : Int) + 1)) none = some (.tup ((r.map fun k : Nat => D.int (k : Int)).drop (p + 1))) := by
    show some (D.tup (cutD _ _ _)) = _
    rw [show ((p : Int) + 1) = ((p + 1 : Nat) : Int) from rfl, cut_from (by rw [List.length_map]; omega)]
  have a1 : addD (.tup ((r.map fun k : Nat => D.int (k : Int)).take p)) (.tup [.int (k : Int)]) = some (.tup ((r.map fun k : Nat => D.int (k : Int)).take p ++ [.int (k : Int)])) := addD_tup (by simp; omega)
  have a2 : addD (.tup ((r.map fun k : Nat => D.int (k : Int)).take p ++ [.int (k : Int)])) (.tup ((r.map fun k : Nat => D.int (k : Int)).drop (p + 1))) = some (.tup (((r.map fun k : Nat => D.int (k : Int)).take p ++ [.int (k : Int)]) ++ (r.map fun k : Nat => D.int (k : Int)).drop (p + 1))) := addD_tup (by simp; omega)
  have fin : ((r.map fun k : Nat => D.int (k : Int)).take p ++ [.int (k : Int)]) ++ (r.map fun k : Nat => D.int (k : Int)).drop (p + 1) = (r.set p k).map fun k : Nat => D.int (k : Int) := by
    rw [List.set_eq_take_append_cons_drop, if_pos hp, List.map_append, List.map_cons, List.map_take, List.map_drop, List.append_assoc]
    rfl
  have hd : rowD (r.set p k) = .tup (((r.map fun k : Nat => D.int (k : Int)).take p ++ [.int (k : Int)]) ++ (r.map fun k : Nat => D.int (k : Int)).drop (p + 1)) := by rw [fin]; rfl
  rw [hd]
  generalize (r.map fun k : Nat => D.int (k : Int)).take p = A at *
  generalize (r.map fun k : Nat => D.int (k : Int)).drop (p + 1) = B at *
  unfold F_l_with runFn
  simp -implicitDefEqProofs only [b_l_with, initR, List.map_cons, List.map_nil, List.length_cons, List.length_nil, List.replicate, List.cons_append, List.nil_append, exs_ret, Pu.pv, pvs, pvo, List.append_nil, pubs_nil, atRet_eq, ev_bin, ev_binB, ev_slcB, ev_tupB, evs_cons, evs_nil, ev_var, ev_varB, ev_intB, getV_s, getV_0, getB_s, getB_0, evoR_no, evoR_yes, slcR_ok, prR_none, prR_int, s1, s2, ofO_some, consR_ok, tupR_ok, binD_add, op2_ok, addD_int, a1, a2, rtR_ok, endD_rt, pubs_cons, pub1_v, pub1_s]
/-- the worths of all customs of one person -/
def wrow (t : Town) (r : List Nat) (p : Nat) : List Int := (List.range (cAt t.cs p)).map fun k => wsum t.ws (r.set p k) p
def wK (t : Town) (r : List Nat) (p : Nat) : D → D
  | .int k => .int (wsum t.ws (r.set p k.toNat) p)
  | _ => .non
theorem wrow_map (t : Town) (r : List Nat) (p : Nat) : (nats (cAt t.cs p)).map (wK t r p) = (wrow t r p).map D.int := by
  unfold nats wrow
  rw [List.map_map, List.map_map]
  congr 1
section
variable {t : Town} (ok : t.Ok) {r : List Nat} (hl : r.length = t.cs.length) {p : Nat} (hp : p < t.cs.length)
include ok hl hp
theorem e_worth_row : F_worth_row [townD t, rowD r, .int (p : Int)] = .ok (.lst ((wrow t r p).map D.int)) := by
  have h4 := (cs_small t.cs ok.cs).1
  have hc := cs_get ok.cs hp
  have f1 : fldR TP_worth_row "customs" (townD t) = .ok (custT t.cs) := fldR_at fdc ((lks ne1).trans lk0)
  have hx := idx_cust hp
  have hm := menu_len hc.2
  have hr := rngR1_nat (n := cAt t.cs p) (by omega)
  have hlc : lcL (asg (.nm 3)) (evc TP_worth_row .no) (ev TP_worth_row (.call "worth_of" (.cons (.var 0) (.cons (.call "with_custom" (.cons (.var 1) (.cons (.var 2) (.cons (.var 3) .nil)))) (.cons (.var 2) .nil)))) .val) [.val (townD t), .val (rowD r), .val (.int (p : Int)), .no] (nats (cAt t.cs p)) = .ok ((wrow t r p).map D.int) := by
    rw [← wrow_map, lcL_map (h := wK t r p) fun d hd => ?_]
    obtain ⟨i, hi⟩ := List.mem_iff_getElem?.mp hd
    obtain ⟨hi', rfl⟩ := nats_at hi
    have hw := e_with (r := r) (p := p) (k := i) (by omega)
    have ho := e_worth_of ok (rd := rowD (r.set p i)) (r := r.set p i) hp (rowOk_tup (by rw [List.length_set, hl]))
    refine ⟨_, rfl, evc_no, ?_⟩
    simp -implicitDefEqProofs [t_worth_row_worth_of, t_worth_row_with_custom, hw, ho, wK]
  unfold F_worth_row runFn
  simp -implicitDefEqProofs [b_worth_row, f1, hx, hm, hr, lcR_ok hlc]
theorem e_l_worths : F_l_worths [t.D, rowD r, .int (p : Int)] = .ok (.lst ((wrow t r p).map D.int)) := by
  have h4 := (cs_small t.cs ok.cs).1
  have hc := cs_get ok.cs hp
  have f0 : idxD t.D (.int 0) = some (custD t.cs) := rfl
  have hx : idxD (custD t.cs) (.int (p : Int)) = some (.lst (menu.take (cAt t.cs p))) := by
    refine idxD_lst ?_
    rw [List.getElem?_map, getD_at hp]
    rfl
  have hm : lenD (.lst (menu.take (cAt t.cs p))) = some (.int (cAt t.cs p : Int)) := by
    rw [lenD_lst, List.length_take, show min (cAt t.cs p) menu.length = cAt t.cs p from Nat.min_eq_left hc.2]
  have hr := rngR1_nat (n := cAt t.cs p) (by omega)
  have hlc : lcL (asg (.nm 3)) (evc TP_l_worths .no) (ev TP_l_worths (.call "_law_worth" (.cons (.var 0) (.cons (.call "_law_with" (.cons (.var 1) (.cons (.var 2) (.cons (.var 3) .nil)))) (.cons (.var 2) .nil)))) .val) [.val t.D, .val (rowD r), .val (.int (p : Int)), .no] (nats (cAt t.cs p)) = .ok ((wrow t r p).map D.int) := by
    rw [← wrow_map, lcL_map (h := wK t r p) fun d hd => ?_]
    obtain ⟨i, hi⟩ := List.mem_iff_getElem?.mp hd
    obtain ⟨hi', rfl⟩ := nats_at hi
    have hw := e_lwith (r := r) (p := p) (k := i) (by omega) (by omega)
    have ho := e_l_worth ok (rd := rowD (r.set p i)) (r := r.set p i) hp (rowOk_tup (by rw [List.length_set, hl]))
    refine ⟨_, rfl, evc_no, ?_⟩
    simp -implicitDefEqProofs [t_l_worths_l_worth, t_l_worths_l_with, hw, ho, wK]
  unfold F_l_worths runFn
  simp -implicitDefEqProofs [b_l_worths, f0, hx, hm, hr, lcR_ok hlc]
end
theorem ints_of (ns : List Int) : intsD (ns.map D.int) = some ns := by
  induction ns with
  | nil => rfl
  | cons n ns ih => simp only [List.map_cons, intsD, ih, Option.map_some]
theorem max_of {ns : List Int} (h : ns ≠ []) : maxLD (.lst (ns.map D.int)) = some (.int (maxI ns)) := by
  have e : lintsD (.lst (ns.map D.int)) = some ns := ints_of ns
  unfold maxLD
  rw [e]
  cases ns with
  | nil => exact absurd rfl h
  | cons n ns => rfl
/-- the places of the greatest -/
def tops (W : List Int) : List D := (nats W.length).filter fun d => match d with
  | .int k => decide (W[k.toNat]? = some (maxI W))
  | _ => false
theorem tops_lc (T : Tab) {W : List Int} {ρ : Ro} {i j k : Nat} (hj : ∀ x, getB (ρ.set i (.val x)) j = .ok (.lst (W.map D.int))) (hi : ∀ x, getB (ρ.set i (.val x)) i = .ok x) (hv : ∀ x, getV (ρ.set i (.val x)) i = .ok x) (hk : ∀ x, getB (ρ.set i (.val x)) k = .ok (.int (maxI W))) :
    lcL (asg (.nm i)) (evc T (.yes (.cmp .Eq (.idx (.var j) (.var i)) (.var k)))) (ev T (.var i) .val) ρ (nats W.length) = .ok (tops W) := by
  rw [lcL_filter (h := id) (p := fun d => match d with
    | .int k => decide (W[k.toNat]? = some (maxI W))
    | _ => false) fun d hd => ?_]
  · rw [List.map_id]
    rfl
  · obtain ⟨q, hq⟩ := List.mem_iff_getElem?.mp hd
    obtain ⟨hq', rfl⟩ := nats_at hq
    have hx : W[q]? = some W[q] := List.getElem?_eq_getElem hq'
    have h2 : idxD (.lst (W.map D.int)) (.int (q : Int)) = some (.int W[q]) := idxD_lst (int_at hx)
    refine ⟨_, rfl, ?_, fun _ => ?_⟩
    · simp -implicitDefEqProofs [hj, hi, hk, h2, hx]
    · simp -implicitDefEqProofs [hv]
theorem e_best {t : Town} (ok : t.Ok) {r : List Nat} (hl : r.length = t.cs.length) {p : Nat} (hp : p < t.cs.length) : F_best [townD t, rowD r, .int (p : Int)] = .ok (.tup (tops (wrow t r p))) := by
  have hw := e_worth_row ok hl hp
  have hc := cs_get ok.cs hp
  have hne : wrow t r p ≠ [] := by
    intro z
    have := congrArg List.length z
    unfold wrow at this
    rw [List.length_map, List.length_range, List.length_nil] at this
    omega
  have hlen : (wrow t r p).length ≤ 4 := by
    unfold wrow
    rw [List.length_map, List.length_range]
    exact hc.2
  generalize wrow t r p = W at *
  have hm := max_of hne
  have hr := rngR1_nat (n := W.length) (by omega)
  have hlc := tops_lc TP_best (W := W) (ρ := [.val (townD t), .val (rowD r), .val (.int (p : Int)), .val (.lst (W.map D.int)), .val (.int (maxI W)), .no]) (i := 5) (j := 3) (k := 4) (fun _ => rfl) (fun _ => rfl) (fun _ => rfl) (fun _ => rfl)
  unfold F_best runFn
  simp -implicitDefEqProofs [b_best, t_best_worth_row, hw, hm, hr, lcR_ok hlc]
/-! k83: numbers of rows -/
def rix (cs : List Nat) (r : List Nat) : Nat := (rowsOf cs).idxOf r
def numF (cs r : List Nat) : Nat → Nat
  | 0 => 0
  | i + 1 => numF cs r i * cAt cs i + cAt r i
theorem k_num : ∀ cs ∈ countsL, ∀ r ∈ rowsOf cs, numF cs r cs.length = (rowsOf cs).idxOf r ∧ ∀ i, i < 5 → numF cs r i < 1000 := by decide +kernel
theorem rows_len : ∀ cs ∈ countsL, ∀ r ∈ rowsOf cs, r.length = cs.length ∧ ∀ p, p < cs.length → cAt r p < cAt cs p := by decide +kernel
theorem fldC {T : Tab} (h : T.fd "Town" "customs" = true) (t : Town) : fldR T "customs" (townD t) = .ok (custT t.cs) := fldR_at h ((lks ne1).trans lk0)
theorem e_number {t : Town} (ok : t.Ok) {r : List Nat} (hr : r ∈ rowsOf t.cs) : F_number_of [townD t, rowD r] = .ok (.int ((rix t.cs r : Nat) : Int)) := by
  have hcs := ok.cs
  have hn := (cs_small t.cs hcs).1
  obtain ⟨q1, q2⟩ := rows_len t.cs hcs r hr
  obtain ⟨k1, k2⟩ := k_num t.cs hcs r hr
  have fc := fldC (T := TP_number_of) (by decide +kernel) t
  obtain ⟨ρ', hl, z, hz⟩ := forL_ind (tg := .nm 3) (body := exs TP_number_of (.cons (.set 2 (.bin .Add (.bin .Mult (.var 2) (.bi .len (.cons (.idx (.fld (.var 0) "customs") (.var 3)) .nil))) (.idx (.var 1) (.var 3)))) .nil)) (ds := nats r.length)
    (ρ := [.val (townD t), .val (rowD r), .val (.int 0), .no])
    (fun i ρ => ∃ z, ρ = [.val (townD t), .val (rowD r), .val (.int ((numF t.cs r i : Nat) : Int)), z]) ⟨.no, rfl⟩ (fun i d ρ hd ⟨z, hρ⟩ => by
      obtain ⟨hi, rfl⟩ := nats_at hd
      subst hρ
      have hi' : i < t.cs.length := by omega
      have a1 := idx_cust (cs := t.cs) hi'
      have a2 := menu_len (cs_get hcs hi').2
      have a3 := rowOk_tup q1 i hi'
      have b1 := k2 i (by omega)
      have b2 := (cs_get hcs hi').2
      have a4 : mulD (.int ((numF t.cs r i : Nat) : Int)) (.int ((cAt t.cs i : Nat) : Int)) = some (.int (((numF t.cs r i : Nat) : Int) * ((cAt t.cs i : Nat) : Int))) := mulD_lt (p := 20) (q := 20) (by rw [Int.natAbs_natCast]; omega) (by rw [Int.natAbs_natCast]; omega) (by decide) (by decide) (by decide)
      refine ⟨_, _, rfl, .inl ?_, .val (.int (i : Int)), rfl⟩
      simp -implicitDefEqProofs [fc, a1, a2, a3, a4, numF])
  subst hz
  have hlr := len_row r
  have hr := rngR1_nat (n := r.length) (by omega)
  unfold F_number_of runFn
  simp -implicitDefEqProofs [b_number_of, hlr, hr, hl]
  rw [nats_len, q1]
  exact congrArg (fun n : Nat => (n : Int)) k1
theorem put_row : ∀ cs ∈ countsL, ∀ r ∈ rowsOf cs, ∀ p, p < cs.length → ∀ k, k < cAt cs p → r.set p k ∈ rowsOf cs ∧ (k ≠ cAt r p → (rowsOf cs).idxOf (r.set p k) ≠ (rowsOf cs).idxOf r) := by decide +kernel
theorem rix_lt {cs r : List Nat} (h : r ∈ rowsOf cs) : rix cs r < (rowsOf cs).length := List.idxOf_lt_length_iff.mpr h
/-! all rows -/
def stepW (a : List Nat × Nat) (c : Nat) : List Nat × Nat := (a.1 ++ [a.2 - a.2 / c * c], a.2 / c)
def digs (l : List Nat) (n : Nat) : List Nat × Nat := l.foldl stepW ([], n)
theorem k_digs : ∀ cs ∈ countsL, prodN cs = (rowsOf cs).length ∧ ∀ n, n < (rowsOf cs).length → (rowsOf cs)[n]? = some (digs cs.reverse n).1.reverse ∧ ∀ i, i < 5 → (digs (cs.reverse.take i) n).2 < 1000 := by decide +kernel
theorem e_rowof {t : Town} (ok : t.Ok) {n : Nat} (hn : n < (rowsOf t.cs).length) : F_row_of [townD t, .int (n : Nat)] = .ok (rowD (digs t.cs.reverse n).1.reverse) := by
  have hcs := ok.cs
  have fc := fldC (T := TP_row_of) (by decide +kernel) t
  obtain ⟨_, kd⟩ := k_digs t.cs hcs
  have kd2 := (kd n hn).2
  have hc4 : ∀ c ∈ t.cs.reverse, 1 ≤ c ∧ c ≤ 4 := fun c hc => (cs_small t.cs hcs).2 c (List.mem_reverse.mp hc)
  have hl4 : t.cs.reverse.length ≤ 4 := by rw [List.length_reverse]; exact (cs_small t.cs hcs).1
  have hitems : itR revR (.ok (custT t.cs)) = .ok (t.cs.reverse.map fun c => D.tup (menu.take c)) := by
    unfold custT
    rw [itR_revT, List.map_reverse]
  generalize hL : t.cs.reverse = L at *
  obtain ⟨ρ', hl, z, hz⟩ := forL_ind (tg := .nm 4) (body := exs TP_row_of (.cons (.app 2 (.bin .Sub (.var 3) (.bin .Mult (.bin .FloorDiv (.var 3) (.bi .len (.cons (.var 4) .nil))) (.bi .len (.cons (.var 4) .nil))))) (.cons (.set 3 (.bin .FloorDiv (.var 3) (.bi .len (.cons (.var 4) .nil)))) .nil))) (ds := L.map fun c => D.tup (menu.take c))
    (ρ := [.val (townD t), .val (.int (n : Nat)), .own [], .val (.int (n : Nat)), .no])
    (fun i ρ => ∃ z, ρ = [.val (townD t), .val (.int (n : Nat)), .own ((digs (L.take i) n).1.map fun k : Nat => D.int (k : Int)), .val (.int (((digs (L.take i) n).2 : Nat) : Int)), z] ∧ (digs (L.take i) n).1.length = i) ⟨.no, rfl, rfl⟩ (fun i d ρ hd ⟨z, hρ, hlen⟩ => by
      rw [List.getElem?_map] at hd
      obtain ⟨c, hc, rfl⟩ := Option.map_eq_some_iff.mp hd
      subst hρ
      obtain ⟨c1, c4⟩ := hc4 c (List.mem_of_getElem? hc)
      have hi : i < L.length := (List.getElem?_eq_some_iff.mp hc).1
      have b1 := kd2 i (by omega)
      have e : digs (L.take (i + 1)) n = stepW (digs (L.take i) n) c := by
        unfold digs
        rw [take_succ hc, List.foldl_append]
        rfl
      rw [e]
      generalize digs (L.take i) n = a at *
      obtain ⟨told, rest⟩ := a
      dsimp only at hlen b1 ⊢
      have a2 := menu_len c4
      have d1 : fdivD (.int (rest : Int)) (.int (c : Int)) = some (.int ((rest / c : Nat) : Int)) := by
        rw [fdivD_lt (by omega) (by rw [Int.natAbs_natCast]; exact Nat.lt_of_le_of_lt c4 (Nat.lt_of_lt_of_le (by decide : 4 < 2 ^ 3) (Nat.pow_le_pow_right (by decide) (by decide)))), Int.fdiv_eq_ediv_of_nonneg _ (by omega)]
        rfl
      have d2 : mulD (.int ((rest / c : Nat) : Int)) (.int (c : Int)) = some (.int ((rest / c * c : Nat) : Int)) := by
        rw [mulD_lt (p := 20) (q := 20) (by rw [Int.natAbs_natCast]; have := Nat.div_le_self rest c; omega) (by rw [Int.natAbs_natCast]; omega) (by decide) (by decide) (by decide), Int.natCast_mul]
      have d3 : (rest : Int) - ((rest / c * c : Nat) : Int) = ((rest - rest / c * c : Nat) : Int) := by
        have := Nat.div_mul_le_self rest c
        omega
      refine ⟨_, _, rfl, .inl ?_, .val (.tup (menu.take c)), rfl, by unfold stepW; simp [hlen]⟩
      unfold stepW
      simp only [List.map_append, List.map_cons, List.map_nil]
      have hll : (told.map fun k : Nat => D.int (k : Int)).length < 16777216 := by rw [List.length_map]; omega
      generalize (told.map fun k : Nat => D.int (k : Int)) = G at *
      rw [← d3]
      generalize ((rest / c * c : Nat) : Int) = y2 at *
      generalize ((rest / c : Nat) : Int) = y1 at *
      simp -implicitDefEqProofs [a2, d1, d2, hll])
  obtain ⟨hz, hzl⟩ := hz
  rw [List.length_map, List.take_length] at hz hzl
  subst hz
  unfold F_row_of runFn
  simp -implicitDefEqProofs [b_row_of, fc, hitems, hl]
  unfold rowD
  rw [List.map_reverse]
def rowK (cs : List Nat) : D → D
  | .int i => rowD (digs cs.reverse i.toNat).1.reverse
  | _ => .non
theorem e_every {t : Town} (ok : t.Ok) : F_every_row [townD t] = .ok (.lst ((rowsOf t.cs).map rowD)) := by
  have hcs := ok.cs
  have fc := fldC (T := TP_every_row) (by decide +kernel) t
  obtain ⟨k1, kd⟩ := k_digs t.cs hcs
  obtain ⟨r1, r2⟩ := k_count t.cs hcs
  have r1 := isOk_eq r1
  rw [k1] at r1 r2
  have hr := rngR1_nat (n := (rowsOf t.cs).length) (by omega)
  have hlc : lcL (asg (.nm 1)) (evc TP_every_row .no) (ev TP_every_row (.call "row_of" (.cons (.var 0) (.cons (.var 1) .nil))) .val) [.val (townD t), .no] (nats (rowsOf t.cs).length) = .ok ((rowsOf t.cs).map rowD) := by
    rw [lcL_map (h := rowK t.cs) fun d hd => ?_]
    · refine congrArg Res.ok (List.ext_getElem? fun i => ?_)
      rw [List.getElem?_map, List.getElem?_map]
      by_cases hi : i < (rowsOf t.cs).length
      · have : (nats (rowsOf t.cs).length)[i]? = some (.int (i : Int)) := by unfold nats; rw [List.getElem?_map, List.getElem?_range hi]; rfl
        rw [this, (kd i hi).1]
        rfl
      · rw [List.getElem?_eq_none (by rw [nats_len]; omega), List.getElem?_eq_none (by omega)]
        rfl
    · obtain ⟨i, hi⟩ := List.mem_iff_getElem?.mp hd
      obtain ⟨hi', rfl⟩ := nats_at hi
      have := e_rowof ok hi'
      exact ⟨_, rfl, evc_no, by simp -implicitDefEqProofs [t_every_row_row_of, this, rowK]⟩
  unfold F_every_row runFn
  simp -implicitDefEqProofs [b_every_row, t_every_row_row_count, fc, r1, hr, lcR_ok hlc]
/-! k83: the steps of a row -/
def unitR (m : Nat) : Rat := mkRat 1 m
theorem unit_num {m : Nat} (h : m ≠ 0) : (unitR m).num = 1 := by
  unfold unitR
  rw [← Rat.normalize_eq_mkRat h, Rat.num_normalize]
  simp
theorem unit_den {m : Nat} (h : m ≠ 0) : (unitR m).den = m := by
  unfold unitR
  rw [← Rat.normalize_eq_mkRat h, Rat.den_normalize]
  simp
theorem unit_D {m : Nat} (h : m ≠ 0) : ratD (unitR m) = .tup [.int 1, .int (m : Int)] := by
  unfold ratD
  rw [unit_num h, unit_den h]
def topB (W : List Int) (k : Nat) : Bool := decide (W[k]? = some (maxI W))
def facN (t : Town) (r : List Nat) (p k : Nat) : Nat :=
  if t.sl = "even" then (if topB (wrow t r p) k = true then 2 * t.cs.length * (tops (wrow t r p)).length else 2 * t.cs.length * cAt t.cs p) else t.cs.length * cAt t.cs p
def costZ (t : Town) (r : List Nat) (p k : Nat) : Int :=
  if t.sl = "even" then (if topB (wrow t r p) k = true then 0 else 1) else maxI (wrow t r p) - wsum t.ws (r.set p k) p
theorem tops_mem {W : List Int} {k : Nat} (hk : k < W.length) : inD (.int (k : Int)) (.tup (tops W)) = some (.bl (topB W k)) := by
  have hfl : (tops W).all flatD = true := by
    rw [List.all_eq_true]
    intro d hd
    obtain ⟨q, hq⟩ := List.mem_iff_getElem?.mp (List.mem_filter.mp hd).1
    rw [(nats_at hq).2]
    rfl
  have hx : flatD (.int (k : Int)) = true := rfl
  have h : memD (.int (k : Int)) (.tup (tops W)) = some ((tops W).any fun y => eqFD y (.int (k : Int))) := by
    show (if flatD (.int (k : Int)) = true ∧ (tops W).all flatD = true then some ((tops W).any fun y => eqFD y (.int (k : Int))) else none) = _
    rw [if_pos ⟨hx, hfl⟩]
  unfold inD
  rw [h, Option.map_some]
  congr 2
  rw [Bool.eq_iff_iff, List.any_eq_true]
  unfold topB
  rw [decide_eq_true_iff]
  constructor
  · rintro ⟨d, hd, e⟩
    obtain ⟨hd1, hd2⟩ := List.mem_filter.mp hd
    obtain ⟨q, hq⟩ := List.mem_iff_getElem?.mp hd1
    obtain ⟨_, rfl⟩ := nats_at hq
    have e' : ((q : Int) == (k : Int)) = true := e
    rw [beq_iff_eq] at e'
    have e2 : q = k := by omega
    subst e2
    simpa using hd2
  · intro e
    refine ⟨.int (k : Int), List.mem_filter.mpr ⟨?_, by simpa using e⟩, by show ((k : Int) == (k : Int)) = true; simp⟩
    unfold nats
    exact List.mem_map.mpr ⟨k, List.mem_range.mpr hk, rfl⟩
theorem wrow_len (t : Town) (r : List Nat) (p : Nat) : (wrow t r p).length = cAt t.cs p := by unfold wrow; rw [List.length_map, List.length_range]
theorem wrow_get {t : Town} {r : List Nat} {p k : Nat} (hk : k < cAt t.cs p) : (wrow t r p)[k]? = some (wsum t.ws (r.set p k) p) := by
  unfold wrow
  rw [List.getElem?_map, List.getElem?_range hk]
  rfl
theorem fldP {T : Tab} (h : T.fd "Town" "people" = true) (t : Town) : fldR T "people" (townD t) = .ok (peoT t.cs.length) := fldR_at h lk0
theorem len_peo {n : Nat} (h : n ≤ 4) : lenD (peoT n) = some (.int (n : Int)) := by
  unfold peoT
  rw [lenD_tup, List.length_take, show min n names4.length = n from Nat.min_eq_left h]
theorem mul_sm {a b : Nat} (h : a < 2 ^ 100) (h2 : b < 2 ^ 100) : mulD (.int (a : Int)) (.int (b : Int)) = some (.int ((a * b : Nat) : Int)) := by
  rw [mulD_lt (p := 100) (q := 100) (by rw [Int.natAbs_natCast]; exact h) (by rw [Int.natAbs_natCast]; exact h2) (by decide) (by decide) (by decide), Int.natCast_mul]
theorem lt100 {a : Nat} (h : a < 1000) : a < 2 ^ 100 := Nat.lt_of_lt_of_le h (by decide)
section
variable {t : Town} {r : List Nat} {p k : Nat}
theorem tops_len (W : List Int) : (tops W).length ≤ W.length := by
  unfold tops
  exact Nat.le_trans (List.length_filter_le _ _) (by rw [nats_len]; exact Nat.le_refl _)
theorem tops_pos {W : List Int} {k : Nat} (h : topB W k = true) : (tops W).length ≠ 0 := by
  intro e
  have hk : k < W.length := (List.getElem?_eq_some_iff.mp (of_decide_eq_true h)).1
  have : D.int (k : Int) ∈ tops W := List.mem_filter.mpr ⟨by unfold nats; exact List.mem_map.mpr ⟨k, List.mem_range.mpr hk, rfl⟩, by simpa using of_decide_eq_true h⟩
  rw [List.eq_nil_of_length_eq_zero e] at this
  cases this
theorem facN_ne (ok : t.Ok) (hp : p < t.cs.length) : facN t r p k ≠ 0 := by
  have hc := (cs_get ok.cs hp).1
  unfold facN
  split
  · split
    · rename_i h
      have := tops_pos h
      have h2 : 0 < 2 * t.cs.length := by omega
      exact Nat.mul_ne_zero (by omega) this
    · exact Nat.mul_ne_zero (by omega) (by omega)
  · exact Nat.mul_ne_zero (by omega) (by omega)
theorem e_even (ok : t.Ok) (hr : r ∈ rowsOf t.cs) (hp : p < t.cs.length) (hk : k < cAt t.cs p) (he : t.sl = "even") :
    F_even_step [townD t, rowD r, .int (p : Int), .int (k : Int)] = .ok (.tup [ratD (unitR (facN t r p k)), .int (costZ t r p k)]) := by
  have hcs := ok.cs
  have h4 := (cs_small t.cs hcs).1
  have hl := (rows_len t.cs hcs r hr).1
  obtain ⟨c1, c4⟩ := cs_get hcs hp
  have b := e_best ok hl hp
  have m := tops_mem (W := wrow t r p) (k := k) (by rw [wrow_len]; exact hk)
  have fc := fldC (T := TP_even_step) (by decide +kernel) t
  have fp := fldP (T := TP_even_step) (by decide +kernel) t
  have lp := len_peo h4
  have ic := idx_cust (cs := t.cs) hp
  have lc := menu_len c4
  have tl := tops_len (wrow t r p)
  rw [wrow_len] at tl
  have m1 : mulD (.int 2) (.int (t.cs.length : Int)) = some (.int ((2 * t.cs.length : Nat) : Int)) := mul_sm (a := 2) (lt100 (by decide)) (lt100 (by omega))
  have m2 := mul_sm (a := 2 * t.cs.length) (b := (tops (wrow t r p)).length) (lt100 (by omega)) (lt100 (by omega))
  have m3 := mul_sm (a := 2 * t.cs.length) (b := cAt t.cs p) (lt100 (by omega)) (lt100 (by omega))
  rw [unit_D (facN_ne ok hp)]
  unfold facN costZ
  rw [if_pos he, if_pos he]
  generalize 2 * t.cs.length * (tops (wrow t r p)).length = y1 at *
  generalize 2 * t.cs.length * cAt t.cs p = y2 at *
  generalize ((2 * t.cs.length : Nat) : Int) = y3 at *
  generalize topB (wrow t r p) k = B at *
  generalize tops (wrow t r p) = Tp at *
  unfold F_even_step runFn
  cases B with
  | true => simp -implicitDefEqProofs [b_even_step, t_even_step_best, b, m, fp, lp, m1, m2]
  | false => simp -implicitDefEqProofs [b_even_step, t_even_step_best, b, m, fp, fc, lp, ic, lc, m1, m3]
theorem e_loss (ok : t.Ok) (hr : r ∈ rowsOf t.cs) (hp : p < t.cs.length) (hk : k < cAt t.cs p) (he : t.sl ≠ "even") :
    F_loss_step [townD t, rowD r, .int (p : Int), .int (k : Int)] = .ok (.tup [ratD (unitR (facN t r p k)), .int (costZ t r p k)]) := by
  have hcs := ok.cs
  have h4 := (cs_small t.cs hcs).1
  have hl := (rows_len t.cs hcs r hr).1
  obtain ⟨c1, c4⟩ := cs_get hcs hp
  have b := e_worth_row ok hl hp
  have fc := fldC (T := TP_loss_step) (by decide +kernel) t
  have fp := fldP (T := TP_loss_step) (by decide +kernel) t
  have lp := len_peo h4
  have ic := idx_cust (cs := t.cs) hp
  have lc := menu_len c4
  have hne : wrow t r p ≠ [] := by
    intro z
    have := wrow_len t r p
    rw [z] at this
    simp at this
    omega
  have hm := max_of hne
  have hx : idxD (.lst ((wrow t r p).map D.int)) (.int (k : Int)) = some (.int (wsum t.ws (r.set p k) p)) := idxD_lst (int_at (wrow_get hk))
  have m3 := mul_sm (a := t.cs.length) (b := cAt t.cs p) (lt100 (by omega)) (lt100 (by omega))
  rw [unit_D (facN_ne ok hp)]
  unfold facN costZ
  rw [if_neg he, if_neg he]
  generalize t.cs.length * cAt t.cs p = y2 at *
  generalize wrow t r p = W at *
  unfold F_loss_step runFn
  simp -implicitDefEqProofs [b_loss_step, t_loss_step_worth_row, b, fp, fc, lp, ic, lc, hm, hx, m3]
end
/-! k83: the rows' steps, as the program makes them -/
def stepAt (t : Town) (r : List Nat) (p k : Nat) : St4 := ⟨rix t.cs r, rix t.cs (r.set p k), unitR (facN t r p k), (costZ t r p k).toNat⟩
def spk (t : Town) (r : List Nat) (p n : Nat) : List St4 := ((List.range n).filter fun k => decide (k ≠ cAt r p)).map (stepAt t r p)
def stepsR (t : Town) (r : List Nat) (n : Nat) : List St4 := (List.range n).flatMap fun p => spk t r p (cAt t.cs p)
def stepsT (t : Town) : List St4 := (rowsOf t.cs).flatMap fun r => stepsR t r t.cs.length
theorem max_ge {W : List Int} {x : Int} (h : x ∈ W) : x ≤ maxI W := (maxI_mem W (fun e => by rw [e] at h; cases h)).2 x h
theorem cost_nn {t : Town} {r : List Nat} {p k : Nat} (hk : k < cAt t.cs p) : 0 ≤ costZ t r p k := by
  unfold costZ
  split
  · split <;> omega
  · have := max_ge (List.mem_of_getElem? (wrow_get (t := t) (r := r) hk))
    omega
theorem stD_at {t : Town} {r : List Nat} {p k : Nat} (hk : k < cAt t.cs p) : stD (stepAt t r p k) = .tup [.int ((rix t.cs r : Nat) : Int), .int ((rix t.cs (r.set p k) : Nat) : Int), ratD (unitR (facN t r p k)), .int (costZ t r p k)] := by
  unfold stD stepAt
  dsimp only
  rw [Int.toNat_of_nonneg (cost_nn hk)]
theorem spk_succ (t : Town) (r : List Nat) (p n : Nat) : spk t r p (n + 1) = spk t r p n ++ if n = cAt r p then [] else [stepAt t r p n] := by
  unfold spk
  rw [List.range_succ, List.filter_append, List.map_append]
  congr 1
  by_cases h : n = cAt r p
  · simp [h]
  · simp [h]
theorem spk_len (t : Town) (r : List Nat) (p n : Nat) : (spk t r p n).length ≤ n := by
  unfold spk
  rw [List.length_map]
  exact Nat.le_trans (List.length_filter_le _ _) (by rw [List.length_range]; exact Nat.le_refl _)
theorem setTR_2 {ss : Ss} {T : Tab} {i j : Nat} {ρ : Ro} {a b : D} : setTR ss T (.tp [i, j]) ρ (.ok (.tup [a, b])) = exs T ss (setAll [i, j] [a, b] ρ) := setTR_ok rfl
theorem sl_even {t : Town} (ok : t.Ok) : eqD (.str t.sl) (.str "even") = some (.bl (decide (t.sl = "even"))) := by
  rcases ok.sl with h | h
  · rw [h]; exact isSome_eq (by decide +kernel)
  · rw [h]; exact isSome_eq (by decide +kernel)
theorem fldS {T : Tab} (h : T.fd "Town" "slips" = true) (t : Town) : fldR T "slips" (townD t) = .ok (.str t.sl) := fldR_at h ((lks ne4).trans ((lks ne5).trans ((lks ne6).trans lk0)))
abbrev bK : Ss := (.cons (.ite (.cmp .NotEq (.var 4) (.idx (.var 1) (.var 3))) (.cons (.set 5 (.call "number_of" (.cons (.var 0) (.cons (.call "with_custom" (.cons (.var 1) (.cons (.var 3) (.cons (.var 4) .nil)))) .nil))))
    (.cons (.ite (.cmp .Eq (.fld (.var 0) "slips") (.str "even")) (.cons (.setT (.tp [6, 7]) (.call "even_step" (.cons (.var 0) (.cons (.var 1) (.cons (.var 3) (.cons (.var 4) .nil))))))
    .nil) (.cons (.setT (.tp [6, 7]) (.call "loss_step" (.cons (.var 0) (.cons (.var 1) (.cons (.var 3) (.cons (.var 4) .nil))))))
    .nil))
    (.cons (.app 2 (.tup (.cons (.call "number_of" (.cons (.var 0) (.cons (.var 1) .nil))) (.cons (.var 5) (.cons (.var 6) (.cons (.var 7) .nil))))))
    .nil))) .nil)
    .nil)
abbrev bPp : Ss := .cons (.for_ (.nm 4) (.rng (.bi .len (.cons (.idx (.fld (.var 0) "customs") (.var 3)) .nil))) bK) .nil
section
variable {t : Town} {r : List Nat}
theorem ts_in (ok : t.Ok) (hr : r ∈ rowsOf t.cs) {p : Nat} (hp : p < t.cs.length) {G : List D} (hG : G.length ≤ 1000) (z4 z5 z6 z7 : Sl) :
    ∃ y4 y5 y6 y7, forL (.nm 4) (exs TP_town_steps bK) (nats (cAt t.cs p)) [.val (townD t), .val (rowD r), .own G, .val (.int (p : Int)), z4, z5, z6, z7] = .nx [.val (townD t), .val (rowD r), .own (G ++ (spk t r p (cAt t.cs p)).map stD), .val (.int (p : Int)), y4, y5, y6, y7] := by
  have hcs := ok.cs
  obtain ⟨hl, hlt⟩ := rows_len t.cs hcs r hr
  obtain ⟨c1, c4⟩ := cs_get hcs hp
  obtain ⟨ρ', hl', y4, y5, y6, y7, hz⟩ := forL_ind (tg := .nm 4) (body := exs TP_town_steps bK) (ds := nats (cAt t.cs p)) (ρ := [.val (townD t), .val (rowD r), .own G, .val (.int (p : Int)), z4, z5, z6, z7])
    (fun i ρ => ∃ y4 y5 y6 y7, ρ = [.val (townD t), .val (rowD r), .own (G ++ (spk t r p i).map stD), .val (.int (p : Int)), y4, y5, y6, y7]) ⟨z4, z5, z6, z7, by simp [spk]⟩ (fun i d ρ hd ⟨y4, y5, y6, y7, hρ⟩ => by
      obtain ⟨hi, rfl⟩ := nats_at hd
      subst hρ
      have a0 := rowOk_tup hl p hp
      rw [spk_succ]
      by_cases hc : i = cAt r p
      · have hc' : (i : Int) = (cAt r p : Int) := by omega
        rw [if_pos hc, List.append_nil]
        refine ⟨_, _, rfl, .inl ?_, .val (.int (i : Int)), y5, y6, y7, rfl⟩
        simp -implicitDefEqProofs [a0, hc']
      · have hc' : ¬ (i : Int) = (cAt r p : Int) := by omega
        rw [if_neg hc, List.map_append, List.map_cons, List.map_nil, stD_at hi, ← List.append_assoc]
        obtain ⟨pr, _⟩ := put_row t.cs hcs r hr p hp i hi
        have w := e_with (r := r) (p := p) (k := i) (by rw [hl]; have := (cs_small t.cs hcs).1; omega)
        have n1 := e_number ok pr
        have n2 := e_number ok hr
        have fs := fldS (T := TP_town_steps) (by decide +kernel) t
        have se := sl_even ok
        have hlen : (G ++ (spk t r p i).map stD).length < 16777216 := by
          have := spk_len t r p i
          rw [List.length_append, List.length_map]
          omega
        refine ⟨_, _, rfl, .inl ?_, .val (.int (i : Int)), .val (.int ((rix t.cs (r.set p i) : Nat) : Int)), .val (ratD (unitR (facN t r p i))), .val (.int (costZ t r p i)), rfl⟩
        generalize G ++ (spk t r p i).map stD = G' at *
        by_cases he : t.sl = "even"
        · have e := e_even ok hr hp hi he
          have se' : eqD (.str t.sl) (.str "even") = some (.bl true) := by rw [se]; simp [he]
          simp -implicitDefEqProofs [a0, hc', t_town_steps_number_of, t_town_steps_with_custom, t_town_steps_even_step, w, n1, n2, fs, se', e, setTR_2, hlen]
        · have e := e_loss ok hr hp hi he
          have se' : eqD (.str t.sl) (.str "even") = some (.bl false) := by rw [se]; simp [he]
          simp -implicitDefEqProofs [a0, hc', t_town_steps_number_of, t_town_steps_with_custom, t_town_steps_loss_step, w, n1, n2, fs, se', e, setTR_2, hlen])
  rw [nats_len] at hz
  subst hz
  exact ⟨y4, y5, y6, y7, hl'⟩
theorem stepsR_succ (t : Town) (r : List Nat) (n : Nat) : stepsR t r (n + 1) = stepsR t r n ++ spk t r n (cAt t.cs n) := range_flat n
theorem stepsR_len (ok : t.Ok) : ∀ n, n ≤ t.cs.length → (stepsR t r n).length ≤ 4 * n
  | 0, _ => by simp [stepsR]
  | n + 1, h => by
    rw [stepsR_succ, List.length_append]
    have := stepsR_len ok n (by omega)
    have := spk_len t r n (cAt t.cs n)
    have := (cs_get ok.cs (j := n) (by omega)).2
    omega
theorem e_town_steps (ok : t.Ok) (hr : r ∈ rowsOf t.cs) : F_town_steps [townD t, rowD r] = .ok (.lst ((stepsR t r t.cs.length).map stD)) := by
  have hcs := ok.cs
  have h4 := (cs_small t.cs hcs).1
  obtain ⟨hl, hlt⟩ := rows_len t.cs hcs r hr
  obtain ⟨ρ', hl', y3, y4, y5, y6, y7, hz⟩ := forL_ind (tg := .nm 3) (body := exs TP_town_steps bPp) (ds := nats r.length) (ρ := [.val (townD t), .val (rowD r), .own [], .no, .no, .no, .no, .no])
    (fun i ρ => ∃ y3 y4 y5 y6 y7, ρ = [.val (townD t), .val (rowD r), .own ((stepsR t r i).map stD), y3, y4, y5, y6, y7]) ⟨.no, .no, .no, .no, .no, rfl⟩ (fun i d ρ hd ⟨y3, y4, y5, y6, y7, hρ⟩ => by
      obtain ⟨hi, rfl⟩ := nats_at hd
      subst hρ
      have hi' : i < t.cs.length := by omega
      have hG := stepsR_len (r := r) ok i (by omega)
      obtain ⟨x4, x5, x6, x7, hin⟩ := ts_in ok hr hi' (G := (stepsR t r i).map stD) (by rw [List.length_map]; omega) y4 y5 y6 y7
      have fc := fldC (T := TP_town_steps) (by decide +kernel) t
      have ic := idx_cust (cs := t.cs) hi'
      have c4 := (cs_get hcs hi').2
      have lc := menu_len c4
      have hr := rngR1_nat (n := cAt t.cs i) (by omega)
      rw [stepsR_succ, List.map_append]
      refine ⟨_, _, rfl, .inl ?_, .val (.int (i : Int)), x4, x5, x6, x7, rfl⟩
      simp -implicitDefEqProofs only [bPp, pvi, pvs, Pu.pv, List.append_nil, exs_for, pubs_nil, atFor_eq, evi_rng, ev_biB, evsB_cons, evsB_nil, ev_varB, ev_idxB, ev_fldB, fldR2_ok, fc, op2_ok, ic, getB_s, getB_0, consR_ok, biR_ok, bi_len, lc, ofO_some, hr, forS_ok, set_s, set_0, hin, thenR_nx, exs_nil])
  subst hz
  have hlr := len_row r
  have hr2 := rngR1_nat (n := r.length) (by omega)
  rw [nats_len, hl] at hl'
  rw [hl] at hlr hr2
  unfold F_town_steps runFn
  simp -implicitDefEqProofs [b_town_steps, hlr, hr2, hl']
end
/-! k83: the rows' steps, as the law makes them -/
theorem rowD_eqv (a b : List Nat) : eqvD (rowD a) (rowD b) = decide (a = b) := by
  have h : ∀ a b : List Nat, eqvDs (a.map fun k : Nat => D.int (k : Int)) (b.map fun k : Nat => D.int (k : Int)) = decide (a = b) := by
    intro a
    induction a with
    | nil => intro b; cases b <;> simp [eqvDs]
    | cons x a ih =>
      intro b
      cases b with
      | nil => simp [eqvDs]
      | cons y b =>
        simp only [List.map_cons, eqvDs, eqvD, ih]
        by_cases h1 : x = y
        · subst h1; simp
        · have : ¬ ((x : Int) = (y : Int)) := by omega
          simp [h1, this]
  unfold rowD
  simp only [eqvD]
  exact h a b
theorem rowD_fit (a : List Nat) (n : Nat) : fitD (rowD a) (n + 2) = true := by
  unfold rowD
  simp only [fitD]
  exact fitDs_mem.mpr fun d hd => by
    obtain ⟨k, _, rfl⟩ := List.mem_map.mp hd
    simp only [fitD]
theorem idx_row {cs q : List Nat} (h : q ∈ rowsOf cs) : idxofR2 (.ok (rowD q)) (.ok (.lst ((rowsOf cs).map rowD))) = .ok (.int ((rix cs q : Nat) : Int)) := by
  refine idxof_fit (rowD_fit q 62) (fitDs_mem.mpr fun d hd => by obtain ⟨y, _, rfl⟩ := List.mem_map.mp hd; exact rowD_fit y 61) ?_
  unfold rix
  generalize rowsOf cs = R at *
  induction R with
  | nil => cases h
  | cons y R ih =>
    rw [List.map_cons, List.findIdx?_cons, rowD_eqv, List.idxOf_cons]
    by_cases e : y = q
    · subst e; simp
    · have hq : q ∈ R := by
        rcases List.mem_cons.mp h with z | z
        · exact absurd z.symm e
        · exact z
      have hb : (y == q) = false := beq_eq_false_iff_ne.mpr e
      simp [e, hb, ih hq]
theorem tops_many (W : List Int) : (W.filter fun w => decide (w = maxI W)).length = (tops W).length := by
  have gen : ∀ (m : Int) (l : List Int), (l.filter fun w => decide (w = m)).length = ((List.range l.length).filter fun k => decide (l[k]? = some m)).length := by
    intro m l
    have e : l = (List.range l.length).map fun k => l.getD k 0 := by
      apply List.ext_getElem?
      intro i
      rw [List.getElem?_map]
      by_cases hi : i < l.length
      · rw [List.getElem?_range hi, Option.map_some, List.getD_eq_getElem?_getD, List.getElem?_eq_getElem hi]
        rfl
      · rw [List.getElem?_eq_none (by omega), List.getElem?_eq_none (by rw [List.length_range]; omega)]
        rfl
    conv => lhs; rw [e]
    rw [List.filter_map, List.length_map]
    congr 1
    apply List.filter_congr
    intro k hk
    have hk := List.mem_range.mp hk
    simp [List.getElem?_eq_getElem hk]
  rw [gen]
  unfold tops nats
  rw [List.filter_map, List.length_map]
  congr 1
def isMax (W : List Int) : D → Bool
  | .int w => decide (w = maxI W)
  | _ => false
theorem fldsD (t : Town) : idxD t.D (.int 2) = some (.str t.sl) := rfl
abbrev bLk : Ss := (.cons (.ite (.cmp .NotEq (.var 8) (.idx (.var 3) (.var 4))) (.cons (.set 9 (.idxof (.var 1) (.call "_law_with" (.cons (.var 3) (.cons (.var 4) (.cons (.var 8) .nil))))))
    (.cons (.set 10 (.tup (.cons (.idxof (.var 1) (.var 3)) (.cons (.var 9) (.cons (.tup (.cons (.int 1) (.cons (.bin .Mult (.bi .len (.cons (.var 3) .nil)) (.bi .len (.cons (.var 5) .nil))) .nil))) (.cons (.bin .Sub (.var 6) (.idx (.var 5) (.var 8))) .nil))))))
    (.cons (.ite (.cmp .Eq (.idx (.var 0) (.int 2)) (.str "even")) (.cons (.set 10 (.tup (.cons (.idxof (.var 1) (.var 3)) (.cons (.var 9) (.cons (.tup (.cons (.int 1) (.cons (.bin .Mult (.bin .Mult (.int 2) (.bi .len (.cons (.var 3) .nil))) (.bi .len (.cons (.var 5) .nil))) .nil))) (.cons (.int 1) .nil))))))
    (.cons (.ite (.cmp .Eq (.idx (.var 5) (.var 8)) (.var 6)) (.cons (.set 10 (.tup (.cons (.idxof (.var 1) (.var 3)) (.cons (.var 9) (.cons (.tup (.cons (.int 1) (.cons (.bin .Mult (.bin .Mult (.int 2) (.bi .len (.cons (.var 3) .nil))) (.var 7)) .nil))) (.cons (.int 0) .nil))))))
    .nil) .nil)
    .nil)) .nil)
    (.cons (.app 2 (.var 10))
    .nil)))) .nil)
    .nil)
section
variable {t : Town} {r : List Nat}
theorem ls_in (ok : t.Ok) (hr : r ∈ rowsOf t.cs) {p : Nat} (hp : p < t.cs.length) {G : List D} (hG : G.length ≤ 1000) (z8 z9 z10 : Sl) :
    ∃ y8 y9 y10, forL (.nm 8) (exs TP_l_town_steps bLk) (nats (cAt t.cs p)) [.val t.D, .val (.lst ((rowsOf t.cs).map rowD)), .own G, .val (rowD r), .val (.int (p : Int)), .val (.lst ((wrow t r p).map D.int)), .val (.int (maxI (wrow t r p))), .val (.int ((tops (wrow t r p)).length : Int)), z8, z9, z10, .no]
      = .nx [.val t.D, .val (.lst ((rowsOf t.cs).map rowD)), .own (G ++ (spk t r p (cAt t.cs p)).map stD), .val (rowD r), .val (.int (p : Int)), .val (.lst ((wrow t r p).map D.int)), .val (.int (maxI (wrow t r p))), .val (.int ((tops (wrow t r p)).length : Int)), y8, y9, y10, .no] := by
  have hcs := ok.cs
  obtain ⟨hl, hlt⟩ := rows_len t.cs hcs r hr
  obtain ⟨c1, c4⟩ := cs_get hcs hp
  have h4 := (cs_small t.cs hcs).1
  obtain ⟨ρ', hl', y8, y9, y10, hz⟩ := forL_ind (tg := .nm 8) (body := exs TP_l_town_steps bLk) (ds := nats (cAt t.cs p))
    (ρ := [.val t.D, .val (.lst ((rowsOf t.cs).map rowD)), .own G, .val (rowD r), .val (.int (p : Int)), .val (.lst ((wrow t r p).map D.int)), .val (.int (maxI (wrow t r p))), .val (.int ((tops (wrow t r p)).length : Int)), z8, z9, z10, .no])
    (fun i ρ => ∃ y8 y9 y10, ρ = [.val t.D, .val (.lst ((rowsOf t.cs).map rowD)), .own (G ++ (spk t r p i).map stD), .val (rowD r), .val (.int (p : Int)), .val (.lst ((wrow t r p).map D.int)), .val (.int (maxI (wrow t r p))), .val (.int ((tops (wrow t r p)).length : Int)), y8, y9, y10, .no]) ⟨z8, z9, z10, by simp [spk]⟩ (fun i d ρ hd ⟨y8, y9, y10, hρ⟩ => by
      obtain ⟨hi, rfl⟩ := nats_at hd
      subst hρ
      have a0 := rowOk_tup hl p hp
      rw [spk_succ]
      by_cases hc : i = cAt r p
      · have hc' : (i : Int) = (cAt r p : Int) := by omega
        rw [if_pos hc, List.append_nil]
        refine ⟨_, _, rfl, .inl ?_, .val (.int (i : Int)), y9, y10, rfl⟩
        simp -implicitDefEqProofs [a0, hc']
      · have hc' : ¬ (i : Int) = (cAt r p : Int) := by omega
        rw [if_neg hc, List.map_append, List.map_cons, List.map_nil, stD_at hi, ← List.append_assoc, unit_D (facN_ne ok hp)]
        obtain ⟨pr, _⟩ := put_row t.cs hcs r hr p hp i hi
        have w := e_lwith (r := r) (p := p) (k := i) (by omega) (by omega)
        have n1 := idx_row pr
        have n2 := idx_row hr
        have se := sl_even ok
        have f2 := fldsD t
        have lr := len_row r
        have lw : lenD (.lst ((wrow t r p).map D.int)) = some (.int (cAt t.cs p : Int)) := by rw [lenD_lst, List.length_map, wrow_len]
        have hx : idxD (.lst ((wrow t r p).map D.int)) (.int (i : Int)) = some (.int (wsum t.ws (r.set p i) p)) := idxD_lst (int_at (wrow_get hi))
        have tl := tops_len (wrow t r p)
        rw [wrow_len] at tl
        rw [hl] at lr
        have m0 := mul_sm (a := t.cs.length) (b := cAt t.cs p) (lt100 (by omega)) (lt100 (by omega))
        have m1 : mulD (.int 2) (.int (t.cs.length : Int)) = some (.int ((2 * t.cs.length : Nat) : Int)) := mul_sm (a := 2) (lt100 (by decide)) (lt100 (by omega))
        have m2 := mul_sm (a := 2 * t.cs.length) (b := (tops (wrow t r p)).length) (lt100 (by omega)) (lt100 (by omega))
        have m3 := mul_sm (a := 2 * t.cs.length) (b := cAt t.cs p) (lt100 (by omega)) (lt100 (by omega))
        have htop : topB (wrow t r p) i = decide (wsum t.ws (r.set p i) p = maxI (wrow t r p)) := by
          unfold topB
          rw [wrow_get hi]
          simp
        have hlen : (G ++ (spk t r p i).map stD).length < 16777216 := by
          have := spk_len t r p i
          rw [List.length_append, List.length_map]
          omega
        refine ⟨_, _, rfl, .inl ?_, .val (.int (i : Int)), .val (.int ((rix t.cs (r.set p i) : Nat) : Int)), .val (.tup [.int ((rix t.cs r : Nat) : Int), .int ((rix t.cs (r.set p i) : Nat) : Int), .tup [.int 1, .int ((facN t r p i : Nat) : Int)], .int (costZ t r p i)]), rfl⟩
        unfold facN costZ
        rw [htop]
        generalize G ++ (spk t r p i).map stD = G' at *
        generalize (rowsOf t.cs).map rowD = R at *
        generalize t.cs.length * cAt t.cs p = u0 at *
        generalize 2 * t.cs.length * (tops (wrow t r p)).length = u1 at *
        generalize 2 * t.cs.length * cAt t.cs p = u2 at *
        generalize ((2 * t.cs.length : Nat) : Int) = u3 at *
        generalize ((tops (wrow t r p)).length : Int) = u4 at *
        generalize (wrow t r p).map D.int = W1 at *
        generalize maxI (wrow t r p) = mx at *
        generalize wsum t.ws (r.set p i) p = w1 at *
        generalize rowD (r.set p i) = q1 at *
        generalize rowD r = q0 at *
        generalize ((rix t.cs (r.set p i) : Nat) : Int) = v1 at *
        generalize ((rix t.cs r : Nat) : Int) = v0 at *
        by_cases he : t.sl = "even"
        · have se' : eqD (.str t.sl) (.str "even") = some (.bl true) := by rw [se]; simp [he]
          rw [if_pos he, if_pos he]
          by_cases hw : w1 = mx
          · simp -implicitDefEqProofs [a0, hc', t_l_town_steps_l_with, w, n1, n2, f2, se', lr, lw, hx, m0, m1, m2, m3, hw, hlen]
          · simp -implicitDefEqProofs [a0, hc', t_l_town_steps_l_with, w, n1, n2, f2, se', lr, lw, hx, m0, m1, m2, m3, hw, hlen]
        · have se' : eqD (.str t.sl) (.str "even") = some (.bl false) := by rw [se]; simp [he]
          rw [if_neg he, if_neg he]
          simp -implicitDefEqProofs [a0, hc', t_l_town_steps_l_with, w, n1, n2, f2, se', lr, lw, hx, m0, m1, m2, m3, hlen])
  rw [nats_len] at hz
  subst hz
  exact ⟨y8, y9, y10, hl'⟩
end
/-! k83: all steps by the law; the machine by the program -/
abbrev bLp : Ss := (.cons (.set 5 (.call "_law_worths" (.cons (.var 0) (.cons (.var 3) (.cons (.var 4) .nil)))))
    (.cons (.set 6 (.bi .max (.cons (.var 5) .nil)))
    (.cons (.set 7 (.bi .len (.cons (.lc [("worth", 11)] (.var 11) (.nm 11) (.seq (.var 5)) (.yes (.cmp .Eq (.var 11) (.var 6)))) .nil)))
    (.cons (.for_ (.nm 8) (.rng (.bi .len (.cons (.var 5) .nil))) bLk)
    .nil))))
abbrev bLr : Ss := .cons (.for_ (.nm 4) (.rng (.bi .len (.cons (.var 3) .nil))) bLp) .nil
theorem many_lc (T : Tab) {W : List Int} {ρ : Ro} (h11 : ∀ x, getB (ρ.set 11 (.val x)) 11 = .ok x) (hv : ∀ x, getV (ρ.set 11 (.val x)) 11 = .ok x) (h6 : ∀ x, getB (ρ.set 11 (.val x)) 6 = .ok (.int (maxI W))) :
    lcL (asg (.nm 11)) (evc T (.yes (.cmp .Eq (.var 11) (.var 6)))) (ev T (.var 11) .val) ρ (W.map D.int) = .ok ((W.map D.int).filter (isMax W)) := by
  rw [lcL_filter (h := id) (p := isMax W) fun d hd => ?_, List.map_id]
  obtain ⟨w, _, rfl⟩ := List.mem_map.mp hd
  refine ⟨_, rfl, ?_, fun _ => ?_⟩
  · simp -implicitDefEqProofs [evc, h11, h6, isMax]
  · simp -implicitDefEqProofs [hv]
theorem many_len (W : List Int) : lenD (.lst ((W.map D.int).filter (isMax W))) = some (.int ((tops W).length : Int)) := by
  rw [lenD_lst, List.filter_map, List.length_map, ← tops_many]
  rfl
section
variable {t : Town} {r : List Nat}
theorem ls_p (ok : t.Ok) (hr : r ∈ rowsOf t.cs) {G : List D} (hG : G.length ≤ 900) (z4 z5 z6 z7 z8 z9 z10 : Sl) :
    ∃ y4 y5 y6 y7 y8 y9 y10, forL (.nm 4) (exs TP_l_town_steps bLp) (nats r.length) [.val t.D, .val (.lst ((rowsOf t.cs).map rowD)), .own G, .val (rowD r), z4, z5, z6, z7, z8, z9, z10, .no]
      = .nx [.val t.D, .val (.lst ((rowsOf t.cs).map rowD)), .own (G ++ (stepsR t r t.cs.length).map stD), .val (rowD r), y4, y5, y6, y7, y8, y9, y10, .no] := by
  have hcs := ok.cs
  obtain ⟨hl, hlt⟩ := rows_len t.cs hcs r hr
  have h4 := (cs_small t.cs hcs).1
  obtain ⟨ρ', hl', y4, y5, y6, y7, y8, y9, y10, hz⟩ := forL_ind (tg := .nm 4) (body := exs TP_l_town_steps bLp) (ds := nats r.length)
    (ρ := [.val t.D, .val (.lst ((rowsOf t.cs).map rowD)), .own G, .val (rowD r), z4, z5, z6, z7, z8, z9, z10, .no])
    (fun i ρ => ∃ y4 y5 y6 y7 y8 y9 y10, ρ = [.val t.D, .val (.lst ((rowsOf t.cs).map rowD)), .own (G ++ (stepsR t r i).map stD), .val (rowD r), y4, y5, y6, y7, y8, y9, y10, .no]) ⟨z4, z5, z6, z7, z8, z9, z10, by simp [stepsR]⟩ (fun i d ρ hd ⟨y4, y5, y6, y7, y8, y9, y10, hρ⟩ => by
      obtain ⟨hi, rfl⟩ := nats_at hd
      subst hρ
      have hi' : i < t.cs.length := by omega
      have hs := stepsR_len (r := r) ok i (by omega)
      obtain ⟨c1, c4⟩ := cs_get hcs hi'
      have lw := e_l_worths ok hl hi'
      have hne : wrow t r i ≠ [] := fun z => by
        have := wrow_len t r i
        rw [z] at this
        simp at this
        omega
      have hm := max_of hne
      have hlw : lenD (.lst ((wrow t r i).map D.int)) = some (.int (cAt t.cs i : Int)) := by rw [lenD_lst, List.length_map, wrow_len]
      have hr2 := rngR1_nat (n := cAt t.cs i) (by omega)
      have ml := many_len (wrow t r i)
      obtain ⟨x8, x9, x10, hin⟩ := ls_in ok hr hi' (G := G ++ (stepsR t r i).map stD) (by rw [List.length_append, List.length_map]; omega) y8 y9 y10
      have hlc := many_lc TP_l_town_steps (W := wrow t r i) (ρ := [.val t.D, .val (.lst ((rowsOf t.cs).map rowD)), .own (G ++ (stepsR t r i).map stD), .val (rowD r), .val (.int (i : Int)), .val (.lst ((wrow t r i).map D.int)), .val (.int (maxI (wrow t r i))), y7, y8, y9, y10, .no]) (fun _ => rfl) (fun _ => rfl) (fun _ => rfl)
      rw [stepsR_succ, List.map_append, ← List.append_assoc]
      refine ⟨_, _, rfl, .inl ?_, .val (.int (i : Int)), .val (.lst ((wrow t r i).map D.int)), .val (.int (maxI (wrow t r i))), .val (.int ((tops (wrow t r i)).length : Int)), x8, x9, x10, rfl⟩
      generalize hF : (List.map D.int (wrow t r i)).filter (isMax (wrow t r i)) = Fl at *
      generalize G ++ (stepsR t r i).map stD = G' at *
      generalize G' ++ (spk t r i (cAt t.cs i)).map stD = G2 at *
      generalize (rowsOf t.cs).map rowD = R at *
      generalize ((tops (wrow t r i)).length : Int) = u4 at *
      generalize (wrow t r i).map D.int = W1 at *
      generalize maxI (wrow t r i) = mx at *
      simp -implicitDefEqProofs [t_l_town_steps_l_worths, lw, hm, lcR_ok hlc, ml, hlw, hr2, hin])
  rw [nats_len, hl] at hz
  subst hz
  exact ⟨y4, y5, y6, y7, y8, y9, y10, hl'⟩
theorem rows_n : ∀ cs ∈ countsL, 0 < (rowsOf cs).length ∧ (rowsOf cs).length ≤ 16 := by decide +kernel
theorem flat_len (ok : t.Ok) : ∀ i, i ≤ (rowsOf t.cs).length → (((rowsOf t.cs).take i).flatMap fun r => stepsR t r t.cs.length).length ≤ 16 * i
  | 0, _ => by simp
  | i + 1, h => by
    have hi : i < (rowsOf t.cs).length := by omega
    rw [take_succ (List.getElem?_eq_getElem hi), List.flatMap_append, List.length_append]
    have a := flat_len ok i (by omega)
    have b := stepsR_len (r := (rowsOf t.cs)[i]) ok t.cs.length (Nat.le_refl _)
    have c := (cs_small t.cs ok.cs).1
    simp only [List.flatMap_cons, List.flatMap_nil, List.append_nil]
    omega
theorem e_l_town_steps (ok : t.Ok) : F_l_town_steps [t.D] = .ok (.lst ((stepsT t).map stD)) := by
  have hcs := ok.cs
  have h4 := (cs_small t.cs hcs).1
  have hrw : F_l_rows [t.D] = .ok (.lst ((rowsOf t.cs).map rowD)) := e_rows hcs _ _
  obtain ⟨ρ', hl', y3, y4, y5, y6, y7, y8, y9, y10, hz⟩ := forL_ind (tg := .nm 3) (body := exs TP_l_town_steps bLr) (ds := (rowsOf t.cs).map rowD)
    (ρ := [.val t.D, .val (.lst ((rowsOf t.cs).map rowD)), .own [], .no, .no, .no, .no, .no, .no, .no, .no, .no])
    (fun i ρ => ∃ y3 y4 y5 y6 y7 y8 y9 y10, ρ = [.val t.D, .val (.lst ((rowsOf t.cs).map rowD)), .own ((((rowsOf t.cs).take i).flatMap fun r => stepsR t r t.cs.length).map stD), y3, y4, y5, y6, y7, y8, y9, y10, .no]) ⟨.no, .no, .no, .no, .no, .no, .no, .no, rfl⟩ (fun i d ρ hd ⟨y3, y4, y5, y6, y7, y8, y9, y10, hρ⟩ => by
      rw [List.getElem?_map] at hd
      obtain ⟨r, hr, rfl⟩ := Option.map_eq_some_iff.mp hd
      subst hρ
      have hm := List.mem_of_getElem? hr
      have hrl := (rows_len t.cs hcs r hm).1
      have hi := (List.getElem?_eq_some_iff.mp hr).1
      have hn := (rows_n t.cs hcs).2
      have fl := flat_len ok i (by omega)
      obtain ⟨x4, x5, x6, x7, x8, x9, x10, hin⟩ := ls_p ok hm (G := (((rowsOf t.cs).take i).flatMap fun r => stepsR t r t.cs.length).map stD) (by rw [List.length_map]; omega) y4 y5 y6 y7 y8 y9 y10
      have hr2 := rngR1_nat (n := r.length) (by omega)
      have hlr := len_row r
      rw [take_succ hr, List.flatMap_append, List.map_append]
      simp only [List.flatMap_cons, List.flatMap_nil, List.append_nil]
      refine ⟨_, _, rfl, .inl ?_, .val (rowD r), x4, x5, x6, x7, x8, x9, x10, rfl⟩
      simp -implicitDefEqProofs only [bLr, pvi, pvs, Pu.pv, List.append_nil, exs_for, pubs_nil, atFor_eq, evi_rng, ev_biB, evsB_cons, evsB_nil, ev_varB, getB_s, getB_0, consR_ok, biR_ok, bi_len, hlr, ofO_some, hr2, forS_ok, set_s, set_0, hin, thenR_nx, exs_nil])
  rw [List.length_map, List.take_length] at hz
  subst hz
  unfold F_l_town_steps runFn
  simp -implicitDefEqProofs [b_l_town_steps, t_l_town_steps_l_rows, hrw, hl']
  rfl
end
/-! k83: the steps are those of a right machine -/
theorem nodup_lt : ∀ (n : Nat) (l : List Nat), l.Nodup → (∀ x ∈ l, x < n) → l.length ≤ n
  | 0, l, _, h => by
    cases l with
    | nil => exact Nat.le_refl _
    | cons x l => exact absurd (h x List.mem_cons_self) (Nat.not_lt_zero _)
  | n + 1, l, nd, h => by
    have h1 := nodup_lt n (l.erase n) (nd.erase n) fun x hx => by
      have h2 := (List.Nodup.mem_erase_iff nd).mp hx
      have := h x h2.2
      omega
    by_cases hm : n ∈ l
    · have := List.length_erase_of_mem hm
      omega
    · rw [List.erase_of_not_mem hm] at h1
      omega
theorem wsum_filter (ws : List Wo) (r : List Nat) (p : Nat) : ∀ s : Int, ws.foldl (fun s x => if hit r p x = true then s + x.w else s) s = s + ((ws.filter (hit r p)).map Wo.w).sum := by
  induction ws with
  | nil => intro s; simp
  | cons x ws ih =>
    intro s
    rw [List.foldl_cons, ih]
    by_cases h : hit r p x = true
    · rw [List.filter_cons_of_pos h, if_pos h, List.map_cons, List.sum_cons]
      omega
    · rw [List.filter_cons_of_neg h, if_neg h]
theorem sum_bound : ∀ (l : List Int), (∀ x ∈ l, -10 ≤ x ∧ x ≤ 10) → -(10 * (l.length : Int)) ≤ l.sum ∧ l.sum ≤ 10 * (l.length : Int)
  | [], _ => by simp
  | x :: l, h => by
    obtain ⟨a, b⟩ := sum_bound l fun y hy => h y (List.mem_cons_of_mem _ hy)
    obtain ⟨c, d⟩ := h x List.mem_cons_self
    rw [List.sum_cons, List.length_cons]
    omega
theorem hits_few {t : Town} (ok : t.Ok) (r : List Nat) {p : Nat} (hp : p < t.cs.length) : (t.ws.filter (hit r p)).length + 1 ≤ t.cs.length := by
  have hH : ∀ x ∈ t.ws.filter (hit r p), x.i = p ∧ cAt r p = x.a ∧ cAt r x.j = x.b ∧ okW t.cs x := fun x hx => by
    obtain ⟨h1, h2⟩ := List.mem_filter.mp hx
    unfold hit at h2
    simp only [Bool.and_eq_true, decide_eq_true_eq] at h2
    exact ⟨h2.1.1, h2.1.2, h2.2, ok.ws x h1⟩
  have nk : ((t.ws.filter (hit r p)).map Wo.key).Nodup := (List.Sublist.map _ List.filter_sublist).nodup ok.nd
  have nj : ((t.ws.filter (hit r p)).map Wo.j).Nodup := by
    unfold List.Nodup at nk ⊢
    rw [List.pairwise_map] at nk ⊢
    refine List.Pairwise.imp_of_mem (fun {x y} hx hy hne e => hne ?_) nk
    obtain ⟨a1, a2, a3, _⟩ := hH x hx
    obtain ⟨b1, b2, b3, _⟩ := hH y hy
    unfold Wo.key
    rw [a1, b1, ← a2, ← b2, ← a3, ← b3, e]
  have nd : (p :: (t.ws.filter (hit r p)).map Wo.j).Nodup := by
    refine List.nodup_cons.mpr ⟨fun hm => ?_, nj⟩
    obtain ⟨x, hx, e⟩ := List.mem_map.mp hm
    obtain ⟨a1, _, _, a4⟩ := hH x hx
    exact a4.2.2.1 (by rw [a1, e])
  have := nodup_lt t.cs.length _ nd fun x hx => by
    rcases List.mem_cons.mp hx with rfl | hx
    · exact hp
    · obtain ⟨y, hy, rfl⟩ := List.mem_map.mp hx
      exact (hH y hy).2.2.2.2.1
  rw [List.length_cons, List.length_map] at this
  exact this
theorem wsum_bound {t : Town} (ok : t.Ok) (r : List Nat) {p : Nat} (hp : p < t.cs.length) : -30 ≤ wsum t.ws r p ∧ wsum t.ws r p ≤ 30 := by
  have h := wsum_filter t.ws r p 0
  have e : wsum t.ws r p = ((t.ws.filter (hit r p)).map Wo.w).sum := by unfold wsum; rw [h]; omega
  obtain ⟨a, b⟩ := sum_bound ((t.ws.filter (hit r p)).map Wo.w) fun z hz => by
    obtain ⟨x, hx, rfl⟩ := List.mem_map.mp hz
    obtain ⟨_, _, _, _, _, h6, h7⟩ := ok.ws x (List.mem_filter.mp hx).1
    exact ⟨h6, h7⟩
  have c := hits_few ok r hp
  have d := (cs_small t.cs ok.cs).1
  rw [List.length_map] at a b
  rw [e]
  omega
section
variable {t : Town}
theorem cost_le (ok : t.Ok) {r : List Nat} {p k : Nat} (hp : p < t.cs.length) (hk : k < cAt t.cs p) : costZ t r p k ≤ 60 := by
  unfold costZ
  split
  · split <;> omega
  · have hne : wrow t r p ≠ [] := fun z => by
      have := wrow_len t r p
      rw [z] at this
      simp at this
      omega
    have hm := (maxI_mem (wrow t r p) hne).1
    have b1 := (wsum_bound ok (r.set p k) hp).1
    have b2 : maxI (wrow t r p) ≤ 30 := by
      generalize maxI (wrow t r p) = m at *
      unfold wrow at hm
      obtain ⟨q, _, rfl⟩ := List.mem_map.mp hm
      exact (wsum_bound ok _ hp).2
    omega
theorem unit_pos {m : Nat} (h : m ≠ 0) : 0 < unitR m := by rw [Rat.lt_iff]; simp [unit_num h]
theorem mem_steps {s : St4} (h : s ∈ stepsT t) : ∃ r p k, r ∈ rowsOf t.cs ∧ p < t.cs.length ∧ k < cAt t.cs p ∧ k ≠ cAt r p ∧ s = stepAt t r p k := by
  unfold stepsT stepsR spk at h
  obtain ⟨r, hr, h⟩ := List.mem_flatMap.mp h
  obtain ⟨p, hp, h⟩ := List.mem_flatMap.mp h
  obtain ⟨k, hk, rfl⟩ := List.mem_map.mp h
  obtain ⟨hk1, hk2⟩ := List.mem_filter.mp hk
  exact ⟨r, p, k, hr, List.mem_range.mp hp, List.mem_range.mp hk1, of_decide_eq_true hk2, rfl⟩
theorem steps_mem {r : List Nat} {p k : Nat} (hr : r ∈ rowsOf t.cs) (hp : p < t.cs.length) (hk : k < cAt t.cs p) (hne : k ≠ cAt r p) : stepAt t r p k ∈ stepsT t := by
  unfold stepsT stepsR spk
  exact List.mem_flatMap.mpr ⟨r, hr, List.mem_flatMap.mpr ⟨p, List.mem_range.mpr hp, List.mem_map.mpr ⟨k, List.mem_filter.mpr ⟨List.mem_range.mpr hk, decide_eq_true hne⟩, rfl⟩⟩⟩
theorem steps_ok (ok : t.Ok) : ∀ s ∈ stepsT t, StOk (rowsOf t.cs).length s := by
  intro s hs
  obtain ⟨r, p, k, hr, hp, hk, hne, rfl⟩ := mem_steps hs
  obtain ⟨p1, p2⟩ := put_row t.cs ok.cs r hr p hp k hk
  refine ⟨rix_lt hr, rix_lt p1, fun e => p2 hne e.symm, unit_pos (facN_ne ok hp), ?_⟩
  have a := cost_le ok (r := r) hp hk
  have b := cost_nn (t := t) (r := r) (p := p) hk
  show (costZ t r p k).toNat ≤ 60
  omega
/-! the sums of chances -/
def uN (M : Nat) (s : St4) : Nat := M / s.f.den
theorem part_unit {M m : Nat} (hm : m ≠ 0) (hd : m ∣ M) : Part M (M / m) (unitR m) := by
  obtain ⟨q, rfl⟩ := hd
  rw [Nat.mul_div_cancel_left q (Nat.pos_of_ne_zero hm)]
  unfold Part unitR
  rw [Rat.mkRat_eq_div, Rat.natCast_mul]
  have h0 : ((m : Nat) : Rat) ≠ 0 := by
    intro e
    exact hm (Rat.natCast_inj.mp e)
  have key : ∀ a b : Rat, a ≠ 0 → 1 / a * (a * b) = b := by
    intro a b h
    grind
  exact key _ _ h0
theorem fac_dvd (ok : t.Ok) {r : List Nat} {p k : Nat} (hp : p < t.cs.length) (hk : k < cAt t.cs p) : facN t r p k ∣ 24 * t.cs.length := by
  have c4 := (cs_get ok.cs hp).2
  have tl := tops_len (wrow t r p)
  rw [wrow_len] at tl
  have small : ∀ m, m ≤ 4 → m ≠ 0 → m ∣ 12 := by decide
  have h2 : ∀ m, m ∣ 12 → 2 * t.cs.length * m ∣ 24 * t.cs.length := fun m ⟨q, hq⟩ => ⟨q, by
    rw [show (24 : Nat) = 2 * 12 from rfl, hq]
    rw [Nat.mul_assoc 2 t.cs.length m, Nat.mul_assoc 2 (t.cs.length * m) q, Nat.mul_assoc 2 (m * q) t.cs.length, Nat.mul_assoc t.cs.length m q, Nat.mul_comm (m * q) t.cs.length]⟩
  unfold facN
  split
  · split
    · rename_i h
      exact h2 _ (small _ (by omega) (tops_pos h))
    · exact h2 _ (small _ (by omega) (by omega))
  · obtain ⟨q, hq⟩ := small (cAt t.cs p) (by omega) (by omega)
    refine ⟨2 * q, ?_⟩
    rw [show (24 : Nat) = 2 * 12 from rfl, hq]
    ac_rfl
/-- the weight of a step in parts -/
theorem u_step (ok : t.Ok) {r : List Nat} {p k : Nat} (hp : p < t.cs.length) : uN (24 * t.cs.length) (stepAt t r p k) = 24 * t.cs.length / facN t r p k := by
  unfold uN stepAt
  dsimp only
  rw [unit_den (facN_ne ok hp)]
theorem start_step {r : List Nat} {p k : Nat} : (stepAt t r p k).s = rix t.cs r := rfl
/-- how many of the first are greatest -/
def topsN (W : List Int) (n : Nat) : Nat := ((List.range n).filter (topB W)).length
theorem topsN_all (W : List Int) : topsN W W.length = (tops W).length := by
  unfold topsN tops nats
  rw [List.filter_map, List.length_map]
  rfl
theorem topsN_succ (W : List Int) (n : Nat) : topsN W (n + 1) = topsN W n + if topB W n = true then 1 else 0 := by
  unfold topsN
  rw [List.range_succ, List.filter_append, List.length_append]
  by_cases h : topB W n = true
  · simp [h]
  · simp [h]
theorem div24 {P m : Nat} (hP : 0 < P) : 24 * P / (2 * P * m) = 12 / m := by
  rw [show 24 * P = (2 * P) * 12 by omega]
  exact Nat.mul_div_mul_left 12 m (by omega)
theorem div24' {P m : Nat} (hP : 0 < P) : 24 * P / (P * m) = 24 / m := by
  rw [Nat.mul_comm 24 P]
  exact Nat.mul_div_mul_left 24 m hP
theorem part_person (ok : t.Ok) {r : List Nat} {p : Nat} (hp : p < t.cs.length) : partSum (uN (24 * t.cs.length)) (rix t.cs r) (spk t r p (cAt t.cs p)) ≤ 24 := by
  have hP : 0 < t.cs.length := by omega
  have c1 := (cs_get ok.cs hp).1
  have go : ∀ n, n ≤ cAt t.cs p → partSum (uN (24 * t.cs.length)) (rix t.cs r) (spk t r p n) ≤ if t.sl = "even" then topsN (wrow t r p) n * (12 / (tops (wrow t r p)).length) + n * (12 / cAt t.cs p) else n * (24 / cAt t.cs p) := by
    intro n
    induction n with
    | zero => intro _; exact Nat.zero_le _
    | succ n ih =>
      intro hn
      have ih := ih (by omega)
      rw [spk_succ, partSum_app]
      have one : partSum (uN (24 * t.cs.length)) (rix t.cs r) (if n = cAt r p then [] else [stepAt t r p n]) ≤ 24 * t.cs.length / facN t r p n := by
        split
        · exact Nat.zero_le _
        · rw [partSum_cons, if_pos start_step, u_step ok hp]
          exact Nat.le_refl _
      refine Nat.le_trans (Nat.add_le_add ih one) ?_
      unfold facN
      by_cases he : t.sl = "even"
      · rw [if_pos he, if_pos he, if_pos he, topsN_succ]
        by_cases hb : topB (wrow t r p) n = true
        · rw [if_pos hb, if_pos hb, div24 hP, Nat.add_mul, Nat.one_mul, Nat.add_mul]
          omega
        · rw [if_neg hb, if_neg hb, div24 hP, Nat.add_zero, Nat.add_mul, Nat.one_mul]
          omega
      · rw [if_neg he, if_neg he, if_neg he, div24' hP, Nat.add_mul, Nat.one_mul]
        omega
  refine Nat.le_trans (go _ (Nat.le_refl _)) ?_
  split
  · have e := topsN_all (wrow t r p)
    rw [wrow_len] at e
    rw [e]
    have a := Nat.mul_div_le 12 (tops (wrow t r p)).length
    have b := Nat.mul_div_le 12 (cAt t.cs p)
    omega
  · exact Nat.mul_div_le 24 _
theorem part_row (ok : t.Ok) {r : List Nat} : ∀ n, n ≤ t.cs.length → partSum (uN (24 * t.cs.length)) (rix t.cs r) (stepsR t r n) ≤ 24 * n
  | 0, _ => Nat.le_refl _
  | n + 1, h => by
    rw [stepsR_succ, partSum_app]
    have a := part_row ok (r := r) n (by omega)
    have b := part_person ok (r := r) (p := n) (by omega)
    omega
theorem part_other {M x : Nat} {r : List Nat} (h : rix t.cs r ≠ x) (n : Nat) : partSum (uN M) x (stepsR t r n) = 0 := by
  have gen : ∀ l : List St4, (∀ s ∈ l, s.s ≠ x) → partSum (uN M) x l = 0 := by
    intro l
    induction l with
    | nil => intro _; rfl
    | cons s l ih =>
      intro hl
      rw [partSum_cons, if_neg (hl s List.mem_cons_self), ih fun y hy => hl y (List.mem_cons_of_mem _ hy)]
  refine gen _ fun s hs => ?_
  unfold stepsR spk at hs
  obtain ⟨p, _, hs⟩ := List.mem_flatMap.mp hs
  obtain ⟨k, _, rfl⟩ := List.mem_map.mp hs
  exact h
theorem rows_ix : ∀ cs ∈ countsL, (rowsOf cs).map ((rowsOf cs).idxOf) = List.range (rowsOf cs).length := by decide +kernel
theorem sum_range (M x : Nat) : ∀ n, ((List.range n).map fun i => if i = x then M else 0).sum ≤ (if x < n then M else 0)
  | 0 => Nat.zero_le _
  | n + 1 => by
    have ih := sum_range M x n
    rw [List.range_succ, List.map_append, List.sum_append]
    simp only [List.map_cons, List.map_nil, List.sum_cons, List.sum_nil]
    by_cases h1 : x < n
    · rw [if_pos h1] at ih
      rw [if_neg (by omega), if_pos (by omega)]
      omega
    · rw [if_neg h1] at ih
      by_cases h2 : n = x
      · rw [if_pos h2, if_pos (by omega)]
        omega
      · rw [if_neg h2]
        omega
theorem part_all (ok : t.Ok) (x : Nat) : partSum (uN (24 * t.cs.length)) x (stepsT t) ≤ 24 * t.cs.length := by
  have gen : ∀ l : List (List Nat), partSum (uN (24 * t.cs.length)) x (l.flatMap fun r => stepsR t r t.cs.length) ≤ ((l.map (rix t.cs)).map fun i => if i = x then 24 * t.cs.length else 0).sum := by
    intro l
    induction l with
    | nil => exact Nat.le_refl _
    | cons r l ih =>
      rw [List.flatMap_cons, partSum_app, List.map_cons, List.map_cons, List.sum_cons]
      by_cases h : rix t.cs r = x
      · rw [if_pos h, ← h]
        rw [← h] at ih
        have := part_row ok (r := r) t.cs.length (Nat.le_refl _)
        omega
      · rw [if_neg h, part_other h]
        omega
  refine Nat.le_trans (gen (rowsOf t.cs)) ?_
  have e : (rowsOf t.cs).map (rix t.cs) = List.range (rowsOf t.cs).length := rows_ix t.cs ok.cs
  rw [e]
  refine Nat.le_trans (sum_range _ x _) ?_
  split
  · exact Nat.le_refl _
  · exact Nat.zero_le _
end
/-! k83: every row is reached; the machine of the town -/
def mixR (r q : List Nat) (p : Nat) : List Nat := q.take p ++ r.drop p
def dcnt (r q : List Nat) (p : Nat) : Nat := ((List.range p).filter fun i => decide (cAt q i ≠ cAt r i)).length
theorem k_mix : ∀ cs ∈ countsL, ∀ r ∈ rowsOf cs, ∀ q ∈ rowsOf cs, dcnt r q cs.length ≤ (rowsOf cs).length ∧ mixR r q cs.length = q ∧
    ∀ p, p < cs.length → mixR r q p ∈ rowsOf cs ∧ mixR r q (p + 1) = (mixR r q p).set p (cAt q p) ∧ cAt (mixR r q p) p = cAt r p := by decide +kernel
theorem dcnt_succ (r q : List Nat) (p : Nat) : dcnt r q (p + 1) = dcnt r q p + if cAt q p ≠ cAt r p then 1 else 0 := by
  unfold dcnt
  rw [List.range_succ, List.filter_append, List.length_append]
  by_cases h : cAt q p = cAt r p
  · simp [h]
  · simp [h]
section
variable {t : Town}
theorem way_mix (ok : t.Ok) {r q : List Nat} (hr : r ∈ rowsOf t.cs) (hq : q ∈ rowsOf t.cs) : ∀ p, p ≤ t.cs.length → Way (stepsT t) (dcnt r q p) (rix t.cs r) (rix t.cs (mixR r q p))
  | 0, _ => by
    show Way _ 0 _ _
    have : mixR r q 0 = r := by simp [mixR]
    rw [this]
    exact .nil _
  | p + 1, h => by
    have ih := way_mix ok hr hq p (by omega)
    obtain ⟨_, _, km⟩ := k_mix t.cs ok.cs r hr q hq
    obtain ⟨m1, m2, m3⟩ := km p (by omega)
    rw [dcnt_succ, m2]
    by_cases e : cAt q p = cAt r p
    · rw [if_neg (by simp [e])]
      have hl := (rows_len t.cs ok.cs _ m1).1
      have hs : (mixR r q p).set p (cAt q p) = mixR r q p := by
        rw [e, ← m3]
        unfold cAt
        have : p < (mixR r q p).length := by omega
        simp [this]
      rw [hs]
      exact ih
    · rw [if_pos e]
      have hk := (rows_len t.cs ok.cs q hq).2 p (by omega)
      exact Way.snoc (t := stepAt t (mixR r q p) p (cAt q p)) ih (steps_mem m1 (by omega) hk (by rw [m3]; exact e)) rfl
theorem row_at (ok : t.Ok) {x : Nat} (hx : x < (rowsOf t.cs).length) : ∃ r ∈ rowsOf t.cs, rix t.cs r = x := by
  have e := rows_ix t.cs ok.cs
  have := congrArg (fun l => l[x]?) e
  simp only [List.getElem?_map, List.getElem?_range hx, List.getElem?_eq_getElem hx, Option.map_some, Option.some.injEq] at this
  exact ⟨(rowsOf t.cs)[x], List.getElem_mem hx, this⟩
theorem joined (ok : t.Ok) : Joined (rowsOf t.cs).length (stepsT t) := by
  intro x y hx hy
  obtain ⟨r, hr, rfl⟩ := row_at ok hx
  obtain ⟨q, hq, rfl⟩ := row_at ok hy
  obtain ⟨k1, k2, _⟩ := k_mix t.cs ok.cs r hr q hq
  have w := way_mix ok hr hq t.cs.length (Nat.le_refl _)
  rw [k2] at w
  exact ⟨_, k1, w⟩
theorem stepsT_len (ok : t.Ok) : (stepsT t).length ≤ 256 := by
  have a := flat_len ok (rowsOf t.cs).length (Nat.le_refl _)
  rw [List.take_length] at a
  have b := (rows_n t.cs ok.cs).2
  have : (stepsT t).length ≤ 16 * (rowsOf t.cs).length := a
  omega
theorem mach_ok (ok : t.Ok) : MachOk (rowsOf t.cs).length (stepsT t) where
  small := by have := (rows_n t.cs ok.cs).2; omega
  len := by have := stepsT_len ok; omega
  st := steps_ok ok
  out := fun x hx => by
    have h4 := (cs_small t.cs ok.cs).1
    have h0 : 0 < t.cs.length := by
      have : ∀ cs ∈ countsL, 0 < cs.length := by decide
      exact this t.cs ok.cs
    refine ⟨24 * t.cs.length, uN (24 * t.cs.length), by omega, Nat.lt_of_lt_of_le (show 24 * t.cs.length < 128 by omega) (by decide), fun s hs hx => ?_, part_all ok x⟩
    obtain ⟨r, p, k, hr, hp, hk, hne, rfl⟩ := mem_steps hs
    rw [u_step ok hp]
    exact part_unit (facN_ne ok hp) (fac_dvd ok hp hk)
  joined := joined ok
/-! names -/
def nmD : D → D
  | .int i => .str ((Str.empty ++ ("s" : Str)) ++ (toString i : Str))
  | _ => .non
def nms (n : Nat) : List D := (nats n).map nmD
theorem k_names : ∀ n, n < 17 → n ≠ 0 → isOk (F_checked_names [.tup (nms n)]) (.tup (nms n)) = true ∧ isOk (F_frozen [.lst (nms n)]) (.tup (nms n)) = true := by decide +kernel
theorem nms_len (n : Nat) : (nms n).length = n := by unfold nms; rw [List.length_map, nats_len]
theorem k_short : ∀ n : Nat, n < 17 → (Str.empty ++ ("s" : Str)).length ≤ 16777216 ∧ ((Str.empty ++ ("s" : Str)) ++ (toString (n : Int) : Str)).length ≤ 16777216 := by decide +kernel
theorem name_lc (T : Tab) {ρ : Ro} (h4 : ∀ x, getB (ρ.set 4 (.val x)) 4 = .ok x) {n : Nat} (hn : n < 17) : lcL (asg (.nm 4)) (evc T .no) (ev T (.joined (.cons (.str "s") (.cons (.fmt (.var 4)) .nil))) .val) ρ (nats n) = .ok (nms n) := by
  unfold nms
  rw [lcL_map (h := nmD) fun d hd => ?_]
  obtain ⟨i, hi⟩ := List.mem_iff_getElem?.mp hd
  obtain ⟨hi', rfl⟩ := nats_at hi
  obtain ⟨s1, s2⟩ := k_short i (by omega)
  have f := fmtD_int (i := (i : Int)) (by
    rw [Int.natAbs_natCast]
    exact Nat.lt_of_lt_of_le (show i < 2 ^ 5 by omega) (Nat.pow_le_pow_right (by decide) (by decide)))
  refine ⟨_, rfl, evc_no, ?_⟩
  have e : nmD (.int (i : Int)) = .str ((Str.empty ++ ("s" : Str)) ++ (toString (i : Int) : Str)) := rfl
  rw [e]
  generalize (toString (i : Int) : Str) = S at *
  simp -implicitDefEqProofs [joinR2_ok s1, h4, f, joinR2_ok s2]
theorem frz_steps (ts : List St4) : frz (.lst (ts.map stD)) = stsD ts := by
  simp only [frz, frzs_map, List.map_map]
  rfl
theorem flat_steps (ts : List St4) : flatTo (.lst (ts.map stD)) 5 = true := by
  simp only [flatTo]
  rw [flatsTo_mem]
  intro d hd
  obtain ⟨x, _, rfl⟩ := List.mem_map.mp hd
  rfl
abbrev bTm : Ss := (.cons (.set 1 (.bin .Add (.var 1) (.call "town_steps" (.cons (.var 0) (.cons (.var 3) .nil))))) .nil)
theorem e_town_machine (ok : t.Ok) : F_town_machine [townD t] = .ok (machD (nms (rowsOf t.cs).length) (stepsT t) 1) := by
  have hcs := ok.cs
  obtain ⟨n1, n2⟩ := rows_n t.cs hcs
  have ev := e_every ok
  obtain ⟨k1, k2⟩ := k_names (rowsOf t.cs).length (by omega) (by omega)
  have mk := mach_ok ok
  rw [show (rowsOf t.cs).length = (nms (rowsOf t.cs).length).length from (nms_len _).symm] at mk
  have hM : F_Machine [.lst (nms (rowsOf t.cs).length), .lst ((stepsT t).map stD)] = .ok (machD (nms (rowsOf t.cs).length) (stepsT t) 1) :=
    m_make mk (isOk_eq k2) (by rw [e_frozen (flat_steps _), frz_steps]) (isOk_eq k1)
  obtain ⟨ρ', hl', s1, z, hz, hs1⟩ := forL_ind (tg := .nm 3) (body := exs TP_town_machine bTm) (ds := (rowsOf t.cs).map rowD)
    (ρ := [.val (townD t), .own [], .val (.lst ((rowsOf t.cs).map rowD)), .no, .no])
    (fun i ρ => ∃ s1 z, ρ = [.val (townD t), s1, .val (.lst ((rowsOf t.cs).map rowD)), z, .no] ∧ ((i = 0 ∧ s1 = .own []) ∨ s1 = .val (.lst ((((rowsOf t.cs).take i).flatMap fun r => stepsR t r t.cs.length).map stD)))) ⟨_, _, rfl, .inl ⟨rfl, rfl⟩⟩ (fun i d ρ hd ⟨s1, z, hρ, hs1⟩ => by
      rw [List.getElem?_map] at hd
      obtain ⟨r, hr, rfl⟩ := Option.map_eq_some_iff.mp hd
      subst hρ
      have hm := List.mem_of_getElem? hr
      have hi := (List.getElem?_eq_some_iff.mp hr).1
      have st := e_town_steps ok hm
      have fl := flat_len ok i (by omega)
      have sl := stepsR_len (r := r) ok t.cs.length (Nat.le_refl _)
      have h4 := (cs_small t.cs hcs).1
      have ad : addD (.lst ((((rowsOf t.cs).take i).flatMap fun r => stepsR t r t.cs.length).map stD)) (.lst ((stepsR t r t.cs.length).map stD)) = some (.lst ((((rowsOf t.cs).take (i + 1)).flatMap fun r => stepsR t r t.cs.length).map stD)) := by
        rw [addD_lst (by rw [List.length_map, List.length_map]; omega), take_succ hr, List.flatMap_append, List.map_append]
        simp only [List.flatMap_cons, List.flatMap_nil, List.append_nil]
      refine ⟨_, _, rfl, .inl ?_, .val (.lst ((((rowsOf t.cs).take (i + 1)).flatMap fun r => stepsR t r t.cs.length).map stD)), .val (rowD r), rfl, .inr rfl⟩
      rcases hs1 with ⟨rfl, rfl⟩ | rfl
      · replace ad : addD (.lst []) (.lst ((stepsR t r t.cs.length).map stD)) = some (.lst ((((rowsOf t.cs).take (0 + 1)).flatMap fun r => stepsR t r t.cs.length).map stD)) := ad
        generalize (((rowsOf t.cs).take (0 + 1)).flatMap fun r => stepsR t r t.cs.length).map stD = G2 at *
        generalize (stepsR t r t.cs.length).map stD = G3 at *
        simp -implicitDefEqProofs [t_town_machine_town_steps, st, ad]
      · generalize (((rowsOf t.cs).take (i + 1)).flatMap fun r => stepsR t r t.cs.length).map stD = G2 at *
        generalize (((rowsOf t.cs).take i).flatMap fun r => stepsR t r t.cs.length).map stD = G at *
        generalize (stepsR t r t.cs.length).map stD = G3 at *
        simp -implicitDefEqProofs [t_town_machine_town_steps, st, ad])
  rw [List.length_map, List.take_length] at hs1 
  replace hs1 : s1 = .val (.lst ((stepsT t).map stD)) := by
    rcases hs1 with ⟨h0, _⟩ | h
    · omega
    · exact h
  subst hz
  subst hs1
  have hlen : lenD (.lst ((rowsOf t.cs).map rowD)) = some (.int ((rowsOf t.cs).length : Nat)) := by rw [lenD_lst, List.length_map]
  have hr := rngR1_nat (n := (rowsOf t.cs).length) (by omega)
  have hlc := name_lc TP_town_machine (ρ := [.val (townD t), .val (.lst ((stepsT t).map stD)), .val (.lst ((rowsOf t.cs).map rowD)), z, .no]) (fun _ => rfl) (n := (rowsOf t.cs).length) (by omega)
  generalize nms (rowsOf t.cs).length = NN at *
  generalize (stepsT t).map stD = GG at *
  generalize hRR : (rowsOf t.cs).map rowD = RR at *
  unfold F_town_machine runFn
  simp -implicitDefEqProofs [b_town_machine, t_town_machine_every_row, t_town_machine_Machine, ev, hl', hlen, hr, lcR_ok hlc, hM]
end
/-! k83: the law -/
theorem k_frzd : ∀ cs ∈ countsL, isOk (F_frozen [custD cs]) (custT cs) = true := by decide +kernel
theorem l_lpeople {t : Town} (ok : t.Ok) : F_l_people [t.D] = .ok (l_peo t.cs.length) := by
  have hn := (cs_small t.cs ok.cs).1
  have i0 : idxD t.D (.int 0) = some (custD t.cs) := rfl
  have hlen : lenD (custD t.cs) = some (.int (t.cs.length : Int)) := by unfold custD; rw [lenD_lst, List.length_map]
  have hs : slcD (.lst names4) none (some (t.cs.length : Int)) = some (l_peo t.cs.length) := by
    show some (D.lst (cutD _ _ _)) = _
    rw [cut_to (by exact hn)]
    rfl
  unfold names4 at hs
  unfold F_l_people runFn
  simp -implicitDefEqProofs [b_l_people, i0, hlen, hs]
def nmD2 : D → D
  | .int i => .str (("s" : Str) ++ (toString i : Str))
  | _ => .non
def nms2 (n : Nat) : List D := (nats n).map nmD2
theorem k_nms : ∀ n, n < 17 → isSome (neD (.tup (nms n)) (.tup (nms2 n))) (.bl false) = true := by decide +kernel
theorem k_strD : ∀ n : Nat, n < 17 → isSome (strD (.int (n : Int))) (.str (toString (n : Int))) = true ∧ (("s" : Str).length + (toString (n : Int) : Str).length ≤ 16777216) := by decide +kernel
theorem name2_lc (T : Tab) {ρ : Ro} (h7 : ∀ x, getB (ρ.set 7 (.val x)) 7 = .ok x) {n : Nat} (hn : n < 17) : lcL (asg (.nm 7)) (evc T .no) (ev T (.bin .Add (.str "s") (.bi .str (.cons (.var 7) .nil))) .val) ρ (nats n) = .ok (nms2 n) := by
  unfold nms2
  rw [lcL_map (h := nmD2) fun d hd => ?_]
  obtain ⟨i, hi⟩ := List.mem_iff_getElem?.mp hd
  obtain ⟨hi', rfl⟩ := nats_at hi
  obtain ⟨s1, s2⟩ := k_strD i (by omega)
  have s1 := isSome_eq s1
  refine ⟨_, rfl, evc_no, ?_⟩
  have e : nmD2 (.int (i : Int)) = .str (("s" : Str) ++ (toString (i : Int) : Str)) := rfl
  have bi : BI.fn .str [.int (i : Int)] = strD (.int (i : Int)) := rfl
  rw [e]
  generalize (toString (i : Int) : Str) = S at *
  simp -implicitDefEqProofs [h7, bi, s1, addD_str s2]
theorem e_lwhole (i : Int) : F_l_whole [.int i] = .ok (.bl true) := rfl
theorem e_lratio (f : Rat) : F_l_is_ratio [ratD f, ratD f] = .ok (.bl true) := by
  show F_l_is_ratio [.tup [.int f.num, .int (f.den : Int)], .tup [.int f.num, .int (f.den : Int)]] = _
  unfold F_l_is_ratio runFn
  simp -implicitDefEqProofs [b_l_is_ratio, t_l_is_ratio_l_whole, e_lwhole, ix0, ix1, tyR_ok (show isTy .tuple (.tup [.int f.num, .int (f.den : Int)]) = some true from rfl)]
theorem fit_steps (ts : List St4) : fitD (stsD ts) 64 = true := by
  unfold stsD
  simp only [fitD]
  exact fitDs_mem.mpr fun d hd => by
    obtain ⟨s, _, rfl⟩ := List.mem_map.mp hd
    rfl
theorem ne_steps (ts : List St4) : neD (stsD ts) (stsD ts) = some (.bl false) := by
  rw [neD_fit (fit_steps ts) (fit_steps ts), eqvD_refl _ 64 (fit_steps ts)]
  rfl
theorem mc1 : ¬ (("steps" : Str) = "names") := by decide +kernel
theorem mc2 : ¬ (("first" : Str) = "names") := by decide +kernel
theorem mc3 : ¬ (("first" : Str) = "steps") := by decide +kernel
section
variable {names : List D} {ts : List St4} {r : Rat}
theorem fm_names {T : Tab} (h : T.fd "Machine" "names" = true) : fldR T "names" (machD names ts r) = .ok (.tup names) := fldR_at h lk0
theorem fm_steps {T : Tab} (h : T.fd "Machine" "steps" = true) : fldR T "steps" (machD names ts r) = .ok (stsD ts) := fldR_at h ((lks mc1).trans lk0)
theorem fm_first {T : Tab} (h : T.fd "Machine" "first" = true) : fldR T "first" (machD names ts r) = .ok (ratD r) := fldR_at h ((lks mc2).trans ((lks mc3).trans lk0))
end
abbrev bFin : Ss := (.cons (.ite (.ors (.cons (.not_ (.call "_law_is_ratio" (.cons (.idx (.idx (.fld (.var 5) "steps") (.var 7)) (.int 2)) (.cons (.idx (.idx (.var 6) (.var 7)) (.int 2)) .nil)))) (.cons (.not_ (.call "_law_whole" (.cons (.idx (.idx (.fld (.var 5) "steps") (.var 7)) (.int 3)) .nil))) .nil))) (.cons (.ret (.yes (.bl false))) .nil) .nil) .nil)
abbrev bSl : Ss := (.cons (.set 4 (.lst (.cons (.idx (.var 1) (.int 0)) (.cons (.idx (.var 1) (.int 1)) (.cons (.var 3) .nil)))))
    (.cons (.set 5 (.call "town_machine" (.cons (.callk "Town" (.cons (.var 2) (.cons (.idx (.var 1) (.int 0)) (.cons (.idx (.var 1) (.int 1)) .nil))) ["slips"] (.cons (.var 3) .nil)) .nil)))
    (.cons (.set 6 (.call "_law_town_steps" (.cons (.var 4) .nil)))
    (.cons (.ite (.ors (.cons (.cmp .NotEq (.fld (.var 5) "first") (.tup (.cons (.int 1) (.cons (.int 1) .nil)))) (.cons (.cmp .NotEq (.fld (.var 5) "names") (.bi .tuple (.cons (.lc [("k", 7)] (.bin .Add (.str "s") (.bi .str (.cons (.var 7) .nil))) (.nm 7) (.rng (.bi .len (.cons (.call "_law_rows" (.cons (.var 4) .nil)) .nil))) .no) .nil))) .nil))) (.cons (.ret (.yes (.bl false)))
    .nil) .nil)
    (.cons (.ite (.ors (.cons (.not_ (.isi1 (.fld (.var 5) "steps") .tuple)) (.cons (.cmp .NotEq (.fld (.var 5) "steps") (.bi .tuple (.cons (.var 6) .nil))) .nil))) (.cons (.ret (.yes (.bl false)))
    .nil) .nil)
    (.cons (.for_ (.nm 7) (.rng (.bi .len (.cons (.var 6) .nil))) bFin)
    .nil))))))
theorem one_D : D.tup [.int 1, .int 1] = ratD 1 := rfl
theorem ne_one : neD (ratD 1) (ratD 1) = some (.bl false) := isSome_eq (by decide +kernel)
theorem fin_loop (T : Tab) {Fr Fw : List D → Res D} (h1 : T.fn "_law_is_ratio" 2 = some Fr) (h2 : T.fn "_law_whole" 1 = some Fw) (e1 : ∀ f : Rat, Fr [ratD f, ratD f] = .ok (.bl true)) (e2 : ∀ i : Int, Fw [.int i] = .ok (.bl true)) (hf : T.fd "Machine" "steps" = true) {names : List D} {ts : List St4} {r : Rat} {s0 s1 s2 s3 s4 z : Sl} :
    ∃ y, forL (.nm 7) (exs T bFin) (nats ts.length) [s0, s1, s2, s3, s4, .val (machD names ts r), .val (.lst (ts.map stD)), z] = .nx [s0, s1, s2, s3, s4, .val (machD names ts r), .val (.lst (ts.map stD)), y] := by
  obtain ⟨ρ', hl', y, hz⟩ := forL_ind (tg := .nm 7) (body := exs T bFin) (ds := nats ts.length) (ρ := [s0, s1, s2, s3, s4, .val (machD names ts r), .val (.lst (ts.map stD)), z])
    (fun i ρ => ∃ y, ρ = [s0, s1, s2, s3, s4, .val (machD names ts r), .val (.lst (ts.map stD)), y]) ⟨z, rfl⟩ (fun i d ρ hd ⟨y, hρ⟩ => by
      obtain ⟨hi, rfl⟩ := nats_at hd
      subst hρ
      have hx : (ts.map stD)[i]? = some (stD ts[i]) := by rw [List.getElem?_map, List.getElem?_eq_getElem hi]; rfl
      have hx1 : idxD (stsD ts) (.int (i : Int)) = some (stD ts[i]) := idxD_tup hx
      have hx2 := idxD_lst hx
      have i2 : idxD (stD ts[i]) (.int 2) = some (ratD ts[i].f) := four2
      have i3 : idxD (stD ts[i]) (.int 3) = some (.int (ts[i].c : Nat)) := four3
      have f1 := fm_steps (names := names) (ts := ts) (r := r) hf
      refine ⟨_, _, rfl, .inl ?_, .val (.int (i : Int)), rfl⟩
      simp -implicitDefEqProofs [h1, h2, e1, e2, f1, hx1, hx2, i2, i3])
  subst hz
  exact ⟨y, hl'⟩
section
variable {t : Town}
theorem slips_ok (ok : t.Ok) {sl : Str} (hsl : sl = "even" ∨ sl = "loss") {s0 z3 z4 z5 z6 z7 : Sl} :
    ∃ y4 y5 y6 y7, exs TP_law bSl [s0, .val t.D, .val (l_peo t.cs.length), .val (.str sl), z4, z5, z6, z7] = .nx [s0, .val t.D, .val (l_peo t.cs.length), .val (.str sl), y4, y5, y6, y7] := by
  obtain ⟨cs, ws, sl0⟩ := t
  have ok2 : (Town.mk cs ws sl).Ok := ⟨ok.cs, ok.ws, ok.nd, hsl, ok.len⟩
  have hcs : cs ∈ countsL := ok.cs
  obtain ⟨n1, n2⟩ := rows_n cs hcs
  have g1 := e_TownG ok2 ok.len (isOk_eq (k_frzd cs hcs))
  have g2 := e_town_machine ok2
  have g3 := e_l_town_steps ok2
  have i0 : idxD (Town.mk cs ws sl0).D (.int 0) = some (custD cs) := rfl
  have i1 : idxD (Town.mk cs ws sl0).D (.int 1) = some (.lst (ws.map wL)) := rfl
  have hrw : F_l_rows [(Town.mk cs ws sl).D] = .ok (.lst ((rowsOf cs).map rowD)) := e_rows hcs _ _
  have hlen : lenD (.lst ((rowsOf cs).map rowD)) = some (.int ((rowsOf cs).length : Nat)) := by rw [lenD_lst, List.length_map]
  have hr := rngR1_nat (n := (rowsOf cs).length) (by omega)
  have kn := isSome_eq (k_nms (rowsOf cs).length (by omega))
  have slen := stepsT_len ok2
  have hl2 : lenD (.lst ((stepsT (Town.mk cs ws sl)).map stD)) = some (.int ((stepsT (Town.mk cs ws sl)).length : Nat)) := by rw [lenD_lst, List.length_map]
  have hr2 := rngR1_nat (n := (stepsT (Town.mk cs ws sl)).length) (by omega)
  have f1 := fm_first (T := TP_law) (names := nms (rowsOf cs).length) (ts := stepsT (Town.mk cs ws sl)) (r := 1) (by decide +kernel)
  have f2 := fm_names (T := TP_law) (names := nms (rowsOf cs).length) (ts := stepsT (Town.mk cs ws sl)) (r := 1) (by decide +kernel)
  have f3 := fm_steps (T := TP_law) (names := nms (rowsOf cs).length) (ts := stepsT (Town.mk cs ws sl)) (r := 1) (by decide +kernel)
  have ns := ne_steps (stepsT (Town.mk cs ws sl))
  have ht : isTy .tuple (stsD (stepsT (Town.mk cs ws sl))) = some true := rfl
  have tl : tupleD (.lst ((stepsT (Town.mk cs ws sl)).map stD)) = some (stsD (stepsT (Town.mk cs ws sl))) := rfl
  have n1' := ne_one
  have hone : D.lst [custD cs, .lst (ws.map wL), .str sl] = (Town.mk cs ws sl).D := rfl
  obtain ⟨y, hfin⟩ := fin_loop TP_law t_law_l_is_ratio t_law_l_whole e_lratio e_lwhole (by decide +kernel) (names := nms (rowsOf cs).length) (ts := stepsT (Town.mk cs ws sl)) (r := 1) (s0 := s0) (s1 := .val (Town.mk cs ws sl0).D) (s2 := .val (l_peo cs.length)) (s3 := .val (.str sl)) (s4 := .val (Town.mk cs ws sl).D) (z := z7)
  have hlc := name2_lc TP_law (ρ := [s0, .val (Town.mk cs ws sl0).D, .val (l_peo cs.length), .val (.str sl), .val (Town.mk cs ws sl).D, .val (machD (nms (rowsOf cs).length) (stepsT (Town.mk cs ws sl)) 1), .val (.lst ((stepsT (Town.mk cs ws sl)).map stD)), .no]) (fun _ => rfl) (n := (rowsOf cs).length) (by omega)
  replace g3 : F_l_town_steps [.lst [custD cs, .lst (ws.map wL), .str sl]] = .ok (.lst ((stepsT (Town.mk cs ws sl)).map stD)) := g3
  replace hrw : F_l_rows [.lst [custD cs, .lst (ws.map wL), .str sl]] = .ok (.lst ((rowsOf cs).map rowD)) := hrw
  replace g1 : F_Town [l_peo cs.length, custD cs, .lst (ws.map wL), .str sl] = .ok (townD (Town.mk cs ws sl)) := g1
  replace g2 : F_town_machine [townD (Town.mk cs ws sl)] = .ok (machD (nms (rowsOf cs).length) (stepsT (Town.mk cs ws sl)) 1) := g2
  replace hlc : lcL (asg (.nm 7)) (evc TP_law .no) (ev TP_law (.bin .Add (.str "s") (.bi .str (.cons (.var 7) .nil))) .val) [s0, .val (Town.mk cs ws sl0).D, .val (l_peo cs.length), .val (.str sl), .val (.lst [custD cs, .lst (ws.map wL), .str sl]), .val (machD (nms (rowsOf cs).length) (stepsT (Town.mk cs ws sl)) 1), .val (.lst ((stepsT (Town.mk cs ws sl)).map stD)), .no] (nats (rowsOf cs).length) = .ok (nms2 (rowsOf cs).length) := hlc
  refine ⟨.val (.lst [custD cs, .lst (ws.map wL), .str sl]), .val (machD (nms (rowsOf cs).length) (stepsT (Town.mk cs ws sl)) 1), .val (.lst ((stepsT (Town.mk cs ws sl)).map stD)), y, ?_⟩
  replace hfin : forL (.nm 7) (exs TP_law bFin) (nats (stepsT (Town.mk cs ws sl)).length) [s0, .val (Town.mk cs ws sl0).D, .val (l_peo cs.length), .val (.str sl), .val (.lst [custD cs, .lst (ws.map wL), .str sl]), .val (machD (nms (rowsOf cs).length) (stepsT (Town.mk cs ws sl)) 1), .val (.lst ((stepsT (Town.mk cs ws sl)).map stD)), z7] = .nx [s0, .val (Town.mk cs ws sl0).D, .val (l_peo cs.length), .val (.str sl), .val (.lst [custD cs, .lst (ws.map wL), .str sl]), .val (machD (nms (rowsOf cs).length) (stepsT (Town.mk cs ws sl)) 1), .val (.lst ((stepsT (Town.mk cs ws sl)).map stD)), y] := hfin
  show exs TP_law bSl [s0, .val (Town.mk cs ws sl0).D, .val (l_peo cs.length), .val (.str sl), z4, z5, z6, z7] = _
  generalize machD (nms (rowsOf cs).length) (stepsT (Town.mk cs ws sl)) 1 = MM at *
  generalize (stepsT (Town.mk cs ws sl)).length = nn at *
  generalize (stepsT (Town.mk cs ws sl)).map stD = GG at *
  generalize stsD (stepsT (Town.mk cs ws sl)) = GT at *
  generalize townD (Town.mk cs ws sl) = TT at *
  generalize (Town.mk cs ws sl0).D = T0 at *
  generalize (rowsOf cs).map rowD = RR at *
  generalize nms (rowsOf cs).length = NA at *
  generalize nms2 (rowsOf cs).length = NB at *
  generalize l_peo cs.length = PP at *
  generalize custD cs = CC at *
  generalize ws.map wL = WW at *
  simp -implicitDefEqProofs [t_law_town_machine, t_law_Town, t_law_l_town_steps, t_law_l_rows, i0, i1, g1, g2, g3, hrw, hlen, hr, hl2, hr2, f1, f2, f3, one_D, n1', lcR_ok hlc, kn, tyR_ok ht, tl, ns, hfin]
theorem law_ok : LawOk F_law := by
  intro ns _
  obtain ⟨t, ok, ht⟩ := town_ok ns
  have g1 := l_lpeople ok
  have i2 : idxD t.D (.int 2) = some (.str t.sl) := rfl
  have se := sl_even ok
  have two : ∃ sl2 : Str, (sl2 = "even" ∨ sl2 = "loss") ∧ idxD (.lst [.str "even", .str "loss"]) (.int (if t.sl = "even" then 1 else 0)) = some (.str sl2) := by
    by_cases h : t.sl = "even"
    · rw [if_pos h]; exact ⟨"loss", .inr rfl, rfl⟩
    · rw [if_neg h]; exact ⟨"even", .inl rfl, rfl⟩
  obtain ⟨sl2, h2, ix⟩ := two
  have bi : intD (.bl (decide (t.sl = "even"))) = some (.int (if t.sl = "even" then 1 else 0)) := by
    by_cases h : t.sl = "even" <;> simp [h, intD]
  obtain ⟨ρ', hl', y3, y4, y5, y6, y7, hz⟩ := forL_ind (tg := .nm 3) (body := exs TP_law bSl) (ds := [.str t.sl, .str sl2])
    (ρ := [.val (.frl (ns.map D.int)), .val t.D, .val (l_peo t.cs.length), .no, .no, .no, .no, .no])
    (fun i ρ => ∃ y3 y4 y5 y6 y7, ρ = [.val (.frl (ns.map D.int)), .val t.D, .val (l_peo t.cs.length), y3, y4, y5, y6, y7]) ⟨.no, .no, .no, .no, .no, rfl⟩ (fun i d ρ hd ⟨y3, y4, y5, y6, y7, hρ⟩ => by
      subst hρ
      have hd' : ∃ sl : Str, d = .str sl ∧ (sl = "even" ∨ sl = "loss") := by
        rcases List.mem_cons.mp (List.mem_of_getElem? hd) with rfl | h
        · exact ⟨_, rfl, ok.sl⟩
        · rw [List.mem_singleton] at h
          exact ⟨_, h, h2⟩
      obtain ⟨sl, rfl, hsl⟩ := hd'
      obtain ⟨x4, x5, x6, x7, hb⟩ := slips_ok ok hsl (s0 := .val (.frl (ns.map D.int))) (z3 := y3) (z4 := y4) (z5 := y5) (z6 := y6) (z7 := y7)
      exact ⟨_, _, rfl, .inl hb, .val (.str sl), x4, x5, x6, x7, rfl⟩)
  subst hz
  generalize hS : D.str t.sl = S at *
  unfold F_law runFn
  simp -implicitDefEqProofs [b_law, t_law_l_town, t_law_l_people, ht, g1, i2, se, bi, ix, hl']
end
end L83
open PySem PySem.W PyProof.Rows in
set_option maxRecDepth 100000 in
set_option maxHeartbeats 0 in
theorem PySem.Challenge.cw_rareslips_k83_town_machines_holds : PySem.Challenge.rw_rareslips_k83_town_machines.Holds := by
  w_on; o_law; k_head; (case hw => w_witness2)
  k_fill
  refine Pu.walk (lv := 63) rfl rfl ⟨rfl, by decide, by decide⟩ (fun w h Y => PySem.W.kIn_of Y) ?F
  case F =>
    intro w mg fa h KX G hmg
    have z_len : mg "len" = none := by
      refine' PySem.W.mg_none_of KX G ?a
      (case a => k_is)
    have z_abs : mg "abs" = none := by
      refine' PySem.W.mg_none_of KX G ?a
      (case a => k_is)
    have z_max : mg "max" = none := by
      refine' PySem.W.mg_none_of KX G ?a
      (case a => k_is)
    have z_min : mg "min" = none := by
      refine' PySem.W.mg_none_of KX G ?a
      (case a => k_is)
    have z_sum : mg "sum" = none := by
      refine' PySem.W.mg_none_of KX G ?a
      (case a => k_is)
    have z_sorted : mg "sorted" = none := by
      refine' PySem.W.mg_none_of KX G ?a
      (case a => k_is)
    have z_int : mg "int" = none := by
      refine' PySem.W.mg_none_of KX G ?a
      (case a => k_is)
    have z_bool : mg "bool" = none := by
      refine' PySem.W.mg_none_of KX G ?a
      (case a => k_is)
    have z_str : mg "str" = none := by
      refine' PySem.W.mg_none_of KX G ?a
      (case a => k_is)
    have z_list : mg "list" = none := by
      refine' PySem.W.mg_none_of KX G ?a
      (case a => k_is)
    have z_tuple : mg "tuple" = none := by
      refine' PySem.W.mg_none_of KX G ?a
      (case a => k_is)
    have z_range : mg "range" = none := by
      refine' PySem.W.mg_none_of KX G ?a
      (case a => k_is)
    have z_reversed : mg "reversed" = none := by
      refine' PySem.W.mg_none_of KX G ?a
      (case a => k_is)
    have z_isinstance : mg "isinstance" = none := by
      refine' PySem.W.mg_none_of KX G ?a
      (case a => k_is)
    have z_gcd : mg "gcd" = some (.builtin "math.gcd") := by
      refine' PySem.W.mg_of KX G ?a
      (case a => k_is)
    refine' (have M_ZERO := Pu.tupc (x := "ZERO") (i := 0) (j := 1) KX G ?g ?l; ?_)
    (case g => k_is)
    (case l => k_is)
    obtain ⟨_, m_ZERO, a_ZERO⟩ := M_ZERO
    refine' (have m_MOST_COST := PySem.W.mg_of (n := "MOST_COST") KX G ?g; ?_)
    (case g => k_is)
    refine' (have m_DIGITS := PySem.W.mg_of (n := "DIGITS") KX G ?g; ?_)
    (case g => k_is)
    refine' (have m_LETTERS := PySem.W.mg_of (n := "LETTERS") KX G ?g; ?_)
    (case g => k_is)
    refine' (have M_ONE := Pu.tupc (x := "ONE") (i := 1) (j := 1) KX G ?g ?l; ?_)
    (case g => k_is)
    (case l => k_is)
    obtain ⟨_, m_ONE, a_ONE⟩ := M_ONE
    refine' (have m_MOST_WORTH := PySem.W.mg_of (n := "MOST_WORTH") KX G ?g; ?_)
    (case g => k_is)
    refine' (have m_MOST_CUSTOMS := PySem.W.mg_of (n := "MOST_CUSTOMS") KX G ?g; ?_)
    (case g => k_is)
    refine' (have m_MOST_ROWS := PySem.W.mg_of (n := "MOST_ROWS") KX G ?g; ?_)
    (case g => k_is)
    refine' (have D_l_whole := Pu.def_mk (x := "_law_whole") (st := L83.s_l_whole) KX G ?a ?l ?c ?k; ?_)
    (case a => k_is)
    (case l => k_is)
    (case c => k_is)
    (case k => k_is)
    refine' (have D_l_is_ratio := Pu.def_mk (x := "_law_is_ratio") (st := L83.s_l_is_ratio) KX G ?a ?l ?c ?k; ?_)
    (case a => k_is)
    (case l => k_is)
    (case c => k_is)
    (case k => k_is)
    refine' (have D_l_rows := Pu.def_mk (x := "_law_rows") (st := L83.s_l_rows) KX G ?a ?l ?c ?k; ?_)
    (case a => k_is)
    (case l => k_is)
    (case c => k_is)
    (case k => k_is)
    refine' (have D_l_with := Pu.def_mk (x := "_law_with") (st := L83.s_l_with) KX G ?a ?l ?c ?k; ?_)
    (case a => k_is)
    (case l => k_is)
    (case c => k_is)
    (case k => k_is)
    refine' (have D_l_worth := Pu.def_mk (x := "_law_worth") (st := L83.s_l_worth) KX G ?a ?l ?c ?k; ?_)
    (case a => k_is)
    (case l => k_is)
    (case c => k_is)
    (case k => k_is)
    refine' (have D_l_worths := Pu.def_mk (x := "_law_worths") (st := L83.s_l_worths) KX G ?a ?l ?c ?k; ?_)
    (case a => k_is)
    (case l => k_is)
    (case c => k_is)
    (case k => k_is)
    refine' (have D_l_town_steps := Pu.def_mk (x := "_law_town_steps") (st := L83.s_l_town_steps) KX G ?a ?l ?c ?k; ?_)
    (case a => k_is)
    (case l => k_is)
    (case c => k_is)
    (case k => k_is)
    refine' (have D_leaving_rows := Pu.def_mk (x := "leaving_rows") (st := L83.s_leaving_rows) KX G ?a ?l ?c ?k; ?_)
    (case a => k_is)
    (case l => k_is)
    (case c => k_is)
    (case k => k_is)
    refine' (have D_reached_from := Pu.def_mk (x := "reached_from") (st := L83.s_reached_from) KX G ?a ?l ?c ?k; ?_)
    (case a => k_is)
    (case l => k_is)
    (case c => k_is)
    (case k => k_is)
    refine' (have D_check_ways := Pu.def_mk (x := "check_ways") (st := L83.s_check_ways) KX G ?a ?l ?c ?k; ?_)
    (case a => k_is)
    (case l => k_is)
    (case c => k_is)
    (case k => k_is)
    refine' (have D_compare := Pu.def_mk (x := "compare") (st := L83.s_compare) KX G ?a ?l ?c ?k; ?_)
    (case a => k_is)
    (case l => k_is)
    (case c => k_is)
    (case k => k_is)
    refine' (have D_lowest := Pu.def_mk (x := "lowest") (st := L83.s_lowest) KX G ?a ?l ?c ?k; ?_)
    (case a => k_is)
    (case l => k_is)
    (case c => k_is)
    (case k => k_is)
    refine' (have D_plus := Pu.def_mk (x := "plus") (st := L83.s_plus) KX G ?a ?l ?c ?k; ?_)
    (case a => k_is)
    (case l => k_is)
    (case c => k_is)
    (case k => k_is)
    refine' (have D_times := Pu.def_mk (x := "times") (st := L83.s_times) KX G ?a ?l ?c ?k; ?_)
    (case a => k_is)
    (case l => k_is)
    (case c => k_is)
    (case k => k_is)
    refine' (have D_raised := Pu.def_mk (x := "raised") (st := L83.s_raised) KX G ?a ?l ?c ?k; ?_)
    (case a => k_is)
    (case l => k_is)
    (case c => k_is)
    (case k => k_is)
    refine' (have D_step_chance := Pu.def_mk (x := "step_chance") (st := L83.s_step_chance) KX G ?a ?l ?c ?k; ?_)
    (case a => k_is)
    (case l => k_is)
    (case c => k_is)
    (case k => k_is)
    refine' (have D_chance_out := Pu.def_mk (x := "chance_out") (st := L83.s_chance_out) KX G ?a ?l ?c ?k; ?_)
    (case a => k_is)
    (case l => k_is)
    (case c => k_is)
    (case k => k_is)
    refine' (have D_is_whole := Pu.def_mk (x := "is_whole") (st := L83.s_is_whole) KX G ?a ?l ?c ?k; ?_)
    (case a => k_is)
    (case l => k_is)
    (case c => k_is)
    (case k => k_is)
    refine' (have D_is_ratio := Pu.def_mk (x := "is_ratio") (st := L83.s_is_ratio) KX G ?a ?l ?c ?k; ?_)
    (case a => k_is)
    (case l => k_is)
    (case c => k_is)
    (case k => k_is)
    refine' (have D_is_positive := Pu.def_mk (x := "is_positive") (st := L83.s_is_positive) KX G ?a ?l ?c ?k; ?_)
    (case a => k_is)
    (case l => k_is)
    (case c => k_is)
    (case k => k_is)
    refine' (have D_is_state := Pu.def_mk (x := "is_state") (st := L83.s_is_state) KX G ?a ?l ?c ?k; ?_)
    (case a => k_is)
    (case l => k_is)
    (case c => k_is)
    (case k => k_is)
    refine' (have D_is_row := Pu.def_mk (x := "is_row") (st := L83.s_is_row) KX G ?a ?l ?c ?k; ?_)
    (case a => k_is)
    (case l => k_is)
    (case c => k_is)
    (case k => k_is)
    refine' (have D_is_step := Pu.def_mk (x := "is_step") (st := L83.s_is_step) KX G ?a ?l ?c ?k; ?_)
    (case a => k_is)
    (case l => k_is)
    (case c => k_is)
    (case k => k_is)
    refine' (have D_checked_steps := Pu.def_mk (x := "checked_steps") (st := L83.s_checked_steps) KX G ?a ?l ?c ?k; ?_)
    (case a => k_is)
    (case l => k_is)
    (case c => k_is)
    (case k => k_is)
    refine' (have D_frozen := Pu.def_mk (x := "frozen") (st := L83.s_frozen) KX G ?a ?l ?c ?k; ?_)
    (case a => k_is)
    (case l => k_is)
    (case c => k_is)
    (case k => k_is)
    refine' (have D_is_name := Pu.def_mk (x := "is_name") (st := L83.s_is_name) KX G ?a ?l ?c ?k; ?_)
    (case a => k_is)
    (case l => k_is)
    (case c => k_is)
    (case k => k_is)
    refine' (have D_checked_names := Pu.def_mk (x := "checked_names") (st := L83.s_checked_names) KX G ?a ?l ?c ?k; ?_)
    (case a => k_is)
    (case l => k_is)
    (case c => k_is)
    (case k => k_is)
    refine' (have D_number_of := Pu.def_mk (x := "number_of") (st := L83.s_number_of) KX G ?a ?l ?c ?k; ?_)
    (case a => k_is)
    (case l => k_is)
    (case c => k_is)
    (case k => k_is)
    refine' (have D_worth_of := Pu.def_mk (x := "worth_of") (st := L83.s_worth_of) KX G ?a ?l ?c ?k; ?_)
    (case a => k_is)
    (case l => k_is)
    (case c => k_is)
    (case k => k_is)
    refine' (have D_with_custom := Pu.def_mk (x := "with_custom") (st := L83.s_with_custom) KX G ?a ?l ?c ?k; ?_)
    (case a => k_is)
    (case l => k_is)
    (case c => k_is)
    (case k => k_is)
    refine' (have D_worth_row := Pu.def_mk (x := "worth_row") (st := L83.s_worth_row) KX G ?a ?l ?c ?k; ?_)
    (case a => k_is)
    (case l => k_is)
    (case c => k_is)
    (case k => k_is)
    refine' (have D_best := Pu.def_mk (x := "best") (st := L83.s_best) KX G ?a ?l ?c ?k; ?_)
    (case a => k_is)
    (case l => k_is)
    (case c => k_is)
    (case k => k_is)
    refine' (have D_even_step := Pu.def_mk (x := "even_step") (st := L83.s_even_step) KX G ?a ?l ?c ?k; ?_)
    (case a => k_is)
    (case l => k_is)
    (case c => k_is)
    (case k => k_is)
    refine' (have D_loss_step := Pu.def_mk (x := "loss_step") (st := L83.s_loss_step) KX G ?a ?l ?c ?k; ?_)
    (case a => k_is)
    (case l => k_is)
    (case c => k_is)
    (case k => k_is)
    refine' (have D_town_steps := Pu.def_mk (x := "town_steps") (st := L83.s_town_steps) KX G ?a ?l ?c ?k; ?_)
    (case a => k_is)
    (case l => k_is)
    (case c => k_is)
    (case k => k_is)
    refine' (have D_row_of := Pu.def_mk (x := "row_of") (st := L83.s_row_of) KX G ?a ?l ?c ?k; ?_)
    (case a => k_is)
    (case l => k_is)
    (case c => k_is)
    (case k => k_is)
    refine' (have D_row_count := Pu.def_mk (x := "row_count") (st := L83.s_row_count) KX G ?a ?l ?c ?k; ?_)
    (case a => k_is)
    (case l => k_is)
    (case c => k_is)
    (case k => k_is)
    refine' (have D_every_row := Pu.def_mk (x := "every_row") (st := L83.s_every_row) KX G ?a ?l ?c ?k; ?_)
    (case a => k_is)
    (case l => k_is)
    (case c => k_is)
    (case k => k_is)
    refine' (have D_town_machine := Pu.def_mk (x := "town_machine") (st := L83.s_town_machine) KX G ?a ?l ?c ?k; ?_)
    (case a => k_is)
    (case l => k_is)
    (case c => k_is)
    (case k => k_is)
    refine' (have D_is_worth := Pu.def_mk (x := "is_worth") (st := L83.s_is_worth) KX G ?a ?l ?c ?k; ?_)
    (case a => k_is)
    (case l => k_is)
    (case c => k_is)
    (case k => k_is)
    refine' (have D_checked_worths := Pu.def_mk (x := "checked_worths") (st := L83.s_checked_worths) KX G ?a ?l ?c ?k; ?_)
    (case a => k_is)
    (case l => k_is)
    (case c => k_is)
    (case k => k_is)
    refine' (have D_are_customs := Pu.def_mk (x := "are_customs") (st := L83.s_are_customs) KX G ?a ?l ?c ?k; ?_)
    (case a => k_is)
    (case l => k_is)
    (case c => k_is)
    (case k => k_is)
    refine' (have D_checked_customs := Pu.def_mk (x := "checked_customs") (st := L83.s_checked_customs) KX G ?a ?l ?c ?k; ?_)
    (case a => k_is)
    (case l => k_is)
    (case c => k_is)
    (case k => k_is)
    refine' (have D_checked_people := Pu.def_mk (x := "checked_people") (st := L83.s_checked_people) KX G ?a ?l ?c ?k; ?_)
    (case a => k_is)
    (case l => k_is)
    (case c => k_is)
    (case k => k_is)
    refine' (have D_l_people := Pu.def_mk (x := "_law_people") (st := L83.s_l_people) KX G ?a ?l ?c ?k; ?_)
    (case a => k_is)
    (case l => k_is)
    (case c => k_is)
    (case k => k_is)
    refine' (have D_l_digits := Pu.def_mk (x := "_law_digits") (st := L83.s_l_digits) KX G ?a ?l ?c ?k; ?_)
    (case a => k_is)
    (case l => k_is)
    (case c => k_is)
    (case k => k_is)
    refine' (have D_l_cell := Pu.def_mk (x := "_law_cell") (st := L83.s_l_cell) KX G ?a ?l ?c ?k; ?_)
    (case a => k_is)
    (case l => k_is)
    (case c => k_is)
    (case k => k_is)
    refine' (have D_l_town := Pu.def_mk (x := "_law_town") (st := L83.s_l_town) KX G ?a ?l ?c ?k; ?_)
    (case a => k_is)
    (case l => k_is)
    (case c => k_is)
    (case k => k_is)
    refine' (have D_law := Pu.def_mk (x := "law") (st := L83.s_law) KX G ?a ?l ?c ?k; ?_)
    (case a => k_is)
    (case l => k_is)
    (case c => k_is)
    (case k => k_is)
    refine' (have E_Machine := Pu.class_ex (c := "Machine") (qual := "Machine.__init__") (st := L83.s_Machine) (kws := [("first", .ref ?aF)]) (R := fun K C => Pu.Tup2At K ?aF (1) (1) ∧ True) KX G ?aC ?mk ?kc ?a ?i ?l ?c ?k (Pu.kwdR ?kd) ?pg ?hd ?po ?sa (Pu.no_attr (f := "names") ?f0 (Pu.no_attr (f := "steps") ?f1 (Pu.no_attr (f := "first") ?f2 (Pu.no_attr (f := "leaving") ?f3 Pu.no_attrs)))) ⟨Pu.tup2_mk ?tl, trivial⟩; ?_)
    (case aC => k_is)
    (case mk => k_is)
    (case kc => k_is)
    (case a => k_is)
    (case i => k_is)
    (case l => k_is)
    (case c => k_is)
    (case k => k_is)
    (case kd => k_is)
    (case tl => k_is)
    (case pg => k_is)
    (case hd => k_is)
    (case po => k_is)
    (case sa => k_is)
    (case f0 => k_is)
    (case f1 => k_is)
    (case f2 => k_is)
    (case f3 => k_is)
    obtain ⟨C_Machine, D_Machine, cl_Machine, na_Machine, tu_Machine, _⟩ := E_Machine
    refine' (have E_Town := Pu.class_ex (c := "Town") (qual := "Town.__init__") (st := L83.s_Town) (kws := []) (R := fun K C => True) KX G ?aC ?mk ?kc ?a ?i ?l ?c ?k (.inl rfl) ?pg ?hd ?po ?sa (Pu.no_attr (f := "people") ?f0 (Pu.no_attr (f := "customs") ?f1 (Pu.no_attr (f := "worths") ?f2 (Pu.no_attr (f := "slips") ?f3 Pu.no_attrs)))) trivial; ?_)
    (case aC => k_is)
    (case mk => k_is)
    (case kc => k_is)
    (case a => k_is)
    (case i => k_is)
    (case l => k_is)
    (case c => k_is)
    (case k => k_is)
    (case pg => k_is)
    (case hd => k_is)
    (case po => k_is)
    (case sa => k_is)
    (case f0 => k_is)
    (case f1 => k_is)
    (case f2 => k_is)
    (case f3 => k_is)
    obtain ⟨C_Town, D_Town, cl_Town, na_Town, _⟩ := E_Town
    let Cl : Pu.ClT := fun c => if c = "Machine" then some C_Machine else if c = "Town" then some C_Town else none
    have hC_Machine : Cl "Machine" = some C_Machine := by simp (config := { decide := true }) only [Cl, if_true, if_false]
    have dfl_Machine : ∀ H : L2.Hp, Pu.Reps _ Cl H L83.dflt_Machine _ := fun H => Pu.Reps.one (tu_Machine.rep H)
    have hC_Town : Cl "Town" = some C_Town := by simp (config := { decide := true }) only [Cl, if_true, if_false]
    refine Pu.law_end (Cl := Cl) D_law hmg L83.sc_law L83.c_law (fun _ _ _ _ _ _ us hl => match us, hl with | [_], _ => rfl) (fun base => ?_) L83.law_ok
    exact (L83.fx_l_town (L83.fx_l_cell (L83.fx_l_digits (L83.fx_l_people (L83.fx_Town (L83.fx_checked_people (L83.fx_checked_customs (L83.fx_are_customs (L83.fx_checked_worths (L83.fx_is_worth (L83.fx_town_machine (L83.fx_every_row (L83.fx_row_count (L83.fx_row_of (L83.fx_town_steps (L83.fx_loss_step (L83.fx_even_step (L83.fx_best (L83.fx_worth_row (L83.fx_with_custom (L83.fx_worth_of (L83.fx_number_of (L83.fx_Machine (L83.fx_checked_names (L83.fx_is_name (L83.fx_frozen (L83.fx_checked_steps (L83.fx_is_step (L83.fx_is_row (L83.fx_is_state (L83.fx_is_positive (L83.fx_is_ratio (L83.fx_is_whole (L83.fx_chance_out (L83.fx_step_chance (L83.fx_raised (L83.fx_times (L83.fx_plus (L83.fx_lowest (L83.fx_compare (L83.fx_check_ways (L83.fx_reached_from (L83.fx_leaving_rows (L83.fx_l_town_steps (L83.fx_l_worths (L83.fx_l_worth (L83.fx_l_with (L83.fx_l_rows (L83.fx_l_is_ratio (L83.fx_l_whole (Pu.facts0 (fu := (2 ^ 200)) (gc := true) (fun _ => z_gcd) (fun b => by cases b <;> assumption) z_range z_reversed z_isinstance (Pu.GlOk.tup2 m_ZERO a_ZERO (Pu.GlOk.int m_MOST_COST (Pu.GlOk.str m_DIGITS (Pu.GlOk.str m_LETTERS (Pu.GlOk.tup2 m_ONE a_ONE (Pu.GlOk.int m_MOST_WORTH (Pu.GlOk.int m_MOST_CUSTOMS (Pu.GlOk.int m_MOST_ROWS Pu.GlOk.nil)))))))) (Pu.ClsOk.cons hC_Machine cl_Machine na_Machine (Pu.ClsOk.cons hC_Town cl_Town na_Town Pu.ClsOk.nil))) D_l_whole) D_l_is_ratio) D_l_rows) D_l_with) D_l_worth) D_l_worths) D_l_town_steps) D_leaving_rows) D_reached_from) D_check_ways) D_compare) D_lowest) D_plus) D_times) D_raised) D_step_chance) D_chance_out) D_is_whole) D_is_ratio) D_is_positive) D_is_state) D_is_row) D_is_step) D_checked_steps) D_frozen) D_is_name) D_checked_names) hC_Machine D_Machine dfl_Machine) D_number_of) D_worth_of) D_with_custom) D_worth_row) D_best) D_even_step) D_loss_step) D_town_steps) D_row_of) D_row_count) D_every_row) D_town_machine) D_is_worth) D_checked_worths) D_are_customs) D_checked_customs) D_checked_people) hC_Town D_Town) D_l_people) D_l_digits) D_l_cell) D_l_town)
#print axioms PySem.Challenge.cw_rareslips_k83_town_machines_holds
