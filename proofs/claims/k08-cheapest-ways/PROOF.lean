import PyProof.Rows.All
import Wide.All
import OpenK.AllK
import Wide.FinOn
import HandS.ForMost
import HandS.ForExc
import HandS.IsInst
import HandS.TupAny
import HandS.Deep
import HandS.Conv
import HandS.Rev
import HandS.CallSlots
import HandS.Wide
import HandS.SortInts
import HandS.Gcd
import HandS.Style
import HandS.Walk
import HandS.FStr
import HandS.Defaults
import HandS.ExcOwn
import HandS.MakeKw
import HandS.MakeKwOnly
import HandS.WordsExc
import PySem.Challenge.RW_rareslips_k08_cheapest_ways
set_option Elab.async false
set_option linter.all false
set_option maxRecDepth 100000
set_option maxHeartbeats 4000000
set_option autoImplicit false
/-! PuA: data without a heap, how a value in the heap stands for such data, and what a statement's run keeps. -/
namespace Pu
open PySem PySem.Spec PyProof.Rows L2
abbrev Frg := PySem.W.Frag

/-- plain data -/
inductive D where
  | non | bl (b : Bool) | int (i : Int) | str (x : Str)
  | lst (xs : List D) | tup (xs : List D) | frl (xs : List D) | ins (c : Str) (ns : List Str) (xs : List D)

inductive Res (α : Type) where
  | ok (a : α) | exc (c : Str) (ns : List Str) (ds : List D) | stuck
def Res.bind {α β : Type} : Res α → (α → Res β) → Res β
  | .ok a, f => f a
  | .exc c ns ds, _ => .exc c ns ds
  | .stuck, _ => .stuck
instance : Monad Res where
  pure := .ok
  bind := Res.bind
def Res.ofO {α : Type} : Option α → Res α
  | some a => .ok a
  | none => .stuck

abbrev ClT := Str → Option Addr

mutual
def Rep (K : Frg) (Cl : ClT) (H : Hp) : D → V → Prop
  | .non, v => v = .non
  | .bl b, v => v = .bl b
  | .int i, v => v = .int i
  | .str x, v => v = .str x
  | .lst ds, v => ∃ a xs, v = .ref a ∧ H a = some (.lst xs) ∧ Reps K Cl H ds xs
  | .frl ds, v => ∃ a xs, v = .ref a ∧ SqL K H a xs ∧ Reps K Cl H ds xs
  | .tup ds, v => ∃ a xs, v = .ref a ∧ SqT K H a xs ∧ Reps K Cl H ds xs
  | .ins c ns ds, v => ∃ a C dx xs, v = .ref a ∧ Cl c = some C ∧ H a = some (.ins C dx (ns.zip xs)) ∧ ns.length = xs.length ∧ Reps K Cl H ds xs
def Reps (K : Frg) (Cl : ClT) (H : Hp) : List D → List V → Prop
  | [], vs => vs = []
  | d :: ds, vs => ∃ v r, vs = v :: r ∧ Rep K Cl H d v ∧ Reps K Cl H ds r
end

theorem Same.tup {K : Frg} {H H' : Hp} {a : Addr} {xs : List V} (e : Same H H') (h : SqT K H a xs) : SqT K H' a xs := by
  rcases h with (h | ⟨o, h⟩) | h
  · exact .inl (.inl (e _ _ h))
  · exact .inl (.inr ⟨o, e _ _ h⟩)
  · exact .inr h

section
variable {K : Frg} {Cl : ClT}
mutual
theorem Rep.mono {H H' : Hp} (s : Same H H') : ∀ (d : D) (v : V), Rep K Cl H d v → Rep K Cl H' d v
  | .non, _, h => by simpa only [Rep] using h
  | .bl _, _, h => by simpa only [Rep] using h
  | .int _, _, h => by simpa only [Rep] using h
  | .str _, _, h => by simpa only [Rep] using h
  | .lst ds, v, h => by
    simp only [Rep] at h ⊢
    obtain ⟨a, xs, e, q, r⟩ := h
    exact ⟨a, xs, e, s _ _ q, Reps.mono s ds xs r⟩
  | .frl ds, v, h => by
    simp only [Rep] at h ⊢
    obtain ⟨a, xs, e, q, r⟩ := h
    exact ⟨a, xs, e, s.seq q, Reps.mono s ds xs r⟩
  | .tup ds, v, h => by
    simp only [Rep] at h ⊢
    obtain ⟨a, xs, e, q, r⟩ := h
    exact ⟨a, xs, e, Same.tup s q, Reps.mono s ds xs r⟩
  | .ins c ns ds, v, h => by
    simp only [Rep] at h ⊢
    obtain ⟨a, C, dx, xs, e, c, q, l, r⟩ := h
    exact ⟨a, C, dx, xs, e, c, s _ _ q, l, Reps.mono s ds xs r⟩
theorem Reps.mono {H H' : Hp} (s : Same H H') : ∀ (ds : List D) (vs : List V), Reps K Cl H ds vs → Reps K Cl H' ds vs
  | [], _, h => by simpa only [Reps] using h
  | d :: ds, vs, h => by
    simp only [Reps] at h ⊢
    obtain ⟨v, r, e, h1, h2⟩ := h
    exact ⟨v, r, e, Rep.mono s d v h1, Reps.mono s ds r h2⟩
end
theorem Reps.nil {H : Hp} : Reps K Cl H [] [] := by simp only [Reps]
theorem Reps.cons {H : Hp} {d : D} {ds : List D} {v : V} {vs : List V} (h : Rep K Cl H d v) (t : Reps K Cl H ds vs) : Reps K Cl H (d :: ds) (v :: vs) := by
  simp only [Reps]
  exact ⟨v, vs, rfl, h, t⟩
theorem Reps.length {H : Hp} : ∀ {ds : List D} {vs : List V}, Reps K Cl H ds vs → ds.length = vs.length
  | [], vs, h => by
    simp only [Reps] at h
    subst h
    rfl
  | d :: ds, vs, h => by
    simp only [Reps] at h
    obtain ⟨v, r, rfl, _, h2⟩ := h
    rw [List.length_cons, List.length_cons, Reps.length h2]
theorem Reps.get {H : Hp} : ∀ {ds : List D} {vs : List V} {i : Nat} {d : D}, Reps K Cl H ds vs → ds[i]? = some d → ∃ v, vs[i]? = some v ∧ Rep K Cl H d v
  | [], _, i, d, _, e => by simp at e
  | d :: ds, vs, 0, d', h, e => by
    simp only [Reps] at h
    obtain ⟨v, r, rfl, h1, _⟩ := h
    simp at e
    subst e
    exact ⟨v, rfl, h1⟩
  | d :: ds, vs, i + 1, d', h, e => by
    simp only [Reps] at h
    obtain ⟨v, r, rfl, _, h2⟩ := h
    obtain ⟨w, e1, e2⟩ := Reps.get (i := i) (d := d') h2 (by simpa using e)
    exact ⟨w, by simpa using e1, e2⟩
theorem Reps.getV {H : Hp} : ∀ {ds : List D} {vs : List V} {i : Nat} {v : V}, Reps K Cl H ds vs → vs[i]? = some v → ∃ d, ds[i]? = some d ∧ Rep K Cl H d v
  | [], vs, i, v, h, e => by
    simp only [Reps] at h
    subst h
    simp at e
  | d :: ds, vs, 0, v, h, e => by
    simp only [Reps] at h
    obtain ⟨w, r, rfl, h1, _⟩ := h
    simp at e
    subst e
    exact ⟨d, rfl, h1⟩
  | d :: ds, vs, i + 1, v, h, e => by
    simp only [Reps] at h
    obtain ⟨w, r, rfl, _, h2⟩ := h
    obtain ⟨w', e1, e2⟩ := Reps.getV (i := i) (v := v) h2 (by simpa using e)
    exact ⟨w', by simpa using e1, e2⟩
theorem Reps.append {H : Hp} : ∀ {ds es : List D} {vs ws : List V}, Reps K Cl H ds vs → Reps K Cl H es ws → Reps K Cl H (ds ++ es) (vs ++ ws)
  | [], es, vs, ws, h, t => by
    simp only [Reps] at h
    subst h
    exact t
  | d :: ds, es, vs, ws, h, t => by
    simp only [Reps] at h
    obtain ⟨v, r, rfl, h1, h2⟩ := h
    exact Reps.cons h1 (Reps.append h2 t)
theorem Reps.one {H : Hp} {d : D} {v : V} (h : Rep K Cl H d v) : Reps K Cl H [d] [v] := Reps.cons h Reps.nil
theorem Reps.take {H : Hp} : ∀ {ds : List D} {vs : List V} (n : Nat), Reps K Cl H ds vs → Reps K Cl H (ds.take n) (vs.take n)
  | ds, vs, 0, _ => by simpa using Reps.nil
  | [], vs, n + 1, h => by
    simp only [Reps] at h
    subst h
    simpa using Reps.nil
  | d :: ds, vs, n + 1, h => by
    simp only [Reps] at h
    obtain ⟨v, r, rfl, h1, h2⟩ := h
    exact Reps.cons h1 (Reps.take n h2)
theorem Reps.drop {H : Hp} : ∀ {ds : List D} {vs : List V} (n : Nat), Reps K Cl H ds vs → Reps K Cl H (ds.drop n) (vs.drop n)
  | ds, vs, 0, h => by simpa using h
  | [], vs, n + 1, h => by
    simp only [Reps] at h
    subst h
    simpa using Reps.nil
  | d :: ds, vs, n + 1, h => by
    simp only [Reps] at h
    obtain ⟨v, r, rfl, h1, h2⟩ := h
    exact Reps.drop n h2
theorem Reps.set {H : Hp} {d : D} {v : V} (q : Rep K Cl H d v) : ∀ {ds : List D} {vs : List V} (n : Nat), Reps K Cl H ds vs → Reps K Cl H (ds.set n d) (vs.set n v)
  | [], vs, n, h => by
    simp only [Reps] at h
    subst h
    simpa using Reps.nil
  | e :: ds, vs, 0, h => by
    simp only [Reps] at h
    obtain ⟨w, r, rfl, h1, h2⟩ := h
    exact Reps.cons q h2
  | e :: ds, vs, n + 1, h => by
    simp only [Reps] at h
    obtain ⟨w, r, rfl, h1, h2⟩ := h
    exact Reps.cons h1 (Reps.set q n h2)
theorem Reps.reverse {H : Hp} : ∀ {ds : List D} {vs : List V}, Reps K Cl H ds vs → Reps K Cl H ds.reverse vs.reverse
  | [], vs, h => by
    simp only [Reps] at h
    subst h
    exact Reps.nil
  | d :: ds, vs, h => by
    simp only [Reps] at h
    obtain ⟨v, r, rfl, h1, h2⟩ := h
    rw [List.reverse_cons, List.reverse_cons]
    exact Reps.append (Reps.reverse h2) (Reps.one h1)
theorem Reps.dropLast {H : Hp} {ds : List D} {vs : List V} (h : Reps K Cl H ds vs) : Reps K Cl H ds.dropLast vs.dropLast := by
  rw [List.dropLast_eq_take, List.dropLast_eq_take, h.length]
  exact Reps.take _ h
theorem Reps.erase {H : Hp} : ∀ {ds : List D} {vs : List V} (n : Nat), Reps K Cl H ds vs → Reps K Cl H (ds.eraseIdx n) (vs.eraseIdx n)
  | [], vs, n, h => by
    simp only [Reps] at h
    subst h
    simpa using Reps.nil
  | d :: ds, vs, 0, h => by
    simp only [Reps] at h
    obtain ⟨v, r, rfl, h1, h2⟩ := h
    exact h2
  | d :: ds, vs, n + 1, h => by
    simp only [Reps] at h
    obtain ⟨v, r, rfl, h1, h2⟩ := h
    exact Reps.cons h1 (Reps.erase n h2)
theorem Reps.ints {H : Hp} : ∀ {ns : List Int} {vs : List V}, Reps K Cl H (ns.map D.int) vs → vs = ns.map V.int
  | [], vs, h => by simpa only [List.map_nil, Reps] using h
  | n :: ns, vs, h => by
    simp only [List.map_cons, Reps, Rep] at h
    obtain ⟨v, r, rfl, rfl, h2⟩ := h
    rw [Reps.ints h2]
    rfl
theorem Reps.of_ints {H : Hp} : ∀ (ns : List Int), Reps K Cl H (ns.map D.int) (ns.map V.int)
  | [] => Reps.nil
  | n :: ns => Reps.cons (by simp only [Rep]) (Reps.of_ints ns)
theorem Reps.strs {H : Hp} : ∀ {ns : List Str} {vs : List V}, Reps K Cl H (ns.map D.str) vs → vs = ns.map V.str
  | [], vs, h => by simpa only [List.map_nil, Reps] using h
  | n :: ns, vs, h => by
    simp only [List.map_cons, Reps, Rep] at h
    obtain ⟨v, r, rfl, rfl, h2⟩ := h
    rw [Reps.strs h2]
    rfl
end

/-! ### heaps: G what may be shared, inside H, all that is tracked -/
structure Ext (G H G' H' : Hp) : Prop where
  sub : Same H H'
  vis : Same G G'
  low : Same G' H'
  hid : ∀ a, G a = none → H a ≠ none → G' a = none
section
variable {G H G1 H1 G2 H2 : Hp} {p : Addr} {o : HO}
theorem Ext.refl (s : Same G H) : Ext G H G H := ⟨Same.refl _, Same.refl _, s, fun _ e _ => e⟩
theorem Same.some {H H' : Hp} (s : Same H H') {a : Addr} (h : H a ≠ none) : H' a ≠ none := by
  cases e : H a with
  | none => exact absurd e h
  | some o => rw [s a o e]; exact fun z => by cases z
theorem Ext.trans (a : Ext G H G1 H1) (b : Ext G1 H1 G2 H2) : Ext G H G2 H2 :=
  ⟨a.sub.trans b.sub, a.vis.trans b.vis, b.low, fun x e n => b.hid x (a.hid x e n) (Same.some a.sub n)⟩
theorem same_upd (h : H p = none) : Same H (upd H p o) := fun b u e => by
  rw [upd_ne (ne_of_none e h)]
  exact e
theorem Ext.new (s : Same G H) (h : H p = none) : Ext G H (upd G p o) (upd H p o) := by
  have g : G p = none := Same.free s h
  refine ⟨same_upd h, same_upd g, fun b u e => ?_, fun a e n => ?_⟩
  · by_cases q : b = p
    · subst q
      rw [upd_same] at e ⊢
      exact e
    · rw [upd_ne q] at e ⊢
      exact s b u e
  · have q : a ≠ p := fun z => n (z ▸ h)
    rw [upd_ne q]
    exact e
/-- an object that only G did not see is shared now -/
theorem Ext.show (s : Same G H) (g : G p = none) (h : H p = some o) : Same (upd G p o) H := fun b u e => by
  by_cases q : b = p
  · subst q
    rw [upd_same] at e
    cases e
    exact h
  · rw [upd_ne q] at e
    exact s b u e
end

/-! ### the slots of a frame -/
inductive Sl where
  | no | val (d : D) | own (ds : List D) | obj (c : Str) (ns : List Str) (ds : List D)
abbrev Ro := List Sl

/-- what stood when a frame was entered: what might be shared, and where its own new object (if any) lies -/
structure GX where
  g : Hp
  x : Addr
structure Sim (K : Frg) (Cl : ClT) (G0 : GX) (H0 G H : Hp) (ρ : Ro) (σ : L2.St) : Prop where
  ext : Ext G0.g H0 G H
  len : ρ.length = σ.length
  val : ∀ (i : Nat) (d : D), ρ[i]? = some (.val d) → ∃ v, σ[i]? = some (some v) ∧ Rep K Cl G d v
  own : ∀ (i : Nat) (ds : List D), ρ[i]? = some (.own ds) → ∃ a xs, σ[i]? = some (some (V.ref a)) ∧ H0 a = none ∧ G a = none ∧ H a = some (.lst xs) ∧ Reps K Cl G ds xs
  sep : ∀ (i j : Nat) (ds es : List D), i ≠ j → ρ[i]? = some (.own ds) → ρ[j]? = some (.own es) → σ[i]? ≠ σ[j]?
  obj : ∀ (i : Nat) (c : Str) (ns : List Str) (ds : List D), ρ[i]? = some (.obj c ns ds) → ∃ a C dx xs, σ[i]? = some (some (V.ref a)) ∧ Cl c = some C ∧ (H0 a = none ∧ a = G0.x) ∧ G a = none ∧ H a = some (.ins C dx (ns.zip xs)) ∧ ns.length = xs.length ∧ Reps K Cl G ds xs
  one : ∀ (i j : Nat) (c c' : Str) (ns ns' : List Str) (ds es : List D), ρ[i]? = some (.obj c ns ds) → ρ[j]? = some (.obj c' ns' es) → i = j
section
variable {K : Frg} {Cl : ClT} {G0 : GX} {H0 G H G' H' : Hp} {ρ : Ro} {σ : L2.St}
theorem Sim.low (s : Sim K Cl G0 H0 G H ρ σ) : Same G H := s.ext.low
theorem Sim.grow (s : Sim K Cl G0 H0 G H ρ σ) (e : Ext G H G' H') : Sim K Cl G0 H0 G' H' ρ σ where
  ext := s.ext.trans e
  len := s.len
  val := fun i d q => by
    obtain ⟨v, h1, h2⟩ := s.val i d q
    exact ⟨v, h1, h2.mono e.vis⟩
  own := fun i ds q => by
    obtain ⟨a, xs, h1, h2, h3, h4, h5⟩ := s.own i ds q
    exact ⟨a, xs, h1, h2, e.hid a h3 (by rw [h4]; exact fun z => by cases z), e.sub _ _ h4, h5.mono e.vis⟩
  sep := s.sep
  obj := fun i c ns ds q => by
    obtain ⟨a, C, dx, xs, h1, h2, h3, h4, h5, h6, h7⟩ := s.obj i c ns ds q
    exact ⟨a, C, dx, xs, h1, h2, h3, e.hid a h4 (by rw [h5]; exact fun z => by cases z), e.sub _ _ h5, h6, h7.mono e.vis⟩
  one := s.one
/-- a slot that is written holds what was written -/
theorem set_get {ρ : Ro} {i j : Nat} {x y : Sl} (q : (ρ.set i x)[j]? = some y) : (i = j ∧ y = x ∧ i < ρ.length) ∨ (i ≠ j ∧ ρ[j]? = some y) := by
  by_cases h : i = j
  · subst h
    have hl : i < ρ.length := by
      have := (List.getElem?_eq_some_iff.mp q).1
      rwa [List.length_set] at this
    rw [List.getElem?_set_self hl] at q
    cases q
    exact .inl ⟨rfl, rfl, hl⟩
  · rw [List.getElem?_set_ne h] at q
    exact .inr ⟨h, q⟩
/-- a slot is written with shared data -/
theorem Sim.put (s : Sim K Cl G0 H0 G H ρ σ) (i : Nat) {d : D} {v : V} (r : Rep K Cl G d v) : Sim K Cl G0 H0 G H (ρ.set i (.val d)) (σ.set i (some v)) where
  ext := s.ext
  len := by rw [List.length_set, List.length_set, s.len]
  val := fun j e q => by
    by_cases h : i = j
    · subst h
      have hl : i < ρ.length := by
        have := (List.getElem?_eq_some_iff.mp q).1
        rwa [List.length_set] at this
      rw [List.getElem?_set_self hl] at q
      cases q
      exact ⟨v, List.getElem?_set_self (by rw [← s.len]; exact hl), r⟩
    · rw [List.getElem?_set_ne h] at q ⊢
      exact s.val j e q
  own := fun j e q => by
    by_cases h : i = j
    · subst h
      have hl : i < ρ.length := by
        have := (List.getElem?_eq_some_iff.mp q).1
        rwa [List.length_set] at this
      rw [List.getElem?_set_self hl] at q
      cases q
    · rw [List.getElem?_set_ne h] at q ⊢
      exact s.own j e q
  sep := fun j k ds es n q1 q2 => by
    have hj : i ≠ j := fun h => by
      subst h
      have hl : i < ρ.length := by
        have := (List.getElem?_eq_some_iff.mp q1).1
        rwa [List.length_set] at this
      rw [List.getElem?_set_self hl] at q1
      cases q1
    have hk : i ≠ k := fun h => by
      subst h
      have hl : i < ρ.length := by
        have := (List.getElem?_eq_some_iff.mp q2).1
        rwa [List.length_set] at this
      rw [List.getElem?_set_self hl] at q2
      cases q2
    rw [List.getElem?_set_ne hj] at q1 ⊢
    rw [List.getElem?_set_ne hk] at q2 ⊢
    exact s.sep j k ds es n q1 q2
  obj := fun j c ns ds q => by
    rcases set_get q with ⟨_, z, _⟩ | ⟨n, q⟩
    · cases z
    · obtain ⟨a, C, dx, xs, h1, h2⟩ := s.obj j c ns ds q
      exact ⟨a, C, dx, xs, by rw [List.getElem?_set_ne n]; exact h1, h2⟩
  one := fun j k c c' ns ns' ds es q1 q2 => by
    rcases set_get q1 with ⟨_, z, _⟩ | ⟨n, q1⟩
    · cases z
    · rcases set_get q2 with ⟨_, z, _⟩ | ⟨n, q2⟩
      · cases z
      · exact s.one j k c c' ns ns' ds es q1 q2
/-- the list of a slot is changed -/
theorem Sim.chg (s : Sim K Cl G0 H0 G H ρ σ) {i : Nat} {ds es : List D} {a : Addr} {xs ys : List V} (hi : ρ[i]? = some (.own ds)) (ha : σ[i]? = some (some (V.ref a))) (hx : H a = some (.lst xs)) (r : Reps K Cl G es ys) :
    Sim K Cl G0 H0 G (upd H a (.lst ys)) (ρ.set i (.own es)) σ := by
  obtain ⟨a', xs', h1, h2, h3, h4, h5⟩ := s.own i ds hi
  rw [ha] at h1
  cases h1
  have hl : i < ρ.length := (List.getElem?_eq_some_iff.mp hi).1
  have nm : ∀ (j : Nat) (fs : List D), j ≠ i → ρ[j]? = some (.own fs) → σ[j]? ≠ some (some (V.ref a)) := fun j fs n q z => s.sep j i fs ds n q hi (z.trans ha.symm)
  refine ⟨⟨fun b u e => ?_, s.ext.vis, fun b u e => ?_, fun b e n => s.ext.hid b e n⟩, by rw [List.length_set, s.len], fun j e q => ?_, fun j e q => ?_, fun j k e1 e2 n q1 q2 => ?_, fun j c ns ds q => ?_, fun j k c c' ns ns' ds es q1 q2 => ?_⟩
  · rw [upd_ne (ne_of_none e h2)]
    exact s.ext.sub b u e
  · rw [upd_ne (ne_of_none e h3)]
    exact s.low b u e
  · by_cases h : i = j
    · subst h
      rw [List.getElem?_set_self hl] at q
      cases q
    · rw [List.getElem?_set_ne h] at q
      exact s.val j e q
  · by_cases h : i = j
    · subst h
      rw [List.getElem?_set_self hl] at q
      cases q
      exact ⟨a, ys, ha, h2, h3, upd_same, r⟩
    · rw [List.getElem?_set_ne h] at q
      obtain ⟨b, zs, g1, g2, g3, g4, g5⟩ := s.own j e q
      have nb : b ≠ a := fun z => nm j e (Ne.symm h) q (by rw [g1, z])
      exact ⟨b, zs, g1, g2, g3, by rw [upd_ne nb]; exact g4, g5⟩
  · have f1 : ∃ fs, ρ[j]? = some (.own fs) := by
      by_cases h : i = j
      · subst h; exact ⟨ds, hi⟩
      · rw [List.getElem?_set_ne h] at q1; exact ⟨e1, q1⟩
    have f2 : ∃ fs, ρ[k]? = some (.own fs) := by
      by_cases h : i = k
      · subst h; exact ⟨ds, hi⟩
      · rw [List.getElem?_set_ne h] at q2; exact ⟨e2, q2⟩
    obtain ⟨fs, f1⟩ := f1
    obtain ⟨gs, f2⟩ := f2
    exact s.sep j k fs gs n f1 f2
  · rcases set_get q with ⟨_, z, _⟩ | ⟨n, q⟩
    · cases z
    · obtain ⟨b, C, dx, zs, g1, g2, g3, g4, g5, g6⟩ := s.obj j c ns ds q
      exact ⟨b, C, dx, zs, g1, g2, g3, g4, by rw [upd_ne (ne_of g5 hx (by intro z; cases z))]; exact g5, g6⟩
  · rcases set_get q1 with ⟨_, z, _⟩ | ⟨n, q1⟩
    · cases z
    · rcases set_get q2 with ⟨_, z, _⟩ | ⟨n, q2⟩
      · cases z
      · exact s.one j k c c' ns ns' ds es q1 q2
/-- a field is stored in the object of a slot -/
theorem Sim.chgObj (s : Sim K Cl G0 H0 G H ρ σ) {i : Nat} {c : Str} {ns ns' : List Str} {ds es : List D} {a C dx : Addr} {xs ys : List V} (hi : ρ[i]? = some (.obj c ns ds)) (ha : σ[i]? = some (some (V.ref a))) (hC : Cl c = some C) (hx : H a = some (.ins C dx (ns.zip xs)))
    (hl : ns'.length = ys.length) (r : Reps K Cl G es ys) : Sim K Cl G0 H0 G (upd H a (.ins C dx (ns'.zip ys))) (ρ.set i (.obj c ns' es)) σ := by
  obtain ⟨a', C', dx', xs', h1, h2, h3, h4, h5, h6, h7⟩ := s.obj i c ns ds hi
  rw [ha] at h1
  cases h1
  have hlen : i < ρ.length := (List.getElem?_eq_some_iff.mp hi).1
  refine ⟨⟨fun b u e => ?_, s.ext.vis, fun b u e => ?_, fun b e n => s.ext.hid b e n⟩, by rw [List.length_set, s.len], fun j e q => ?_, fun j e q => ?_, fun j k e1 e2 n q1 q2 => ?_, fun j c2 ns2 ds2 q => ?_, fun j k c1 c2 ns1 ns2 ds1 ds2 q1 q2 => ?_⟩
  · rw [upd_ne (ne_of_none e h3.1)]
    exact s.ext.sub b u e
  · rw [upd_ne (ne_of_none e h4)]
    exact s.low b u e
  · rcases set_get q with ⟨_, z, _⟩ | ⟨n, q⟩
    · cases z
    · exact s.val j e q
  · rcases set_get q with ⟨_, z, _⟩ | ⟨n, q⟩
    · cases z
    · obtain ⟨b, zs, g1, g2, g3, g4, g5⟩ := s.own j e q
      exact ⟨b, zs, g1, g2, g3, by rw [upd_ne (ne_of g4 hx (by intro z; cases z))]; exact g4, g5⟩
  · rcases set_get q1 with ⟨_, z, _⟩ | ⟨_, q1⟩
    · cases z
    · rcases set_get q2 with ⟨_, z, _⟩ | ⟨_, q2⟩
      · cases z
      · exact s.sep j k e1 e2 n q1 q2
  · rcases set_get q with ⟨e, z, _⟩ | ⟨n, q⟩
    · subst e
      cases z
      exact ⟨a, C, dx, ys, ha, hC, h3, h4, upd_same, hl, r⟩
    · exact absurd (s.one i j c c2 ns ns2 ds ds2 hi q) n
  · have f1 : ∃ c3 ns3 ds3, ρ[j]? = some (.obj c3 ns3 ds3) := by
      rcases set_get q1 with ⟨e, _, _⟩ | ⟨_, q1⟩
      · subst e; exact ⟨_, _, _, hi⟩
      · exact ⟨_, _, _, q1⟩
    have f2 : ∃ c3 ns3 ds3, ρ[k]? = some (.obj c3 ns3 ds3) := by
      rcases set_get q2 with ⟨e, _, _⟩ | ⟨_, q2⟩
      · subst e; exact ⟨_, _, _, hi⟩
      · exact ⟨_, _, _, q2⟩
    obtain ⟨_, _, _, f1⟩ := f1
    obtain ⟨_, _, _, f2⟩ := f2
    exact s.one j k _ _ _ _ _ _ f1 f2
/-- the list of a slot is shared from now on -/
def pub1 (ρ : Ro) (i : Nat) : Ro := match ρ[i]? with
  | some (.own ds) => ρ.set i (.val (.lst ds))
  | _ => ρ
theorem Sim.pub1 (s : Sim K Cl G0 H0 G H ρ σ) (i : Nat) : ∃ G', Sim K Cl G0 H0 G' H (pub1 ρ i) σ ∧ Same G G' := by
  unfold Pu.pub1
  split
  · rename_i ds hi
    obtain ⟨a, xs, h1, h2, h3, h4, h5⟩ := s.own i ds hi
    have hl : i < ρ.length := (List.getElem?_eq_some_iff.mp hi).1
    have sg : Same G (upd G a (.lst xs)) := same_upd h3
    refine ⟨upd G a (.lst xs), ⟨⟨s.ext.sub, s.ext.vis.trans sg, Ext.show s.low h3 h4, fun b e n => ?_⟩, by rw [List.length_set, s.len], fun j e q => ?_, fun j e q => ?_, fun j k e1 e2 n q1 q2 => ?_, fun j c ns es q => ?_, fun j k c c' ns ns' ds es q1 q2 => ?_⟩, sg⟩
    · rw [upd_ne (fun z => n (by rw [z]; exact h2))]
      exact s.ext.hid b e n
    · by_cases h : i = j
      · subst h
        rw [List.getElem?_set_self hl] at q
        cases q
        refine ⟨V.ref a, h1, ?_⟩
        simp only [Rep]
        exact ⟨a, xs, rfl, upd_same, h5.mono sg⟩
      · rw [List.getElem?_set_ne h] at q
        obtain ⟨v, g1, g2⟩ := s.val j e q
        exact ⟨v, g1, g2.mono sg⟩
    · by_cases h : i = j
      · subst h
        rw [List.getElem?_set_self hl] at q
        cases q
      · rw [List.getElem?_set_ne h] at q
        obtain ⟨b, zs, g1, g2, g3, g4, g5⟩ := s.own j e q
        have nb : b ≠ a := fun z => s.sep j i e ds (Ne.symm h) q hi (by rw [g1, h1, z])
        exact ⟨b, zs, g1, g2, by rw [upd_ne nb]; exact g3, g4, g5.mono sg⟩
    · have hj : i ≠ j := fun h => by
        subst h
        rw [List.getElem?_set_self hl] at q1
        cases q1
      have hk : i ≠ k := fun h => by
        subst h
        rw [List.getElem?_set_self hl] at q2
        cases q2
      rw [List.getElem?_set_ne hj] at q1
      rw [List.getElem?_set_ne hk] at q2
      exact s.sep j k e1 e2 n q1 q2
    · rcases set_get q with ⟨_, z, _⟩ | ⟨n, q⟩
      · cases z
      · obtain ⟨b, C, dx, zs, g1, g2, g3, g4, g5, g6, g7⟩ := s.obj j c ns es q
        exact ⟨b, C, dx, zs, g1, g2, g3, by rw [upd_ne (ne_of g5 h4 (by intro z; cases z))]; exact g4, g5, g6, g7.mono sg⟩
    · rcases set_get q1 with ⟨_, z, _⟩ | ⟨_, q1⟩
      · cases z
      · rcases set_get q2 with ⟨_, z, _⟩ | ⟨_, q2⟩
        · cases z
        · exact s.one j k c c' ns ns' ds es q1 q2
  · exact ⟨G, s, Same.refl _⟩
def pubs : List Nat → Ro → Ro
  | [], ρ => ρ
  | i :: is, ρ => pubs is (Pu.pub1 ρ i)
theorem Sim.pubs : ∀ (is : List Nat) {G : Hp} {ρ : Ro}, Sim K Cl G0 H0 G H ρ σ → ∃ G', Sim K Cl G0 H0 G' H (pubs is ρ) σ ∧ Same G G'
  | [], G, ρ, s => ⟨G, s, Same.refl _⟩
  | i :: is, G, ρ, s => by
    obtain ⟨G1, s1, k1⟩ := s.pub1 i
    obtain ⟨G2, s2, k2⟩ := Sim.pubs is s1
    exact ⟨G2, s2, k1.trans k2⟩
/-- a slot holds a list that an expression has just made -/
theorem Sim.putNew (s : Sim K Cl G0 H0 G H ρ σ) (i : Nat) {p : Addr} {ds : List D} {xs : List V} (e : Ext G H G' H') (hp : H p = none) (gp : G' p = none) (hx : H' p = some (.lst xs)) (r : Reps K Cl G' ds xs) :
    Sim K Cl G0 H0 G' H' (ρ.set i (.own ds)) (σ.set i (some (V.ref p))) := by
  have t := s.grow e
  have h0 : H0 p = none := Same.free s.ext.sub hp
  have other : ∀ (j : Nat) (es : List D), ρ[j]? = some (.own es) → σ[j]? ≠ some (some (V.ref p)) := fun j es q z => by
    obtain ⟨a, xs', h1, _, _, h4, _⟩ := s.own j es q
    rw [h1] at z
    cases z
    rw [hp] at h4
    cases h4
  have atI : ∀ (q : Sl), (ρ.set i (.own ds))[i]? = some q → i < ρ.length := fun q e => by
    have := (List.getElem?_eq_some_iff.mp e).1
    rwa [List.length_set] at this
  refine ⟨t.ext, by rw [List.length_set, List.length_set, s.len], fun j e q => ?_, fun j e q => ?_, fun j k e1 e2 n q1 q2 => ?_, fun j c ns es q => ?_, fun j k c c' ns ns' ds es q1 q2 => ?_⟩
  · by_cases h : i = j
    · subst h
      rw [List.getElem?_set_self (atI _ q)] at q
      cases q
    · rw [List.getElem?_set_ne h] at q ⊢
      exact t.val j e q
  · by_cases h : i = j
    · subst h
      have hl := atI _ q
      rw [List.getElem?_set_self hl] at q
      cases q
      exact ⟨p, xs, List.getElem?_set_self (by rw [← s.len]; exact hl), h0, gp, hx, r⟩
    · rw [List.getElem?_set_ne h] at q ⊢
      exact t.own j e q
  · by_cases hj : i = j
    · subst hj
      have hl := atI _ q1
      rw [List.getElem?_set_ne n] at q2 ⊢
      rw [List.getElem?_set_self (by rw [← s.len]; exact hl)]
      exact fun z => other k e2 q2 z.symm
    · by_cases hk : i = k
      · subst hk
        have hl := atI _ q2
        rw [List.getElem?_set_ne (Ne.symm n)] at q1 ⊢
        rw [List.getElem?_set_self (by rw [← s.len]; exact hl)]
        exact other j e1 q1
      · rw [List.getElem?_set_ne hj] at q1 ⊢
        rw [List.getElem?_set_ne hk] at q2 ⊢
        exact s.sep j k e1 e2 n q1 q2
  · rcases set_get q with ⟨_, z, _⟩ | ⟨n, q⟩
    · cases z
    · obtain ⟨b, C, dx, zs, g1, g2⟩ := t.obj j c ns es q
      exact ⟨b, C, dx, zs, by rw [List.getElem?_set_ne n]; exact g1, g2⟩
  · rcases set_get q1 with ⟨_, z, _⟩ | ⟨_, q1⟩
    · cases z
    · rcases set_get q2 with ⟨_, z, _⟩ | ⟨_, q2⟩
      · cases z
      · exact s.one j k c c' ns ns' ds es q1 q2
end
end Pu
/-! PuB: what is wanted behind an expression, a test, a list of arguments, a statement, where the data that it gives are known. -/
namespace Pu
open PySem PySem.Spec PyProof.Rows L2

/-- shared, or a list of a frame's own at the top -/
def RepB (K : Frg) (Cl : ClT) (G H : Hp) (d : D) (v : V) : Prop :=
  Rep K Cl G d v ∨ (∃ ds a xs, d = .lst ds ∧ v = .ref a ∧ H a = some (.lst xs) ∧ Reps K Cl G ds xs) ∨
    ∃ c ns ds a C dx xs, d = .ins c ns ds ∧ v = .ref a ∧ Cl c = some C ∧ H a = some (.ins C dx (ns.zip xs)) ∧ ns.length = xs.length ∧ Reps K Cl G ds xs
def ExcAt (K : Frg) (Cl : ClT) (G H : Hp) (c : Str) (ns : List Str) (ds : List D) (cls : Value) (dd : Option Addr) : Prop :=
  ∃ C, Cl c = some C ∧ cls = .ref C ∧ ((ns = [] ∧ ds = [] ∧ dd = none) ∨ ∃ x xs, dd = some x ∧ H x = some (.xd (ns.zip xs)) ∧ ns.length = xs.length ∧ Reps K Cl G ds xs)
section
variable {K : Frg} {Cl : ClT} {G H G' H' : Hp}
theorem RepB.of {d : D} {v : V} (h : Rep K Cl G d v) : RepB K Cl G H d v := .inl h
theorem RepB.grow {d : D} {v : V} (e : Ext G H G' H') (h : RepB K Cl G H d v) : RepB K Cl G' H' d v := by
  rcases h with h | ⟨ds, a, xs, e1, e2, h1, h2⟩ | ⟨c, ns, ds, a, C, dx, xs, e1, e2, h0, h1, h2, h3⟩
  · exact .inl (h.mono e.vis)
  · exact .inr (.inl ⟨ds, a, xs, e1, e2, e.sub _ _ h1, h2.mono e.vis⟩)
  · exact .inr (.inr ⟨c, ns, ds, a, C, dx, xs, e1, e2, h0, e.sub _ _ h1, h2, h3.mono e.vis⟩)
theorem RepB.lst {ds : List D} {v : V} (s : Same G H) (h : RepB K Cl G H (.lst ds) v) : ∃ a xs, v = .ref a ∧ H a = some (.lst xs) ∧ Reps K Cl G ds xs := by
  rcases h with h | ⟨ds', a, xs, e1, e2, h1, h2⟩ | ⟨c', ns', ds', a, C, dx, xs, e1, e2, h0, h1, h2, h3⟩
  · simp only [Rep] at h
    obtain ⟨a, xs, e, q, r⟩ := h
    exact ⟨a, xs, e, s _ _ q, r⟩
  · cases e1
    exact ⟨a, xs, e2, h1, h2⟩
  · cases e1
theorem RepB.tup {ds : List D} {v : V} (s : Same G H) (h : RepB K Cl G H (.tup ds) v) : ∃ a xs, v = .ref a ∧ SqT K H a xs ∧ Reps K Cl G ds xs ∧ SqT K G a xs := by
  rcases h with h | ⟨ds', a, xs, e1, e2, h1, h2⟩ | ⟨c', ns', ds', a, C, dx, xs, e1, e2, h0, h1, h2, h3⟩
  · simp only [Rep] at h
    obtain ⟨a, xs, e, q, r⟩ := h
    exact ⟨a, xs, e, Same.tup s q, r, q⟩
  · cases e1
  · cases e1
theorem RepB.frl {ds : List D} {v : V} (s : Same G H) (h : RepB K Cl G H (.frl ds) v) : ∃ a xs, v = .ref a ∧ SqL K H a xs ∧ Reps K Cl G ds xs := by
  rcases h with h | ⟨ds', a, xs, e1, e2, h1, h2⟩ | ⟨c', ns', ds', a, C, dx, xs, e1, e2, h0, h1, h2, h3⟩
  · simp only [Rep] at h
    obtain ⟨a, xs, e, q, r⟩ := h
    exact ⟨a, xs, e, s.seq q, r⟩
  · cases e1
  · cases e1
theorem RepB.int {i : Int} {v : V} (h : RepB K Cl G H (.int i) v) : v = .int i := by
  rcases h with h | ⟨ds', a, xs, e1, e2, h1, h2⟩ | ⟨c', ns', ds', a, C, dx, xs, e1, e2, h0, h1, h2, h3⟩
  · simpa only [Rep] using h
  · cases e1
  · cases e1
theorem RepB.bl {i : Bool} {v : V} (h : RepB K Cl G H (.bl i) v) : v = .bl i := by
  rcases h with h | ⟨ds', a, xs, e1, e2, h1, h2⟩ | ⟨c', ns', ds', a, C, dx, xs, e1, e2, h0, h1, h2, h3⟩
  · simpa only [Rep] using h
  · cases e1
  · cases e1
theorem RepB.str {i : Str} {v : V} (h : RepB K Cl G H (.str i) v) : v = .str i := by
  rcases h with h | ⟨ds', a, xs, e1, e2, h1, h2⟩ | ⟨c', ns', ds', a, C, dx, xs, e1, e2, h0, h1, h2, h3⟩
  · simpa only [Rep] using h
  · cases e1
  · cases e1
theorem RepB.non {v : V} (h : RepB K Cl G H .non v) : v = .non := by
  rcases h with h | ⟨ds', a, xs, e1, e2, h1, h2⟩ | ⟨c', ns', ds', a, C, dx, xs, e1, e2, h0, h1, h2, h3⟩
  · simpa only [Rep] using h
  · cases e1
  · cases e1
theorem RepB.ins {c : Str} {ns : List Str} {ds : List D} {v : V} (s : Same G H) (h : RepB K Cl G H (.ins c ns ds) v) :
    ∃ a C dx xs, v = .ref a ∧ Cl c = some C ∧ H a = some (.ins C dx (ns.zip xs)) ∧ ns.length = xs.length ∧ Reps K Cl G ds xs := by
  rcases h with h | ⟨ds', a, xs, e1, e2, h1, h2⟩ | ⟨c', ns', ds', a, C, dx, xs, e1, e2, h0, h1, h2, h3⟩
  · simp only [Rep] at h
    obtain ⟨a, C, dx, xs, e, c, q, l, r⟩ := h
    exact ⟨a, C, dx, xs, e, c, s _ _ q, l, r⟩
  · cases e1
  · cases e1
    exact ⟨a, C, dx, xs, e2, h0, h1, h2, h3⟩
theorem ExcAt.grow {c : Str} {ns : List Str} {ds : List D} {cls : Value} {dd : Option Addr} (e : Ext G H G' H') (h : ExcAt K Cl G H c ns ds cls dd) : ExcAt K Cl G' H' c ns ds cls dd := by
  obtain ⟨C, h1, h2, h3⟩ := h
  refine ⟨C, h1, h2, ?_⟩
  rcases h3 with h3 | ⟨x, xs, q1, q2, q3, q4⟩
  · exact .inl h3
  · exact .inr ⟨x, xs, q1, e.sub _ _ q2, q3, q4.mono e.vis⟩
end

/-! ### what is wanted behind an expression -/
section
variable (K : Frg) (Cl : ClT) (W : WX) (G H : Hp) (σ : L2.St)
def PostX (c : Str) (ns : List Str) (ds : List D) : Prop := ∀ cls dd G' H', Ext G H G' H' → ExcAt K Cl G' H' c ns ds cls dd → W cls dd σ H'
def PostE (r : Res D) (Q : VK) : Prop := match r with
  | .ok d => ∀ v G' H', Ext G H G' H' → Rep K Cl G' d v → Q v H'
  | .exc c ns ds => PostX K Cl W G H σ c ns ds
  | .stuck => False
def PostB (r : Res D) (Q : VK) : Prop := match r with
  | .ok d => ∀ v G' H', Ext G H G' H' → RepB K Cl G' H' d v → Q v H'
  | .exc c ns ds => PostX K Cl W G H σ c ns ds
  | .stuck => False
def PostT (r : Res D) (Q : Bool → Hp → Prop) : Prop := match r with
  | .ok (.bl b) => ∀ G' H', Ext G H G' H' → Q b H'
  | .ok _ => False
  | .exc c ns ds => PostX K Cl W G H σ c ns ds
  | .stuck => False
def PostA (r : Res (List D)) (Q : List V → Hp → Prop) : Prop := match r with
  | .ok ds => ∀ vs G' H', Ext G H G' H' → Reps K Cl G' ds vs → Q vs H'
  | .exc c ns ds => PostX K Cl W G H σ c ns ds
  | .stuck => False
end
/-- a list that is new -/
def PostF (K : Frg) (Cl : ClT) (W : WX) (G H : Hp) (σ : L2.St) (r : Res D) (Q : VK) : Prop := match r with
  | .ok (.lst ds) => ∀ p xs G' H', Ext G H G' H' → G' p = none → H p = none → H' p = some (.lst xs) → Reps K Cl G' ds xs → Q (.ref p) H'
  | .ok _ => False
  | .exc c ns ds => PostX K Cl W G H σ c ns ds
  | .stuck => False
inductive RepBs (K : Frg) (Cl : ClT) (G H : Hp) : List D → List V → Prop where
  | nil : RepBs K Cl G H [] []
  | cons {d : D} {ds : List D} {v : V} {vs : List V} (h : RepB K Cl G H d v) (t : RepBs K Cl G H ds vs) : RepBs K Cl G H (d :: ds) (v :: vs)
theorem RepBs.grow {K : Frg} {Cl : ClT} {G H G' H' : Hp} (e : Ext G H G' H') : ∀ {ds : List D} {vs : List V}, RepBs K Cl G H ds vs → RepBs K Cl G' H' ds vs
  | _, _, .nil => .nil
  | _, _, .cons h t => .cons (h.grow e) (t.grow e)
section
variable (K : Frg) (Cl : ClT) (W : WX) (G H : Hp) (σ : L2.St)
def PostAB (r : Res (List D)) (Q : List V → Hp → Prop) : Prop := match r with
  | .ok ds => ∀ vs G' H', Ext G H G' H' → RepBs K Cl G' H' ds vs → Q vs H'
  | .exc c ns ds => PostX K Cl W G H σ c ns ds
  | .stuck => False
end
section
variable {K : Frg} {Cl : ClT} {W : WX} {G H G1 H1 : Hp} {σ : L2.St} {r : Res D} {Q : VK}
theorem PostX.grow {c : Str} {ns : List Str} {ds : List D} (e : Ext G H G1 H1) (h : PostX K Cl W G H σ c ns ds) : PostX K Cl W G1 H1 σ c ns ds := fun cls dd G2 H2 e2 x => h cls dd G2 H2 (e.trans e2) x
theorem PostE.grow (e : Ext G H G1 H1) (h : PostE K Cl W G H σ r Q) : PostE K Cl W G1 H1 σ r Q := by
  cases r with
  | ok d => exact fun v G2 H2 e2 q => h v G2 H2 (e.trans e2) q
  | exc c ns ds => exact PostX.grow e h
  | stuck => exact h
theorem PostB.grow (e : Ext G H G1 H1) (h : PostB K Cl W G H σ r Q) : PostB K Cl W G1 H1 σ r Q := by
  cases r with
  | ok d => exact fun v G2 H2 e2 q => h v G2 H2 (e.trans e2) q
  | exc c ns ds => exact PostX.grow e h
  | stuck => exact h
theorem PostT.grow {Q : Bool → Hp → Prop} (e : Ext G H G1 H1) (h : PostT K Cl W G H σ r Q) : PostT K Cl W G1 H1 σ r Q := by
  cases r with
  | ok d =>
    cases d with
    | bl b => exact fun G2 H2 e2 => h G2 H2 (e.trans e2)
    | _ => exact h
  | exc c ns ds => exact PostX.grow e h
  | stuck => exact h
theorem PostA.grow {r : Res (List D)} {Q : List V → Hp → Prop} (e : Ext G H G1 H1) (h : PostA K Cl W G H σ r Q) : PostA K Cl W G1 H1 σ r Q := by
  cases r with
  | ok d => exact fun v G2 H2 e2 q => h v G2 H2 (e.trans e2) q
  | exc c ns ds => exact PostX.grow e h
  | stuck => exact h
theorem PostAB.grow {r : Res (List D)} {Q : List V → Hp → Prop} (e : Ext G H G1 H1) (h : PostAB K Cl W G H σ r Q) : PostAB K Cl W G1 H1 σ r Q := by
  cases r with
  | ok d => exact fun v G2 H2 e2 q => h v G2 H2 (e.trans e2) q
  | exc c ns ds => exact PostX.grow e h
  | stuck => exact h
/-- a sequence: the first, borrowed; then the rest -/
theorem PostB.seq {k : D → Res D} {R : Res D → Hp → Hp → Prop} (gr : ∀ {G H G1 H1 : Hp} {r : Res D}, Ext G H G1 H1 → R r G H → R r G1 H1) (hx : ∀ {c ns ds}, R (.exc c ns ds) G H → PostX K Cl W G H σ c ns ds) (hs : ¬ R .stuck G H)
    (h : R (r.bind k) G H) : PostB K Cl W G H σ r (fun v H1 => ∃ x G1, r = .ok x ∧ Ext G H G1 H1 ∧ RepB K Cl G1 H1 x v ∧ R (k x) G1 H1) := by
  cases r with
  | ok d => exact fun v G1 H1 e q => ⟨d, G1, rfl, e, q, gr e h⟩
  | exc c ns ds => exact hx h
  | stuck => exact hs h
theorem PostB.seqE {k : D → Res D} (h : PostE K Cl W G H σ (r.bind k) Q) : PostB K Cl W G H σ r (fun v H1 => ∃ x G1, r = .ok x ∧ Ext G H G1 H1 ∧ RepB K Cl G1 H1 x v ∧ PostE K Cl W G1 H1 σ (k x) Q) :=
  PostB.seq (R := fun r G H => PostE K Cl W G H σ r Q) (fun e h => PostE.grow e h) (fun h => h) (fun h => h) h
theorem PostE.seqE {k : D → Res D} (h : PostE K Cl W G H σ (r.bind k) Q) : PostE K Cl W G H σ r (fun v H1 => ∃ x G1, r = .ok x ∧ Ext G H G1 H1 ∧ Rep K Cl G1 x v ∧ PostE K Cl W G1 H1 σ (k x) Q) := by
  cases r with
  | ok d => exact fun v G1 H1 e q => ⟨d, G1, rfl, e, q, PostE.grow e h⟩
  | exc c ns ds => exact h
  | stuck => exact h
theorem PostB.seqT {k : D → Res D} {Q : Bool → Hp → Prop} (h : PostT K Cl W G H σ (r.bind k) Q) : PostB K Cl W G H σ r (fun v H1 => ∃ x G1, r = .ok x ∧ Ext G H G1 H1 ∧ RepB K Cl G1 H1 x v ∧ PostT K Cl W G1 H1 σ (k x) Q) :=
  PostB.seq (R := fun r G H => PostT K Cl W G H σ r Q) (fun e h => PostT.grow e h) (fun h => h) (fun h => h) h
theorem PostT.seqT {k : D → Res D} {Q : Bool → Hp → Prop} (hk : ∀ d, (∀ b, d ≠ .bl b) → ∀ {G H : Hp}, ¬ PostT K Cl W G H σ (k d) Q) (h : PostT K Cl W G H σ (r.bind k) Q) :
    PostT K Cl W G H σ r (fun b H1 => ∃ G1, r = .ok (.bl b) ∧ Ext G H G1 H1 ∧ PostT K Cl W G1 H1 σ (k (.bl b)) Q) := by
  cases r with
  | ok d =>
    cases d with
    | bl b => exact fun G1 H1 e => ⟨G1, rfl, e, PostT.grow e h⟩
    | _ => exact (hk _ (fun b z => by cases z) h).elim
  | exc c ns ds => exact h
  | stuck => exact h
theorem PostT.seqE {k : D → Res D} (hk : ∀ d, (∀ b, d ≠ .bl b) → ∀ {G H : Hp}, ¬ PostE K Cl W G H σ (k d) Q) (h : PostE K Cl W G H σ (r.bind k) Q) :
    PostT K Cl W G H σ r (fun b H1 => ∃ G1, r = .ok (.bl b) ∧ Ext G H G1 H1 ∧ PostE K Cl W G1 H1 σ (k (.bl b)) Q) := by
  cases r with
  | ok d =>
    cases d with
    | bl b => exact fun G1 H1 e => ⟨G1, rfl, e, PostE.grow e h⟩
    | _ => exact (hk _ (fun b z => by cases z) h).elim
  | exc c ns ds => exact h
  | stuck => exact h
theorem PostA.seqE {r : Res (List D)} {k : List D → Res D} (h : PostE K Cl W G H σ (r.bind k) Q) : PostA K Cl W G H σ r (fun vs H1 => ∃ xs G1, r = .ok xs ∧ Ext G H G1 H1 ∧ Reps K Cl G1 xs vs ∧ PostE K Cl W G1 H1 σ (k xs) Q) := by
  cases r with
  | ok d => exact fun v G1 H1 e q => ⟨d, G1, rfl, e, q, PostE.grow e h⟩
  | exc c ns ds => exact h
  | stuck => exact h
theorem PostAB.seqE {r : Res (List D)} {k : List D → Res D} (h : PostE K Cl W G H σ (r.bind k) Q) : PostAB K Cl W G H σ r (fun vs H1 => ∃ xs G1, r = .ok xs ∧ Ext G H G1 H1 ∧ RepBs K Cl G1 H1 xs vs ∧ PostE K Cl W G1 H1 σ (k xs) Q) := by
  cases r with
  | ok d => exact fun v G1 H1 e q => ⟨d, G1, rfl, e, q, PostE.grow e h⟩
  | exc c ns ds => exact h
  | stuck => exact h
theorem PostE.ofO {o : Option D} (h : PostE K Cl W G H σ (Res.ofO o) Q) : ∃ d, o = some d ∧ ∀ v G' H', Ext G H G' H' → Rep K Cl G' d v → Q v H' := by
  cases o with
  | none => exact h.elim
  | some d => exact ⟨d, rfl, h⟩
theorem PostE.toB (h : PostB K Cl W G H σ r Q) : PostE K Cl W G H σ r Q := by
  cases r with
  | ok d => exact fun v G1 H1 e q => h v G1 H1 e (.inl q)
  | exc c ns ds => exact h
  | stuck => exact h
end

/-- a new list is a shared one, too -/
theorem Ext.showNew {G H G' H' : Hp} {p : Addr} {xs : List V} (e : Ext G H G' H') (g : G' p = none) (h : H p = none) (hx : H' p = some (.lst xs)) : Ext G H (upd G' p (.lst xs)) H' :=
  ⟨e.sub, e.vis.trans (same_upd g), Ext.show e.low g hx, fun a q n => by
    rw [upd_ne (fun z => n (by rw [z]; exact h))]
    exact e.hid a q n⟩
theorem PostE.toF {K : Frg} {Cl : ClT} {W : WX} {G H : Hp} {σ : L2.St} {r : Res D} {Q : VK} (h : PostE K Cl W G H σ r Q) (hl : ∀ d, r = .ok d → ∃ ds, d = .lst ds) : PostF K Cl W G H σ r Q := by
  cases r with
  | exc c ns ds => exact h
  | stuck => exact h
  | ok d =>
    obtain ⟨ds, rfl⟩ := hl d rfl
    intro p xs G' H' e g hp hx r
    refine h (.ref p) _ H' (e.showNew g hp hx) ?_
    simp only [Rep]
    exact ⟨p, xs, rfl, upd_same, r.mono (same_upd g)⟩

/-! ### the readings -/
def tE (K : Frg) (Cl : ClT) (W : WX) (f : Ro → Res D) : TE := fun σ H Q => ∃ G0 H0 G ρ, Sim K Cl G0 H0 G H ρ σ ∧ PostE K Cl W G H σ (f ρ) Q
def tF (K : Frg) (Cl : ClT) (W : WX) (f : Ro → Res D) : TE := fun σ H Q => ∃ G0 H0 G ρ, Sim K Cl G0 H0 G H ρ σ ∧ PostF K Cl W G H σ (f ρ) Q
def tB (K : Frg) (Cl : ClT) (W : WX) (f : Ro → Res D) : TE := fun σ H Q => ∃ G0 H0 G ρ, Sim K Cl G0 H0 G H ρ σ ∧ PostB K Cl W G H σ (f ρ) Q
def tT (K : Frg) (Cl : ClT) (W : WX) (f : Ro → Res D) : TT := fun σ H Q => ∃ G0 H0 G ρ, Sim K Cl G0 H0 G H ρ σ ∧ PostT K Cl W G H σ (f ρ) Q
def tA (K : Frg) (Cl : ClT) (W : WX) (f : Ro → Res (List D)) : TA := fun σ H Q => ∃ G0 H0 G ρ, Sim K Cl G0 H0 G H ρ σ ∧ PostA K Cl W G H σ (f ρ) Q
def tAB (K : Frg) (Cl : ClT) (W : WX) (f : Ro → Res (List D)) : TA := fun σ H Q => ∃ G0 H0 G ρ, Sim K Cl G0 H0 G H ρ σ ∧ PostAB K Cl W G H σ (f ρ) Q

section
variable {X : Cx} {Cl : ClT} {W : WX} {a b c : Expr} {f g : Ro → Res D} {pos : Pos}
theorem PE.imp {e : Expr} {t t' : TE} (h : PE X e t) (i : ∀ σ H Q, t' σ H Q → t σ H Q) : PE X e t' := ⟨fun pins s σ H Q I q => h.run pins s σ H Q I (i _ _ _ q)⟩
theorem PT.imp {e : Expr} {t t' : TT} (h : PT X e t) (i : ∀ σ H Q, t' σ H Q → t σ H Q) : PT X e t' := ⟨fun pins s σ H Q I q => h.run pins s σ H Q I (i _ _ _ q)⟩
theorem PA.imp {e : List Expr} {t t' : TA} (h : PA X e t) (i : ∀ σ H Q, t' σ H Q → t σ H Q) : PA X e t' := ⟨fun pos pins s σ H Q I q => h.run pos pins s σ H Q I (i _ _ _ q)⟩
/-- a shared value may be borrowed -/
theorem toBor (h : PE X a (tE X.K Cl W f)) : PE X a (tB X.K Cl W f) := PE.imp h fun σ H Q ⟨G0, H0, G, ρ, s, q⟩ => ⟨G0, H0, G, ρ, s, PostE.toB q⟩

/-! two-place operations -/
def OpD (X : Cx) (Cl : ClT) (f : Value → Value → Sem Value) (F : D → D → Option D) : Prop :=
  ∀ (pins : List (Addr × Obj)) (s : Shared) (σ : L2.St) (G H : Hp) (x y d : D) (v w : V) (u1 u2 : Value) (Q : VK), Inv X pins σ H s → RelV v u1 → RelV w u2 → Same G H → RepB X.K Cl G H x v → RepB X.K Cl G H y w → F x y = some d →
    (∀ v G' H', Ext G H G' H' → Rep X.K Cl G' d v → Q v H') → wpAny (model X.prog X.w) X.A (f u1 u2) (EP X pins σ Q) X.xe s
def UnD (X : Cx) (Cl : ClT) (f : Value → Sem Value) (F : D → Option D) : Prop :=
  ∀ (pins : List (Addr × Obj)) (s : Shared) (σ : L2.St) (G H : Hp) (x d : D) (v : V) (u1 : Value) (Q : VK), Inv X pins σ H s → RelV v u1 → Same G H → RepB X.K Cl G H x v → F x = some d →
    (∀ v G' H', Ext G H G' H' → Rep X.K Cl G' d v → Q v H') → wpAny (model X.prog X.w) X.A (f u1) (EP X pins σ Q) X.xe s
def bin (f g : Ro → Res D) (F : D → D → Option D) : Ro → Res D := fun ρ => (f ρ).bind fun x => (g ρ).bind fun y => Res.ofO (F x y)
def un (f : Ro → Res D) (F : D → Option D) : Ro → Res D := fun ρ => (f ρ).bind fun x => Res.ofO (F x)
/-- two expressions, borrowed, in a row -/
theorem two {σ : L2.St} {H : Hp} {Q : VK} {F : D → D → Option D} (h : tE X.K Cl W (bin f g F) σ H Q) :
    tB X.K Cl W f σ H fun v H1 => tB X.K Cl W g σ H1 fun w H2 => ∃ x y d G2, Same G2 H2 ∧ RepB X.K Cl G2 H2 x v ∧ RepB X.K Cl G2 H2 y w ∧ F x y = some d ∧ ∀ u G' H', Ext G2 H2 G' H' → Rep X.K Cl G' d u → Q u H' := by
  obtain ⟨G0, H0, G, ρ, sim, h⟩ := h
  refine ⟨G0, H0, G, ρ, sim, ?_⟩
  have h1 := PostB.seqE (r := f ρ) h
  cases e : f ρ with
  | exc c ns ds => rw [e] at h1; exact h1
  | stuck => rw [e] at h1; exact h1
  | ok x0 =>
    rw [e] at h1
    intro v G1 H1 e1 r1
    obtain ⟨x, G1', ex, e1', r1', h2⟩ := h1 v G1 H1 e1 r1
    cases ex
    refine ⟨G0, H0, G1', ρ, sim.grow e1', ?_⟩
    have h3 := PostB.seqE (r := g ρ) h2
    cases e' : g ρ with
    | exc c ns ds => rw [e'] at h3; exact h3
    | stuck => rw [e'] at h3; exact h3
    | ok y0 =>
      rw [e'] at h3
      intro w G2 H2 e2 r2
      obtain ⟨y, G2', ey, e2', r2', h4⟩ := h3 w G2 H2 e2 r2
      obtain ⟨d, hd, hq⟩ := PostE.ofO h4
      exact ⟨x0, y, d, G2', e2'.low, r1'.grow e2', r2', hd, hq⟩
theorem rE_bin {op : Operator} {F : D → D → Option D} (ho : OpD X Cl (binaryOp op) F) (ha : PE X a (tB X.K Cl W f)) (hb : PE X b (tB X.K Cl W g)) : PE X (.BinOp a op b pos) (tE X.K Cl W (bin f g F)) := by
  refine ⟨fun pins s σ H Q I h => ?_⟩
  refine wpAny_BinOp (binT ha hb I (two h) fun v u s2 x y H2 I2 rx ry q => ?_)
  obtain ⟨x', y', d, G2, sm, r1, r2, hd, hq⟩ := q
  exact ho pins s2 σ G2 H2 x' y' d x y v u Q I2 rx ry sm r1 r2 hd hq
theorem rE_cmp {op : CmpOp} {F : D → D → Option D} (ho : OpD X Cl (compareOp op) F) (ha : PE X a (tB X.K Cl W f)) (hb : PE X b (tB X.K Cl W g)) (hm : behindInMarks op b = false) : PE X (.Compare a [op] [b] pos) (tE X.K Cl W (bin f g F)) := by
  refine ⟨fun pins s σ H Q I h => ?_⟩
  refine wpAny_Compare1 (binT ha hb I (two h) fun v u s2 x y H2 I2 rx ry q => ?_) hm
  obtain ⟨x', y', d, G2, sm, r1, r2, hd, hq⟩ := q
  exact ho pins s2 σ G2 H2 x' y' d x y v u Q I2 rx ry sm r1 r2 hd hq
/-- as a test: the answer is a truth value -/
def onlyB (F : D → D → Option D) : Prop := ∀ x y d, F x y = some d → ∃ b, d = .bl b
theorem twoT {σ : L2.St} {H : Hp} {Q : Bool → Hp → Prop} {F : D → D → Option D} (hF : onlyB F) (h : tT X.K Cl W (bin f g F) σ H Q) :
    tE X.K Cl W (bin f g F) σ H fun v H1 => ∃ c, v = .bl c ∧ Q c H1 := by
  obtain ⟨G0, H0, G, ρ, sim, h⟩ := h
  refine ⟨G0, H0, G, ρ, sim, ?_⟩
  have : ∀ d, bin f g F ρ = .ok d → ∃ b, d = .bl b := fun d e => by
    unfold bin at e
    cases e1 : f ρ with
    | exc c ns ds => rw [e1] at e; cases e
    | stuck => rw [e1] at e; cases e
    | ok x =>
      rw [e1] at e
      cases e2 : g ρ with
      | exc c ns ds => simp only [Res.bind, e2] at e; cases e
      | stuck => simp only [Res.bind, e2] at e; cases e
      | ok y =>
        simp only [Res.bind, e2] at e
        cases e3 : F x y with
        | none => rw [e3] at e; cases e
        | some d' => rw [e3] at e; cases e; exact hF x y _ e3
  cases e : bin f g F ρ with
  | exc c ns ds => rw [e] at h; exact h
  | stuck => rw [e] at h; exact h
  | ok d =>
    obtain ⟨b, rfl⟩ := this d e
    rw [e] at h
    intro v G1 H1 e1 r1
    simp only [Rep] at r1
    exact ⟨b, r1, h G1 H1 e1⟩
theorem rT_cmp {op : CmpOp} {F : D → D → Option D} (hF : onlyB F) (ho : OpD X Cl (compareOp op) F) (ha : PE X a (tB X.K Cl W f)) (hb : PE X b (tB X.K Cl W g)) (hm : behindInMarks op b = false) : PT X (.Compare a [op] [b] pos) (tT X.K Cl W (bin f g F)) := by
  refine ⟨fun pins s σ H Q I h => ?_⟩
  have h' := twoT (X := X) hF h
  have h2 := two h'
  refine wpAny_isTrue_Compare1 (thn (ha.run pins s σ H _ I h2) fun v s1 ⟨x, H1, I1, r1, q1⟩ => thn (hb.run pins s1 σ H1 _ I1 q1) fun u s2 ⟨y, H2, I2, r2, q2⟩ => ?_) hm
  obtain ⟨x', y', d, G2, sm, p1, p2, hd, hq⟩ := q2
  refine thn (ho pins s2 σ G2 H2 x' y' d x y v u _ I2 r1 r2 sm p1 p2 hd hq) fun cv s3 ⟨z, H3, I3, r3, k, e, q3⟩ => ?_
  subst e
  cases r3
  exact wpAny_truthy_bool ⟨H3, I3, q3⟩
theorem one' {σ : L2.St} {H : Hp} {Q : VK} {F : D → Option D} (h : tE X.K Cl W (un f F) σ H Q) :
    tB X.K Cl W f σ H fun v H1 => ∃ x d G1, Same G1 H1 ∧ RepB X.K Cl G1 H1 x v ∧ F x = some d ∧ ∀ u G' H', Ext G1 H1 G' H' → Rep X.K Cl G' d u → Q u H' := by
  obtain ⟨G0, H0, G, ρ, sim, h⟩ := h
  refine ⟨G0, H0, G, ρ, sim, ?_⟩
  have h1 := PostB.seqE (r := f ρ) h
  cases e : f ρ with
  | exc c ns ds => rw [e] at h1; exact h1
  | stuck => rw [e] at h1; exact h1
  | ok x0 =>
    rw [e] at h1
    intro v G1 H1 e1 r1
    obtain ⟨x, G1', ex, e1', r1', h2⟩ := h1 v G1 H1 e1 r1
    cases ex
    obtain ⟨d, hd, hq⟩ := PostE.ofO h2
    exact ⟨x0, d, G1', e1'.low, r1', hd, hq⟩
theorem rE_un {op : UnaryOp} {F : D → Option D} (ho : UnD X Cl (unaryOp op) F) (ha : PE X a (tB X.K Cl W f)) : PE X (.UnaryOp op a pos) (tE X.K Cl W (un f F)) := by
  refine ⟨fun pins s σ H Q I h => ?_⟩
  refine UnaryOp_ (thn (ha.run pins s σ H _ I (one' h)) fun v s1 ⟨x, H1, I1, r1, q1⟩ => ?_)
  obtain ⟨x', d, G1, sm, p1, hd, hq⟩ := q1
  exact ho pins s1 σ G1 H1 x' d x v Q I1 r1 sm p1 hd hq

/-! truth -/
def truD : D → Option D
  | .non => some (.bl false)
  | .bl b => some (.bl b)
  | .int i => some (.bl (i != 0))
  | .str y => if y.length ≤ sizeLine then some (.bl ((y.length : Int) != 0)) else none
  | .lst xs => some (.bl (!xs.isEmpty))
  | .frl xs => some (.bl (!xs.isEmpty))
  | .tup xs => some (.bl (!xs.isEmpty))
  | .ins _ _ _ => none
theorem isEmpty_len {α β : Type} {xs : List α} {ys : List β} (h : xs.length = ys.length) : xs.isEmpty = ys.isEmpty := by
  cases xs <;> cases ys <;> first | rfl | simp at h
theorem tru_rep {K : Frg} {G H : Hp} {x d : D} {v : V} (sm : Same G H) (r : RepB K Cl G H x v) (e : truD x = some d) : ∃ k, d = .bl k ∧ TruV K v H k := by
  cases x with
  | non => cases r.non; cases e; exact ⟨_, rfl, rfl⟩
  | bl b => cases r.bl; cases e; exact ⟨_, rfl, rfl⟩
  | int i => cases r.int; cases e; exact ⟨_, rfl, rfl⟩
  | str y =>
    cases r.str
    by_cases hy : y.length ≤ sizeLine
    · have e' := (if_pos hy).symm.trans e
      cases e'
      exact ⟨_, rfl, hy, rfl⟩
    · have e' := (if_neg hy).symm.trans e
      cases e'
  | lst xs =>
    cases e
    obtain ⟨a, ys, rfl, h1, h2⟩ := r.lst sm
    exact ⟨_, rfl, .inl ⟨ys, SqL.of h1, by rw [isEmpty_len h2.length]⟩⟩
  | frl xs =>
    cases e
    obtain ⟨a, ys, rfl, h1, h2⟩ := r.frl sm
    exact ⟨_, rfl, .inl ⟨ys, h1, by rw [isEmpty_len h2.length]⟩⟩
  | tup xs =>
    cases e
    obtain ⟨a, ys, rfl, h1, h2, _⟩ := r.tup sm
    exact ⟨_, rfl, .inr (.inl ⟨ys, h1, by rw [isEmpty_len h2.length]⟩)⟩
  | ins c ns ds => cases e
/-- an expression's truth -/
theorem rT_truth (ha : PE X a (tB X.K Cl W f)) (he : ∀ whole, isTrue a X.env whole = (do let v ← whole; standAt a.pos; holding [v] (truthy v))) : PT X a (tT X.K Cl W (un f truD)) := by
  refine PT.imp (pt_truth ha he) fun σ H Q h => ?_
  obtain ⟨G0, H0, G, ρ, sim, h⟩ := h
  refine ⟨G0, H0, G, ρ, sim, ?_⟩
  have h1 := PostB.seqT (r := f ρ) h
  cases e : f ρ with
  | exc c ns ds => rw [e] at h1; exact h1
  | stuck => rw [e] at h1; exact h1
  | ok x0 =>
    rw [e] at h1
    intro v G1 H1 e1 r1
    obtain ⟨x, G1', ex, e1', r1', h2⟩ := h1 v G1 H1 e1 r1
    cases ex
    cases e3 : truD x0 with
    | none => rw [e3] at h2; exact h2.elim
    | some d =>
      rw [e3] at h2
      obtain ⟨k, rfl, tv⟩ := tru_rep e1'.low r1' e3
      exact ⟨k, tv, h2 G1' H1 (Ext.refl e1'.low)⟩
end
end Pu
/-! PuC: operators, built-in calls, subscripts and slices over plain data, each with its rule. -/
namespace Pu
open PySem PySem.Spec PyProof.Rows L2

/-! ### the data as the library's data -/
mutual
def toPy : D → Option PyData
  | .non => some .none
  | .bl b => some (.bool b)
  | .int i => some (.int i)
  | .str x => some (.str x)
  | .lst xs => (toPys xs).map .list
  | .frl xs => (toPys xs).map .list
  | .tup xs => (toPys xs).map .tuple
  | .ins _ _ _ => none
def toPys : List D → Option (List PyData)
  | [] => some []
  | d :: ds => match toPy d, toPys ds with
    | some p, some ps => some (p :: ps)
    | _, _ => none
end
section
variable {K : Frg} {Cl : ClT} {G H : Hp}
mutual
theorem Rep.dp : ∀ (d : D) (v : V) (p : PyData), Rep K Cl H d v → toPy d = some p → Dp K H v p
  | .non, v, p, h, e => by
    simp only [Rep] at h
    simp only [toPy] at e
    cases e; subst h; exact .non
  | .bl b, v, p, h, e => by
    simp only [Rep] at h
    simp only [toPy] at e
    cases e; subst h; exact .bl b
  | .int b, v, p, h, e => by
    simp only [Rep] at h
    simp only [toPy] at e
    cases e; subst h; exact .int b
  | .str b, v, p, h, e => by
    simp only [Rep] at h
    simp only [toPy] at e
    cases e; subst h; exact .str b
  | .lst xs, v, p, h, e => by
    simp only [Rep] at h
    obtain ⟨a, ys, rfl, h1, h2⟩ := h
    simp only [toPy] at e
    obtain ⟨ps, e1, rfl⟩ := Option.map_eq_some_iff.mp e
    exact .lst (SqL.of h1) (Reps.dp xs ys ps h2 e1)
  | .frl xs, v, p, h, e => by
    simp only [Rep] at h
    obtain ⟨a, ys, rfl, h1, h2⟩ := h
    simp only [toPy] at e
    obtain ⟨ps, e1, rfl⟩ := Option.map_eq_some_iff.mp e
    exact .lst h1 (Reps.dp xs ys ps h2 e1)
  | .tup xs, v, p, h, e => by
    simp only [Rep] at h
    obtain ⟨a, ys, rfl, h1, h2⟩ := h
    simp only [toPy] at e
    obtain ⟨ps, e1, rfl⟩ := Option.map_eq_some_iff.mp e
    exact .tup h1 (Reps.dp xs ys ps h2 e1)
  | .ins _ _ _, v, p, h, e => by
    simp only [toPy] at e
    cases e
theorem Reps.dp : ∀ (ds : List D) (vs : List V) (ps : List PyData), Reps K Cl H ds vs → toPys ds = some ps → DpAll K H vs ps
  | [], vs, ps, h, e => by
    simp only [Reps] at h
    simp only [toPys] at e
    cases e; subst h; exact .nil
  | d :: ds, vs, ps, h, e => by
    simp only [Reps] at h
    obtain ⟨v, r, rfl, h1, h2⟩ := h
    simp only [toPys] at e
    cases e1 : toPy d with
    | none => rw [e1] at e; cases e
    | some p =>
      cases e2 : toPys ds with
      | none => rw [e1, e2] at e; cases e
      | some qs =>
        rw [e1, e2] at e
        cases e
        exact .cons (Rep.dp d v p h1 e1) (Reps.dp ds r qs h2 e2)
end
theorem RepB.dp {d : D} {v : V} {p : PyData} (s : Same G H) (h : RepB K Cl G H d v) (e : toPy d = some p) : Dp K H v p := by
  rcases h with h | ⟨ds, a, xs, rfl, rfl, h1, h2⟩ | ⟨c, ns, ds, a, C, dx, xs, rfl, rfl, _⟩
  · exact Rep.dp d v p (h.mono s) e
  · simp only [toPy] at e
    obtain ⟨ps, e1, rfl⟩ := Option.map_eq_some_iff.mp e
    exact .lst (SqL.of h1) (Reps.dp ds xs ps (h2.mono s) e1)
  · simp only [toPy] at e
    cases e
end

/-! ### two-place operators -/
def addD : D → D → Option D
  | .int i, .int j => some (.int (i + j))
  | .str x, .str y => if x.length + y.length ≤ sizeLine then some (.str (x ++ y)) else none
  | .lst xs, .lst ys => if xs.length + ys.length ≤ sizeLine then some (.lst (xs ++ ys)) else none
  | .tup xs, .tup ys => if xs.length + ys.length ≤ sizeLine then some (.tup (xs ++ ys)) else none
  | _, _ => none
def subD : D → D → Option D
  | .int i, .int j => some (.int (i - j))
  | _, _ => none
def mulD : D → D → Option D
  | .int i, .int j => if i.natAbs.log2 + j.natAbs.log2 < 1000000 then some (.int (i * j)) else none
  | .lst xs, .int k => if -(2 ^ 63) ≤ k ∧ k < 2 ^ 63 ∧ xs.length * k.toNat ≤ sizeLine then some (.lst (List.replicate k.toNat xs).flatten) else none
  | _, _ => none
def fdivD : D → D → Option D
  | .int i, .int j => if j ≠ 0 ∧ j.natAbs.log2 < 9000 then some (.int (i.fdiv j)) else none
  | _, _ => none
def modD : D → D → Option D
  | .int i, .int j => if j ≠ 0 then some (.int (i.fmod j)) else none
  | _, _ => none
def powD : D → D → Option D
  | .int i, .int j => if 0 ≤ j ∧ j ≤ 1000000 ∧ i.natAbs < 2 ^ 64 then some (.int (i ^ j.toNat)) else none
  | _, _ => none
def bandD : D → D → Option D
  | .int i, .int j => some (.int (Builtin.bitAnd i j))
  | _, _ => none
def shrD : D → D → Option D
  | .int i, .int j => if 0 ≤ j then some (.int (i / 2 ^ j.toNat)) else none
  | _, _ => none
def noD : D → D → Option D := fun _ _ => none
def binD : Operator → D → D → Option D
  | .Add => addD
  | .Sub => subD
  | .Mult => mulD
  | .FloorDiv => fdivD
  | .Mod => modD
  | .Pow => powD
  | .BitAnd => bandD
  | .RShift => shrD
  | _ => noD

section
variable {X : Cx} {Cl : ClT}
theorem opd_add : OpD X Cl (binaryOp .Add) addD := by
  intro pins s σ G H x y d v w u1 u2 Q I rv rw' sm r1 r2 e q
  cases x with
  | int i =>
    cases y with
    | int j =>
      cases e
      cases r1.int
      cases r2.int
      exact op_add pins s σ H _ _ u1 u2 Q I rv rw' ⟨i, j, rfl, rfl, q _ G H (Ext.refl sm) (by simp only [Rep])⟩
    | _ => cases e
  | str i =>
    cases y with
    | str j =>
      by_cases c : i.length + j.length ≤ sizeLine
      · have e' := (if_pos c).symm.trans e
        cases e'
        cases r1.str
        cases r2.str
        exact op_add_str pins s σ H _ _ u1 u2 Q I rv rw' ⟨i, j, rfl, rfl, c, q _ G H (Ext.refl sm) (by simp only [Rep])⟩
      · have e' := (if_neg c).symm.trans e
        cases e'
    | _ => cases e
  | lst xs =>
    cases y with
    | lst ys =>
      by_cases c : xs.length + ys.length ≤ sizeLine
      · have e' := (if_pos c).symm.trans e
        cases e'
        obtain ⟨a, vs, rfl, h1, h2⟩ := r1.lst sm
        obtain ⟨b, ws, rfl, h3, h4⟩ := r2.lst sm
        refine op_cat pins s σ H _ _ u1 u2 Q I rv rw' ⟨a, b, vs, ws, rfl, rfl, h1, h3, by rw [← h2.length, ← h4.length]; exact c, fun p hp => q _ _ _ (Ext.new sm hp) ?_⟩
        simp only [Rep]
        exact ⟨p, _, rfl, upd_same, (h2.append h4).mono (same_upd (Same.free sm hp))⟩
      · have e' := (if_neg c).symm.trans e
        cases e'
    | _ => cases e
  | tup xs =>
    cases y with
    | tup ys =>
      by_cases c : xs.length + ys.length ≤ sizeLine
      · have e' := (if_pos c).symm.trans e
        cases e'
        obtain ⟨a, vs, rfl, h1, h2, g1⟩ := r1.tup sm
        obtain ⟨b, ws, rfl, h3, h4, g2⟩ := r2.tup sm
        refine op_catA pins s σ H _ _ u1 u2 Q I rv rw' ⟨a, b, vs, ws, rfl, rfl, h1, h3, by rw [← h2.length, ← h4.length]; exact c, fun z => ?_, fun _ z => ?_, fun _ _ p hp => q _ _ _ (Ext.new sm hp) ?_⟩
        · subst z
          have : xs = [] := List.eq_nil_of_length_eq_zero (by rw [h2.length]; rfl)
          subst this
          refine q _ G H (Ext.refl sm) ?_
          simp only [Rep, List.nil_append]
          exact ⟨b, ws, rfl, g2, h4⟩
        · subst z
          have : ys = [] := List.eq_nil_of_length_eq_zero (by rw [h4.length]; rfl)
          subst this
          refine q _ G H (Ext.refl sm) ?_
          simp only [Rep, List.append_nil]
          exact ⟨a, vs, rfl, g1, h2⟩
        · simp only [Rep]
          exact ⟨p, _, rfl, SqT.of upd_same, (h2.append h4).mono (same_upd (Same.free sm hp))⟩
      · have e' := (if_neg c).symm.trans e
        cases e'
    | _ => cases e
  | _ => cases y <;> cases e
theorem opd_sub : OpD X Cl (binaryOp .Sub) subD := by
  intro pins s σ G H x y d v w u1 u2 Q I rv rw' sm r1 r2 e q
  cases x with
  | int i =>
    cases y with
    | int j =>
      cases e
      cases r1.int
      cases r2.int
      exact op_sub pins s σ H _ _ u1 u2 Q I rv rw' ⟨i, j, rfl, rfl, q _ G H (Ext.refl sm) (by simp only [Rep])⟩
    | _ => cases e
  | _ => cases y <;> cases e
theorem opd_mul : OpD X Cl (binaryOp .Mult) mulD := by
  intro pins s σ G H x y d v w u1 u2 Q I rv rw' sm r1 r2 e q
  cases x with
  | int i =>
    cases y with
    | int j =>
      by_cases c : i.natAbs.log2 + j.natAbs.log2 < 1000000
      · have e' := (if_pos c).symm.trans e
        cases e'
        cases r1.int
        cases r2.int
        exact op_mulW pins s σ H _ _ u1 u2 Q I rv rw' ⟨i, j, rfl, rfl, c, q _ G H (Ext.refl sm) (by simp only [Rep])⟩
      · have e' := (if_neg c).symm.trans e
        cases e'
    | _ => cases e
  | lst xs =>
    cases y with
    | int j =>
      by_cases c : -(2 ^ 63) ≤ j ∧ j < 2 ^ 63 ∧ xs.length * j.toNat ≤ sizeLine
      · have e' := (if_pos c).symm.trans e
        cases e'
        cases r2.int
        obtain ⟨a, vs, rfl, h1, h2⟩ := r1.lst sm
        refine op_rep pins s σ H _ _ u1 u2 Q I rv rw' ⟨a, j, vs, rfl, rfl, h1, c.1, c.2.1, by rw [← h2.length]; exact c.2.2, fun p hp => q _ _ _ (Ext.new sm hp) ?_⟩
        simp only [Rep]
        refine ⟨p, _, rfl, upd_same, Reps.mono (same_upd (Same.free sm hp)) _ _ ?_⟩
        have rp : ∀ k : Nat, Reps X.K Cl G (List.replicate k xs).flatten (List.replicate k vs).flatten := fun k => by
          induction k with
          | zero => simpa using Reps.nil
          | succ k ih =>
            rw [List.replicate_succ, List.replicate_succ, List.flatten_cons, List.flatten_cons]
            exact h2.append ih
        exact rp _
      · have e' := (if_neg c).symm.trans e
        cases e'
    | _ => cases e
  | _ => cases y <;> cases e
theorem opd_fdiv : OpD X Cl (binaryOp .FloorDiv) fdivD := by
  intro pins s σ G H x y d v w u1 u2 Q I rv rw' sm r1 r2 e q
  cases x with
  | int i =>
    cases y with
    | int j =>
      by_cases c : j ≠ 0 ∧ j.natAbs.log2 < 9000
      · have e' := (if_pos c).symm.trans e
        cases e'
        cases r1.int
        cases r2.int
        obtain ⟨t, rfl⟩ := rv
        obtain ⟨t', rfl⟩ := rw'
        exact floordiv_int c.1 ⟨.int _, H, I.tok _, ⟨_, rfl⟩, q _ G H (Ext.refl sm) (by simp only [Rep])⟩ (.inl (PyProof.noPylong_of_log2 c.2))
      · have e' := (if_neg c).symm.trans e
        cases e'
    | _ => cases e
  | _ => cases y <;> cases e
theorem opd_mod : OpD X Cl (binaryOp .Mod) modD := by
  intro pins s σ G H x y d v w u1 u2 Q I rv rw' sm r1 r2 e q
  cases x with
  | int i =>
    cases y with
    | int j =>
      by_cases c : j ≠ 0
      · have e' := (if_pos c).symm.trans e
        cases e'
        cases r1.int
        cases r2.int
        exact op_modN pins s σ H _ _ u1 u2 Q I rv rw' ⟨i, j, rfl, rfl, c, q _ G H (Ext.refl sm) (by simp only [Rep])⟩
      · have e' := (if_neg c).symm.trans e
        cases e'
    | _ => cases e
  | _ => cases y <;> cases e
theorem opd_pow : OpD X Cl (binaryOp .Pow) powD := by
  intro pins s σ G H x y d v w u1 u2 Q I rv rw' sm r1 r2 e q
  cases x with
  | int i =>
    cases y with
    | int j =>
      by_cases c : 0 ≤ j ∧ j ≤ 1000000 ∧ i.natAbs < 2 ^ 64
      · have e' := (if_pos c).symm.trans e
        cases e'
        cases r1.int
        cases r2.int
        exact op_pow pins s σ H _ _ u1 u2 Q I rv rw' ⟨i, j, rfl, rfl, c, q _ G H (Ext.refl sm) (by simp only [Rep])⟩
      · have e' := (if_neg c).symm.trans e
        cases e'
    | _ => cases e
  | _ => cases y <;> cases e
theorem opd_band : OpD X Cl (binaryOp .BitAnd) bandD := by
  intro pins s σ G H x y d v w u1 u2 Q I rv rw' sm r1 r2 e q
  cases x with
  | int i =>
    cases y with
    | int j =>
      cases e
      cases r1.int
      cases r2.int
      exact op_and pins s σ H _ _ u1 u2 Q I rv rw' ⟨i, j, rfl, rfl, q _ G H (Ext.refl sm) (by simp only [Rep])⟩
    | _ => cases e
  | _ => cases y <;> cases e
theorem opd_shr : OpD X Cl (binaryOp .RShift) shrD := by
  intro pins s σ G H x y d v w u1 u2 Q I rv rw' sm r1 r2 e q
  cases x with
  | int i =>
    cases y with
    | int j =>
      by_cases c : 0 ≤ j
      · have e' := (if_pos c).symm.trans e
        cases e'
        cases r1.int
        cases r2.int
        exact op_shr pins s σ H _ _ u1 u2 Q I rv rw' ⟨i, j, rfl, rfl, c, q _ G H (Ext.refl sm) (by simp only [Rep])⟩
      · have e' := (if_neg c).symm.trans e
        cases e'
    | _ => cases e
  | _ => cases y <;> cases e
theorem opd_no {f : Value → Value → Sem Value} : OpD X Cl f noD := fun _ _ _ _ _ _ _ _ _ _ _ _ _ _ _ _ _ _ _ e _ => by cases e
theorem opd_bin (o : Operator) : OpD X Cl (binaryOp o) (binD o) := by
  cases o with
  | Add => exact opd_add
  | Sub => exact opd_sub
  | Mult => exact opd_mul
  | FloorDiv => exact opd_fdiv
  | Mod => exact opd_mod
  | Pow => exact opd_pow
  | BitAnd => exact opd_band
  | RShift => exact opd_shr
  | _ => exact opd_no
def negD : D → Option D
  | .int i => some (.int (-i))
  | _ => none
theorem und_neg : UnD X Cl (unaryOp .USub) negD := by
  intro pins s σ G H x d v u1 Q I rv sm r1 e q
  cases x with
  | int i =>
    cases e
    cases r1.int
    exact un_neg pins s σ H _ u1 Q I rv ⟨i, rfl, q _ G H (Ext.refl sm) (by simp only [Rep])⟩
  | _ => cases e
end

/-! ### comparisons -/
def eqD (x y : D) : Option D := match toPy x, toPy y with
  | some a, some b => if SeqAt.shaped a = true ∧ SeqAt.shaped b = true then some (.bl (PyData.eqv a b)) else none
  | _, _ => none
def neD (x y : D) : Option D := match toPy x, toPy y with
  | some a, some b => if SeqAt.shaped a = true ∧ SeqAt.shaped b = true then some (.bl (!PyData.eqv a b)) else none
  | _, _ => none
def ltD : D → D → Option D
  | .int i, .int j => some (.bl (decide (i < j)))
  | .str i, .str j => some (.bl (decide (i.cps.toList < j.cps.toList)))
  | _, _ => none
def leD : D → D → Option D
  | .int i, .int j => some (.bl (decide (i ≤ j)))
  | _, _ => none
def gtD : D → D → Option D
  | .int i, .int j => some (.bl (decide (j < i)))
  | _, _ => none
def geD : D → D → Option D
  | .int i, .int j => some (.bl (decide (j ≤ i)))
  | _, _ => none
def isNonD : D → Bool
  | .non => true
  | _ => false
def isD : D → D → Option D
  | x, .non => some (.bl (isNonD x))
  | .bl a, .bl b => some (.bl (decide (a = b)))
  | _, _ => none
def isNotD : D → D → Option D
  | x, .non => some (.bl (!isNonD x))
  | .bl a, .bl b => some (.bl (!decide (a = b)))
  | _, _ => none
def flatD : D → Bool
  | .non => true
  | .bl _ => true
  | .int _ => true
  | .str _ => true
  | _ => false
def eqFD : D → D → Bool
  | .non, .non => true
  | .bl a, .bl b => a == b
  | .bl a, .int b => (if a then 1 else 0) == b
  | .int a, .bl b => a == (if b then 1 else 0)
  | .int a, .int b => a == b
  | .str a, .str b => a == b
  | _, _ => false
def memD (x : D) : D → Option Bool
  | .lst ys => match toPy x, toPys ys with
    | some p, some ps => if SeqAt.shaped p = true ∧ SeqAt.shaped (.list ps) = true then some (ps.any fun z => PyData.eqv z p) else none
    | _, _ => none
  | .frl ys => match toPy x, toPys ys with
    | some p, some ps => if SeqAt.shaped p = true ∧ SeqAt.shaped (.list ps) = true then some (ps.any fun z => PyData.eqv z p) else none
    | _, _ => none
  | .tup ys => if flatD x = true ∧ ys.all flatD = true then some (ys.any fun y => eqFD y x) else none
  | .str z => match x with
    | .str c => if c.cps.size = 1 then some (decide (c.cps.getD 0 0 ∈ z.cps.toList)) else none
    | _ => none
  | _ => none
def inD (x y : D) : Option D := (memD x y).map fun b => .bl b
def notInD (x y : D) : Option D := (memD x y).map fun b => .bl (!b)
def cmpD : CmpOp → D → D → Option D
  | .Eq => eqD
  | .NotEq => neD
  | .Lt => ltD
  | .LtE => leD
  | .Gt => gtD
  | .GtE => geD
  | .Is => isD
  | .IsNot => isNotD
  | .In => inD
  | .NotIn => notInD

section
variable {X : Cx} {Cl : ClT}
theorem opd_eq (hu : X.A.units + 64 < cLine) : OpD X Cl (compareOp .Eq) eqD := by
  intro pins s σ G H x y d v w u1 u2 Q I rv rw' sm r1 r2 e q
  unfold eqD at e
  cases ex : toPy x with
  | none => rw [ex] at e; cases e
  | some p =>
    cases ey : toPy y with
    | none => rw [ex, ey] at e; cases e
    | some p' =>
      rw [ex, ey] at e
      dsimp only at e
      split at e
      · rename_i c
        cases e
        exact op_eqD hu pins s σ H _ _ u1 u2 Q I rv rw' ⟨p, p', r1.dp sm ex, r2.dp sm ey, c.1, c.2, q _ G H (Ext.refl sm) (by simp only [Rep])⟩
      · cases e
theorem opd_ne (hu : X.A.units + 64 < cLine) : OpD X Cl (compareOp .NotEq) neD := by
  intro pins s σ G H x y d v w u1 u2 Q I rv rw' sm r1 r2 e q
  unfold neD at e
  cases ex : toPy x with
  | none => rw [ex] at e; cases e
  | some p =>
    cases ey : toPy y with
    | none => rw [ex, ey] at e; cases e
    | some p' =>
      rw [ex, ey] at e
      dsimp only at e
      split at e
      · rename_i c
        cases e
        exact op_neD hu pins s σ H _ _ u1 u2 Q I rv rw' ⟨p, p', r1.dp sm ex, r2.dp sm ey, c.1, c.2, q _ G H (Ext.refl sm) (by simp only [Rep])⟩
      · cases e
theorem opd_lt : OpD X Cl (compareOp .Lt) ltD := by
  intro pins s σ G H x y d v w u1 u2 Q I rv rw' sm r1 r2 e q
  cases x with
  | int i =>
    cases y with
    | int j =>
      cases e
      cases r1.int
      cases r2.int
      exact op_lt pins s σ H _ _ u1 u2 Q I rv rw' ⟨i, j, rfl, rfl, q _ G H (Ext.refl sm) (by simp only [Rep])⟩
    | _ => cases e
  | str i =>
    cases y with
    | str j =>
      cases e
      cases r1.str
      cases r2.str
      exact op_lt_str pins s σ H _ _ u1 u2 Q I rv rw' ⟨i, j, rfl, rfl, q _ G H (Ext.refl sm) (by simp only [Rep])⟩
    | _ => cases e
  | _ => cases y <;> cases e
theorem opd_le : OpD X Cl (compareOp .LtE) leD := by
  intro pins s σ G H x y d v w u1 u2 Q I rv rw' sm r1 r2 e q
  cases x with
  | int i =>
    cases y with
    | int j =>
      cases e
      cases r1.int
      cases r2.int
      exact op_le pins s σ H _ _ u1 u2 Q I rv rw' ⟨i, j, rfl, rfl, q _ G H (Ext.refl sm) (by simp only [Rep])⟩
    | _ => cases e
  | _ => cases y <;> cases e
theorem opd_gt : OpD X Cl (compareOp .Gt) gtD := by
  intro pins s σ G H x y d v w u1 u2 Q I rv rw' sm r1 r2 e q
  cases x with
  | int i =>
    cases y with
    | int j =>
      cases e
      cases r1.int
      cases r2.int
      exact op_gt pins s σ H _ _ u1 u2 Q I rv rw' ⟨i, j, rfl, rfl, q _ G H (Ext.refl sm) (by simp only [Rep])⟩
    | _ => cases e
  | _ => cases y <;> cases e
theorem opd_ge : OpD X Cl (compareOp .GtE) geD := by
  intro pins s σ G H x y d v w u1 u2 Q I rv rw' sm r1 r2 e q
  cases x with
  | int i =>
    cases y with
    | int j =>
      cases e
      cases r1.int
      cases r2.int
      exact op_ge pins s σ H _ _ u1 u2 Q I rv rw' ⟨i, j, rfl, rfl, q _ G H (Ext.refl sm) (by simp only [Rep])⟩
    | _ => cases e
  | _ => cases y <;> cases e
theorem non_of {K : Frg} {G H : Hp} {x : D} {v : V} (r : RepB K Cl G H x v) : decide (v = .non) = isNonD x := by
  cases x with
  | non => cases r.non; rfl
  | bl b => cases r.bl; rfl
  | int b => cases r.int; rfl
  | str b => cases r.str; rfl
  | lst xs =>
    rcases r with r | ⟨_, a, _, _, rfl, _⟩ | ⟨_, _, _, a, _, _, _, _, rfl, _⟩
    · simp only [Rep] at r
      obtain ⟨a, ys, rfl, _⟩ := r
      rfl
    · rfl
    · rfl
  | frl xs =>
    rcases r with r | ⟨_, a, _, _, rfl, _⟩ | ⟨_, _, _, a, _, _, _, _, rfl, _⟩
    · simp only [Rep] at r
      obtain ⟨a, ys, rfl, _⟩ := r
      rfl
    · rfl
    · rfl
  | tup xs =>
    rcases r with r | ⟨_, a, _, _, rfl, _⟩ | ⟨_, _, _, a, _, _, _, _, rfl, _⟩
    · simp only [Rep] at r
      obtain ⟨a, ys, rfl, _⟩ := r
      rfl
    · rfl
    · rfl
  | ins c ns ds =>
    rcases r with r | ⟨_, a, _, _, rfl, _⟩ | ⟨_, _, _, a, _, _, _, _, rfl, _⟩
    · simp only [Rep] at r
      obtain ⟨a, _, _, _, rfl, _⟩ := r
      rfl
    · rfl
    · rfl
theorem isD_non (x : D) : isD x .non = some (.bl (isNonD x)) := by cases x <;> rfl
theorem isNotD_non (x : D) : isNotD x .non = some (.bl (!isNonD x)) := by cases x <;> rfl
theorem opd_is : OpD X Cl (compareOp .Is) isD := by
  intro pins s σ G H x y d v w u1 u2 Q I rv rw' sm r1 r2 e q
  cases y with
  | non =>
    rw [isD_non] at e
    cases e
    cases r2.non
    refine op_isN pins s σ H _ _ u1 u2 Q I rv rw' ⟨rfl, ?_⟩
    rw [non_of r1]
    exact q _ G H (Ext.refl sm) (by simp only [Rep])
  | bl b =>
    cases x with
    | bl a =>
      cases e
      cases r1.bl
      cases r2.bl
      exact op_isBl pins s σ H _ _ u1 u2 Q I rv rw' ⟨a, b, rfl, rfl, q _ G H (Ext.refl sm) (by simp only [Rep])⟩
    | _ => cases e
  | _ => cases x <;> cases e
theorem opd_isNot : OpD X Cl (compareOp .IsNot) isNotD := by
  intro pins s σ G H x y d v w u1 u2 Q I rv rw' sm r1 r2 e q
  cases y with
  | non =>
    rw [isNotD_non] at e
    cases e
    cases r2.non
    refine op_notN pins s σ H _ _ u1 u2 Q I rv rw' ⟨rfl, ?_⟩
    rw [non_of r1]
    exact q _ G H (Ext.refl sm) (by simp only [Rep])
  | bl b =>
    cases x with
    | bl a =>
      cases e
      cases r1.bl
      cases r2.bl
      exact op_notBl pins s σ H _ _ u1 u2 Q I rv rw' ⟨a, b, rfl, rfl, q _ G H (Ext.refl sm) (by simp only [Rep])⟩
    | _ => cases e
  | _ => cases x <;> cases e
end
end Pu
/-! PuD: in, not in, subscripts, slices, built-in calls. -/
namespace Pu
open PySem PySem.Spec PyProof.Rows L2

theorem flat_rep {K : Frg} {Cl : ClT} {G H : Hp} {x : D} {v : V} (r : RepB K Cl G H x v) (f : flatD x = true) : flatV v = true := by
  cases x with
  | non => cases r.non; rfl
  | bl b => cases r.bl; rfl
  | int b => cases r.int; rfl
  | str b => cases r.str; rfl
  | _ => cases f
theorem eqF_rep {K : Frg} {Cl : ClT} {G H : Hp} {x y : D} {v w : V} (r : RepB K Cl G H x v) (r' : RepB K Cl G H y w) (f : flatD x = true) (f' : flatD y = true) : eqV v w = eqFD x y := by
  cases x with
  | non =>
    cases r.non
    cases y with
    | non => cases r'.non; rfl
    | bl b => cases r'.bl; rfl
    | int b => cases r'.int; rfl
    | str b => cases r'.str; rfl
    | _ => cases f'
  | bl b =>
    cases r.bl
    cases y with
    | non => cases r'.non; rfl
    | bl b => cases r'.bl; rfl
    | int b => cases r'.int; rfl
    | str b => cases r'.str; rfl
    | _ => cases f'
  | int b =>
    cases r.int
    cases y with
    | non => cases r'.non; rfl
    | bl b => cases r'.bl; rfl
    | int b => cases r'.int; rfl
    | str b => cases r'.str; rfl
    | _ => cases f'
  | str b =>
    cases r.str
    cases y with
    | non => cases r'.non; rfl
    | bl b => cases r'.bl; rfl
    | int b => cases r'.int; rfl
    | str b => cases r'.str; rfl
    | _ => cases f'
  | _ => cases f
theorem all_flat {K : Frg} {Cl : ClT} {G H : Hp} : ∀ {ys : List D} {ws : List V}, Reps K Cl G ys ws → ys.all flatD = true → ws.all flatV = true
  | [], ws, h, _ => by
    simp only [Reps] at h
    subst h
    rfl
  | y :: ys, ws, h, f => by
    simp only [Reps] at h
    obtain ⟨w, r, rfl, h1, h2⟩ := h
    rw [List.all_cons, Bool.and_eq_true] at f ⊢
    exact ⟨flat_rep (H := G) (.inl h1) f.1, all_flat (H := G) h2 f.2⟩
theorem in_rep {K : Frg} {Cl : ClT} {G H : Hp} {x : D} {v : V} (r : RepB K Cl G H x v) (f : flatD x = true) : ∀ {ys : List D} {ws : List V}, Reps K Cl G ys ws → ys.all flatD = true → inV v ws = ys.any fun y => eqFD y x
  | [], ws, h, _ => by
    simp only [Reps] at h
    subst h
    rfl
  | y :: ys, ws, h, g => by
    simp only [Reps] at h
    obtain ⟨w, r', rfl, h1, h2⟩ := h
    rw [List.all_cons, Bool.and_eq_true] at g
    have ih := in_rep r f h2 g.2
    unfold inV at ih ⊢
    rw [List.any_cons, List.any_cons, ih, eqF_rep (.inl h1) r g.1 f]

section
variable {X : Cx} {Cl : ClT}
theorem opd_mem {neg : Bool} {op : CmpOp} {F : D → D → Option D} (hF : ∀ x y, F x y = (memD x y).map fun b => .bl (if neg then !b else b))
    (hD : OpR X (compareOp op) (fun x y H Q => ∃ d ds, Dp X.K H x d ∧ Dp X.K H y (.list ds) ∧ SeqAt.shaped d = true ∧ SeqAt.shaped (.list ds) = true ∧ Q (.bl (if neg then !(ds.any fun z => PyData.eqv z d) else ds.any fun z => PyData.eqv z d)) H))
    (hS : OpR X (compareOp op) (rIn X.K neg))
    (hC : OpR X (compareOp op) (fun x y H Q => ∃ (c : Nat) (z : Str), x = .str ⟨#[c]⟩ ∧ y = .str z ∧ Q (.bl (if neg then !decide (c ∈ z.cps.toList) else decide (c ∈ z.cps.toList))) H)) : OpD X Cl (compareOp op) F := by
  intro pins s σ G H x y d v w u1 u2 Q I rv rw' sm r1 r2 e q
  rw [hF] at e
  obtain ⟨b, eb, rfl⟩ := Option.map_eq_some_iff.mp e
  have fin : ∀ b', b' = b → Q (.bl (if neg then !b' else b')) H := fun b' z => by
    subst z
    exact q _ G H (Ext.refl sm) (by simp only [Rep])
  have lists : ∀ (ys : List D) (ps : List PyData), toPys ys = some ps → Dp X.K H w (.list ps) → (match toPy x, toPys ys with
    | some p, some ps => if SeqAt.shaped p = true ∧ SeqAt.shaped (.list ps) = true then some (ps.any fun z => PyData.eqv z p) else none
    | _, _ => none) = some b → wpAny (model X.prog X.w) X.A (compareOp op u1 u2) (EP X pins σ Q) X.xe s := fun ys ps ey dy em => by
    cases ex : toPy x with
    | none => rw [ex] at em; cases em
    | some p =>
      rw [ex, ey] at em
      dsimp only at em
      split at em
      · rename_i c
        cases em
        exact hD pins s σ H _ _ u1 u2 Q I rv rw' ⟨p, ps, r1.dp sm ex, dy, c.1, c.2, fin _ rfl⟩
      · cases em
  cases y with
  | lst ys =>
    have eb' := eb
    unfold memD at eb'
    dsimp only at eb'
    cases ey : toPys ys with
    | none =>
      rw [ey] at eb'
      cases ex : toPy x with
      | none => rw [ex] at eb'; cases eb'
      | some p => rw [ex] at eb'; cases eb'
    | some ps => exact lists ys ps ey (r2.dp sm (by simp only [toPy, ey, Option.map_some])) eb
  | frl ys =>
    have eb' := eb
    unfold memD at eb'
    dsimp only at eb'
    cases ey : toPys ys with
    | none =>
      rw [ey] at eb'
      cases ex : toPy x with
      | none => rw [ex] at eb'; cases eb'
      | some p => rw [ex] at eb'; cases eb'
    | some ps => exact lists ys ps ey (r2.dp sm (by simp only [toPy, ey, Option.map_some])) eb
  | tup ys =>
    have eb' : (if flatD x = true ∧ ys.all flatD = true then some (ys.any fun y => eqFD y x) else none) = some b := by
      cases x <;> exact eb
    split at eb'
    · rename_i c
      cases eb'
      obtain ⟨a, ws, rfl, h1, h2, _⟩ := r2.tup sm
      refine hS pins s σ H _ _ u1 u2 Q I rv rw' ⟨a, ws, rfl, .inr h1, flat_rep r1 c.1, all_flat (H := G) h2 c.2, ?_⟩
      rw [in_rep r1 c.1 h2 c.2]
      have := fin _ rfl
      cases neg <;> exact this
    · cases eb'
  | str z =>
    cases x with
    | str c =>
      have eb' : (if c.cps.size = 1 then some (decide (c.cps.getD 0 0 ∈ z.cps.toList)) else none) = some b := eb
      split at eb'
      · rename_i hc
        cases eb'
        cases r1.str
        cases r2.str
        have ec : c = ⟨#[c.cps.getD 0 0]⟩ := by
          obtain ⟨a⟩ := c
          obtain ⟨l⟩ := a
          match l, hc with
          | [k], _ => rfl
        exact hC pins s σ H _ _ u1 u2 Q I rv rw' ⟨c.cps.getD 0 0, z, by rw [← ec], rfl, fin _ rfl⟩
      · cases eb'
    | _ => cases eb
  | _ => cases x <;> cases eb
theorem opd_in (hu : X.A.units + 65 < cLine) : OpD X Cl (compareOp .In) inD :=
  opd_mem (neg := false) (fun x y => rfl) (op_inD hu) op_in_seq op_in_sign
theorem opd_notIn (hu : X.A.units + 65 < cLine) : OpD X Cl (compareOp .NotIn) notInD :=
  opd_mem (neg := true) (fun x y => rfl) (op_notInD hu) op_notIn_seq op_notIn_sign
theorem opd_cmp (hu : X.A.units + 65 < cLine) (o : CmpOp) : OpD X Cl (compareOp o) (cmpD o) := by
  have hu' : X.A.units + 64 < cLine := by omega
  cases o with
  | Eq => exact opd_eq hu'
  | NotEq => exact opd_ne hu'
  | Lt => exact opd_lt
  | LtE => exact opd_le
  | Gt => exact opd_gt
  | GtE => exact opd_ge
  | Is => exact opd_is
  | IsNot => exact opd_isNot
  | In => exact opd_in hu
  | NotIn => exact opd_notIn hu
theorem cmp_onlyB (o : CmpOp) : onlyB (cmpD o) := by
  intro x y d e
  cases o with
  | Eq =>
    simp only [cmpD, eqD] at e
    split at e
    · split at e
      · cases e; exact ⟨_, rfl⟩
      · cases e
    · cases e
  | NotEq =>
    simp only [cmpD, neD] at e
    split at e
    · split at e
      · cases e; exact ⟨_, rfl⟩
      · cases e
    · cases e
  | Lt => cases x <;> cases y <;> first | (cases e; exact ⟨_, rfl⟩) | cases e
  | LtE => cases x <;> cases y <;> first | (cases e; exact ⟨_, rfl⟩) | cases e
  | Gt => cases x <;> cases y <;> first | (cases e; exact ⟨_, rfl⟩) | cases e
  | GtE => cases x <;> cases y <;> first | (cases e; exact ⟨_, rfl⟩) | cases e
  | Is => cases x <;> cases y <;> first | (cases e; exact ⟨_, rfl⟩) | cases e
  | IsNot => cases x <;> cases y <;> first | (cases e; exact ⟨_, rfl⟩) | cases e
  | In =>
    simp only [cmpD, inD] at e
    obtain ⟨b, _, rfl⟩ := Option.map_eq_some_iff.mp e
    exact ⟨_, rfl⟩
  | NotIn =>
    simp only [cmpD, notInD] at e
    obtain ⟨b, _, rfl⟩ := Option.map_eq_some_iff.mp e
    exact ⟨_, rfl⟩
end

/-! ### subscripts -/
def idxD : D → D → Option D
  | .lst xs, .int i => atI xs i
  | .frl xs, .int i => atI xs i
  | .tup xs, .int i => atI xs i
  | .str z, .int i => if z.length ≤ sizeLine then (atI z.cps.toList i).map fun c => .str ⟨#[c]⟩ else none
  | _, _ => none
theorem atI_rep {K : Frg} {Cl : ClT} {G : Hp} {ds : List D} {vs : List V} {i : Int} {d : D} (r : Reps K Cl G ds vs) (e : atI ds i = some d) : ∃ v, atI vs i = some v ∧ Rep K Cl G d v := by
  unfold atI at e ⊢
  rw [← r.length]
  cases h : ixN ds.length i with
  | none => rw [h] at e; cases e
  | some j =>
    rw [h] at e
    exact r.get e
section
variable {X : Cx} {Cl : ClT} {W : WX} {a b c : Expr} {f g h : Ro → Res D} {pos : Pos}
theorem rE_idx (ha : PE X a (tB X.K Cl W f)) (hb : PE X b (tB X.K Cl W g)) (hs : PlainIx b) : PE X (.Subscript a b pos) (tE X.K Cl W (bin f g idxD)) := by
  refine PE.imp (pe_ix ix_seq ha hb hs) fun σ H Q hh => ?_
  have h2 := two hh
  obtain ⟨G0, H0, G, ρ, sim, h2⟩ := h2
  refine ⟨G0, H0, G, ρ, sim, ?_⟩
  cases e : f ρ with
  | exc c ns ds => rw [e] at h2; exact h2
  | stuck => rw [e] at h2; exact h2
  | ok x0 =>
    rw [e] at h2
    intro v G1 H1 e1 r1
    obtain ⟨G0', H0', G1', ρ', sim', h3⟩ := h2 v G1 H1 e1 r1
    refine ⟨G0', H0', G1', ρ', sim', ?_⟩
    cases e' : g ρ' with
    | exc c ns ds => rw [e'] at h3; exact h3
    | stuck => rw [e'] at h3; exact h3
    | ok y0 =>
      rw [e'] at h3
      intro w G2 H2 e2 r2
      obtain ⟨x, y, d, G3, sm, p1, p2, hd, hq⟩ := h3 w G2 H2 e2 r2
      cases y with
      | int i =>
        cases p2.int
        cases x with
        | lst xs =>
          obtain ⟨a, ys, rfl, q1, q2⟩ := p1.lst sm
          obtain ⟨u, g1, g2⟩ := atI_rep q2 hd
          exact .inl ⟨a, ys, i, u, rfl, rfl, SqL.of q1, g1, hq u G3 H2 (Ext.refl sm) g2⟩
        | frl xs =>
          obtain ⟨a, ys, rfl, q1, q2⟩ := p1.frl sm
          obtain ⟨u, g1, g2⟩ := atI_rep q2 hd
          exact .inl ⟨a, ys, i, u, rfl, rfl, q1, g1, hq u G3 H2 (Ext.refl sm) g2⟩
        | tup xs =>
          obtain ⟨a, ys, rfl, q1, q2, _⟩ := p1.tup sm
          obtain ⟨u, g1, g2⟩ := atI_rep q2 hd
          exact .inr (.inl ⟨a, ys, i, u, rfl, rfl, q1, g1, hq u G3 H2 (Ext.refl sm) g2⟩)
        | str z =>
          cases p1.str
          have hd' : (if z.length ≤ sizeLine then (atI z.cps.toList i).map fun c => D.str ⟨#[c]⟩ else none) = some d := hd
          split at hd'
          · rename_i hz
            obtain ⟨cc, g1, rfl⟩ := Option.map_eq_some_iff.mp hd'
            exact .inr (.inr ⟨z, i, cc, rfl, rfl, hz, g1, hq _ G3 H2 (Ext.refl sm) (by simp only [Rep])⟩)
          · cases hd'
        | _ => cases hd
      | _ => cases x <;> cases hd

/-! ### slices -/
def cutD (xs : List D) (lo hi : Option Int) : List D := (xs.drop (HT.sIx xs.length 0 lo)).take (HT.sIx xs.length xs.length hi - HT.sIx xs.length 0 lo)
theorem cut_rep {K : Frg} {G : Hp} {ds : List D} {vs : List V} (r : Reps K Cl G ds vs) (lo hi : Option Int) : Reps K Cl G (cutD ds lo hi) (cutV vs lo hi) := by
  unfold cutD cutV
  rw [← r.length]
  exact (r.drop _).take _
def slcD (x : D) (lo hi : Option Int) : Option D := match x with
  | .lst xs => some (.lst (cutD xs lo hi))
  | .frl xs => some (.lst (cutD xs lo hi))
  | .tup xs => some (.tup (cutD xs lo hi))
  | .str z => if z.length ≤ sizeLine then some (.str (cutS z lo hi)) else none
  | _ => none
def partD : Option D → Option (Option Int)
  | none => some none
  | some (.int i) => some (some i)
  | some _ => none
/-- the parts of a slice: none where the part is left out -/
abbrev Prt := Option (Ro → Res D)
def prt (p : Prt) (ρ : Ro) (k : Option Int → Res D) : Res D := match p with
  | none => k none
  | some f => (f ρ).bind fun d => match d with
    | .int i => k (some i)
    | _ => .stuck
def slc (f : Ro → Res D) (lo hi : Prt) : Ro → Res D := fun ρ => (f ρ).bind fun x => prt lo ρ fun l => prt hi ρ fun u => Res.ofO (slcD x l u)
/-- a part's rule -/
def PrtOk (X : Cx) (Cl : ClT) (W : WX) (e : Option Expr) (p : Prt) : Prop := match e, p with
  | none, none => True
  | some e, some f => PE X e (tB X.K Cl W f)
  | _, _ => False
theorem part_run {e : Option Expr} {p : Prt} (hp : PrtOk X Cl W e p) : ∃ t, PO X e t ∧ ∀ (σ : L2.St) (H : Hp) (G0 : GX) (H0 G : Hp) (ρ : Ro) (k : Option Int → Res D) (Q : VK) (Q' : Option Int → Hp → Prop), Sim X.K Cl G0 H0 G H ρ σ → PostE X.K Cl W G H σ (prt p ρ k) Q →
    (∀ i H' G', Ext G H G' H' → PostE X.K Cl W G' H' σ (k i) Q → Q' i H') → t σ H Q' := by
  cases e with
  | none =>
    cases p with
    | none => exact ⟨tNoPart, po_none, fun σ H G0 H0 G ρ k Q Q' sim h hk => hk none H G (Ext.refl sim.low) h⟩
    | some f => exact hp.elim
  | some e =>
    cases p with
    | none => exact hp.elim
    | some f =>
      refine ⟨_, po_some hp, fun σ H G0 H0 G ρ k Q Q' sim h hk => ?_⟩
      refine ⟨G0, H0, G, ρ, sim, ?_⟩
      have h1 := PostB.seqE (r := f ρ) h
      cases e : f ρ with
      | exc c ns ds => rw [e] at h1; exact h1
      | stuck => rw [e] at h1; exact h1
      | ok x0 =>
        rw [e] at h1
        intro v G1 H1 e1 r1
        obtain ⟨x, G1', ex, e1', r1', h2⟩ := h1 v G1 H1 e1 r1
        cases ex
        cases x0 with
        | int i =>
          cases r1'.int
          exact ⟨i, rfl, hk (some i) H1 G1' e1' h2⟩
        | _ => exact h2.elim
theorem rE_slc {p2 : Pos} {lo hi : Option Expr} {pl ph : Prt} (ha : PE X a (tB X.K Cl W f)) (hl : PrtOk X Cl W lo pl) (hh : PrtOk X Cl W hi ph) : PE X (.Subscript a (.Slice lo hi none p2) pos) (tE X.K Cl W (slc f pl ph)) := by
  obtain ⟨tl, ol, ql⟩ := part_run hl
  obtain ⟨th, oh, qh⟩ := part_run hh
  refine PE.imp (pe_slice (SlR.or sl_list (SlR.or sl_tupA sl_str)) ha ol oh) fun σ H Q hq => ?_
  obtain ⟨G0, H0, G, ρ, sim, h0⟩ := hq
  refine ⟨G0, H0, G, ρ, sim, ?_⟩
  have h1 := PostB.seqE (r := f ρ) h0
  cases e : f ρ with
  | exc c ns ds => rw [e] at h1; exact h1
  | stuck => rw [e] at h1; exact h1
  | ok x0 =>
    rw [e] at h1
    intro v G1 H1 e1 r1
    obtain ⟨x, G1', ex, e1', r1', h2⟩ := h1 v G1 H1 e1 r1
    cases ex
    refine ql σ H1 G0 H0 G1' ρ _ Q _ (sim.grow e1') h2 fun l H2 G2 e2 h3 => ?_
    refine qh σ H2 G0 H0 G2 ρ _ Q _ ((sim.grow e1').grow e2) h3 fun u H3 G3 e3 h4 => ?_
    obtain ⟨d, hd, hq⟩ := PostE.ofO h4
    have r3 := (r1'.grow e2).grow e3
    have sm := e3.low
    cases x0 with
    | lst xs =>
      cases hd
      obtain ⟨a, ys, rfl, q1, q2⟩ := r3.lst sm
      refine .inl ⟨a, ys, rfl, SqL.of q1, fun p hp => hq _ _ _ (Ext.new sm hp) ?_⟩
      simp only [Rep]
      exact ⟨p, _, rfl, upd_same, (cut_rep q2 l u).mono (same_upd (Same.free sm hp))⟩
    | frl xs =>
      cases hd
      obtain ⟨a, ys, rfl, q1, q2⟩ := r3.frl sm
      refine .inl ⟨a, ys, rfl, q1, fun p hp => hq _ _ _ (Ext.new sm hp) ?_⟩
      simp only [Rep]
      exact ⟨p, _, rfl, upd_same, (cut_rep q2 l u).mono (same_upd (Same.free sm hp))⟩
    | tup xs =>
      cases hd
      obtain ⟨a, ys, rfl, q1, q2, g1⟩ := r3.tup sm
      refine .inr (.inl ⟨a, ys, rfl, q1, fun z => ?_, fun z p hp => hq _ _ _ (Ext.new sm hp) ?_⟩)
      · refine hq _ G3 H3 (Ext.refl sm) ?_
        simp only [Rep]
        have ew : cutV ys l u = ys := by
          unfold cutV
          rw [z.1, z.2, List.drop_zero, Nat.sub_zero, List.take_length]
        have := cut_rep q2 l u
        rw [ew] at this
        exact ⟨a, ys, rfl, g1, this⟩
      · simp only [Rep]
        exact ⟨p, _, rfl, SqT.of upd_same, (cut_rep q2 l u).mono (same_upd (Same.free sm hp))⟩
    | str z =>
      cases r3.str
      have hd' : (if z.length ≤ sizeLine then some (D.str (cutS z l u)) else none) = some d := hd
      split at hd'
      · rename_i hz
        cases hd'
        exact .inr (.inr ⟨z, rfl, hz, hq _ G3 H3 (Ext.refl sm) (by simp only [Rep])⟩)
      · cases hd'
    | _ => cases hd
end
end Pu
/-! PuE: built-in calls, displays, what a loop walks. -/
namespace Pu
open PySem PySem.Spec PyProof.Rows L2

/-! ### built-in calls -/
def CallD (X : Cx) (Cl : ClT) (f : Value) (F : List D → Option D) : Prop :=
  ∀ (pins : List (Addr × Obj)) (s : Shared) (σ : L2.St) (G H : Hp) (ds : List D) (d : D) (vs : List V) (us : List Value) (Q : VK), Inv X pins σ H s → Vals vs us → Same G H → RepBs X.K Cl G H ds vs → F ds = some d →
    (∀ v G' H', Ext G H G' H' → Rep X.K Cl G' d v → Q v H') → wpAny (model X.prog X.w) X.A (call f us) (EP X pins σ Q) X.xe s

def intsD : List D → Option (List Int)
  | [] => some []
  | .int i :: ds => (intsD ds).map (i :: ·)
  | _ :: _ => none
theorem intsD_rep {K : Frg} {Cl : ClT} {G : Hp} : ∀ {ds : List D} {vs : List V} {ns : List Int}, Reps K Cl G ds vs → intsD ds = some ns → vs = ns.map V.int
  | [], vs, ns, r, e => by
    simp only [Reps] at r
    cases e
    exact r
  | d :: ds, vs, ns, r, e => by
    simp only [Reps] at r
    obtain ⟨v, t, rfl, r1, r2⟩ := r
    cases d with
    | int i =>
      obtain ⟨ms, e1, rfl⟩ := Option.map_eq_some_iff.mp (show (intsD ds).map (i :: ·) = some ns from e)
      simp only [Rep] at r1
      subst r1
      rw [intsD_rep r2 e1]
      rfl
    | _ => cases e
theorem intsD_map : ∀ ns : List Int, intsD (ns.map D.int) = some ns
  | [] => rfl
  | n :: ns => by
    show (intsD (ns.map D.int)).map (n :: ·) = _
    rw [intsD_map ns]
    rfl
/-- the items of a list as ints -/
def lintsD : D → Option (List Int)
  | .lst xs => intsD xs
  | .frl xs => intsD xs
  | _ => none
theorem lints_rep {K : Frg} {Cl : ClT} {G H : Hp} {d : D} {v : V} {ns : List Int} (sm : Same G H) (r : RepB K Cl G H d v) (e : lintsD d = some ns) : ∃ a, v = .ref a ∧ SqL K H a (ns.map V.int) := by
  cases d with
  | lst xs =>
    obtain ⟨a, ys, rfl, h1, h2⟩ := r.lst sm
    rw [intsD_rep h2 e] at h1
    exact ⟨a, rfl, SqL.of h1⟩
  | frl xs =>
    obtain ⟨a, ys, rfl, h1, h2⟩ := r.frl sm
    rw [intsD_rep h2 e] at h1
    exact ⟨a, rfl, h1⟩
  | _ => cases e
def maxI : List Int → Int
  | [] => 0
  | [n] => n
  | n :: m :: ns => if maxI (m :: ns) ≤ n then n else maxI (m :: ns)
theorem maxI_mem : ∀ ns : List Int, ns ≠ [] → maxI ns ∈ ns ∧ ∀ y ∈ ns, y ≤ maxI ns
  | [], h => absurd rfl h
  | [n], _ => ⟨by simp [maxI], fun y hy => by simp at hy; subst hy; simp [maxI]⟩
  | n :: m :: ns, _ => by
    obtain ⟨h1, h2⟩ := maxI_mem (m :: ns) (by simp)
    unfold maxI
    split
    · rename_i c
      refine ⟨List.mem_cons_self, fun y hy => ?_⟩
      rcases List.mem_cons.mp hy with e | hy
      · omega
      · have := h2 y hy; omega
    · rename_i c
      refine ⟨List.mem_cons_of_mem _ h1, fun y hy => ?_⟩
      rcases List.mem_cons.mp hy with e | hy
      · omega
      · exact h2 y hy
def minI : List Int → Int
  | [] => 0
  | [n] => n
  | n :: m :: ns => if n ≤ minI (m :: ns) then n else minI (m :: ns)
theorem minI_mem : ∀ ns : List Int, ns ≠ [] → minI ns ∈ ns ∧ ∀ y ∈ ns, minI ns ≤ y
  | [], h => absurd rfl h
  | [n], _ => ⟨by simp [minI], fun y hy => by simp at hy; subst hy; simp [minI]⟩
  | n :: m :: ns, _ => by
    obtain ⟨h1, h2⟩ := minI_mem (m :: ns) (by simp)
    unfold minI
    split
    · rename_i c
      refine ⟨List.mem_cons_self, fun y hy => ?_⟩
      rcases List.mem_cons.mp hy with e | hy
      · omega
      · have := h2 y hy; omega
    · rename_i c
      refine ⟨List.mem_cons_of_mem _ h1, fun y hy => ?_⟩
      rcases List.mem_cons.mp hy with e | hy
      · omega
      · exact h2 y hy
def sortI (ns : List Int) : List Int := ns.mergeSort (fun a b => decide (a ≤ b))
theorem sortI_perm (ns : List Int) : (sortI ns).Perm ns := List.mergeSort_perm _ _
theorem sortI_sorted (ns : List Int) : (sortI ns).Pairwise (· ≤ ·) := by
  have h := List.pairwise_mergeSort (le := fun a b : Int => decide (a ≤ b)) (fun a b c h1 h2 => by simp at h1 h2 ⊢; omega) (fun a b => by simp; omega) ns
  exact h.imp fun h => by simpa using h

inductive BI where
  | len | abs | max | min | sum | sorted | int | bool | str | list | tuple
  deriving DecidableEq
def BI.name : BI → Str
  | .len => "len" | .abs => "abs" | .max => "max" | .min => "min" | .sum => "sum" | .sorted => "sorted" | .int => "int" | .bool => "bool" | .str => "str" | .list => "list" | .tuple => "tuple"
def lenD : D → Option D
  | .str y => if y.length ≤ sizeLine then some (.int y.length) else none
  | .lst xs => some (.int xs.length)
  | .frl xs => some (.int xs.length)
  | .tup xs => some (.int xs.length)
  | _ => none
def absD : D → Option D
  | .int i => some (.int (if i < 0 then -i else i))
  | _ => none
def max2D : D → D → Option D
  | .int i, .int j => some (.int (if j > i then j else i))
  | _, _ => none
def min2D : D → D → Option D
  | .int i, .int j => some (.int (if j < i then j else i))
  | _, _ => none
def maxLD (d : D) : Option D := match lintsD d with
  | some (n :: ns) => some (.int (maxI (n :: ns)))
  | _ => none
def minLD (d : D) : Option D := match lintsD d with
  | some (n :: ns) => some (.int (minI (n :: ns)))
  | _ => none
def sumD (d : D) : Option D := (lintsD d).map fun ns => .int ns.sum
def sortedD (d : D) : Option D := (lintsD d).map fun ns => .lst ((sortI ns).map D.int)
def intD : D → Option D
  | .int i => some (.int i)
  | .bl b => some (.int (if b then 1 else 0))
  | _ => none
def boolD : D → Option D
  | .int i => some (.bl (i != 0))
  | .bl b => some (.bl b)
  | _ => none
def strD : D → Option D
  | .int i => if i.natAbs.log2 < 1920 then some (.str (toString i)) else none
  | _ => none
def listD : D → Option D
  | .lst xs => some (.lst xs)
  | .frl xs => some (.lst xs)
  | .tup xs => some (.lst xs)
  | _ => none
def tupleD : D → Option D
  | .lst xs => some (.tup xs)
  | .frl xs => some (.tup xs)
  | .tup xs => some (.tup xs)
  | _ => none
def BI.fn : BI → List D → Option D
  | .len, [d] => lenD d
  | .abs, [d] => absD d
  | .max, [d, e] => max2D d e
  | .max, [d] => maxLD d
  | .min, [d, e] => min2D d e
  | .min, [d] => minLD d
  | .sum, [d] => sumD d
  | .sorted, [d] => sortedD d
  | .int, [d] => intD d
  | .bool, [d] => boolD d
  | .str, [d] => strD d
  | .list, [d] => listD d
  | .tuple, [d] => tupleD d
  | _, _ => none
def BI.val : BI → Value
  | .len => .builtin "len" | .abs => .builtin "abs" | .max => .builtin "max" | .min => .builtin "min" | .sum => .builtin "sum" | .sorted => .builtin "sorted"
  | .int => .type "int" | .bool => .type "bool" | .str => .type "str" | .list => .type "list" | .tuple => .type "tuple"
theorem RepBs.one {K : Frg} {Cl : ClT} {G H : Hp} {d : D} {vs : List V} (h : RepBs K Cl G H [d] vs) : ∃ v, vs = [v] ∧ RepB K Cl G H d v := by
  cases h with
  | cons a t => cases t; exact ⟨_, rfl, a⟩
theorem RepBs.two {K : Frg} {Cl : ClT} {G H : Hp} {d e : D} {vs : List V} (h : RepBs K Cl G H [d, e] vs) : ∃ v w, vs = [v, w] ∧ RepB K Cl G H d v ∧ RepB K Cl G H e w := by
  cases h with
  | cons a t =>
    cases t with
    | cons b t => cases t; exact ⟨_, _, rfl, a, b⟩
section
variable {X : Cx} {Cl : ClT}
theorem cd_len : CallD X Cl (.builtin "len") (BI.fn .len) := by
  intro pins s σ G H ds d vs us Q I rv sm r e q
  match ds, r, e with
  | [x], r0, e =>
    obtain ⟨v, rfl, r1⟩ := r0.one
    replace e : lenD x = some d := e
    cases x with
    | str y =>
      cases r1.str
      replace e : (if y.length ≤ sizeLine then some (D.int y.length) else none) = some d := e
      split at e
      · rename_i hz
        cases e
        exact call_len pins s σ H _ us Q I rv ⟨_, _, rfl, ⟨hz, rfl⟩, q _ G H (Ext.refl sm) (by simp only [Rep])⟩
      · cases e
    | lst xs =>
      cases e
      obtain ⟨a, ys, rfl, h1, h2⟩ := r1.lst sm
      refine call_len pins s σ H _ us Q I rv ⟨_, _, rfl, .inl ⟨ys, SqL.of h1, rfl⟩, ?_⟩
      rw [← h2.length]
      exact q _ G H (Ext.refl sm) (by simp only [Rep])
    | frl xs =>
      cases e
      obtain ⟨a, ys, rfl, h1, h2⟩ := r1.frl sm
      refine call_len pins s σ H _ us Q I rv ⟨_, _, rfl, .inl ⟨ys, h1, rfl⟩, ?_⟩
      rw [← h2.length]
      exact q _ G H (Ext.refl sm) (by simp only [Rep])
    | tup xs =>
      cases e
      obtain ⟨a, ys, rfl, h1, h2, _⟩ := r1.tup sm
      refine call_len pins s σ H _ us Q I rv ⟨_, _, rfl, .inr ⟨ys, h1, rfl⟩, ?_⟩
      rw [← h2.length]
      exact q _ G H (Ext.refl sm) (by simp only [Rep])
    | _ => cases e
  | [], _, e => cases e
  | _ :: _ :: _, _, e => cases e
theorem cd_abs : CallD X Cl (.builtin "abs") (BI.fn .abs) := by
  intro pins s σ G H ds d vs us Q I rv sm r e q
  match ds, r, e with
  | [x], r0, e =>
    obtain ⟨v, rfl, r1⟩ := r0.one
    replace e : absD x = some d := e
    cases x with
    | int i =>
      cases e
      cases r1.int
      exact call_abs pins s σ H _ us Q I rv ⟨i, rfl, q _ G H (Ext.refl sm) (by simp only [Rep])⟩
    | _ => cases e
  | [], _, e => cases e
  | _ :: _ :: _, _, e => cases e
theorem cd_max (hc : X.calm = true) : CallD X Cl (.builtin "max") (BI.fn .max) := by
  intro pins s σ G H ds d vs us Q I rv sm r e q
  match ds, r, e with
  | [x], r0, e =>
    obtain ⟨v, rfl, r1⟩ := r0.one
    replace e : maxLD x = some d := e
    unfold maxLD at e
    split at e
    · rename_i n ns hl
      cases e
      obtain ⟨a, rfl, hs⟩ := lints_rep sm r1 hl
      refine cr_max hc pins s σ H _ us Q I rv ⟨a, n :: ns, rfl, hs, by simp, fun m hm hle => ?_⟩
      obtain ⟨h1, h2⟩ := maxI_mem (n :: ns) (by simp)
      have e1 := hle _ h1
      have e2 := h2 _ hm
      have e3 : m = maxI (n :: ns) := by omega
      rw [e3]
      exact q _ G H (Ext.refl sm) (by simp only [Rep])
    · cases e
  | [x, y], r, e =>
    obtain ⟨v, w, rfl, r1, r2⟩ := r.two
    replace e : max2D x y = some d := e
    cases x with
    | int i =>
      cases y with
      | int j =>
        cases e
        cases r1.int
        cases r2.int
        exact call_max2 hc pins s σ H _ us Q I rv ⟨i, j, rfl, q _ G H (Ext.refl sm) (by simp only [Rep])⟩
      | _ => cases e
    | _ => cases y <;> cases e
  | [], _, e => cases e
  | _ :: _ :: _ :: _, _, e => cases e
theorem cd_min (hc : X.calm = true) : CallD X Cl (.builtin "min") (BI.fn .min) := by
  intro pins s σ G H ds d vs us Q I rv sm r e q
  match ds, r, e with
  | [x], r0, e =>
    obtain ⟨v, rfl, r1⟩ := r0.one
    replace e : minLD x = some d := e
    unfold minLD at e
    split at e
    · rename_i n ns hl
      cases e
      obtain ⟨a, rfl, hs⟩ := lints_rep sm r1 hl
      refine cr_min hc pins s σ H _ us Q I rv ⟨a, n :: ns, rfl, hs, by simp, fun m hm hle => ?_⟩
      obtain ⟨h1, h2⟩ := minI_mem (n :: ns) (by simp)
      have e1 := hle _ h1
      have e2 := h2 _ hm
      have e3 : m = minI (n :: ns) := by omega
      rw [e3]
      exact q _ G H (Ext.refl sm) (by simp only [Rep])
    · cases e
  | [x, y], r, e =>
    obtain ⟨v, w, rfl, r1, r2⟩ := r.two
    replace e : min2D x y = some d := e
    cases x with
    | int i =>
      cases y with
      | int j =>
        cases e
        cases r1.int
        cases r2.int
        exact call_min2 hc pins s σ H _ us Q I rv ⟨i, j, rfl, q _ G H (Ext.refl sm) (by simp only [Rep])⟩
      | _ => cases e
    | _ => cases y <;> cases e
  | [], _, e => cases e
  | _ :: _ :: _ :: _, _, e => cases e
theorem cd_sum (hc : X.calm = true) : CallD X Cl (.builtin "sum") (BI.fn .sum) := by
  intro pins s σ G H ds d vs us Q I rv sm r e q
  match ds, r, e with
  | [x], r0, e =>
    obtain ⟨v, rfl, r1⟩ := r0.one
    obtain ⟨ns, hl, rfl⟩ := Option.map_eq_some_iff.mp (show sumD x = some d from e)
    obtain ⟨a, rfl, hs⟩ := lints_rep sm r1 hl
    exact cr_sum hc pins s σ H _ us Q I rv ⟨a, ns, rfl, hs, q _ G H (Ext.refl sm) (by simp only [Rep])⟩
  | [], _, e => cases e
  | _ :: _ :: _, _, e => cases e
theorem cd_sorted : CallD X Cl (.builtin "sorted") (BI.fn .sorted) := by
  intro pins s σ G H ds d vs us Q I rv sm r e q
  match ds, r, e with
  | [x], r0, e =>
    obtain ⟨v, rfl, r1⟩ := r0.one
    obtain ⟨ns, hl, rfl⟩ := Option.map_eq_some_iff.mp (show sortedD x = some d from e)
    obtain ⟨a, rfl, hs⟩ := lints_rep sm r1 hl
    refine cr_sortedI pins s σ H _ us Q I rv ⟨a, ns, rfl, hs, fun ns' p hp hs' hn => ?_⟩
    have e1 : ns' = sortI ns := PySem.W.ksm_same (hp.trans (sortI_perm ns).symm) hs' (sortI_sorted ns)
    subst e1
    refine q _ _ _ (Ext.new sm hn) ?_
    simp only [Rep]
    exact ⟨p, _, rfl, upd_same, Reps.of_ints _⟩
  | [], _, e => cases e
  | _ :: _ :: _, _, e => cases e
theorem cd_int : CallD X Cl (.type "int") (BI.fn .int) := by
  intro pins s σ G H ds d vs us Q I rv sm r e q
  match ds, r, e with
  | [x], r0, e =>
    obtain ⟨v, rfl, r1⟩ := r0.one
    replace e : intD x = some d := e
    cases x with
    | int i =>
      cases e
      cases r1.int
      exact call_int1 pins s σ H _ us Q I rv (.inl ⟨i, rfl, q _ G H (Ext.refl sm) (by simp only [Rep])⟩)
    | bl i =>
      cases e
      cases r1.bl
      exact call_int1 pins s σ H _ us Q I rv (.inr ⟨i, rfl, q _ G H (Ext.refl sm) (by simp only [Rep])⟩)
    | _ => cases e
  | [], _, e => cases e
  | _ :: _ :: _, _, e => cases e
theorem cd_bool : CallD X Cl (.type "bool") (BI.fn .bool) := by
  intro pins s σ G H ds d vs us Q I rv sm r e q
  match ds, r, e with
  | [x], r0, e =>
    obtain ⟨v, rfl, r1⟩ := r0.one
    replace e : boolD x = some d := e
    cases x with
    | int i =>
      cases e
      cases r1.int
      exact call_bool1 pins s σ H _ us Q I rv (.inl ⟨i, rfl, q _ G H (Ext.refl sm) (by simp only [Rep])⟩)
    | bl i =>
      cases e
      cases r1.bl
      exact call_bool1 pins s σ H _ us Q I rv (.inr ⟨i, rfl, q _ G H (Ext.refl sm) (by simp only [Rep])⟩)
    | _ => cases e
  | [], _, e => cases e
  | _ :: _ :: _, _, e => cases e
theorem cd_str : CallD X Cl (.type "str") (BI.fn .str) := by
  intro pins s σ G H ds d vs us Q I rv sm r e q
  match ds, r, e with
  | [x], r0, e =>
    obtain ⟨v, rfl, r1⟩ := r0.one
    replace e : strD x = some d := e
    cases x with
    | int i =>
      cases r1.int
      replace e : (if i.natAbs.log2 < 1920 then some (D.str (toString i)) else none) = some d := e
      split at e
      · rename_i hz
        cases e
        exact call_str_int pins s σ H _ us Q I rv ⟨i, rfl, hz, q _ G H (Ext.refl sm) (by simp only [Rep])⟩
      · cases e
    | _ => cases e
  | [], _, e => cases e
  | _ :: _ :: _, _, e => cases e
theorem cd_list : CallD X Cl (.type "list") (BI.fn .list) := by
  intro pins s σ G H ds d vs us Q I rv sm r e q
  match ds, r, e with
  | [x], r0, e =>
    obtain ⟨v, rfl, r1⟩ := r0.one
    replace e : listD x = some d := e
    cases x with
    | lst xs =>
      cases e
      obtain ⟨a, ys, rfl, h1, h2⟩ := r1.lst sm
      refine call_list_of pins s σ H _ us Q I rv ⟨a, ys, rfl, .inl (SqL.of h1), fun p hp => q _ _ _ (Ext.new sm hp) ?_⟩
      simp only [Rep]
      exact ⟨p, _, rfl, upd_same, h2.mono (same_upd (Same.free sm hp))⟩
    | frl xs =>
      cases e
      obtain ⟨a, ys, rfl, h1, h2⟩ := r1.frl sm
      refine call_list_of pins s σ H _ us Q I rv ⟨a, ys, rfl, .inl h1, fun p hp => q _ _ _ (Ext.new sm hp) ?_⟩
      simp only [Rep]
      exact ⟨p, _, rfl, upd_same, h2.mono (same_upd (Same.free sm hp))⟩
    | tup xs =>
      cases e
      obtain ⟨a, ys, rfl, h1, h2, _⟩ := r1.tup sm
      refine call_list_of pins s σ H _ us Q I rv ⟨a, ys, rfl, .inr h1, fun p hp => q _ _ _ (Ext.new sm hp) ?_⟩
      simp only [Rep]
      exact ⟨p, _, rfl, upd_same, h2.mono (same_upd (Same.free sm hp))⟩
    | _ => cases e
  | [], _, e => cases e
  | _ :: _ :: _, _, e => cases e
theorem cd_tuple : CallD X Cl (.type "tuple") (BI.fn .tuple) := by
  intro pins s σ G H ds d vs us Q I rv sm r e q
  match ds, r, e with
  | [x], r0, e =>
    obtain ⟨v, rfl, r1⟩ := r0.one
    replace e : tupleD x = some d := e
    cases x with
    | lst xs =>
      cases e
      obtain ⟨a, ys, rfl, h1, h2⟩ := r1.lst sm
      refine call_tuple_of pins s σ H _ us Q I rv ⟨a, ys, rfl, .inl ⟨SqL.of h1, fun p hp => q _ _ _ (Ext.new sm hp) ?_⟩⟩
      simp only [Rep]
      exact ⟨p, _, rfl, SqT.of upd_same, h2.mono (same_upd (Same.free sm hp))⟩
    | frl xs =>
      cases e
      obtain ⟨a, ys, rfl, h1, h2⟩ := r1.frl sm
      refine call_tuple_of pins s σ H _ us Q I rv ⟨a, ys, rfl, .inl ⟨h1, fun p hp => q _ _ _ (Ext.new sm hp) ?_⟩⟩
      simp only [Rep]
      exact ⟨p, _, rfl, SqT.of upd_same, h2.mono (same_upd (Same.free sm hp))⟩
    | tup xs =>
      cases e
      obtain ⟨a, ys, rfl, h1, h2, g1⟩ := r1.tup sm
      refine call_tuple_of pins s σ H _ us Q I rv ⟨a, ys, rfl, .inr ⟨h1, q _ G H (Ext.refl sm) ?_⟩⟩
      simp only [Rep]
      exact ⟨a, ys, rfl, g1, h2⟩
    | _ => cases e
  | [], _, e => cases e
  | _ :: _ :: _, _, e => cases e
theorem cd_all (hc : X.calm = true) (b : BI) : CallD X Cl b.val b.fn := by
  cases b with
  | len => exact cd_len
  | abs => exact cd_abs
  | max => exact cd_max hc
  | min => exact cd_min hc
  | sum => exact cd_sum hc
  | sorted => exact cd_sorted
  | int => exact cd_int
  | bool => exact cd_bool
  | str => exact cd_str
  | list => exact cd_list
  | tuple => exact cd_tuple
end

/-! ### isinstance of built-in classes -/
inductive Ty where
  | int | bool | str | list | tuple
  deriving DecidableEq
def Ty.name : Ty → String
  | .int => "int" | .bool => "bool" | .str => "str" | .list => "list" | .tuple => "tuple"
def tyD : D → Option String
  | .non => some "NoneType"
  | .bl _ => some "bool"
  | .int _ => some "int"
  | .str _ => some "str"
  | .lst _ => some "list"
  | .frl _ => some "list"
  | .tup _ => some "tuple"
  | .ins _ _ _ => none
def isTy (t : Ty) : D → Option Bool
  | .non => some false
  | .bl _ => some (match t with | .bool => true | .int => true | _ => false)
  | .int _ => some (match t with | .int => true | _ => false)
  | .str _ => some (match t with | .str => true | _ => false)
  | .lst _ => some (match t with | .list => true | _ => false)
  | .frl _ => some (match t with | .list => true | _ => false)
  | .tup _ => some (match t with | .tuple => true | _ => false)
  | .ins _ _ _ => none
def isTys (ts : List Ty) (d : D) : Option Bool := match d with
  | .ins _ _ _ => none
  | d => some (ts.any fun t => (isTy t d).getD false)
theorem kitB_ty (t : Ty) : kitB "NoneType" t.name = some false ∧ kitB "bool" t.name = some (match t with | .bool => true | .int => true | _ => false) ∧ kitB "int" t.name = some (match t with | .int => true | _ => false) ∧
    kitB "str" t.name = some (match t with | .str => true | _ => false) ∧ kitB "list" t.name = some (match t with | .list => true | _ => false) ∧ kitB "tuple" t.name = some (match t with | .tuple => true | _ => false) := by
  cases t <;> decide +kernel
theorem ty_rep {K : Frg} {Cl : ClT} {G H : Hp} {d : D} {v : V} {n : String} (sm : Same G H) (r : RepB K Cl G H d v) (e : tyD d = some n) : TyX K H v (.type n) := by
  cases d with
  | non => cases e; cases r.non; exact .base .non
  | bl b => cases e; cases r.bl; exact .base (.bl b)
  | int b => cases e; cases r.int; exact .base (.int b)
  | str b => cases e; cases r.str; exact .base (.str b)
  | lst xs =>
    cases e
    obtain ⟨a, ys, rfl, h1, h2⟩ := r.lst sm
    exact .base (.lst h1)
  | frl xs =>
    cases e
    obtain ⟨a, ys, rfl, h1, h2⟩ := r.frl sm
    rcases h1 with (h1 | ⟨o, h1⟩) | ⟨o, its, n, h1, h2, _⟩
    · exact .base (.lst h1)
    · exact .base (.frz h1)
    · exact .kList h1 h2
  | tup xs =>
    cases e
    obtain ⟨a, ys, rfl, h1, h2, _⟩ := r.tup sm
    rcases h1 with (h1 | ⟨o, h1⟩) | ⟨o, its, n, h1, h2, _⟩
    · exact .base (.tup h1)
    · exact .fTuple h1
    · exact .kTuple h1 h2
  | ins c ns ds => cases e
theorem isTy_kit {K : Frg} (t : Ty) {d : D} {n : String} {b : Bool} (e : tyD d = some n) (h : isTy t d = some b) : PySem.W.kitOne K (.type n) (.type t.name) = some b := by
  obtain ⟨k1, k2, k3, k4, k5, k6⟩ := kitB_ty t
  cases d with
  | non => cases e; cases h; exact kit_ty k1
  | bl _ => cases e; cases h; exact kit_ty k2
  | int _ => cases e; cases h; exact kit_ty k3
  | str _ => cases e; cases h; exact kit_ty k4
  | lst _ => cases e; cases h; exact kit_ty k5
  | frl _ => cases e; cases h; exact kit_ty k5
  | tup _ => cases e; cases h; exact kit_ty k6
  | ins _ _ _ => cases e
theorem isTys_kit {K : Frg} {d : D} {n : String} (e : tyD d = some n) : ∀ {ts : List Ty} {b : Bool}, isTys ts d = some b → PySem.W.kitAny K (.type n) (ts.map fun t => .type t.name) = some b
  | [], b, h => by
    have : b = false := by cases d <;> first | (cases h; rfl) | cases e
    subst this
    exact kitAny_nil
  | t :: ts, b, h => by
    obtain ⟨c, hc⟩ : ∃ c, isTy t d = some c := by cases d <;> first | exact ⟨_, rfl⟩ | cases e
    obtain ⟨c', hc'⟩ : ∃ c', isTys ts d = some c' := by cases d <;> first | exact ⟨_, rfl⟩ | cases e
    have hb : b = (c || c') := by
      cases d with
      | ins _ _ _ => cases e
      | _ => cases hc; cases hc'; cases h; rfl
    refine kitAny_cons (isTy_kit t e hc) (fun z => ?_) (fun z => by rw [hb, z]; rfl)
    rw [isTys_kit e hc', hb, z]
    rfl
end Pu
/-! PuF: expressions as a small language of their own, what they are worth, and when a piece of the program's text is such an expression. -/
namespace Pu
open PySem PySem.Spec PyProof.Rows L2

inductive Tg where
  | nm (i : Nat) | tp (is : List Nat)
mutual
inductive E where
  | var (i : Nat) | non | bl (b : Bool) | int (i : Int) | str (x : Str) | glob (x : Str)
  | bin (o : Operator) (a b : E) | neg (a : E)
  | cmp (o : CmpOp) (a b : E) | cmp2 (o o2 : CmpOp) (a b c : E)
  | not_ (a : E) | ands (xs : Es) | ors (xs : Es) | ife (c a b : E)
  | call (f : Str) (xs : Es) | callk (f : Str) (xs : Es) (ks : List Str) (ys : Es)
  | bi (b : BI) (xs : Es) | isi (a : E) (ts : List Ty) | isi1 (a : E) (t : Ty)
  | fld (a : E) (f : Str) | idx (a b : E) | slc (a : E) (lo hi : Eo)
  | tup (xs : Es) | lst (xs : Es)
  | lc (own : List (Str × Nat)) (elt : E) (tg : Tg) (it : It) (c : Eo)
  | bad
  | lenm (a : E) | meth (a : E) (m : Str) (xs : Es) | gcd (xs : Es) | sqr (t : Bool) (a : E) | sq1 (t : Bool) (a : E) | sq2 (t : Bool) (a b : E) | fmt (a : E) | joined (xs : Es) | idxof (a : E) (b : E)
inductive Es where
  | nil | cons (e : E) (es : Es)
inductive Eo where
  | no | yes (e : E)
inductive It where
  | seq (e : E) | rng (a : E) | rng2 (a b : E) | rev (e : E)
end
inductive Md where
  | val | bor | tst
@[simp] def Es.len : Es → Nat
  | .nil => 0
  | .cons _ es => es.len + 1
def Es.isNil : Es → Bool
  | .nil => true
  | _ => false

/-- what the defs and the constants of the module are worth -/
structure Tab where
  fu : Nat
  fn : Str → Nat → Option (List D → Res D)
  fk : Str → Nat → List Str → Option (List D → Res D)
  gl : Str → Option D
  fd : Str → Str → Bool
  mt : Str → Str → Nat → Option (List D → Res D)
  gc : Bool

def fin (m : Md) (r : Res D) : Res D := match m with
  | .val => r
  | .bor => r
  | .tst => r.bind fun d => Res.ofO (truD d)
def getV (ρ : Ro) (i : Nat) : Res D := match ρ[i]? with
  | some (.val d) => .ok d
  | _ => .stuck
def getB (ρ : Ro) (i : Nat) : Res D := match ρ[i]? with
  | some (.val d) => .ok d
  | some (.own ds) => .ok (.lst ds)
  | some (.obj c ns ds) => .ok (.ins c ns ds)
  | _ => .stuck
def notR : D → Res D
  | .bl b => .ok (.bl (!b))
  | _ => .stuck
def condR (d : D) (a b : Res D) : Res D := match d with
  | .bl true => a
  | .bl false => b
  | _ => .stuck
def fldR (T : Tab) (f : Str) : D → Res D
  | .ins c ns ds => if T.fd c f = true then Res.ofO ((ns.zip ds).lookup f) else .stuck
  | _ => .stuck
def apR (o : Option (List D → Res D)) (r : Res (List D)) : Res D := match o with
  | some F => r.bind F
  | none => .stuck
def itemsR : D → Res (List D)
  | .lst xs => .ok xs
  | .frl xs => .ok xs
  | .tup xs => .ok xs
  | .str x => if x.length ≤ sizeLine then .ok (x.cps.toList.map fun c => .str ⟨#[c]⟩) else .stuck
  | _ => .stuck
def rngR : D → D → Res (List D)
  | .int i, .int j => if -(2 ^ 62) ≤ i ∧ i < 2 ^ 62 ∧ -(2 ^ 62) ≤ j ∧ j < 2 ^ 62 ∧ (j - i).toNat ≤ sizeLine then .ok ((List.range (j - i).toNat).map fun k => .int (i + (k : Nat))) else .stuck
  | _, _ => .stuck
def revR : D → Res (List D)
  | .lst xs => .ok xs.reverse
  | .frl xs => .ok xs.reverse
  | .tup xs => .ok xs.reverse
  | _ => .stuck
@[simp] def setAll : List Nat → List D → Ro → Ro
  | i :: is, d :: ds, ρ => setAll is ds (ρ.set i (.val d))
  | _, _, ρ => ρ
def asg : Tg → D → Ro → Option Ro
  | .nm i, d, ρ => some (ρ.set i (.val d))
  | .tp is, .tup ds, ρ => if ds.length = is.length then some (setAll is ds ρ) else none
  | .tp _, _, _ => none
@[simp] def wipeR (ρ : Ro) : List Nat → Ro
  | [] => ρ
  | v :: vs => (wipeR ρ vs).set v .no
def noX {α : Type} : Res α → Res α
  | .ok a => .ok a
  | _ => .stuck
/-- a comprehension's items -/
def lcL (g : D → Ro → Option Ro) (c : Ro → Res D) (f : Ro → Res D) (ρ : Ro) : List D → Res (List D)
  | [] => .ok []
  | d :: ds => match g d ρ with
    | none => .stuck
    | some ρ1 => (noX (c ρ1)).bind fun b => match b with
      | .bl true => (noX (f ρ1)).bind fun y => (lcL g c f ρ ds).bind fun ys => .ok (y :: ys)
      | .bl false => lcL g c f ρ ds
      | _ => .stuck

/-- what an own __len__ may tell -/
def lenOk : D → Res D
  | .int n => if 0 ≤ n ∧ n < 2 ^ 63 then .ok (.int n) else .stuck
  | _ => .stuck
/-- a method of an instance -/
def methR (T : Tab) (m : Str) (n : Nat) (r : Res (List D)) : D → Res D
  | .ins c ns xs => if m ∈ ns then .stuck else match T.mt c m n with
    | some F => r.bind fun ds => F (.ins c ns xs :: ds)
    | none => .stuck
  | _ => .stuck
def lenmR (T : Tab) : D → Res D
  | .ins c ns xs => match T.mt c "__len__" 0 with
    | some F => (F [.ins c ns xs]).bind lenOk
    | none => .stuck
  | _ => .stuck
def gcdF : List D → Option D
  | [.int a, .int b] => some (.int ((Nat.gcd a.natAbs b.natAbs : Nat) : Int))
  | _ => none
def fmtD : D → Option D
  | .str y => if y.length ≤ sizeLine then some (.str y) else none
  | .int i => if i.natAbs.log2 < 1920 then some (.str (toString i)) else none
  | _ => none
/-- one more text behind a text -/
def joinR (acc : Str) (k : Str → Res D) : D → Res D
  | .str y => if (acc ++ y).length ≤ sizeLine then k (acc ++ y) else .stuck
  | _ => .stuck
/-- the first place of an item -/
def rowPy : D → Option (List PyData)
  | .lst ys => toPys ys
  | .frl ys => toPys ys
  | _ => none
def idxofD (ps : List PyData) (p : D) : Option D := match toPy p with
  | some q => if SeqAt.shaped q = true ∧ SeqAt.shaped (.list ps) = true then (ps.findIdx? fun z => PyData.eqv z q).map fun j => .int (j : Nat) else none
  | none => none
def idxofR (r : Res D) (x : D) : Res D := match rowPy x with
  | some ps => r.bind fun p => Res.ofO (idxofD ps p)
  | none => .stuck
def revLR : D → Res (List D)
  | .lst xs => .ok xs.reverse
  | .frl xs => .ok xs.reverse
  | _ => .stuck
def sqD (t : Bool) (ds : List D) : D := if t = true then .tup ds else .lst ds

mutual
def ev (T : Tab) : E → Md → Ro → Res D
  | .var i, .val, ρ => getV ρ i
  | .var i, .bor, ρ => getB ρ i
  | .var i, .tst, ρ => (getB ρ i).bind fun d => Res.ofO (truD d)
  | .non, m, _ => fin m (.ok .non)
  | .bl b, m, _ => fin m (.ok (.bl b))
  | .int i, m, _ => fin m (.ok (.int i))
  | .str x, m, _ => fin m (.ok (.str x))
  | .glob x, m, _ => fin m (Res.ofO (T.gl x))
  | .bin o a b, m, ρ => fin m (bin (ev T a .bor) (ev T b .bor) (binD o) ρ)
  | .neg a, m, ρ => fin m (un (ev T a .bor) negD ρ)
  | .cmp o a b, _, ρ => bin (ev T a .bor) (ev T b .bor) (cmpD o) ρ
  | .cmp2 o o2 a b c, _, ρ => (ev T a .bor ρ).bind fun x => (ev T b .bor ρ).bind fun y => (Res.ofO (cmpD o x y)).bind fun d => condR d ((ev T c .bor ρ).bind fun z => Res.ofO (cmpD o2 y z)) (.ok (.bl false))
  | .not_ a, .tst, ρ => (ev T a .tst ρ).bind notR
  | .not_ a, _, ρ => (ev T a .val ρ).bind notR
  | .ands xs, .tst, ρ => evAnd T xs .tst ρ
  | .ands xs, _, ρ => evAnd T xs .val ρ
  | .ors xs, .tst, ρ => evOr T xs .tst ρ
  | .ors xs, _, ρ => evOr T xs .val ρ
  | .ife _ _ _, .tst, _ => .stuck
  | .ife c a b, _, ρ => (ev T c .tst ρ).bind fun d => condR d (ev T a .val ρ) (ev T b .val ρ)
  | .call f xs, m, ρ => fin m (apR (T.fn f xs.len) (evs T xs ρ))
  | .callk f xs ks ys, m, ρ => fin m (apR (T.fk f xs.len ks) ((evs T xs ρ).bind fun ds => (evs T ys ρ).bind fun es => .ok (ds ++ es)))
  | .bi b xs, m, ρ => fin m ((evsB T xs ρ).bind fun ds => Res.ofO (b.fn ds))
  | .isi a ts, m, ρ => fin m ((ev T a .bor ρ).bind fun d => Res.ofO ((isTys ts d).map .bl))
  | .isi1 a t, m, ρ => fin m ((ev T a .bor ρ).bind fun d => Res.ofO ((isTy t d).map .bl))
  | .fld a f, m, ρ => fin m ((ev T a .bor ρ).bind fun d => fldR T f d)
  | .idx a b, m, ρ => fin m (bin (ev T a .bor) (ev T b .bor) idxD ρ)
  | .slc a lo hi, m, ρ => fin m (slc (ev T a .bor) (evo T lo) (evo T hi) ρ)
  | .tup xs, m, ρ => fin m ((evs T xs ρ).bind fun ds => .ok (.tup ds))
  | .lst xs, m, ρ => fin m ((evs T xs ρ).bind fun ds => .ok (.lst ds))
  | .lc own elt tg it c, m, ρ => fin m ((evi T it true ρ).bind fun ds => (lcL (asg tg) (evc T c) (ev T elt .val) (wipeR ρ (own.map (·.2))) ds).bind fun ys => .ok (.lst ys))
  | .bad, _, _ => .stuck
  | .lenm a, m, ρ => fin m ((ev T a .val ρ).bind fun d => lenmR T d)
  | .meth a f xs, m, ρ => fin m ((ev T a .val ρ).bind fun d => methR T f xs.len (evs T xs ρ) d)
  | .gcd xs, m, ρ => fin m (if T.gc = true then (evsB T xs ρ).bind fun ds => Res.ofO (gcdF ds) else .stuck)
  | .sqr t a, m, ρ => fin m ((ev T a .bor ρ).bind fun d => (revLR d).bind fun ds => .ok (sqD t ds))
  | .sq1 t a, m, ρ => fin m ((ev T a .bor ρ).bind fun y => (rngR (.int 0) y).bind fun ds => .ok (sqD t ds))
  | .sq2 t a b, m, ρ => fin m ((ev T a .bor ρ).bind fun x => (ev T b .bor ρ).bind fun y => (rngR x y).bind fun ds => .ok (sqD t ds))
  | .fmt a, m, ρ => fin m ((ev T a .bor ρ).bind fun d => Res.ofO (fmtD d))
  | .joined xs, m, ρ => fin m (evJ T xs Str.empty ρ)
  | .idxof a b, m, ρ => fin m ((ev T a .bor ρ).bind fun x => idxofR (ev T b .bor ρ) x)
def evs (T : Tab) : Es → Ro → Res (List D)
  | .nil, _ => .ok []
  | .cons e es, ρ => (ev T e .val ρ).bind fun d => (evs T es ρ).bind fun ds => .ok (d :: ds)
def evsB (T : Tab) : Es → Ro → Res (List D)
  | .nil, _ => .ok []
  | .cons e es, ρ => (ev T e .bor ρ).bind fun d => (evsB T es ρ).bind fun ds => .ok (d :: ds)
def evJ (T : Tab) : Es → Str → Ro → Res D
  | .nil, acc, _ => .ok (.str acc)
  | .cons e es, acc, ρ => (ev T e .bor ρ).bind fun d => joinR acc (fun a => evJ T es a ρ) d
def evAnd (T : Tab) : Es → Md → Ro → Res D
  | .nil, _, _ => .stuck
  | .cons e es, m, ρ => (ev T e m ρ).bind fun d => if es.isNil then .ok d else condR d (evAnd T es m ρ) (.ok (.bl false))
def evOr (T : Tab) : Es → Md → Ro → Res D
  | .nil, _, _ => .stuck
  | .cons e es, m, ρ => (ev T e m ρ).bind fun d => if es.isNil then .ok d else condR d (.ok (.bl true)) (evOr T es m ρ)
/-- a condition: none is True -/
def evc (T : Tab) : Eo → Ro → Res D
  | .no, _ => .ok (.bl true)
  | .yes e, ρ => ev T e .tst ρ
def evo (T : Tab) : Eo → Prt
  | .no => none
  | .yes e => some (ev T e .bor)
def evi (T : Tab) : It → Bool → Ro → Res (List D)
  | .seq e, true, ρ => (ev T e .bor ρ).bind itemsR
  | .seq e, false, ρ => (ev T e .val ρ).bind itemsR
  | .rng a, _, ρ => (ev T a .bor ρ).bind fun y => rngR (.int 0) y
  | .rng2 a b, _, ρ => (ev T a .bor ρ).bind fun x => (ev T b .bor ρ).bind fun y => rngR x y
  | .rev e, true, ρ => (ev T e .bor ρ).bind revR
  | .rev e, false, ρ => (ev T e .val ρ).bind revR
end

/-! ### the text is such an expression -/
def visB (sc : Scope) (x : Str) : Bool := match sc.names.lookup x with
  | some .local => true
  | some .cell => true
  | some .free => true
  | _ => false
def locB (sc : Scope) (x : Str) : Bool := match sc.names.lookup x with
  | some .local => true
  | some .cell => true
  | _ => false
def glB (sc : Scope) (x : Str) : Bool := match sc.names.lookup x with
  | some .globalImplicit => true
  | _ => false
def isStar : Expr → Bool
  | .Starred _ _ => true
  | _ => false
def isSlc : Expr → Bool
  | .Slice _ _ _ _ => true
  | _ => false
def isCall0 : Expr → Bool
  | .Call _ [] [] _ => true
  | _ => false
def sqN (t : Bool) : Str := if t = true then "tuple" else "list"
def isSet : Expr → Bool
  | .Set _ _ _ => true
  | _ => false
def tyNames : List Ty → List Expr → Bool
  | [], [] => true
  | t :: ts, .Name x _ :: es => decide (x = Str.ofString t.name) && tyNames ts es
  | _, _ => false
def tgChk (N : List Str) (sc : Scope) : Tg → Expr → Bool
  | .nm i, .Name x _ => decide (N[i]? = some x) && locB sc x
  | .tp is, .Tuple es _ _ => (is.zip es).all (fun p => match p.2 with | .Name x _ => decide (N[p.1]? = some x) && locB sc x | _ => false) && decide (is.length = es.length)
  | _, _ => false
def kwNames : List Keyword → List Str
  | [] => []
  | ⟨some x, _, _⟩ :: ks => x :: kwNames ks
  | ⟨none, _, _⟩ :: ks => kwNames ks
def kwVals : List Keyword → List Expr
  | [] => []
  | ⟨_, e, _⟩ :: ks => e :: kwVals ks
def kwAll : List Keyword → Bool
  | [] => true
  | ⟨some _, _, _⟩ :: ks => kwAll ks
  | ⟨none, _, _⟩ :: _ => false
mutual
def chk (N : List Str) (sc : Scope) : E → Expr → Bool
  | .var i, ee => match ee with
    | .Name x _ => decide (N[i]? = some x) && visB sc x && decide (x ≠ "__debug__") && decide (x ≠ "__classdict__")
    | _ => false
  | .non, ee => match ee with
    | .Constant .none _ _ => true
    | _ => false
  | .bl b, ee => match ee with
    | .Constant (.bool c) _ _ => decide (b = c)
    | _ => false
  | .int i, ee => match ee with
    | .Constant (.int j) _ _ => decide (i = j)
    | _ => false
  | .str x, ee => match ee with
    | .Constant (.str y) _ _ => decide (x = y)
    | _ => false
  | .glob x, ee => match ee with
    | .Name y _ => decide (x = y) && glB sc x && decide (x ≠ "__debug__")
    | _ => false
  | .bin o a b, ee => match ee with
    | .BinOp l o' r _ => decide (o = o') && chk N sc a l && chk N sc b r
    | _ => false
  | .neg a, ee => match ee with
    | .UnaryOp .USub x _ => chk N sc a x
    | _ => false
  | .cmp o a b, ee => match ee with
    | .Compare l [o'] [r] _ => decide (o = o') && chk N sc a l && chk N sc b r && !behindInMarks o' r
    | _ => false
  | .cmp2 o o2 a b c, ee => match ee with
    | .Compare l [p, p2] [r, q] _ => decide (o = p) && decide (o2 = p2) && chk N sc a l && chk N sc b r && chk N sc c q && !lastMarks [p, p2] [r, q]
    | _ => false
  | .not_ a, ee => match ee with
    | .UnaryOp .Not x _ => chk N sc a x
    | _ => false
  | .ands xs, ee => match ee with
    | .BoolOp .And es _ => chks N sc xs es && !xs.isNil
    | _ => false
  | .ors xs, ee => match ee with
    | .BoolOp .Or es _ => chks N sc xs es && !xs.isNil
    | _ => false
  | .ife c a b, ee => match ee with
    | .IfExp t x y _ => chk N sc c t && chk N sc a x && chk N sc b y
    | _ => false
  | .call f xs, ee => match ee with
    | .Call (.Name x _) es [] _ => decide (f = x) && glB sc x && decide (x ≠ "__debug__") && chks N sc xs es && !xs.isNil
    | _ => false
  | .callk f xs ks ys, ee => match ee with
    | .Call (.Name x _) es kws _ => decide (f = x) && glB sc x && decide (x ≠ "__debug__") && chks N sc xs es && !xs.isNil && kwAll kws && decide (kwNames kws = ks) && chks N sc ys (kwVals kws)
    | _ => false
  | .bi b xs, ee => match ee with
    | .Call (.Name x _) es [] _ => decide (x = b.name) && glB sc x && chks N sc xs es && !xs.isNil
    | _ => false
  | .isi a ts, ee => match ee with
    | .Call (.Name x _) [y, .Tuple es _ _] [] _ => decide (x = "isinstance") && glB sc x && chk N sc a y && tyNames ts es && ts.all (fun t => glB sc (Str.ofString t.name)) && !isStar y && decide (es.length ≤ 1000)
    | _ => false
  | .isi1 a t, ee => match ee with
    | .Call (.Name x _) [y, .Name z _] [] _ => decide (x = "isinstance") && glB sc x && chk N sc a y && decide (z = Str.ofString t.name) && glB sc z && !isStar y
    | _ => false
  | .fld a f, ee => match ee with
    | .Attribute x g _ => decide (f = g) && chk N sc a x && !isCall0 x
    | _ => false
  | .idx a b, ee => match ee with
    | .Subscript x y _ => chk N sc a x && chk N sc b y && !isSlc y
    | _ => false
  | .slc a lo hi, ee => match ee with
    | .Subscript x (.Slice l u none _) _ => chk N sc a x && chko N sc lo l && chko N sc hi u
    | _ => false
  | .tup xs, ee => match ee with
    | .Tuple es _ _ => chks N sc xs es && decide (es.length ≤ 1000)
    | _ => false
  | .lst xs, ee => match ee with
    | .List es _ => chks N sc xs es && decide (es.length ≤ 1000)
    | _ => false
  | .lc own elt tg it c, ee => match ee with
    | .ListComp x [⟨t, i, ifs, 0⟩] s2 _ => blkC N sc s2 own && (own.all fun p => decide (p.2 < N.length)) && (match tg with | .nm j => decide (j ∈ own.map (·.2)) | .tp js => js.all fun j => decide (j ∈ own.map (·.2))) &&
      tgChk N s2 tg t && chkI N sc it i && !isSet i && chk N (relS s2 sc) elt x && chkc N (relS s2 sc) c ifs
    | _ => false
  | .bad, ee => match ee with
    | .ListComp _ _ _ _ => false
    | .SetComp _ _ _ _ => false
    | .DictComp _ _ _ _ _ => false
    | _ => true
  | .lenm a, ee => match ee with
    | .Call (.Name x _) [y] [] _ => decide (x = "len") && glB sc x && chk N sc a y && !isStar y
    | _ => false
  | .meth a f xs, ee => match ee with
    | .Call (.Attribute o m ap) es [] cp => decide (f = m) && chk N sc a o && chks N sc xs es && !isCall0 o && (ap.endLine == cp.line) && decide (es.length < 30)
    | _ => false
  | .gcd xs, ee => match ee with
    | .Call (.Name x _) es [] _ => decide (x = "gcd") && glB sc x && chks N sc xs es && !xs.isNil
    | _ => false
  | .sqr t a, ee => match ee with
    | .Call (.Name x _) [.Call (.Name z _) [y] [] _] [] _ => decide (x = sqN t) && glB sc x && decide (z = "reversed") && glB sc z && chk N sc a y && !isStar y
    | _ => false
  | .sq1 t a, ee => match ee with
    | .Call (.Name x _) [.Call (.Name z _) [y] [] _] [] _ => decide (x = sqN t) && glB sc x && decide (z = "range") && glB sc z && chk N sc a y && !isStar y
    | _ => false
  | .sq2 t a b, ee => match ee with
    | .Call (.Name x _) [.Call (.Name z _) [y, y2] [] _] [] _ => decide (x = sqN t) && glB sc x && decide (z = "range") && glB sc z && chk N sc a y && chk N sc b y2 && !isStar y && !isStar y2
    | _ => false
  | .fmt a, ee => match ee with
    | .FormattedValue x (-1) none _ => chk N sc a x
    | _ => false
  | .joined xs, ee => match ee with
    | .JoinedStr es _ => chks N sc xs es && decide (2 ≤ es.length)
    | _ => false
  | .idxof a b, ee => match ee with
    | .Call (.Attribute o m ap) [y] [] cp => decide (m = "index") && chk N sc a o && chk N sc b y && !isStar y && !isCall0 o && (ap.endLine == cp.line)
    | _ => false
def chks (N : List Str) (sc : Scope) : Es → List Expr → Bool
  | .nil, ee => match ee with
    | [] => true
    | _ => false
  | .cons e es, ee => match ee with
    | x :: xs => chk N sc e x && !isStar x && chks N sc es xs
    | _ => false
def chko (N : List Str) (sc : Scope) : Eo → Option Expr → Bool
  | .no, ee => match ee with
    | none => true
    | _ => false
  | .yes e, ee => match ee with
    | some x => chk N sc e x
    | _ => false
def chkc (N : List Str) (sc : Scope) : Eo → List Expr → Bool
  | .no, ee => match ee with
    | [] => true
    | _ => false
  | .yes e, ee => match ee with
    | [x] => chk N sc e x
    | _ => false
def chkI (N : List Str) (sc : Scope) : It → Expr → Bool
  | .seq e, x => chk N sc e x
  | .rng a, ee => match ee with
    | .Call (.Name x _) [y] [] _ => decide (x = "range") && glB sc x && chk N sc a y && !isStar y
    | _ => false
  | .rng2 a b, ee => match ee with
    | .Call (.Name x _) [y, z] [] _ => decide (x = "range") && glB sc x && chk N sc a y && chk N sc b z && !isStar y && !isStar z
    | _ => false
  | .rev e, ee => match ee with
    | .Call (.Name x _) [y] [] _ => decide (x = "reversed") && glB sc x && chk N sc e y && !isStar y
    | _ => false
end
end Pu
/-! PuG: the rules of single expressions. -/
namespace Pu
open PySem PySem.Spec PyProof.Rows L2

/-- a value that may be called with n plain arguments and is worth F -/
def CallOk (P : Program) (w : World) (K : Frg) (mg : Str → Option Value) (base : Heap) (Cl : ClT) (lv : Nat) (u : Value) (n : Nat) (F : List D → Res D) : Prop :=
  ∀ (X : Cx) (W : WX), X.prog = P → X.w = w → X.K = K → X.mg = mg → X.base = base → Room lv X.A → Takes X W →
    ∀ (pins : List (Addr × Obj)) (s : Shared) (σ : L2.St) (G H : Hp) (ds : List D) (vs : List V) (us : List Value) (Q : VK), Inv X pins σ H s → Vals vs us → Same G H → Reps K Cl G ds vs → ds.length = n → PostE K Cl W G H σ (F ds) Q →
      wpAny (model P w) X.A (call u us) (EP X pins σ Q) X.xe s
def CallKOk (P : Program) (w : World) (K : Frg) (mg : Str → Option Value) (base : Heap) (Cl : ClT) (lv : Nat) (u : Value) (n : Nat) (ks : List Str) (F : List D → Res D) : Prop :=
  ∀ (X : Cx) (W : WX), X.prog = P → X.w = w → X.K = K → X.mg = mg → X.base = base → Room lv X.A → Takes X W →
    ∀ (pins : List (Addr × Obj)) (s : Shared) (σ : L2.St) (G H : Hp) (ds es : List D) (vs zs : List V) (us ws : List Value) (Q : VK), Inv X pins σ H s → Vals vs us → Vals zs ws → Same G H → Reps K Cl G ds vs → Reps K Cl G es zs → ds.length = n → es.length = ks.length →
      PostE K Cl W G H σ (F (ds ++ es)) Q → wpAny (model P w) X.A (call u us (ks.zip ws)) (EP X pins σ Q) X.xe s
/-- a def's promise -/
def spP (K : Frg) (Cl : ClT) (n : Nat) (F : List D → Res D) : Sp := fun vs H Q E => vs.length = n ∧ ∃ G ds, Same G H ∧ Reps K Cl G ds vs ∧ PostE K Cl (fun cls d _ H' => E cls d H') G H [] (F ds) Q
/-- a method at f, with room below a built-in -/
def MetOk (P : Program) (w : World) (K : Frg) (mg : Str → Option Value) (base : Heap) (Cl : ClT) (lv : Nat) (C : Addr) (m : Str) (n : Nat) (F : List D → Res D) : Prop :=
  ∃ f fd ps lm, Cls K C ∧ Meth K C m f ∧ lm + 1 ≤ lv ∧ FnOk P w K mg base (L2.CX P w) lm f fd ps (spP K Cl ps.length F) ∧ Binds K fd ps [] ∧ ps.length = n + 1
structure Facts (T : Tab) (P : Program) (w : World) (K : Frg) (mg : Str → Option Value) (base : Heap) (Cl : ClT) (lv : Nat) : Prop where
  bi : ∀ b : BI, mg b.name = none
  rng : mg "range" = none
  rev : mg "reversed" = none
  isi : mg "isinstance" = none
  fn : ∀ x n F, T.fn x n = some F → ∃ u, mg x = some u ∧ PySem.W.keepIn K u = true ∧ CallOk P w K mg base Cl lv u n F
  fk : ∀ x n ks F, T.fk x n ks = some F → ∃ u, mg x = some u ∧ PySem.W.keepIn K u = true ∧ CallKOk P w K mg base Cl lv u n ks F
  gl : ∀ x d, T.gl x = some d → ∃ u v, mg x = some u ∧ RelV v u ∧ ∀ H : Hp, Rep K Cl H d v
  fd : ∀ c f C, T.fd c f = true → Cl c = some C → Cls K C ∧ NoAttr K C f
  mt : ∀ c m n F C, T.mt c m n = some F → Cl c = some C → MetOk P w K mg base Cl lv C m n F
  gc : T.gc = true → mg "gcd" = some (.builtin "math.gcd")
structure XOk (X : Cx) (N : List Str) (sc : Scope) (T : Tab) (Cl : ClT) (lv : Nat) : Prop where
  names : X.N = N
  scope : X.env.scope = sc
  calm : X.calm = true
  nd : X.N.Nodup
  room : Room lv X.A
  facts : Facts T X.prog X.w X.K X.mg X.base Cl lv

structure OkE (X : Cx) (Cl : ClT) (W : WX) (T : Tab) (ir : E) (e : Expr) : Prop where
  v : PE X e (tE X.K Cl W (ev T ir .val))
  b : PE X e (tB X.K Cl W (ev T ir .bor))
  t : PT X e (tT X.K Cl W (ev T ir .tst))

section
variable {X : Cx} {Cl : ClT} {W : WX} {T : Tab} {N : List Str} {sc : Scope} {lv : Nat} {a b c e : Expr} {es : List Expr} {f g h : Ro → Res D} {pos : Pos}
theorem OkE.of {ir : E} (h : PE X e (tE X.K Cl W f)) (he : ∀ whole, isTrue e X.env whole = (do let v ← whole; standAt e.pos; holding [v] (truthy v)))
    (ev1 : ev T ir .val = f) (ev2 : ev T ir .bor = f) (ev3 : ev T ir .tst = un f truD) : OkE X Cl W T ir e :=
  ⟨by rw [ev1]; exact h, by rw [ev2]; exact toBor h, by rw [ev3]; exact rT_truth (toBor h) he⟩
def rD (K : Frg) (Cl : ClT) (F : D → D → Option D) : R2 := fun v w H Q => ∃ x y d G, Same G H ∧ RepB K Cl G H x v ∧ RepB K Cl G H y w ∧ F x y = some d ∧ ∀ u G' H', Ext G H G' H' → Rep K Cl G' d u → Q u H'
theorem opr_of {k : Value → Value → Sem Value} {F : D → D → Option D} (h : OpD X Cl k F) : OpR X k (rD X.K Cl F) := by
  intro pins s σ H x y v u Q I rx ry ⟨x', y', d, G, sm, r1, r2, hd, hq⟩
  exact h pins s σ G H x' y' d x y v u Q I rx ry sm r1 r2 hd hq
def rC (K : Frg) (Cl : ClT) (F : List D → Option D) : List V → Hp → VK → Prop := fun vs H Q => ∃ ds d G, Same G H ∧ RepBs K Cl G H ds vs ∧ F ds = some d ∧ ∀ u G' H', Ext G H G' H' → Rep K Cl G' d u → Q u H'
theorem cr_of {k : Value} {F : List D → Option D} (h : CallD X Cl k F) : CallR X k (rC X.K Cl F) := by
  intro pins s σ H xs us Q I r ⟨ds, d, G, sm, r1, hd, hq⟩
  exact h pins s σ G H ds d xs us Q I r sm r1 hd hq

theorem vis_of {x : Str} (h : visB sc x = true) : Vis sc x := by
  unfold visB at h
  split at h
  · exact .inl ‹_›
  · exact .inr (.inl ‹_›)
  · exact .inr (.inr ‹_›)
  · cases h
theorem loc_of {x : Str} (h : locB sc x = true) : Loc sc x := by
  unfold locB at h
  split at h
  · exact .inl ‹_›
  · exact .inr ‹_›
  · cases h
theorem gl_of (ok : XOk X N sc T Cl lv) {x : Str} (h : glB sc x = true) : Gl X x := by
  unfold glB at h
  split at h
  · show X.env.scope.names.lookup x = some .globalImplicit
    rw [ok.scope]
    assumption
  · cases h
theorem vis_of' (ok : XOk X N sc T Cl lv) {x : Str} (h : visB sc x = true) : Vis X.env.scope x := by
  rw [ok.scope]
  exact vis_of h

theorem ne_dbg {x : Str} (h : x ≠ "__debug__") : (x == ("__debug__" : Str)) = false := beq_eq_false_iff_ne.mpr h
/-! names and constants -/
theorem r_var (ok : XOk X N sc T Cl lv) {i : Nat} {x : Str} (hN : N[i]? = some x) (hv : visB sc x = true) (h1 : x ≠ "__debug__") (h2 : x ≠ "__classdict__") : OkE X Cl W T (.var i) (.Name x pos) := by
  have base : PE X (.Name x pos) (tVar i) := pe_var (by rw [ok.names]; exact hN) (vis_of' ok hv) (ne_dbg h1) (beq_eq_false_iff_ne.mpr h2)
  have hb : PE X (.Name x pos) (tB X.K Cl W (fun ρ => getB ρ i)) := PE.imp base fun σ H Q ⟨G0, H0, G, ρ, sim, q⟩ => by
    unfold getB at q
    dsimp only at q
    split at q
    · rename_i d hd
      obtain ⟨v, e1, r⟩ := sim.val i d hd
      exact ⟨v, e1, q v G H (Ext.refl sim.low) (.inl r)⟩
    · rename_i ds hd
      obtain ⟨p, xs, e1, _, _, e4, r⟩ := sim.own i ds hd
      exact ⟨.ref p, e1, q (.ref p) G H (Ext.refl sim.low) (.inr (.inl ⟨ds, p, xs, rfl, rfl, e4, r⟩))⟩
    · rename_i c ns ds hd
      obtain ⟨p, C, dx, xs, e1, hC, _, _, e4, hl, r⟩ := sim.obj i c ns ds hd
      exact ⟨.ref p, e1, q (.ref p) G H (Ext.refl sim.low) (.inr (.inr ⟨c, ns, ds, p, C, dx, xs, rfl, rfl, hC, e4, hl, r⟩))⟩
    · exact q.elim
  refine ⟨PE.imp base fun σ H Q ⟨G0, H0, G, ρ, sim, q⟩ => ?_, by simp only [ev]; exact hb, by simp only [ev]; exact rT_truth hb fun _ => rfl⟩
  simp only [ev] at q
  unfold getV at q
  split at q
  · rename_i d hd
    obtain ⟨v, e1, r⟩ := sim.val i d hd
    exact ⟨v, e1, q v G H (Ext.refl sim.low) r⟩
  · exact q.elim
theorem r_const {d : D} {v : V} {ir : E} (h : PE X e (tC v)) (hr : ∀ H : Hp, Rep X.K Cl H d v) (he : ∀ whole, isTrue e X.env whole = (do let v ← whole; standAt e.pos; holding [v] (truthy v)))
    (e0 : ∀ m ρ, ev T ir m ρ = fin m (.ok d)) : OkE X Cl W T ir e := by
  have hv : PE X e (tE X.K Cl W fun _ => .ok d) := PE.imp h fun σ H Q ⟨G0, H0, G, ρ, sim, q⟩ => q v G H (Ext.refl sim.low) (hr G)
  exact OkE.of hv he (funext fun ρ => e0 .val ρ) (funext fun ρ => e0 .bor ρ) (funext fun ρ => e0 .tst ρ)
theorem r_glob (ok : XOk X N sc T Cl lv) {x : Str} (hg : glB sc x = true) (h1 : x ≠ "__debug__") : OkE X Cl W T (.glob x) (.Name x pos) := by
  cases hx : T.gl x with
  | none =>
    have hv : PE X (.Name x pos) (tE X.K Cl W fun _ => .stuck) := ⟨fun _ _ _ _ _ _ ⟨_, _, _, _, _, q⟩ => q.elim⟩
    exact OkE.of hv (fun _ => rfl) (funext fun ρ => by simp only [ev, hx]; rfl) (funext fun ρ => by simp only [ev, hx]; rfl) (funext fun ρ => by simp only [ev, hx]; rfl)
  | some d =>
    obtain ⟨u, v, hm, r, hr⟩ := ok.facts.gl x d hx
    exact r_const (pe_glob (gl_of ok hg) hm r (ne_dbg h1)) hr (fun _ => rfl) fun m ρ => by simp only [ev, hx]; rfl

/-! operators -/
theorem r_bin {o : Operator} {x y : E} (ha : OkE X Cl W T x a) (hb : OkE X Cl W T y b) : OkE X Cl W T (.bin o x y) (.BinOp a o b pos) :=
  OkE.of (rE_bin (opd_bin o) ha.b hb.b) (fun _ => rfl) (funext fun ρ => by simp only [ev]; rfl) (funext fun ρ => by simp only [ev]; rfl) (funext fun ρ => by simp only [ev]; rfl)
theorem r_neg {x : E} (ha : OkE X Cl W T x a) : OkE X Cl W T (.neg x) (.UnaryOp .USub a pos) :=
  OkE.of (rE_un und_neg ha.b) (fun _ => rfl) (funext fun ρ => by simp only [ev]; rfl) (funext fun ρ => by simp only [ev]; rfl) (funext fun ρ => by simp only [ev]; rfl)
theorem XOk.hu (ok : XOk X N sc T Cl lv) : X.A.units + 65 < cLine := by
  have := ok.room.un
  omega
theorem r_cmp (ok : XOk X N sc T Cl lv) {o : CmpOp} {x y : E} (ha : OkE X Cl W T x a) (hb : OkE X Cl W T y b) (hm : behindInMarks o b = false) : OkE X Cl W T (.cmp o x y) (.Compare a [o] [b] pos) := by
  have e0 : ∀ m, ev T (.cmp o x y) m = bin (ev T x .bor) (ev T y .bor) (cmpD o) := fun m => funext fun ρ => by cases m <;> simp only [ev]
  refine ⟨?_, ?_, ?_⟩
  · rw [e0]; exact rE_cmp (opd_cmp ok.hu o) ha.b hb.b hm
  · rw [e0]; exact toBor (rE_cmp (opd_cmp ok.hu o) ha.b hb.b hm)
  · rw [e0]; exact rT_cmp (cmp_onlyB o) (opd_cmp ok.hu o) ha.b hb.b hm
/-- a op b op c -/
theorem chain_red {o o2 : CmpOp} {σ : L2.St} {H : Hp} {Q : VK} (hh : tE X.K Cl W (fun ρ => (f ρ).bind fun x => (g ρ).bind fun y => (Res.ofO (cmpD o x y)).bind fun d => condR d ((h ρ).bind fun z => Res.ofO (cmpD o2 y z)) (.ok (.bl false))) σ H Q) :
    tChain (rD X.K Cl (cmpD o)) (rD X.K Cl (cmpD o2)) (tB X.K Cl W f) (tB X.K Cl W g) (tB X.K Cl W h) σ H Q := by
  obtain ⟨G0, H0, G, ρ, sim, hh⟩ := hh
  refine ⟨G0, H0, G, ρ, sim, ?_⟩
  have h1 := PostB.seqE (r := f ρ) hh
  cases e1 : f ρ with
  | exc c ns ds => rw [e1] at h1; exact h1
  | stuck => rw [e1] at h1; exact h1
  | ok x0 =>
    rw [e1] at h1
    intro v G1 H1 k1 r1
    obtain ⟨x, G1', ex, k1', r1', h2⟩ := h1 v G1 H1 k1 r1
    cases ex
    refine ⟨G0, H0, G1', ρ, sim.grow k1', ?_⟩
    have h3 := PostB.seqE (r := g ρ) h2
    cases e2 : g ρ with
    | exc c ns ds => rw [e2] at h3; exact h3
    | stuck => rw [e2] at h3; exact h3
    | ok y0 =>
      rw [e2] at h3
      intro w' G2 H2 k2 r2
      obtain ⟨y, G2', ey, k2', r2', h4⟩ := h3 w' G2 H2 k2 r2
      cases ey
      cases ec : cmpD o x0 y0 with
      | none => rw [ec] at h4; exact h4.elim
      | some d =>
        rw [ec] at h4
        obtain ⟨k, rfl⟩ := cmp_onlyB o x0 y0 d ec
        refine ⟨x0, y0, .bl k, G2', k2'.low, r1'.grow k2', r2', ec, fun u G3 H3 k3 r3 => ?_⟩
        simp only [Rep] at r3
        subst r3
        refine ⟨k, rfl, ?_⟩
        cases k with
        | false =>
          rw [if_neg Bool.false_ne_true]
          exact h4 _ G3 H3 k3 (by simp only [Rep])
        | true =>
          rw [if_pos rfl]
          refine ⟨G0, H0, G3, ρ, ((sim.grow k1').grow k2').grow k3, ?_⟩
          have h5 : PostE X.K Cl W G3 H3 σ ((h ρ).bind fun z => Res.ofO (cmpD o2 y0 z)) Q := PostE.grow k3 h4
          have h6 := PostB.seqE (r := h ρ) h5
          cases e3 : h ρ with
          | exc c ns ds => rw [e3] at h6; exact h6
          | stuck => rw [e3] at h6; exact h6
          | ok z0 =>
            rw [e3] at h6
            intro u G4 H4 k4 r4
            obtain ⟨z, G4', ez, k4', r4', h7⟩ := h6 u G4 H4 k4 r4
            cases ez
            obtain ⟨d, hd, hq⟩ := PostE.ofO h7
            exact ⟨y0, z0, d, G4', k4'.low, (r2'.grow k3).grow k4', r4', hd, hq⟩
/-- an answer that is a truth value, as a test -/
theorem toTest {f : Ro → Res D} (hb : ∀ ρ d, f ρ = .ok d → ∃ k, d = .bl k) {σ : L2.St} {H : Hp} {Q : Bool → Hp → Prop} (h : tT X.K Cl W f σ H Q) : tE X.K Cl W f σ H fun v H1 => ∃ k, v = .bl k ∧ Q k H1 := by
  obtain ⟨G0, H0, G, ρ, sim, h⟩ := h
  refine ⟨G0, H0, G, ρ, sim, ?_⟩
  cases e : f ρ with
  | exc c ns ds => rw [e] at h; exact h
  | stuck => rw [e] at h; exact h
  | ok d =>
    obtain ⟨k, rfl⟩ := hb ρ d e
    rw [e] at h
    intro v G1 H1 k1 r1
    simp only [Rep] at r1
    exact ⟨k, r1, h G1 H1 k1⟩
theorem r_cmp2 (ok : XOk X N sc T Cl lv) {o o2 : CmpOp} {x y z : E} (ha : OkE X Cl W T x a) (hb : OkE X Cl W T y b) (hc : OkE X Cl W T z c) (hm : lastMarks [o, o2] [b, c] = false) : OkE X Cl W T (.cmp2 o o2 x y z) (.Compare a [o, o2] [b, c] pos) := by
  have e0 : ∀ m, ev T (.cmp2 o o2 x y z) m = fun ρ => (ev T x .bor ρ).bind fun x => (ev T y .bor ρ).bind fun y => (Res.ofO (cmpD o x y)).bind fun d => condR d ((ev T z .bor ρ).bind fun z => Res.ofO (cmpD o2 y z)) (.ok (.bl false)) := fun m => funext fun ρ => by cases m <;> simp only [ev]
  have hv : PE X (.Compare a [o, o2] [b, c] pos) (tE X.K Cl W (fun ρ => (ev T x .bor ρ).bind fun x => (ev T y .bor ρ).bind fun y => (Res.ofO (cmpD o x y)).bind fun d => condR d ((ev T z .bor ρ).bind fun z => Res.ofO (cmpD o2 y z)) (.ok (.bl false)))) :=
    PE.imp (pe_chain (opr_of (opd_cmp ok.hu o)) (opr_of (opd_cmp ok.hu o2)) ha.b hb.b hc.b hm) fun σ H Q hh => chain_red hh
  refine ⟨by rw [e0]; exact hv, by rw [e0]; exact toBor hv, ?_⟩
  rw [e0]
  refine PT.imp (pt_chain (opr_of (Cl := Cl) (opd_cmp ok.hu o)) (opr_of (Cl := Cl) (opd_cmp ok.hu o2)) ha.b hb.b hc.b hm) fun σ H Q hh => ?_
  refine chain_red (toTest (fun ρ d e => ?_) hh)
  cases e1 : ev T x .bor ρ with
  | exc c ns ds => rw [e1] at e; cases e
  | stuck => rw [e1] at e; cases e
  | ok x0 =>
    cases e2 : ev T y .bor ρ with
    | exc c ns ds => simp only [Res.bind, e1, e2] at e; cases e
    | stuck => simp only [Res.bind, e1, e2] at e; cases e
    | ok y0 =>
      simp only [Res.bind, e1, e2] at e
      cases ec : cmpD o x0 y0 with
      | none => rw [ec] at e; cases e
      | some d' =>
        obtain ⟨k, rfl⟩ := cmp_onlyB o x0 y0 d' ec
        rw [ec] at e
        cases k with
        | false => cases e; exact ⟨_, rfl⟩
        | true =>
          simp only [Res.ofO, condR] at e
          cases e3 : ev T z .bor ρ with
          | exc c ns ds => rw [e3] at e; cases e
          | stuck => rw [e3] at e; cases e
          | ok z0 =>
            rw [e3] at e
            replace e : Res.ofO (cmpD o2 y0 z0) = .ok d := e
            cases e4 : cmpD o2 y0 z0 with
            | none => rw [e4] at e; cases e
            | some d'' => rw [e4] at e; cases e; exact cmp_onlyB o2 y0 z0 _ e4

/-! not, and, or, if -/
theorem notR_bl {d : D} (h : ∀ b, d ≠ .bl b) : notR d = .stuck := by cases d <;> first | rfl | exact absurd rfl (h _)
theorem condR_bl {d : D} {r q : Res D} (h : ∀ b, d ≠ .bl b) : condR d r q = .stuck := by cases d <;> first | rfl | exact absurd rfl (h _)
theorem r_not {x : E} (ha : OkE X Cl W T x a) : OkE X Cl W T (.not_ x) (.UnaryOp .Not a pos) := by
  have hv : PE X (.UnaryOp .Not a pos) (tE X.K Cl W fun ρ => (ev T x .val ρ).bind notR) := PE.imp (pe_not ha.v) fun σ H Q ⟨G0, H0, G, ρ, sim, q⟩ => by
    refine ⟨G0, H0, G, ρ, sim, ?_⟩
    have h1 := PostE.seqE (r := ev T x .val ρ) q
    cases e : ev T x .val ρ with
    | exc c ns ds => rw [e] at h1; exact h1
    | stuck => rw [e] at h1; exact h1
    | ok d =>
      rw [e] at h1
      intro v G1 H1 k1 r1
      obtain ⟨d', G1', ed, k1', r1', h2⟩ := h1 v G1 H1 k1 r1
      cases ed
      cases d with
      | bl k =>
        simp only [Rep] at r1'
        exact ⟨k, r1', h2 _ G1' H1 (Ext.refl k1'.low) (by simp only [Rep])⟩
      | _ => exact h2.elim
  refine ⟨by simp only [ev]; exact hv, by simp only [ev]; exact toBor hv, ?_⟩
  simp only [ev]
  refine PT.imp (pt_not ha.t) fun σ H Q ⟨G0, H0, G, ρ, sim, q⟩ => ?_
  refine ⟨G0, H0, G, ρ, sim, ?_⟩
  have h1 := PostT.seqT (r := ev T x .tst ρ) (fun d hd G H q => by rw [notR_bl hd] at q; exact q) q
  cases e : ev T x .tst ρ with
  | exc c ns ds => rw [e] at h1; exact h1
  | stuck => rw [e] at h1; exact h1
  | ok d =>
    rw [e] at h1
    cases d with
    | bl k =>
      intro G1 H1 k1
      obtain ⟨G1', _, k1', h2⟩ := h1 G1 H1 k1
      exact h2 G1' H1 (Ext.refl k1'.low)
    | _ => exact h1
theorem condE {r q : Res D} {G H : Hp} {σ : L2.St} {Q : VK} : ∀ d, (∀ b, d ≠ .bl b) → ¬ PostE X.K Cl W G H σ (condR d r q) Q := fun d hd h => by rw [condR_bl hd] at h; exact h
theorem condT {r q : Res D} {G H : Hp} {σ : L2.St} {Q : Bool → Hp → Prop} : ∀ d, (∀ b, d ≠ .bl b) → ¬ PostT X.K Cl W G H σ (condR d r q) Q := fun d hd h => by rw [condR_bl hd] at h; exact h
theorem r_ife {x y z : E} (hc : OkE X Cl W T x c) (ha : OkE X Cl W T y a) (hb : OkE X Cl W T z b) : OkE X Cl W T (.ife x y z) (.IfExp c a b pos) := by
  have hv : PE X (.IfExp c a b pos) (tE X.K Cl W fun ρ => (ev T x .tst ρ).bind fun d => condR d (ev T y .val ρ) (ev T z .val ρ)) := PE.imp (pe_ifExp hc.t ha.v hb.v) fun σ H Q ⟨G0, H0, G, ρ, sim, q⟩ => by
    refine ⟨G0, H0, G, ρ, sim, ?_⟩
    have h1 := PostT.seqE (r := ev T x .tst ρ) (fun d hd G H q => condE d hd q) q
    cases e : ev T x .tst ρ with
    | exc c ns ds => rw [e] at h1; exact h1
    | stuck => rw [e] at h1; exact h1
    | ok d =>
      rw [e] at h1
      cases d with
      | bl k =>
        intro G1 H1 k1
        obtain ⟨G1', _, k1', h2⟩ := h1 G1 H1 k1
        cases k with
        | true => rw [if_pos rfl]; exact ⟨G0, H0, G1', ρ, sim.grow k1', h2⟩
        | false => rw [if_neg Bool.false_ne_true]; exact ⟨G0, H0, G1', ρ, sim.grow k1', h2⟩
      | _ => exact h1
  refine ⟨by simp only [ev]; exact hv, by simp only [ev]; exact toBor hv, ?_⟩
  simp only [ev]
  exact ⟨fun _ _ _ _ _ _ ⟨_, _, _, _, _, q⟩ => q.elim⟩
/-- and, or: a row of expressions -/
structure OkRow (X : Cx) (Cl : ClT) (W : WX) (T : Tab) (xs : Es) (es : List Expr) : Prop where
  andT : ∀ pos, PW X (.BoolOp .And es pos) (tT X.K Cl W (evAnd T xs .tst))
  andV : ∀ pos, PE X (.BoolOp .And es pos) (tE X.K Cl W (evAnd T xs .val))
  orT : ∀ pos, PW X (.BoolOp .Or es pos) (tT X.K Cl W (evOr T xs .tst))
  orV : ∀ pos, PE X (.BoolOp .Or es pos) (tE X.K Cl W (evOr T xs .val))
theorem bind_id {α : Type} (r : Res α) : (r.bind fun d => .ok d) = r := by cases r <;> rfl
theorem row_one {x : E} (ha : OkE X Cl W T x a) : OkRow X Cl W T (.cons x .nil) [a] := by
  have e1 : ∀ m, evAnd T (.cons x .nil) m = ev T x m := fun m => funext fun ρ => by simp only [evAnd, Es.isNil, if_true, bind_id]
  have e2 : ∀ m, evOr T (.cons x .nil) m = ev T x m := fun m => funext fun ρ => by simp only [evOr, Es.isNil, if_true, bind_id]
  exact ⟨fun pos => by rw [e1]; exact pw_and1 ha.t, fun pos => by rw [e1]; exact pe_one ha.v, fun pos => by rw [e2]; exact pw_or1 ha.t, fun pos => by rw [e2]; exact pe_one ha.v⟩
theorem row_cons {x y : E} {ys : Es} {rest : List Expr} (ha : OkE X Cl W T x a) (hr : OkRow X Cl W T (.cons y ys) (b :: rest)) : OkRow X Cl W T (.cons x (.cons y ys)) (a :: b :: rest) := by
  have e1 : ∀ m, evAnd T (.cons x (.cons y ys)) m = fun ρ => (ev T x m ρ).bind fun d => condR d (evAnd T (.cons y ys) m ρ) (.ok (.bl false)) := fun m => funext fun ρ => by rw [evAnd]; rfl
  have e2 : ∀ m, evOr T (.cons x (.cons y ys)) m = fun ρ => (ev T x m ρ).bind fun d => condR d (.ok (.bl true)) (evOr T (.cons y ys) m ρ) := fun m => funext fun ρ => by rw [evOr]; rfl
  refine ⟨fun pos => ?_, fun pos => ?_, fun pos => ?_, fun pos => ?_⟩
  · rw [e1]
    refine ⟨fun wh pins s σ H Q I hq => (pw_and ha.t (hr.andT pos)).run wh pins s σ H Q I ?_⟩
    obtain ⟨G0, H0, G, ρ, sim, q⟩ := hq
    refine ⟨G0, H0, G, ρ, sim, ?_⟩
    have h1 := PostT.seqT (r := ev T x .tst ρ) (fun d hd G H q => condT d hd q) q
    cases e : ev T x .tst ρ with
    | exc c ns ds => rw [e] at h1; exact h1
    | stuck => rw [e] at h1; exact h1
    | ok d =>
      rw [e] at h1
      cases d with
      | bl k =>
        intro G1 H1 k1
        obtain ⟨G1', _, k1', h2⟩ := h1 G1 H1 k1
        cases k with
        | true => rw [if_pos rfl]; exact ⟨G0, H0, G1', ρ, sim.grow k1', h2⟩
        | false => rw [if_neg Bool.false_ne_true]; exact h2 G1' H1 (Ext.refl k1'.low)
      | _ => exact h1
  · rw [e1]
    refine PE.imp (pe_and ha.v (hr.andV pos)) fun σ H Q ⟨G0, H0, G, ρ, sim, q⟩ => ?_
    refine ⟨G0, H0, G, ρ, sim, ?_⟩
    have h1 := PostE.seqE (r := ev T x .val ρ) q
    cases e : ev T x .val ρ with
    | exc c ns ds => rw [e] at h1; exact h1
    | stuck => rw [e] at h1; exact h1
    | ok d =>
      rw [e] at h1
      intro v G1 H1 k1 r1
      obtain ⟨d', G1', ed, k1', r1', h2⟩ := h1 v G1 H1 k1 r1
      cases ed
      cases d with
      | bl k =>
        simp only [Rep] at r1'
        refine ⟨k, r1', ?_⟩
        cases k with
        | true => rw [if_pos rfl]; exact ⟨G0, H0, G1', ρ, sim.grow k1', h2⟩
        | false => rw [if_neg Bool.false_ne_true]; exact h2 _ G1' H1 (Ext.refl k1'.low) (by simp only [Rep])
      | _ => exact h2.elim
  · rw [e2]
    refine ⟨fun wh pins s σ H Q I hq => (pw_or ha.t (hr.orT pos)).run wh pins s σ H Q I ?_⟩
    obtain ⟨G0, H0, G, ρ, sim, q⟩ := hq
    refine ⟨G0, H0, G, ρ, sim, ?_⟩
    have h1 := PostT.seqT (r := ev T x .tst ρ) (fun d hd G H q => condT d hd q) q
    cases e : ev T x .tst ρ with
    | exc c ns ds => rw [e] at h1; exact h1
    | stuck => rw [e] at h1; exact h1
    | ok d =>
      rw [e] at h1
      cases d with
      | bl k =>
        intro G1 H1 k1
        obtain ⟨G1', _, k1', h2⟩ := h1 G1 H1 k1
        cases k with
        | true => rw [if_pos rfl]; exact h2 G1' H1 (Ext.refl k1'.low)
        | false => rw [if_neg Bool.false_ne_true]; exact ⟨G0, H0, G1', ρ, sim.grow k1', h2⟩
      | _ => exact h1
  · rw [e2]
    refine PE.imp (pe_or ha.v (hr.orV pos)) fun σ H Q ⟨G0, H0, G, ρ, sim, q⟩ => ?_
    refine ⟨G0, H0, G, ρ, sim, ?_⟩
    have h1 := PostE.seqE (r := ev T x .val ρ) q
    cases e : ev T x .val ρ with
    | exc c ns ds => rw [e] at h1; exact h1
    | stuck => rw [e] at h1; exact h1
    | ok d =>
      rw [e] at h1
      intro v G1 H1 k1 r1
      obtain ⟨d', G1', ed, k1', r1', h2⟩ := h1 v G1 H1 k1 r1
      cases ed
      cases d with
      | bl k =>
        simp only [Rep] at r1'
        refine ⟨k, r1', ?_⟩
        cases k with
        | true => rw [if_pos rfl]; exact h2 _ G1' H1 (Ext.refl k1'.low) (by simp only [Rep])
        | false => rw [if_neg Bool.false_ne_true]; exact ⟨G0, H0, G1', ρ, sim.grow k1', h2⟩
      | _ => exact h2.elim
theorem r_ands {xs : Es} (h : OkRow X Cl W T xs es) : OkE X Cl W T (.ands xs) (.BoolOp .And es pos) :=
  ⟨by simp only [ev]; exact h.andV pos, by simp only [ev]; exact toBor (h.andV pos), by simp only [ev]; exact (h.andT pos).pt⟩
theorem r_ors {xs : Es} (h : OkRow X Cl W T xs es) : OkE X Cl W T (.ors xs) (.BoolOp .Or es pos) :=
  ⟨by simp only [ev]; exact h.orV pos, by simp only [ev]; exact toBor (h.orV pos), by simp only [ev]; exact (h.orT pos).pt⟩
end
end Pu
/-! PuH: the rules of calls, displays, comprehensions. -/
namespace Pu
open PySem PySem.Spec PyProof.Rows L2

section
variable {X : Cx} {Cl : ClT} {W : WX} {T : Tab} {N : List Str} {sc : Scope} {lv : Nat} {a b c e : Expr} {es : List Expr} {f g h : Ro → Res D} {pos p : Pos}

/-! ### rows of arguments -/
structure OkArgs (X : Cx) (Cl : ClT) (W : WX) (T : Tab) (xs : Es) (es : List Expr) : Prop where
  v : PA X es (tA X.K Cl W (evs T xs))
  b : PA X es (tAB X.K Cl W (evsB T xs))
  k : ∀ kws : List Keyword, kwVals kws = es → kwAll kws = true → PK X kws (tA X.K Cl W (evs T xs))
  st : (starEach es X.env).any (·.1) = false
theorem star_cons {env : Env} (hs : isStar e = false) : starEach (e :: es) env = (false, eval e env) :: starEach es env := by
  cases e <;> first | rfl | cases hs
theorem args_nil : OkArgs X Cl W T .nil [] := by
  refine ⟨PA.imp pa_nil fun σ H Q ⟨G0, H0, G, ρ, sim, q⟩ => ?_, PA.imp pa_nil fun σ H Q ⟨G0, H0, G, ρ, sim, q⟩ => ?_, fun kws h1 h2 => ?_, rfl⟩
  · simp only [evs] at q
    exact q [] G H (Ext.refl sim.low) Reps.nil
  · simp only [evsB] at q
    exact q [] G H (Ext.refl sim.low) .nil
  · cases kws with
    | cons k ks =>
      obtain ⟨nm, e', kp⟩ := k
      cases h1
    | nil =>
      refine ⟨fun pos pins s σ H Q I ⟨G0, H0, G, ρ, sim, q⟩ => pk_nil.run pos pins s σ H Q I ?_⟩
      simp only [evs] at q
      exact q [] G H (Ext.refl sim.low) Reps.nil
theorem seqA {r : Res D} {r2 : Res (List D)} {G H : Hp} {σ : L2.St} {Q : List V → Hp → Prop} (q : PostA X.K Cl W G H σ (r.bind fun d => r2.bind fun ds => .ok (d :: ds)) Q) :
    PostE X.K Cl W G H σ r (fun v H1 => ∃ d G1, Ext G H G1 H1 ∧ Rep X.K Cl G1 d v ∧ PostA X.K Cl W G1 H1 σ r2 (fun vs H2 => Q (v :: vs) H2)) := by
  cases r with
  | exc c ns ds => exact q
  | stuck => exact q
  | ok d =>
    intro v G1 H1 k1 r1
    refine ⟨d, G1, k1, r1, ?_⟩
    cases r2 with
    | exc c ns ds => exact PostX.grow k1 q
    | stuck => exact q
    | ok ds => exact fun vs G2 H2 k2 r2 => q (v :: vs) G2 H2 (k1.trans k2) (Reps.cons (r1.mono k2.vis) r2)
theorem seqAB {r : Res D} {r2 : Res (List D)} {G H : Hp} {σ : L2.St} {Q : List V → Hp → Prop} (q : PostAB X.K Cl W G H σ (r.bind fun d => r2.bind fun ds => .ok (d :: ds)) Q) :
    PostB X.K Cl W G H σ r (fun v H1 => ∃ d G1, Ext G H G1 H1 ∧ RepB X.K Cl G1 H1 d v ∧ PostAB X.K Cl W G1 H1 σ r2 (fun vs H2 => Q (v :: vs) H2)) := by
  cases r with
  | exc c ns ds => exact q
  | stuck => exact q
  | ok d =>
    intro v G1 H1 k1 r1
    refine ⟨d, G1, k1, r1, ?_⟩
    cases r2 with
    | exc c ns ds => exact PostX.grow k1 q
    | stuck => exact q
    | ok ds => exact fun vs G2 H2 k2 r2 => q (v :: vs) G2 H2 (k1.trans k2) (.cons (r1.grow k2) r2)
theorem headE {r : Res D} {G H : Hp} {σ : L2.St} {Q : V → Hp → Prop} {k : V → Hp → Prop} (h1 : PostE X.K Cl W G H σ r Q) (i : ∀ v G1 H1, Ext G H G1 H1 → Q v H1 → k v H1) : PostE X.K Cl W G H σ r k := by
  cases r with
  | exc c ns ds => exact h1
  | stuck => exact h1
  | ok d => exact fun v G1 H1 k1 r1 => i v G1 H1 k1 (h1 v G1 H1 k1 r1)
theorem headB {r : Res D} {G H : Hp} {σ : L2.St} {Q : V → Hp → Prop} {k : V → Hp → Prop} (h1 : PostB X.K Cl W G H σ r Q) (i : ∀ v G1 H1, Ext G H G1 H1 → Q v H1 → k v H1) : PostB X.K Cl W G H σ r k := by
  cases r with
  | exc c ns ds => exact h1
  | stuck => exact h1
  | ok d => exact fun v G1 H1 k1 r1 => i v G1 H1 k1 (h1 v G1 H1 k1 r1)
theorem args_cons {x : E} {xs : Es} (ha : OkE X Cl W T x e) (hs : isStar e = false) (hr : OkArgs X Cl W T xs es) : OkArgs X Cl W T (.cons x xs) (e :: es) := by
  refine ⟨PA.imp (pa_cons ha.v hr.v (star_cons hs)) fun σ H Q ⟨G0, H0, G, ρ, sim, q⟩ => ?_, PA.imp (pa_cons ha.b hr.b (star_cons hs)) fun σ H Q ⟨G0, H0, G, ρ, sim, q⟩ => ?_, fun kws h1 h2 => ?_, ?_⟩
  · simp only [evs] at q
    refine ⟨G0, H0, G, ρ, sim, headE (seqA q) fun v G1 H1 k1 ⟨d, G1', k1', r1, q1⟩ => ⟨G0, H0, G1', ρ, sim.grow k1', q1⟩⟩
  · simp only [evsB] at q
    refine ⟨G0, H0, G, ρ, sim, headB (seqAB q) fun v G1 H1 k1 ⟨d, G1', k1', r1, q1⟩ => ⟨G0, H0, G1', ρ, sim.grow k1', q1⟩⟩
  · cases kws with
    | nil => cases h1
    | cons k ks =>
      obtain ⟨nm, e', kp⟩ := k
      cases nm with
      | none => cases h2
      | some nm =>
        have h1' : e' :: kwVals ks = e :: es := h1
        obtain ⟨rfl, h3⟩ := List.cons.inj h1'
        refine ⟨fun pos pins s σ H Q I ⟨G0, H0, G, ρ, sim, q⟩ => (pk_cons ha.v (hr.k ks h3 h2)).run pos pins s σ H Q I ?_⟩
        simp only [evs] at q
        exact ⟨G0, H0, G, ρ, sim, headE (seqA q) fun v G1 H1 k1 ⟨d, G1', k1', r1, q1⟩ => ⟨G0, H0, G1', ρ, sim.grow k1', q1⟩⟩
  · rw [star_cons hs, List.any_cons, hr.st]
    rfl
theorem back_any {l : List (Bool × Sem Value)} : (backTo pos l).any (·.1) = l.any (·.1) := by
  unfold backTo
  rw [List.any_map]
  rfl
theorem backKw_all : ∀ {kws : List Keyword} {env : Env}, kwAll kws = true → (backToKw pos (keywordEach kws env)).all (·.1.isSome) = true
  | [], _, _ => rfl
  | ⟨some x, e, _⟩ :: ks, env, h => by
    show (true && (backToKw pos (keywordEach ks env)).all (·.1.isSome)) = true
    rw [backKw_all (kws := ks) h]
    rfl
  | ⟨none, _, _⟩ :: _, _, h => by cases h
theorem backKw_none : ∀ {kws : List Keyword} {env : Env}, kwAll kws = true → (backToKw pos (keywordEach kws env)).any (·.1.isNone) = false
  | [], _, _ => rfl
  | ⟨some x, e, _⟩ :: ks, env, h => by
    show (false || (backToKw pos (keywordEach ks env)).any (·.1.isNone)) = false
    rw [backKw_none (kws := ks) h]
    rfl
  | ⟨none, _, _⟩ :: _, _, h => by cases h
theorem backKw_names : ∀ {kws : List Keyword} {env : Env}, kwAll kws = true → (backToKw pos (keywordEach kws env)).filterMap (·.1) = kwNames kws
  | [], _, _ => rfl
  | ⟨some x, e, _⟩ :: ks, env, h => by
    show x :: (backToKw pos (keywordEach ks env)).filterMap (·.1) = x :: kwNames ks
    rw [backKw_names (kws := ks) h]
  | ⟨none, _, _⟩ :: _, _, h => by cases h
theorem evs_len : ∀ {xs : Es} {ρ : Ro} {ds : List D}, evs T xs ρ = .ok ds → ds.length = xs.len
  | .nil, ρ, ds, h => by
    simp only [evs] at h
    cases h
    rfl
  | .cons x xs, ρ, ds, h => by
    simp only [evs] at h
    cases e1 : ev T x .val ρ with
    | exc c ns ds => rw [e1] at h; cases h
    | stuck => rw [e1] at h; cases h
    | ok d =>
      cases e2 : evs T xs ρ with
      | exc c ns ds => rw [e1, e2] at h; cases h
      | stuck => rw [e1, e2] at h; cases h
      | ok ds' =>
        rw [e1, e2] at h
        cases h
        show ds'.length + 1 = xs.len + 1
        rw [evs_len e2]
theorem chks_len : ∀ {xs : Es} {es : List Expr}, chks N sc xs es = true → xs.len = es.length
  | .nil, [], _ => rfl
  | .nil, _ :: _, h => by simp only [chks] at h; cases h
  | .cons x xs, [], h => by simp only [chks] at h; cases h
  | .cons x xs, e :: es, h => by
    simp only [chks, Bool.and_eq_true] at h
    show xs.len + 1 = es.length + 1
    rw [chks_len h.2]

/-- a borrowed value, then the rest -/
theorem PB.get {r : Ro → Res D} {k : D → Res D} {σ : L2.St} {H : Hp} {Q : VK} {R : V → Hp → Prop} (hh : tE X.K Cl W (fun ρ => (r ρ).bind k) σ H Q)
    (i : ∀ v G1 H1 d, RepB X.K Cl G1 H1 d v → Same G1 H1 → PostE X.K Cl W G1 H1 σ (k d) Q → R v H1) : tB X.K Cl W r σ H R := by
  obtain ⟨G0, H0, G, ρ, sim, q⟩ := hh
  refine ⟨G0, H0, G, ρ, sim, ?_⟩
  exact headB (PostB.seqE (r := r ρ) q) fun v G1 H1 k1 ⟨d, G1', ed, k1', r1, q1⟩ => i v G1' H1 d r1 k1'.low q1

/-! ### calls -/
theorem r_call (ok : XOk X N sc T Cl lv) (tk : Takes X W) {x : Str} {xs : Es} (hg : glB sc x = true) (h1 : x ≠ "__debug__") (ha : OkArgs X Cl W T xs (e :: es)) {zs : Es} (hr : OkArgs X Cl W T zs es) (hs : isStar e = false) :
    OkE X Cl W T (.call x xs) (.Call (.Name x p) (e :: es) [] pos) := by
  have hv : PE X (.Call (.Name x p) (e :: es) [] pos) (tE X.K Cl W fun ρ => apR (T.fn x xs.len) (evs T xs ρ)) := by
    refine ⟨fun pins s σ H Q I ⟨G0, H0, G, ρ, sim, q⟩ => ?_⟩
    cases hf : T.fn x xs.len with
    | none => rw [hf] at q; exact q.elim
    | some F =>
      rw [hf] at q
      replace q : PostE X.K Cl W G H σ ((evs T xs ρ).bind F) Q := q
      obtain ⟨u, hm, hk, hc⟩ := ok.facts.fn x _ F hf
      refine wpAny_Call_Name_kw (ld_glob I (gl_of ok hg) hm ?_ (ne_dbg h1))
      have q2 := PostA.seqE q
      have q3 : tA X.K Cl W (evs T xs) σ H (fun vs H1 => ∃ ds G1, ds.length = xs.len ∧ Ext G H G1 H1 ∧ Reps X.K Cl G1 ds vs ∧ PostE X.K Cl W G1 H1 σ (F ds) Q) := by
        refine ⟨G0, H0, G, ρ, sim, ?_⟩
        cases ee : evs T xs ρ with
        | exc c ns ds => rw [ee] at q2; exact q2
        | stuck => rw [ee] at q2; exact q2
        | ok ds =>
          rw [ee] at q2
          intro vs G1 H1 k1 r1
          obtain ⟨ds', G1', ed, k1', r1', q4⟩ := q2 vs G1 H1 k1 r1
          cases ed
          exact ⟨ds, G1', evs_len ee, k1', r1', q4⟩
      refine PySem.W.callWith_K (h₀ := X.base) I.ok.mod.kin hk (thn (ha.v.run pos pins s σ H _ I q3) fun us s1 ⟨vs, H1, I1, r, ds, G1, hl, k1, r1, q4⟩ => ⟨I1.kIn, ?_⟩) (star_cons hs) (by rw [back_any]; exact hr.st)
      exact hc X W rfl rfl rfl rfl rfl ok.room tk pins s1 σ G1 H1 ds vs us Q I1 r k1.low r1 hl q4
  exact OkE.of hv (fun _ => rfl) (funext fun ρ => by simp only [ev, fin]) (funext fun ρ => by simp only [ev, fin]) (funext fun ρ => by simp only [ev, fin]; rfl)
theorem r_callk (ok : XOk X N sc T Cl lv) (tk : Takes X W) {x : Str} {xs ys ws : Es} {ks : List Str} {kws : List Keyword} (hg : glB sc x = true) (h1 : x ≠ "__debug__") (ha : OkArgs X Cl W T xs (e :: es)) (hr : OkArgs X Cl W T ws es) (hs : isStar e = false)
    (hka : kwAll kws = true) (hkn : kwNames kws = ks) (hk : OkArgs X Cl W T ys (kwVals kws)) (hl2 : ys.len = ks.length) : OkE X Cl W T (.callk x xs ks ys) (.Call (.Name x p) (e :: es) kws pos) := by
  have hv : PE X (.Call (.Name x p) (e :: es) kws pos) (tE X.K Cl W fun ρ => apR (T.fk x xs.len ks) ((evs T xs ρ).bind fun ds => (evs T ys ρ).bind fun es => .ok (ds ++ es))) := by
    refine ⟨fun pins s σ H Q I ⟨G0, H0, G, ρ, sim, q⟩ => ?_⟩
    cases hf : T.fk x xs.len ks with
    | none => rw [hf] at q; exact q.elim
    | some F =>
      rw [hf] at q
      replace q : PostE X.K Cl W G H σ (((evs T xs ρ).bind fun ds => (evs T ys ρ).bind fun es => .ok (ds ++ es)).bind F) Q := q
      obtain ⟨u, hm, hke, hc⟩ := ok.facts.fk x _ ks F hf
      refine wpAny_Call_Name_kw (ld_glob I (gl_of ok hg) hm ?_ (ne_dbg h1))
      have q3 : tA X.K Cl W (evs T xs) σ H (fun vs H1 => tA X.K Cl W (evs T ys) σ H1 (fun zs H2 => ∃ ds es G2, ds.length = xs.len ∧ es.length = ks.length ∧ Same G2 H2 ∧ Reps X.K Cl G2 ds vs ∧ Reps X.K Cl G2 es zs ∧ PostE X.K Cl W G2 H2 σ (F (ds ++ es)) Q)) := by
        refine ⟨G0, H0, G, ρ, sim, ?_⟩
        cases ee : evs T xs ρ with
        | exc c ns ds => rw [ee] at q; exact q
        | stuck => rw [ee] at q; exact q
        | ok ds =>
          rw [ee] at q
          intro vs G1 H1 k1 r1
          refine ⟨G0, H0, G1, ρ, sim.grow k1, ?_⟩
          cases ef : evs T ys ρ with
          | exc c ns ds => rw [ef] at q; exact PostX.grow k1 q
          | stuck => rw [ef] at q; exact q
          | ok es =>
            rw [ef] at q
            intro zs G2 H2 k2 r2
            exact ⟨ds, es, G2, evs_len ee, (evs_len ef).trans hl2, k2.low, r1.mono k2.vis, r2, PostE.grow (k1.trans k2) q⟩
      refine PySem.W.callWith_KW (h₀ := X.base) I.ok.mod.kin hke (backKw_all hka) (thn (ha.v.run pos pins s σ H _ I q3) fun us s1 ⟨vs, H1, I1, r, q4⟩ => ?_) ?_ (star_cons hs)
      · refine thn ((hk.k kws rfl hka).run pos pins s1 σ H1 _ I1 q4) fun wsv s2 ⟨zs, H2, I2, rz, ds, es', G2, l1, l2, sm, r1, r2, q5⟩ => ⟨I2.kIn, ?_⟩
        rw [backKw_names hka, hkn]
        exact hc X W rfl rfl rfl rfl rfl ok.room tk pins s2 σ G2 H2 ds es' vs zs us wsv Q I2 r rz sm r1 r2 l1 l2 q5
      · rw [back_any, star_cons hs, List.any_cons, hr.st, backKw_none hka]
        rfl
  exact OkE.of hv (fun _ => rfl) (funext fun ρ => by simp only [ev, fin]) (funext fun ρ => by simp only [ev, fin]) (funext fun ρ => by simp only [ev, fin]; rfl)
/-- a row, borrowed, then an operation on it -/
theorem rowB {xs : Es} {F : List D → Option D} {σ : L2.St} {H : Hp} {Q : VK} (hh : tE X.K Cl W (fun ρ => (evsB T xs ρ).bind fun ds => Res.ofO (F ds)) σ H Q) : tAB X.K Cl W (evsB T xs) σ H (fun vs H1 => rC X.K Cl F vs H1 Q) := by
  obtain ⟨G0, H0, G, ρ, sim, q⟩ := hh
  refine ⟨G0, H0, G, ρ, sim, ?_⟩
  have q2 := PostAB.seqE (r := evsB T xs ρ) q
  cases ee : evsB T xs ρ with
  | exc c ns ds => rw [ee] at q2; exact q2
  | stuck => rw [ee] at q2; exact q2
  | ok ds =>
    rw [ee] at q2
    intro vs G1 H1 k1 r1
    obtain ⟨ds', G1', ed, k1', r1', q4⟩ := q2 vs G1 H1 k1 r1
    cases ed
    obtain ⟨d, hd, hq⟩ := PostE.ofO q4
    exact ⟨ds, d, G1', k1'.low, r1', hd, hq⟩
theorem r_bi (ok : XOk X N sc T Cl lv) {b : BI} {xs zs : Es} (hg : glB sc b.name = true) (ha : OkArgs X Cl W T xs (e :: es)) (hr : OkArgs X Cl W T zs es) (hs : isStar e = false) : OkE X Cl W T (.bi b xs) (.Call (.Name b.name p) (e :: es) [] pos) := by
  have hpl : (backTo pos (starEach es X.env)).any (·.1) = false := by rw [back_any]; exact hr.st
  have hv : PE X (.Call (.Name b.name p) (e :: es) [] pos) (tCB (rC X.K Cl b.fn) (tAB X.K Cl W (evsB T xs))) := by
    have hc := cr_of (cd_all (X := X) (Cl := Cl) ok.calm b)
    have hm := ok.facts.bi b
    cases b with
    | len => exact pe_callB hc (gl_of ok hg) hm (by decide +kernel) ha.b (by decide) (by decide) (star_cons hs) hpl
    | abs => exact pe_callB hc (gl_of ok hg) hm (by decide +kernel) ha.b (by decide) (by decide) (star_cons hs) hpl
    | max => exact pe_callB hc (gl_of ok hg) hm (by decide +kernel) ha.b (by decide) (by decide) (star_cons hs) hpl
    | min => exact pe_callB hc (gl_of ok hg) hm (by decide +kernel) ha.b (by decide) (by decide) (star_cons hs) hpl
    | sum => exact pe_callB hc (gl_of ok hg) hm (by decide +kernel) ha.b (by decide) (by decide) (star_cons hs) hpl
    | sorted => exact pe_callB hc (gl_of ok hg) hm (by decide +kernel) ha.b (by decide) (by decide) (star_cons hs) hpl
    | int => exact pe_callTy hc (gl_of ok hg) hm (by decide +kernel) ha.b (by decide) (by decide) (star_cons hs) hpl
    | bool => exact pe_callTy hc (gl_of ok hg) hm (by decide +kernel) ha.b (by decide) (by decide) (star_cons hs) hpl
    | str => exact pe_callTy hc (gl_of ok hg) hm (by decide +kernel) ha.b (by decide) (by decide) (star_cons hs) hpl
    | list => exact pe_callTy hc (gl_of ok hg) hm (by decide +kernel) ha.b (by decide) (by decide) (star_cons hs) hpl
    | tuple => exact pe_callTy hc (gl_of ok hg) hm (by decide +kernel) ha.b (by decide) (by decide) (star_cons hs) hpl
  have hv2 : PE X (.Call (.Name b.name p) (e :: es) [] pos) (tE X.K Cl W fun ρ => (evsB T xs ρ).bind fun ds => Res.ofO (b.fn ds)) := PE.imp hv fun σ H Q hh => rowB hh
  exact OkE.of hv2 (fun _ => rfl) (funext fun ρ => by simp only [ev, fin]) (funext fun ρ => by simp only [ev, fin]) (funext fun ρ => by simp only [ev, fin]; rfl)

/-! isinstance -/
theorem ty_bi (t : Ty) : ∃ b : BI, Str.ofString t.name = b.name ∧ bootBuiltins (Str.ofString t.name) = some (.type t.name) := by
  cases t with
  | int => exact ⟨.int, rfl, by decide +kernel⟩
  | bool => exact ⟨.bool, rfl, by decide +kernel⟩
  | str => exact ⟨.str, rfl, by decide +kernel⟩
  | list => exact ⟨.list, rfl, by decide +kernel⟩
  | tuple => exact ⟨.tuple, rfl, by decide +kernel⟩
theorem pe_ty (ok : XOk X N sc T Cl lv) (t : Ty) (hg : glB sc (Str.ofString t.name) = true) : PE X (.Name (Str.ofString t.name) p) (tC (.ty t.name)) := by
  obtain ⟨b, e1, e2⟩ := ty_bi t
  refine pe_bltn (gl_of ok hg) (by rw [e1]; exact ok.facts.bi b) e2 rfl ?_ ?_
  · cases t <;> decide
  · cases t <;> decide
theorem r_isi1 (ok : XOk X N sc T Cl lv) {x : E} {t : Ty} {p2 : Pos} (hi : glB sc "isinstance" = true) (ha : OkE X Cl W T x a) (hs : isStar a = false) (hg : glB sc (Str.ofString t.name) = true) :
    OkE X Cl W T (.isi1 x t) (.Call (.Name "isinstance" p) [a, .Name (Str.ofString t.name) p2] [] pos) := by
  have hv : PE X (.Call (.Name "isinstance" p) [a, .Name (Str.ofString t.name) p2] [] pos) (tE X.K Cl W fun ρ => (ev T x .bor ρ).bind fun d => Res.ofO ((isTy t d).map .bl)) := by
    refine PE.imp (pe_callB call_isi (gl_of ok hi) ok.facts.isi (by decide +kernel) (pa_cons ha.b (pa_cons (pe_ty ok t hg) pa_nil) (star_cons hs)) (by decide) (by decide) (star_cons hs) (by rfl)) fun σ H Q hh => ?_
    refine PB.get hh fun v G1 H1 d r1 sm q => ?_
    obtain ⟨d', hd, hq⟩ := PostE.ofO q
    obtain ⟨b, hb, rfl⟩ := Option.map_eq_some_iff.mp hd
    obtain ⟨n, hn⟩ : ∃ n, tyD d = some n := by cases d <;> first | exact ⟨_, rfl⟩ | cases hb
    exact ⟨v, .ty t.name, .type n, .type t.name, b, rfl, .ty _, ty_rep sm r1 hn, isTy_kit t hn hb, hq _ G1 H1 (Ext.refl sm) (by simp only [Rep])⟩
  exact OkE.of hv (fun _ => rfl) (funext fun ρ => by simp only [ev, fin]) (funext fun ρ => by simp only [ev, fin]) (funext fun ρ => by simp only [ev, fin]; rfl)
end
end Pu
/-! PuI: fields, displays, targets, what is walked, comprehensions. -/
namespace Pu
open PySem PySem.Spec PyProof.Rows L2

section
variable {X : Cx} {Cl : ClT} {W : WX} {T : Tab} {N : List Str} {sc : Scope} {lv : Nat} {a b c e : Expr} {es : List Expr} {f g h : Ro → Res D} {pos p p2 : Pos}

/-! ### isinstance with a tuple of classes -/
theorem pa_tys (ok : XOk X N sc T Cl lv) : ∀ {ts : List Ty} {es : List Expr}, tyNames ts es = true → (ts.all fun t => glB sc (Str.ofString t.name)) = true →
    PA X es (fun σ H Q => Q (ts.map fun t => V.ty t.name) H) ∧ (starEach es X.env).any (·.1) = false
  | [], [], _, _ => ⟨pa_nil, rfl⟩
  | [], _ :: _, h, _ => by simp only [tyNames] at h; cases h
  | t :: ts, [], h, _ => by simp only [tyNames] at h; cases h
  | t :: ts, e :: es, h, h2 => by
    cases e with
    | Name x q =>
      simp only [tyNames, Bool.and_eq_true, decide_eq_true_eq] at h
      simp only [List.all_cons, Bool.and_eq_true] at h2
      obtain ⟨ih, st⟩ := pa_tys ok h.2 h2.2
      obtain ⟨rfl, _⟩ := h
      exact ⟨PA.imp (pa_cons (pe_ty ok t h2.1) ih rfl) fun σ H Q hq => hq, by rw [show starEach (Expr.Name (Str.ofString t.name) q :: es) X.env = (false, eval (.Name (Str.ofString t.name) q) X.env) :: starEach es X.env from rfl, List.any_cons, st]; rfl⟩
    | _ => simp only [tyNames] at h; cases h
theorem paired_cls : ∀ ts : List Ty, Paired ClsV (ts.map fun t => V.ty t.name) (ts.map fun t => Value.type t.name)
  | [] => .nil
  | t :: ts => .cons (.ty _) (paired_cls ts)
theorem tyNames_len : ∀ {ts : List Ty} {es : List Expr}, tyNames ts es = true → ts.length = es.length
  | [], [], _ => rfl
  | [], _ :: _, h => by simp only [tyNames] at h; cases h
  | t :: ts, [], h => by simp only [tyNames] at h; cases h
  | t :: ts, e :: es, h => by
    cases e with
    | Name x q =>
      simp only [tyNames, Bool.and_eq_true] at h
      rw [List.length_cons, List.length_cons, tyNames_len h.2]
    | _ => simp only [tyNames] at h; cases h
theorem r_isi (ok : XOk X N sc T Cl lv) {x : E} {ts : List Ty} {k : Nat} (hi : glB sc "isinstance" = true) (ha : OkE X Cl W T x a) (hs : isStar a = false) (hn : tyNames ts es = true) (hl : es.length ≤ 1000)
    (hg : (ts.all fun t => glB sc (Str.ofString t.name)) = true) : OkE X Cl W T (.isi x ts) (.Call (.Name "isinstance" p) [a, .Tuple es k p2] [] pos) := by
  have hv : PE X (.Call (.Name "isinstance" p) [a, .Tuple es k p2] [] pos) (tE X.K Cl W fun ρ => (ev T x .bor ρ).bind fun d => Res.ofO ((isTys ts d).map .bl)) := by
    refine PE.imp (pe_callB call_isiT (gl_of ok hi) ok.facts.isi (by decide +kernel) (pa_cons ha.b (pa_cons (pe_tup (pa_tys ok hn hg).1) pa_nil) (star_cons hs)) (by decide) (by decide) (star_cons hs) (by rfl)) fun σ H Q hh => ?_
    refine PB.get hh fun v G1 H1 d r1 sm q => ?_
    obtain ⟨d', hd, hq⟩ := PostE.ofO q
    obtain ⟨b, hb, rfl⟩ := Option.map_eq_some_iff.mp hd
    obtain ⟨n, hn'⟩ : ∃ n, tyD d = some n := by cases d <;> first | exact ⟨_, rfl⟩ | cases hb
    refine ⟨by rw [List.length_map, tyNames_len hn, sizeLine_eq]; omega, fun q hq' => ?_⟩
    have ex := Ext.new (o := .tup (ts.map fun t => V.ty t.name)) sm hq'
    exact ⟨v, q, _, .type n, ts.map fun t => Value.type t.name, b, rfl, upd_same, paired_cls ts, ty_rep ex.low (r1.grow ex) hn', isTys_kit hn' hb, hq _ _ _ ex (by simp only [Rep])⟩
  exact OkE.of hv (fun _ => rfl) (funext fun ρ => by simp only [ev, fin]) (funext fun ρ => by simp only [ev, fin]) (funext fun ρ => by simp only [ev, fin]; rfl)

/-! ### fields -/
theorem lookup_rep {K : Frg} {G : Hp} {f : Str} {d : D} : ∀ {ns : List Str} {ds : List D} {xs : List V}, Reps K Cl G ds xs → (ns.zip ds).lookup f = some d → ∃ v, (ns.zip xs).lookup f = some v ∧ Rep K Cl G d v
  | [], ds, xs, _, h => by cases h
  | n :: ns, [], xs, _, h => by cases h
  | n :: ns, d' :: ds, xs, r, h => by
    simp only [Reps] at r
    obtain ⟨v, t, rfl, r1, r2⟩ := r
    rw [List.zip_cons_cons, List.lookup_cons] at h ⊢
    cases hb : f == n with
    | true =>
      rw [hb] at h
      cases h
      exact ⟨v, rfl, r1⟩
    | false =>
      rw [hb] at h
      exact lookup_rep r2 h
theorem base_of {env : Env} {f : Str} (h : isCall0 e = false) : attributeBase e f env (eval e env) = eval e env := by
  cases e with
  | Call fn args kws ps =>
    cases args with
    | nil =>
      cases kws with
      | nil => cases h
      | cons _ _ => cases fn <;> rfl
    | cons _ _ => cases fn <;> rfl
  | _ => rfl
theorem r_fld (ok : XOk X N sc T Cl lv) {x : E} {fn : Str} (ha : OkE X Cl W T x a) (hc : isCall0 a = false) : OkE X Cl W T (.fld x fn) (.Attribute a fn pos) := by
  have hv : PE X (.Attribute a fn pos) (tE X.K Cl W fun ρ => (ev T x .bor ρ).bind fun d => fldR T fn d) := by
    refine PE.imp (pe_fld ha.b (base_of hc)) fun σ H Q hh => ?_
    refine PB.get hh fun v G1 H1 d r1 sm q => ?_
    cases d with
    | ins c ns ds =>
      replace q : PostE X.K Cl W G1 H1 σ (if T.fd c fn = true then Res.ofO ((ns.zip ds).lookup fn) else .stuck) Q := q
      by_cases ht : T.fd c fn = true
      · rw [if_pos ht] at q
        obtain ⟨d, hd, hq⟩ := PostE.ofO q
        obtain ⟨ad, C, dx, xs, rfl, hC, hA, hl, rr⟩ := r1.ins sm
        obtain ⟨v, e1, e2⟩ := lookup_rep rr hd
        obtain ⟨k1, k2⟩ := ok.facts.fd c fn C ht hC
        exact ⟨ad, C, dx, _, v, rfl, hA, k1, k2, e1, hq v G1 H1 (Ext.refl sm) e2⟩
      · rw [if_neg ht] at q
        exact q.elim
    | _ => exact q.elim
  exact OkE.of hv (fun _ => rfl) (funext fun ρ => by simp only [ev, fin]) (funext fun ρ => by simp only [ev, fin]) (funext fun ρ => by simp only [ev, fin]; rfl)

/-! ### subscripts, slices, displays -/
theorem plain_ix (h : isSlc b = false) : PlainIx b := by
  intro o i
  cases b <;> first | rfl | cases h
theorem r_idx {x y : E} (ha : OkE X Cl W T x a) (hb : OkE X Cl W T y b) (hs : isSlc b = false) : OkE X Cl W T (.idx x y) (.Subscript a b pos) :=
  OkE.of (rE_idx ha.b hb.b (plain_ix hs)) (fun _ => rfl) (funext fun ρ => by simp only [ev, fin]) (funext fun ρ => by simp only [ev, fin]) (funext fun ρ => by simp only [ev, fin]; rfl)
theorem r_slc {x : E} {lo hi : Eo} {l u : Option Expr} (ha : OkE X Cl W T x a) (hl : PrtOk X Cl W l (evo T lo)) (hh : PrtOk X Cl W u (evo T hi)) : OkE X Cl W T (.slc x lo hi) (.Subscript a (.Slice l u none p2) pos) :=
  OkE.of (rE_slc ha.b hl hh) (fun _ => rfl) (funext fun ρ => by simp only [ev, fin]) (funext fun ρ => by simp only [ev, fin]) (funext fun ρ => by simp only [ev, fin]; rfl)
theorem rowV {xs : Es} {k : List D → D} {σ : L2.St} {H : Hp} {Q : VK} {R : List V → Hp → Prop} (hh : tE X.K Cl W (fun ρ => (evs T xs ρ).bind fun ds => .ok (k ds)) σ H Q)
    (i : ∀ vs G1 H1 ds, ds.length = xs.len → Reps X.K Cl G1 ds vs → Same G1 H1 → (∀ v G2 H2, Ext G1 H1 G2 H2 → Rep X.K Cl G2 (k ds) v → Q v H2) → R vs H1) : tA X.K Cl W (evs T xs) σ H R := by
  obtain ⟨G0, H0, G, ρ, sim, q⟩ := hh
  refine ⟨G0, H0, G, ρ, sim, ?_⟩
  have q2 := PostA.seqE (r := evs T xs ρ) q
  cases ee : evs T xs ρ with
  | exc c ns ds => rw [ee] at q2; exact q2
  | stuck => rw [ee] at q2; exact q2
  | ok ds =>
    rw [ee] at q2
    intro vs G1 H1 k1 r1
    obtain ⟨ds', G1', ed, k1', r1', q4⟩ := q2 vs G1 H1 k1 r1
    cases ed
    exact i vs G1' H1 ds (evs_len ee) r1' k1'.low q4
theorem r_tup {xs : Es} {k : Nat} (ha : OkArgs X Cl W T xs es) (hl : xs.len = es.length) (h : es.length ≤ 1000) : OkE X Cl W T (.tup xs) (.Tuple es k pos) := by
  have hv : PE X (.Tuple es k pos) (tE X.K Cl W fun ρ => (evs T xs ρ).bind fun ds => .ok (.tup ds)) := by
    refine PE.imp (pe_tup ha.v) fun σ H Q hh => rowV hh fun vs G1 H1 ds e1 r1 sm q => ?_
    refine ⟨by rw [← r1.length, e1, hl, sizeLine_eq]; omega, fun q' hq' => q _ _ _ (Ext.new sm hq') ?_⟩
    simp only [Rep]
    exact ⟨q', vs, rfl, SqT.of upd_same, r1.mono (same_upd (Same.free sm hq'))⟩
  exact OkE.of hv (fun _ => rfl) (funext fun ρ => by simp only [ev, fin]) (funext fun ρ => by simp only [ev, fin]) (funext fun ρ => by simp only [ev, fin]; rfl)
theorem r_lst {xs : Es} (ha : OkArgs X Cl W T xs es) (hl : xs.len = es.length) (h : es.length ≤ 1000) : OkE X Cl W T (.lst xs) (.List es pos) := by
  have hv : PE X (.List es pos) (tE X.K Cl W fun ρ => (evs T xs ρ).bind fun ds => .ok (.lst ds)) := by
    refine PE.imp (pe_lst ha.v) fun σ H Q hh => rowV hh fun vs G1 H1 ds e1 r1 sm q => ?_
    refine ⟨by rw [← r1.length, e1, hl, sizeLine_eq]; omega, fun q' hq' => q _ _ _ (Ext.new sm hq') ?_⟩
    simp only [Rep]
    exact ⟨q', vs, rfl, upd_same, r1.mono (same_upd (Same.free sm hq'))⟩
  exact OkE.of hv (fun _ => rfl) (funext fun ρ => by simp only [ev, fin]) (funext fun ρ => by simp only [ev, fin]) (funext fun ρ => by simp only [ev, fin]; rfl)

/-! ### targets -/
def gNames : List Nat → TGs
  | [] => gNil
  | i :: is => gCons (gName i) (gNames is)
def gT (K : Frg) : Tg → TG
  | .nm i => gName i
  | .tp is => gTup K is.length (gNames is)
/-- the names that may be stored here -/
def MayStore (X : Cx) (x : Str) : Prop := Loc X.env.scope x ∧ (X.fn x = true ∨ X.env.scope.names.lookup x = some .local)
theorem pg_one (ok : XOk X N sc T Cl lv) {i : Nat} {x : Str} (hN : N[i]? = some x) (hm : MayStore X x) : PG X (.Name x p) (gName i) :=
  pg_name ok.nd (by rw [ok.names]; exact hN) hm.1 hm.2
theorem pg_row (ok : XOk X N sc T Cl lv) {s : Scope} (hm : ∀ x, locB s x = true → MayStore X x) : ∀ {is : List Nat} {es : List Expr}, ((is.zip es).all (fun p => match p.2 with | .Name x _ => decide (N[p.1]? = some x) && locB s x | _ => false)) = true → is.length = es.length →
    PGs X es (gNames is) ∧ (assignEach es X.env).length = is.length ∧ (assignEach es X.env).findIdx? (·.1) = none
  | [], [], _, _ => ⟨pgs_nil, rfl, rfl⟩
  | [], _ :: _, _, h => by cases h
  | _ :: _, [], _, h => by cases h
  | i :: is, e :: es, h, hl => by
    rw [List.zip_cons_cons, List.all_cons, Bool.and_eq_true] at h
    obtain ⟨h1, h2⟩ := h
    obtain ⟨g1, g2, g3⟩ := pg_row ok hm h2 (by simpa using hl)
    cases e with
    | Name x q =>
      replace h1 : (decide (N[i]? = some x) && locB s x) = true := h1
      rw [Bool.and_eq_true, decide_eq_true_eq] at h1
      refine ⟨pgs_cons (pg_one ok h1.1 (hm x h1.2)) g1 rfl, ?_, ?_⟩
      · show (assignEach es X.env).length + 1 = is.length + 1
        rw [g2]
      · rw [show assignEach (Expr.Name x q :: es) X.env = (false, assign (.Name x q) X.env) :: assignEach es X.env from rfl, List.findIdx?_cons, g3]
        rfl
    | _ => cases h1
theorem pg_tgt (ok : XOk X N sc T Cl lv) {s : Scope} (hm : ∀ x, locB s x = true → MayStore X x) {tg : Tg} (h : tgChk N s tg e = true) : PG X e (gT X.K tg) := by
  cases tg with
  | nm i =>
    cases e with
    | Name x q =>
      simp only [tgChk, Bool.and_eq_true, decide_eq_true_eq] at h
      exact pg_one ok h.1 (hm x h.2)
    | _ => simp only [tgChk] at h; cases h
  | tp is =>
    cases e with
    | Tuple es k q =>
      simp only [tgChk] at h
      rw [Bool.and_eq_true, decide_eq_true_eq] at h
      obtain ⟨g1, g2, g3⟩ := pg_row ok hm h.1 h.2
      exact pg_tup ok.calm g1 g2 g3
    | _ => simp only [tgChk] at h; cases h
def tgSlots : Tg → List Nat
  | .nm i => [i]
  | .tp is => is
theorem wipe_set {v : Option V} : ∀ {vs : List Nat} {σ : L2.St} {i : Nat}, i ∈ vs → wipe (σ.set i v) vs = wipe σ vs
  | [], _, _, h => by cases h
  | w :: vs, σ, i, h => by
    show (wipe (σ.set i v) vs).set w none = (wipe σ vs).set w none
    by_cases hi : i ∈ vs
    · rw [wipe_set hi]
    · have hw : i = w := by
        rcases List.mem_cons.mp h with e | e
        · exact e
        · exact absurd e hi
      subst hw
      have comm : ∀ (vs : List Nat) (σ : L2.St), i ∉ vs → wipe (σ.set i v) vs = (wipe σ vs).set i v := fun vs => by
        induction vs with
        | nil => intro σ _; rfl
        | cons u us ih =>
          intro σ hn
          show (wipe (σ.set i v) us).set u none = ((wipe σ us).set u none).set i v
          rw [ih σ (fun z => hn (List.mem_cons_of_mem _ z)), List.set_comm _ _ (fun z : u = i => hn (by rw [z]; exact List.mem_cons_self))]
      rw [comm vs σ hi, List.set_set]
theorem gNames_run {K : Frg} {G0 : GX} {H0 G H : Hp} {vs : List Nat} : ∀ {is : List Nat} {ds : List D} {xs : List V} {ρ : Ro} {σ : L2.St} {Q : L2.St → Hp → Prop}, Sim K Cl G0 H0 G H ρ σ → Reps K Cl G ds xs → ds.length = is.length → (∀ i ∈ is, i ∈ vs) →
    (∀ σ', Sim K Cl G0 H0 G H (setAll is ds ρ) σ' → wipe σ' vs = wipe σ vs → Q σ' H) → gNames is xs σ H Q
  | [], [], xs, ρ, σ, Q, sim, r, _, _, k => by
    simp only [Reps] at r
    subst r
    exact ⟨rfl, k σ sim rfl⟩
  | [], _ :: _, _, _, _, _, _, _, h, _, _ => by cases h
  | _ :: _, [], _, _, _, _, _, _, h, _, _ => by cases h
  | i :: is, d :: ds, xs, ρ, σ, Q, sim, r, hl, hm, k => by
    simp only [Reps] at r
    obtain ⟨v, t, rfl, r1, r2⟩ := r
    refine ⟨v, t, rfl, ?_⟩
    show gNames is t (σ.set i (some v)) H Q
    refine gNames_run (sim.put i r1) r2 (by simpa using hl) (fun j hj => hm j (List.mem_cons_of_mem _ hj)) fun σ' s' w' => k σ' s' ?_
    rw [w', wipe_set (hm i List.mem_cons_self)]
theorem gT_run {K : Frg} {G0 : GX} {H0 G H : Hp} {vs : List Nat} {tg : Tg} {d : D} {v : V} {ρ ρ' : Ro} {σ : L2.St} {Q : L2.St → Hp → Prop} (sim : Sim K Cl G0 H0 G H ρ σ) (r : Rep K Cl G d v) (ha : asg tg d ρ = some ρ') (hm : ∀ i ∈ tgSlots tg, i ∈ vs)
    (k : ∀ σ', Sim K Cl G0 H0 G H ρ' σ' → wipe σ' vs = wipe σ vs → Q σ' H) : gT K tg v σ H Q := by
  cases tg with
  | nm i =>
    simp only [asg] at ha
    cases ha
    exact k _ (sim.put i r) (wipe_set (hm i List.mem_cons_self))
  | tp is =>
    cases d with
    | tup ds =>
      simp only [asg] at ha
      split at ha
      · rename_i hl
        cases ha
        simp only [Rep] at r
        obtain ⟨a, xs, rfl, h1, h2⟩ := r
        exact ⟨a, xs, rfl, Same.tup sim.low h1, by rw [← h2.length]; exact hl, gNames_run sim h2 hl hm k⟩
      · cases ha
    | _ => simp only [asg] at ha; cases ha
end
end Pu
/-! PuJ: what is walked, comprehensions. -/
namespace Pu
open PySem PySem.Spec PyProof.Rows L2

/-- a walk over the data ds: while what stands in Hb stands, it goes through them; what it gives is shared -/
structure WOk (K : Frg) (Cl : ClT) (Hb G1 : Hp) (J : L2.It) (ds : List D) : Prop where
  small : ds.length ≤ sizeLine
  ex : ∃ (Gd : Hp → Prop) (Y : Nat → Hp → V → Hp → Prop), Walk J ds.length Gd Y ∧ (∀ H2, Same Hb H2 → Gd H2) ∧
    ∀ i x H2 H2' G2, i < ds.length → Same G1 G2 → Same G2 H2 → Gd H2 → Y i H2 x H2' → ∃ d G2', ds[i]? = some d ∧ Ext G2 H2 G2' H2' ∧ Rep K Cl G2' d x
def PostI (K : Frg) (Cl : ClT) (W : WX) (bor : Bool) (G H : Hp) (σ : L2.St) (r : Res (List D)) (R : L2.It → Hp → Prop) : Prop := match r with
  | .ok ds => ∀ J G1 H1, Ext G H G1 H1 → WOk K Cl (if bor = true then H1 else G1) G1 J ds → R J H1
  | .exc c ns ds => PostX K Cl W G H σ c ns ds
  | .stuck => False
def tI (K : Frg) (Cl : ClT) (W : WX) (bor : Bool) (f : Ro → Res (List D)) : TI := fun σ H R => ∃ G0 H0 G ρ, Sim K Cl G0 H0 G H ρ σ ∧ PostI K Cl W bor G H σ (f ρ) R

section
variable {X : Cx} {Cl : ClT} {W : WX} {T : Tab} {N : List Str} {sc : Scope} {lv : Nat} {a b c e tg : Expr} {es : List Expr} {f g h : Ro → Res D} {pos p p2 : Pos}
/-- how long a list or a tuple may be is known behind an expression -/
theorem pe_small {t : TE} (h : PE X e t) : PE X e (fun σ H Q => t σ H fun v H1 => (∀ ad xs, (SqL X.K H1 ad xs ∨ SqT X.K H1 ad xs) → xs.length ≤ sizeLine) → Q v H1) := by
  refine ⟨fun pins s σ H Q I q => thn (h.run pins s σ H _ I q) fun u s1 ⟨v, H1, I1, r1, q1⟩ => ⟨v, H1, I1, r1, q1 fun ad xs hx => ?_⟩⟩
  rcases hx with hx | hx
  · obtain ⟨_, _, _, z⟩ := I1.list hx
    exact z
  · obtain ⟨_, _, _, z⟩ := I1.tuple hx
    exact z
/-- shared, or borrowed -/
def RepM (K : Frg) (Cl : ClT) (bor : Bool) (G H : Hp) (d : D) (v : V) : Prop := if bor = true then RepB K Cl G H d v else Rep K Cl G d v
def hb (bor : Bool) (G H : Hp) : Hp := if bor = true then H else G
theorem same_hb {bor : Bool} {G H : Hp} (s : Same G H) : Same G (hb bor G H) := by
  cases bor
  · exact Same.refl _
  · exact s
theorem repM_lst {K : Frg} {bor : Bool} {G H : Hp} {ds : List D} {v : V} (s : Same G H) (r : RepM K Cl bor G H (.lst ds) v) : ∃ ad xs, v = .ref ad ∧ hb bor G H ad = some (.lst xs) ∧ Reps K Cl G ds xs := by
  cases bor with
  | false =>
    replace r : Rep K Cl G (.lst ds) v := r
    simp only [Rep] at r
    exact r
  | true => exact RepB.lst s r
theorem repM_frl {K : Frg} {bor : Bool} {G H : Hp} {ds : List D} {v : V} (s : Same G H) (r : RepM K Cl bor G H (.frl ds) v) : ∃ ad xs, v = .ref ad ∧ SqL K (hb bor G H) ad xs ∧ Reps K Cl G ds xs := by
  cases bor with
  | false =>
    replace r : Rep K Cl G (.frl ds) v := r
    simp only [Rep] at r
    exact r
  | true => exact RepB.frl s r
theorem repM_tup {K : Frg} {bor : Bool} {G H : Hp} {ds : List D} {v : V} (s : Same G H) (r : RepM K Cl bor G H (.tup ds) v) : ∃ ad xs, v = .ref ad ∧ SqT K (hb bor G H) ad xs ∧ Reps K Cl G ds xs := by
  cases bor with
  | false =>
    replace r : Rep K Cl G (.tup ds) v := r
    simp only [Rep] at r
    exact r
  | true =>
    obtain ⟨ad, xs, e, h1, h2, _⟩ := RepB.tup s r
    exact ⟨ad, xs, e, h1, h2⟩
theorem repM_str {K : Frg} {bor : Bool} {G H : Hp} {x : Str} {v : V} (r : RepM K Cl bor G H (.str x) v) : v = .str x := by
  cases bor with
  | false =>
    replace r : Rep K Cl G (.str x) v := r
    simp only [Rep] at r
    exact r
  | true => exact RepB.str r
def PostM (K : Frg) (Cl : ClT) (W : WX) (bor : Bool) (G H : Hp) (σ : L2.St) (r : Res D) (Q : VK) : Prop := match r with
  | .ok d => ∀ v G' H', Ext G H G' H' → RepM K Cl bor G' H' d v → Q v H'
  | .exc c ns ds => PostX K Cl W G H σ c ns ds
  | .stuck => False
def tM (K : Frg) (Cl : ClT) (W : WX) (bor : Bool) (f : Ro → Res D) : TE := fun σ H Q => ∃ G0 H0 G ρ, Sim K Cl G0 H0 G H ρ σ ∧ PostM K Cl W bor G H σ (f ρ) Q
def md : Bool → Md
  | true => .bor
  | false => .val
theorem OkE.m {ir : E} (h : OkE X Cl W T ir e) (bor : Bool) : PE X e (tM X.K Cl W bor (ev T ir (md bor))) := by
  cases bor with
  | true => exact h.b
  | false => exact h.v
/-- the length of a list that Hb holds, told of all that is tracked -/
theorem hb_low {bor : Bool} {G H : Hp} (s : Same G H) : Same (hb bor G H) H := by
  cases bor
  · exact s
  · exact Same.refl _
theorem yat {K : Frg} {ds : List D} {xs : List V} {G1 : Hp} (r : Reps K Cl G1 ds xs) : ∀ i x H2 H2' G2, i < ds.length → Same G1 G2 → Same G2 H2 → YAt xs i H2 x H2' → ∃ d G2', ds[i]? = some d ∧ Ext G2 H2 G2' H2' ∧ Rep K Cl G2' d x := by
  rintro i x H2 H2' G2 hi s1 s2 ⟨rfl, hx⟩
  obtain ⟨d, h1, h2⟩ := r.getV hx
  exact ⟨d, G2, h1, Ext.refl s2, h2.mono s1⟩
theorem pi_seq {x : E} (ha : OkE X Cl W T x e) (bor : Bool) : PI X tg e (tI X.K Cl W bor fun ρ => (ev T x (md bor) ρ).bind itemsR) := by
  refine ⟨fun pins s σ H R I ⟨G0, H0, G, ρ, sim, q⟩ => ?_⟩
  dsimp only at q
  have pm := pe_small (ha.m bor)
  have go : ∀ (Q : VK), PostM X.K Cl W bor G H σ (ev T x (md bor) ρ) Q → tM X.K Cl W bor (ev T x (md bor)) σ H Q := fun Q h => ⟨G0, H0, G, ρ, sim, h⟩
  cases ee : ev T x (md bor) ρ with
  | stuck => rw [ee] at q; exact q.elim
  | exc c ns ds =>
    rw [ee] at q
    refine (pi_list pm).run pins s σ H R I ?_
    refine go _ ?_
    rw [ee]
    exact q
  | ok d =>
    rw [ee] at q
    cases d with
    | lst ds =>
      refine (pi_list pm).run pins s σ H R I (go _ ?_)
      rw [ee]
      intro v G1 H1 k1 r1 sm
      obtain ⟨ad, xs, rfl, h1, h2⟩ := repM_lst k1.low r1
      have hL : SqL X.K H1 ad xs := SqL.of (hb_low k1.low _ _ h1)
      refine ⟨ad, rfl, ⟨xs, hL⟩, q _ G1 H1 k1 ⟨by rw [h2.length]; exact sm ad xs (.inl hL), _, _, by rw [h2.length]; exact walk_list (xs := xs), fun H2 s2 => (s2.seq (SqL.of h1)), fun i x H2 H2' G2 hi s1 s2 _ y => yat h2 i x H2 H2' G2 hi s1 s2 y⟩⟩
    | frl ds =>
      refine (pi_list pm).run pins s σ H R I (go _ ?_)
      rw [ee]
      intro v G1 H1 k1 r1 sm
      obtain ⟨ad, xs, rfl, h1, h2⟩ := repM_frl k1.low r1
      have hL : SqL X.K H1 ad xs := (hb_low k1.low).seq h1
      refine ⟨ad, rfl, ⟨xs, hL⟩, q _ G1 H1 k1 ⟨by rw [h2.length]; exact sm ad xs (.inl hL), _, _, by rw [h2.length]; exact walk_list (xs := xs), fun H2 s2 => (s2.seq h1), fun i x H2 H2' G2 hi s1 s2 _ y => yat h2 i x H2 H2' G2 hi s1 s2 y⟩⟩
    | tup ds =>
      refine (pi_tup pm).run pins s σ H R I (go _ ?_)
      rw [ee]
      intro v G1 H1 k1 r1 sm
      obtain ⟨ad, xs, rfl, h1, h2⟩ := repM_tup k1.low r1
      have hL : SqT X.K H1 ad xs := Same.tup (hb_low k1.low) h1
      refine ⟨ad, rfl, ⟨xs, hL⟩, q _ G1 H1 k1 ⟨by rw [h2.length]; exact sm ad xs (.inr hL), _, _, by rw [h2.length]; exact walk_tup (xs := xs), fun H2 s2 => (Same.tup s2 h1), fun i x H2 H2' G2 hi s1 s2 _ y => yat h2 i x H2 H2' G2 hi s1 s2 y⟩⟩
    | str z =>
      refine (pi_str pm).run pins s σ H R I (go _ ?_)
      rw [ee]
      intro v G1 H1 k1 r1 sm
      cases repM_str r1
      replace q : PostI X.K Cl W bor G H σ (if z.length ≤ sizeLine then .ok (z.cps.toList.map fun c => .str ⟨#[c]⟩) else .stuck) R := q
      by_cases hz : z.length ≤ sizeLine
      · rw [if_pos hz] at q
        refine ⟨z, rfl, q _ G1 H1 k1 ⟨by rw [List.length_map, Array.length_toList]; exact hz, fun _ => True, _, by rw [List.length_map, Array.length_toList]; exact walk_str, fun _ _ => trivial, fun i x H2 H2' G2 hi s1 s2 _ y => ?_⟩⟩
        obtain ⟨rfl, c, hc, rfl⟩ := y
        refine ⟨.str ⟨#[c]⟩, G2, ?_, Ext.refl s2, by simp only [Rep]⟩
        rw [List.getElem?_map, Array.getElem?_toList, hc]
        rfl
      · rw [if_neg hz] at q
        exact q.elim
    | _ => exact q.elim
theorem walk_revT {K : Frg} {ad : Addr} {xs : List V} : Walk (RT.ItvT K ad xs.length) xs.length (fun H => SqT K H ad xs) (fun i H x H' => H' = H ∧ xs[xs.length - 1 - i]? = some x) :=
  ⟨fun i _ hi q => ⟨hi, xs, xs[xs.length - 1 - i]'(by omega), q, by simp [show xs.length - 1 - i < xs.length by omega]⟩, fun _ _ => Nat.le_refl _, fun _ _ _ _ _ q y => ⟨y.1, y.2 xs q⟩⟩
theorem yrev {K : Frg} {ds : List D} {xs : List V} {G1 : Hp} (r : Reps K Cl G1 ds xs) : ∀ i x H2 H2' G2, i < ds.reverse.length → Same G1 G2 → Same G2 H2 → (H2' = H2 ∧ xs[xs.length - 1 - i]? = some x) → ∃ d G2', ds.reverse[i]? = some d ∧ Ext G2 H2 G2' H2' ∧ Rep K Cl G2' d x := by
  rintro i x H2 H2' G2 hi s1 s2 ⟨rfl, hx⟩
  have hi' : i < ds.length := by rwa [List.length_reverse] at hi
  obtain ⟨d, h1, h2⟩ := r.getV hx
  refine ⟨d, G2, ?_, Ext.refl s2, h2.mono s1⟩
  rw [List.getElem?_reverse hi', r.length]
  exact h1
theorem pi_rev (ok : XOk X N sc T Cl lv) {x : E} (hg : glB sc "reversed" = true) (ha : OkE X Cl W T x e) (hs : isStar e = false) (bor : Bool) : PI X tg (.Call (.Name "reversed" p) [e] [] pos) (tI X.K Cl W bor fun ρ => (ev T x (md bor) ρ).bind revR) := by
  refine ⟨fun pins s σ H R I ⟨G0, H0, G, ρ, sim, q⟩ => ?_⟩
  dsimp only at q
  have pm := pe_small (ha.m bor)
  have go : ∀ (Q : VK), PostM X.K Cl W bor G H σ (ev T x (md bor) ρ) Q → tM X.K Cl W bor (ev T x (md bor)) σ H Q := fun Q h => ⟨G0, H0, G, ρ, sim, h⟩
  refine (RT.pi_revA (gl_of ok hg) ok.facts.rev pm (star_cons hs)).run pins s σ H R I (go _ ?_)
  cases ee : ev T x (md bor) ρ with
  | stuck => rw [ee] at q; exact q.elim
  | exc c ns ds => rw [ee] at q; exact q
  | ok d =>
    rw [ee] at q
    intro v G1 H1 k1 r1 sm
    cases d with
    | lst ds =>
      obtain ⟨ad, xs, rfl, h1, h2⟩ := repM_lst k1.low r1
      have hL : SqL X.K H1 ad xs := SqL.of (hb_low k1.low _ _ h1)
      exact ⟨ad, xs, rfl, .inl ⟨hL, q _ G1 H1 k1 ⟨by rw [List.length_reverse, h2.length]; exact sm ad xs (.inl hL), _, _, by rw [List.length_reverse, h2.length]; exact walk_rev (xs := xs), fun H2 s2 => (s2.seq (SqL.of h1)), fun i x H2 H2' G2 hi s1 s2 _ y => yrev h2 i x H2 H2' G2 hi s1 s2 y⟩⟩⟩
    | frl ds =>
      obtain ⟨ad, xs, rfl, h1, h2⟩ := repM_frl k1.low r1
      have hL : SqL X.K H1 ad xs := (hb_low k1.low).seq h1
      exact ⟨ad, xs, rfl, .inl ⟨hL, q _ G1 H1 k1 ⟨by rw [List.length_reverse, h2.length]; exact sm ad xs (.inl hL), _, _, by rw [List.length_reverse, h2.length]; exact walk_rev (xs := xs), fun H2 s2 => (s2.seq h1), fun i x H2 H2' G2 hi s1 s2 _ y => yrev h2 i x H2 H2' G2 hi s1 s2 y⟩⟩⟩
    | tup ds =>
      obtain ⟨ad, xs, rfl, h1, h2⟩ := repM_tup k1.low r1
      have hL : SqT X.K H1 ad xs := Same.tup (hb_low k1.low) h1
      exact ⟨ad, xs, rfl, .inr ⟨hL, q _ G1 H1 k1 ⟨by rw [List.length_reverse, h2.length]; exact sm ad xs (.inr hL), _, _, by rw [List.length_reverse, h2.length]; exact walk_revT (xs := xs), fun H2 s2 => (Same.tup s2 h1), fun i x H2 H2' G2 hi s1 s2 _ y => yrev h2 i x H2 H2' G2 hi s1 s2 y⟩⟩⟩
    | _ => exact q.elim
theorem rng_walk {K : Frg} {i j : Int} {n : Nat} (hn : n = (j - i).toNat) (h : (j - i).toNat ≤ sizeLine) {Hb G1 : Hp} : WOk K Cl Hb G1 (Itr i n) ((List.range (j - i).toNat).map fun k => .int (i + (k : Nat))) := by
  subst hn
  refine ⟨by rw [List.length_map, List.length_range]; exact h, fun _ => True, YFn fun k => .int (i + k), by rw [List.length_map, List.length_range]; exact walk_range, fun _ _ => trivial, fun k x H2 H2' G2 hk s1 s2 _ y => ?_⟩
  rw [List.length_map, List.length_range] at hk
  obtain ⟨rfl, rfl⟩ := y
  refine ⟨.int (i + k), G2, ?_, Ext.refl s2, by simp only [Rep]⟩
  rw [List.getElem?_map, List.getElem?_range hk]
  rfl
theorem pi_rng (ok : XOk X N sc T Cl lv) {x : E} (hg : glB sc "range" = true) (ha : OkE X Cl W T x e) (hs : isStar e = false) (bor : Bool) : PI X tg (.Call (.Name "range" p) [e] [] pos) (tI X.K Cl W bor fun ρ => (ev T x .bor ρ).bind fun y => rngR (.int 0) y) := by
  refine ⟨fun pins s σ H R I ⟨G0, H0, G, ρ, sim, q⟩ => ?_⟩
  dsimp only at q
  refine (pi_range1 (gl_of ok hg) ok.facts.rng (pa_cons ha.b pa_nil (star_cons hs)) (star_cons hs)).run pins s σ H R I ?_
  refine ⟨G0, H0, G, ρ, sim, ?_⟩
  cases ee : ev T x .bor ρ with
  | stuck => rw [ee] at q; exact q.elim
  | exc c ns ds => rw [ee] at q; exact q
  | ok d =>
    rw [ee] at q
    intro v G1 H1 k1 r1
    cases d with
    | int j =>
      cases r1.int
      replace q : PostI X.K Cl W bor G H σ (if -(2 ^ 62) ≤ (0 : Int) ∧ (0 : Int) < 2 ^ 62 ∧ -(2 ^ 62) ≤ j ∧ j < 2 ^ 62 ∧ (j - 0).toNat ≤ sizeLine then .ok ((List.range (j - 0).toNat).map fun k => .int (0 + (k : Nat))) else .stuck) R := q
      split at q
      · rename_i hc
        exact ⟨j, rfl, hc.2.2.1, hc.2.2.2.1, q _ G1 H1 k1 (rng_walk (by rw [Int.sub_zero]) hc.2.2.2.2)⟩
      · exact q.elim
    | _ => exact q.elim
theorem pi_rng2 (ok : XOk X N sc T Cl lv) {x y : E} (hg : glB sc "range" = true) (ha : OkE X Cl W T x a) (hb : OkE X Cl W T y b) (hs : isStar a = false) (hs2 : isStar b = false) (bor : Bool) :
    PI X tg (.Call (.Name "range" p) [a, b] [] pos) (tI X.K Cl W bor fun ρ => (ev T x .bor ρ).bind fun x => (ev T y .bor ρ).bind fun y => rngR x y) := by
  refine ⟨fun pins s σ H R I ⟨G0, H0, G, ρ, sim, q⟩ => ?_⟩
  dsimp only at q
  refine (pi_range2 (gl_of ok hg) ok.facts.rng (pa_cons ha.b (pa_cons hb.b pa_nil (star_cons hs2)) (star_cons hs)) (by rw [star_cons hs, star_cons hs2]; rfl) (star_cons hs2)).run pins s σ H R I ?_
  refine ⟨G0, H0, G, ρ, sim, ?_⟩
  cases ee : ev T x .bor ρ with
  | stuck => rw [ee] at q; exact q.elim
  | exc c ns ds => rw [ee] at q; exact q
  | ok d =>
    rw [ee] at q
    intro v G1 H1 k1 r1
    refine ⟨G0, H0, G1, ρ, sim.grow k1, ?_⟩
    cases ef : ev T y .bor ρ with
    | stuck => simp only [Res.bind, ef] at q; exact q.elim
    | exc c ns ds => simp only [Res.bind, ef] at q; exact PostX.grow k1 q
    | ok d2 =>
      simp only [Res.bind, ef] at q
      intro w G2 H2 k2 r2
      cases d with
      | int i =>
        cases r1.int
        cases d2 with
        | int j =>
          cases r2.int
          replace q : PostI X.K Cl W bor G H σ (if -(2 ^ 62) ≤ i ∧ i < 2 ^ 62 ∧ -(2 ^ 62) ≤ j ∧ j < 2 ^ 62 ∧ (j - i).toNat ≤ sizeLine then .ok ((List.range (j - i).toNat).map fun k => .int (i + (k : Nat))) else .stuck) R := q
          split at q
          · rename_i hc
            exact ⟨i, j, rfl, ⟨hc.1, hc.2.1, hc.2.2.1, hc.2.2.2.1⟩, q _ G2 H2 (k1.trans k2) (rng_walk rfl hc.2.2.2.2)⟩
          · exact q.elim
        | _ => exact q.elim
      | _ => cases d2 <;> exact q.elim

/-! ### comprehensions -/
theorem Sim.wipe {K : Frg} {G0 : GX} {H0 G H : Hp} {σ : L2.St} {ρ : Ro} (s : Sim K Cl G0 H0 G H ρ σ) : ∀ vs : List Nat, Sim K Cl G0 H0 G H (wipeR ρ vs) (L2.wipe σ vs)
  | [] => s
  | v :: vs => by
    have ih := Sim.wipe s vs
    have no : ∀ (j : Nat) (x : Sl), ((wipeR ρ vs).set v .no)[j]? = some x → x ≠ .no → j ≠ v ∧ (wipeR ρ vs)[j]? = some x := fun j x q hx => by
      by_cases e : v = j
      · subst e
        have hl : v < (wipeR ρ vs).length := by
          have := (List.getElem?_eq_some_iff.mp q).1
          rwa [List.length_set] at this
        rw [List.getElem?_set_self hl] at q
        cases q
        exact absurd rfl hx
      · rw [List.getElem?_set_ne e] at q
        exact ⟨fun z => e z.symm, q⟩
    refine ⟨ih.ext, ?_, fun i d q => ?_, fun i d q => ?_, fun i j d1 d2 n q1 q2 => ?_, fun i c ns ds q => ?_, fun i j c c' ns ns' d1 d2 q1 q2 => ?_⟩
    · show ((wipeR ρ vs).set v .no).length = ((L2.wipe σ vs).set v none).length
      rw [List.length_set, List.length_set, ih.len]
    · obtain ⟨n, q⟩ := no i _ q (by intro z; cases z)
      obtain ⟨w, h1, h2⟩ := ih.val i d q
      refine ⟨w, ?_, h2⟩
      show ((L2.wipe σ vs).set v none)[i]? = _
      rw [List.getElem?_set_ne (Ne.symm n)]
      exact h1
    · obtain ⟨n, q⟩ := no i _ q (by intro z; cases z)
      obtain ⟨ad, xs, h1, h2⟩ := ih.own i d q
      refine ⟨ad, xs, ?_, h2⟩
      show ((L2.wipe σ vs).set v none)[i]? = _
      rw [List.getElem?_set_ne (Ne.symm n)]
      exact h1
    · obtain ⟨n1, q1⟩ := no i _ q1 (by intro z; cases z)
      obtain ⟨n2, q2⟩ := no j _ q2 (by intro z; cases z)
      show ((L2.wipe σ vs).set v none)[i]? ≠ ((L2.wipe σ vs).set v none)[j]?
      rw [List.getElem?_set_ne (Ne.symm n1), List.getElem?_set_ne (Ne.symm n2)]
      exact ih.sep i j d1 d2 n q1 q2
    · obtain ⟨n, q⟩ := no i _ q (by intro z; cases z)
      obtain ⟨ad, C, dx, xs, h1, h2⟩ := ih.obj i c ns ds q
      refine ⟨ad, C, dx, xs, ?_, h2⟩
      show ((L2.wipe σ vs).set v none)[i]? = _
      rw [List.getElem?_set_ne (Ne.symm n)]
      exact h1
    · obtain ⟨n1, q1⟩ := no i _ q1 (by intro z; cases z)
      obtain ⟨n2, q2⟩ := no j _ q2 (by intro z; cases z)
      exact ih.one i j c c' ns ns' d1 d2 q1 q2
/-- nothing that is raised leaves a comprehension -/
abbrev W0 : WX := fun _ _ _ _ => False
/-- a condition's rule within a comprehension -/
def OkC (K : Frg) (Cl : ClT) (tt : TT) (f : Ro → Res D) : Prop := ∀ (σ : L2.St) (H : Hp) (G0 : GX) (H0 G : Hp) (ρ : Ro) (b : Bool) (Q : Bool → Hp → Prop), Sim K Cl G0 H0 G H ρ σ → f ρ = .ok (.bl b) → (∀ G' H', Ext G H G' H' → Q b H') → tt σ H Q
theorem lcL_inv {g : D → Ro → Option Ro} {c f : Ro → Res D} {ρ : Ro} {d : D} {ds : List D} {ys : List D} (h : lcL g c f ρ (d :: ds) = .ok ys) :
    ∃ ρ1 b, g d ρ = some ρ1 ∧ c ρ1 = .ok (.bl b) ∧ (b = true → ∃ y zs, f ρ1 = .ok y ∧ lcL g c f ρ ds = .ok zs ∧ ys = y :: zs) ∧ (b = false → lcL g c f ρ ds = .ok ys) := by
  unfold lcL at h
  cases eg : g d ρ with
  | none => rw [eg] at h; cases h
  | some ρ1 =>
    rw [eg] at h
    dsimp only at h
    cases ec : c ρ1 with
    | exc c ns ds => rw [ec] at h; cases h
    | stuck => rw [ec] at h; cases h
    | ok x =>
      rw [ec] at h
      cases x with
      | bl b =>
        refine ⟨ρ1, b, rfl, ec, fun hb => ?_, fun hb => ?_⟩
        · subst hb
          cases ef : f ρ1 with
          | exc c ns ds => simp only [noX, Res.bind, ef] at h; cases h
          | stuck => simp only [noX, Res.bind, ef] at h; cases h
          | ok y =>
            simp only [noX, Res.bind, ef] at h
            cases er : lcL g c f ρ ds with
            | exc c ns ds => rw [er] at h; cases h
            | stuck => rw [er] at h; cases h
            | ok zs => rw [er] at h; cases h; exact ⟨y, zs, rfl, rfl, rfl⟩
        · subst hb
          exact h
      | _ => cases h
theorem lcL_noX {g : D → Ro → Option Ro} {c f : Ro → Res D} {ρ : Ro} : ∀ {ds : List D}, lcL g c f ρ ds = .stuck ∨ ∃ ys, lcL g c f ρ ds = .ok ys
  | [] => .inr ⟨[], rfl⟩
  | d :: ds => by
    have ih := lcL_noX (g := g) (c := c) (f := f) (ρ := ρ) (ds := ds)
    unfold lcL
    cases eg : g d ρ with
    | none => exact .inl rfl
    | some ρ1 =>
      dsimp only
      cases ec : c ρ1 with
      | exc c ns ds => exact .inl rfl
      | stuck => exact .inl rfl
      | ok x =>
        cases x with
        | bl b =>
          cases b with
          | false => exact ih
          | true =>
            cases ef : f ρ1 with
            | exc c ns ds => exact .inl rfl
            | stuck => exact .inl rfl
            | ok y =>
              rcases ih with ih | ⟨zs, ih⟩
              · exact .inl (by simp only [noX, Res.bind, ih])
              · exact .inr ⟨y :: zs, by simp only [noX, Res.bind, ih]⟩
        | _ => exact .inl rfl
theorem set_ok (h : isSet e = false) {env : Env} : ∀ x, foldedSetIterable e env x = pure x := fun x => by
  cases e <;> first | rfl | cases h
/-- THE RULE of a list comprehension -/
theorem lc_red {own : List (Str × Nat)} {tgt : Tg} {fi : Ro → Res (List D)} {fc fe : Ro → Res D} {tt : TT} (hc : OkC X.K Cl tt fc) (hm : ∀ i ∈ tgSlots tgt, i ∈ own.map (·.2)) {σ : L2.St} {H : Hp} {Q : VK}
    (hq : tF X.K Cl W (fun ρ => (fi ρ).bind fun ds => (lcL (asg tgt) fc fe (wipeR ρ (own.map (·.2))) ds).bind fun ys => .ok (.lst ys)) σ H Q) :
    tLc (tI X.K Cl W true fi) (gT X.K tgt) tt (tE X.K Cl W0 fe) (own.map (·.2)) σ H Q := by
  obtain ⟨G0, H0, G, ρ, sim, q⟩ := hq
  dsimp only at q
  refine ⟨G0, H0, G, ρ, sim, ?_⟩
  cases ei : fi ρ with
  | stuck => rw [ei] at q; exact q
  | exc c ns ds => rw [ei] at q; exact q
  | ok ds =>
    rw [ei] at q
    replace q : PostF X.K Cl W G H σ ((lcL (asg tgt) fc fe (wipeR ρ (own.map (·.2))) ds).bind fun ys => .ok (.lst ys)) Q := q
    intro J G1 H1 k1 wo L hL
    rcases lcL_noX (g := asg tgt) (c := fc) (f := fe) (ρ := wipeR ρ (own.map (·.2))) (ds := ds) with er | ⟨ys, er⟩
    · rw [er] at q; exact q.elim
    rw [er] at q
    replace q : ∀ p xs G' H', Ext G H G' H' → G' p = none → H p = none → H' p = some (.lst xs) → Reps X.K Cl G' ys xs → Q (.ref p) H' := q
    have gL : G1 L = none := Same.free k1.low hL
    obtain ⟨small, Gd, Y, wk, gs, yy⟩ := wo
    rw [if_pos rfl] at gs
    refine lc_it wk (fun i H' => ∃ G2 acc accd rest, Ext G1 H1 G2 H' ∧ G2 L = none ∧ H' L = some (.lst acc) ∧ Reps X.K Cl G2 accd acc ∧ acc.length ≤ i ∧ lcL (asg tgt) fc fe (wipeR ρ (own.map (·.2))) (ds.drop i) = .ok rest ∧ accd ++ rest = ys) ?_ ?_ ?_ ?_
    · refine ⟨G1, [], [], ys, ⟨same_upd hL, Same.refl _, fun b u e => ?_, fun a e _ => e⟩, gL, upd_same, Reps.nil, Nat.zero_le _, by rw [List.drop_zero]; exact er, rfl⟩
      rw [upd_ne (ne_of_none e gL)]
      exact k1.low b u e
    · rintro i H' hi ⟨G2, acc, accd, rest, k2, _⟩
      exact gs H' k2.sub
    · rintro i x H' H'' hi ⟨G2, acc, accd, rest, k2, g2, h2, r2, l2, e2, e3⟩ y
      obtain ⟨d, G3, hd, k3, r3⟩ := yy i x H' H'' G2 hi k2.vis k2.low (gs H' k2.sub) y
      have edrop : ds.drop i = d :: ds.drop (i + 1) := by
        have hlt : i < ds.length := hi
        rw [List.getElem?_eq_getElem hlt] at hd
        cases hd
        exact List.drop_eq_getElem_cons hlt
      rw [edrop] at e2
      obtain ⟨ρ1, b, ea, ec, ht, hf⟩ := lcL_inv e2
      have sim3 : Sim X.K Cl G0 H0 G3 H'' (wipeR ρ (own.map (·.2))) (L2.wipe σ (own.map (·.2))) := (((sim.grow k1).grow k2).grow k3).wipe _
      have g3 : G3 L = none := k3.hid L g2 (by rw [h2]; exact fun z => by cases z)
      have h3 : H'' L = some (.lst acc) := k3.sub _ _ h2
      refine gT_run (vs := own.map (·.2)) sim3 r3 ea hm fun σ2 sim4 w4 => ⟨?_, ?_⟩
      · rw [w4]
        have idem : ∀ (vs us : List Nat) (σ : L2.St), (∀ u ∈ us, u ∈ vs) → L2.wipe (L2.wipe σ us) vs = L2.wipe σ vs := fun vs us => by
          induction us with
          | nil => intro σ _; rfl
          | cons u us ih =>
            intro σ hu
            show L2.wipe ((L2.wipe σ us).set u none) vs = _
            rw [wipe_set (hu u List.mem_cons_self), ih σ fun w hw => hu w (List.mem_cons_of_mem _ hw)]
        exact idem _ _ σ fun _ h => h
      · refine hc σ2 H'' G0 H0 G3 ρ1 b _ sim4 ec fun G4 H4 k4 => ?_
        have h4 : H4 L = some (.lst acc) := k4.sub _ _ h3
        have g4 : G4 L = none := k4.hid L g3 (by rw [h3]; exact fun z => by cases z)
        cases b with
        | false =>
          rw [if_neg Bool.false_ne_true]
          exact ⟨G4, acc, accd, rest, (k2.trans k3).trans k4, g4, h4, r2.mono (k3.vis.trans k4.vis), by omega, hf rfl, e3⟩
        | true =>
          rw [if_pos rfl]
          obtain ⟨y0, zs, ey, ez, e5⟩ := ht rfl
          refine ⟨G0, H0, G4, ρ1, sim4.grow k4, ?_⟩
          rw [ey]
          intro yv G5 H5 k5 r5
          have h5 : H5 L = some (.lst acc) := k5.sub _ _ h4
          have g5 : G5 L = none := k5.hid L g4 (by rw [h4]; exact fun z => by cases z)
          have kk := ((k2.trans k3).trans k4).trans k5
          refine ⟨acc, h5, Nat.lt_of_le_of_lt l2 (Nat.lt_of_lt_of_le hi small), G5, acc ++ [yv], accd ++ [y0], zs, ⟨fun b u e => ?_, kk.vis, fun b u e => ?_, kk.hid⟩, g5, upd_same, (r2.mono (k3.vis.trans (k4.vis.trans k5.vis))).append (Reps.one r5), by rw [List.length_append, List.length_singleton]; omega, ez, ?_⟩
          · rw [upd_ne (ne_of_none e hL)]
            exact kk.sub b u e
          · rw [upd_ne (ne_of_none e g5)]
            exact kk.low b u e
          · rw [List.append_assoc, List.singleton_append, ← e5]
            exact e3
    · rintro H' ⟨G2, acc, accd, rest, k2, g2, h2, r2, l2, e2, e3⟩
      rw [List.drop_length] at e2
      cases e2
      rw [List.append_nil] at e3
      subst e3
      exact q L acc G2 H' (k1.trans k2) g2 (Same.free k1.sub hL) h2 r2
end
end Pu
/-! PuS: the rules of an own len, methods, gcd, reversed and ranges made lists, f-strings, index. -/
namespace Pu
open PySem PySem.Spec PyProof.Rows L2

/-! ### list(reversed(list)) -/
section
variable {prog : Program} {w : World} {A : Around} {E : Value → Shared → Prop} {s : Shared}
theorem extend_rev {R : Result → Shared → Prop} {it l : Addr} {items : Array Value} (hh : A.handled = none) (hit : s.heap.IsRevIter it l ((items.size : Int) - 1)) (hl : s.heap.IsList l items) (hne : l ≠ it) (hn : items.size ≤ sizeLine) (S : Addr) (res : Value) (c₀ : Nat)
    (hS : s.heap.get? S = some { cls := .type "list", data := .seq #[] c₀ }) (hSl : S ≠ l)
    (hR : ∀ h' tk acc' c', (∀ b o, b ≠ S → b ≠ it → s.heap.get? b = some o → h'.get? b = some o) → h'.get? S = some { cls := .type "list", dict := none, data := .seq acc' c', slots := #[] } →
      ItemsOf (fun i v => items[items.size - 1 - i]? = some v) acc' items.size → R (.ok (.ret res)) { s with heap := h', toks := tk }) :
    wpAny (model prog w) A.in1 (Builtin.List.listExtendWith (.ref S) (.ref it) res)
      (fun fin s' => match fin with | .done f => R (.ok f) s' | .again c' => c'.quiet = true ∧ codeAny (model prog w) A c' R s') (fun e s' => R (.error e) s') s := by
  have W := (Walks.listRev (prog := prog) (w := w) (A := A.in1) hh it l hne items).toS
  have hT : s.TypeIs (.ref it) "list_reverseiterator" := hit.typeIs
  have hSi : S ≠ it := fun e => by
    obtain ⟨o, ho, hc, _⟩ := id hit
    rw [e, ho] at hS
    cases hS
    exact absurd hc (by simp)
  have hSf : S ∉ [it, l] := by simp only [List.mem_cons, List.not_mem_nil, or_false, not_or]; exact ⟨hSi, hSl⟩
  have h1 : Builtin.List.listSameRef (.ref S) (.ref it) = false := by simp [Builtin.List.listSameRef, hSi]
  unfold Builtin.List.listExtendWith
  refine wpAny_bind (wpAny_typeOf hT ?_)
  rw [if_neg (by rw [h1]; decide)]
  refine wpAny_bind (wpAny_pyIter_revIter hit ?_)
  refine wpAny_bind (wpAny_holding ?_)
  unfold Builtin.List.listLengthHint
  refine wpAny_bind (wpAny_specialOf hT RT.nolen_lri ?_)
  show wpAny _ A.in1 (specialOf (Value.ref it) (Str.ofString "__length_hint__") >>= _) _ _ _
  refine wpAny_bind (wpAny_specialOf hT RT.hint_lri ?_)
  generalize hid : ("list_reverseiterator.__length_hint__" : String) = id0
  wp_delta
  rw [show splitId id0 = some ("list_reverseiterator", "__length_hint__") from by subst hid; decide +kernel]
  subst hid
  refine wpAny_bind (wpAny_isInstance (b := true) hT (by rw [isSubtype_type]; kernel_rfl) ?_)
  refine wpAny_pure ?_
  rw [if_neg (by decide)]
  have e0 : ((items.size : Nat) : Int) - 1 - ((0 : Nat) : Int) = (items.size : Int) - 1 := by omega
  refine wpAny_pure ⟨plainId_quiet F.plain_extend_loop _, codeAny_extend_loopS W hn _ hSf _ items.size 0 _ _ _ rfl (Nat.zero_le _) ⟨Nat.zero_le _, by rw [e0]; exact hit, hl⟩ hS (ItemsOf.nil _) fun s' acc' c' hm hS' hacc => ?_⟩
  rw [Moved.eq_with hm]
  refine hR s'.heap s'.toks acc' c' (fun b o hb hb2 e => hm.heap b o (fun hmem => ?_) e) hS' hacc
  rcases List.mem_cons.mp hmem with e' | hmem
  · exact hb e'
  · exact hb2 (List.mem_singleton.mp hmem)
theorem list_init_rev {R : Result → Shared → Prop} {it l : Addr} {items : Array Value} (hh : A.handled = none) (hit : s.heap.IsRevIter it l ((items.size : Int) - 1)) (hl : s.heap.IsList l items) (hne : l ≠ it) (hn : items.size ≤ sizeLine) (S : Addr)
    (hS : s.heap.get? S = some { cls := .type "list", data := .seq #[] }) (hSl : S ≠ l)
    (hR : ∀ h' tk acc' c', (∀ b o, b ≠ S → b ≠ it → s.heap.get? b = some o → h'.get? b = some o) → h'.get? S = some { cls := .type "list", dict := none, data := .seq acc' c', slots := #[] } →
      ItemsOf (fun i v => items[items.size - 1 - i]? = some v) acc' items.size → R (.ok (.ret .none)) { s with heap := h', toks := tk }) :
    wpAny (model prog w) A.in1 (Builtin.«list.__init__» ⟨[.ref S, .ref it], []⟩)
      (fun fin s' => match fin with | .done f => R (.ok f) s' | .again c' => c'.quiet = true ∧ codeAny (model prog w) A c' R s') (fun e s' => R (.error e) s') s := by
  have hSi : S ≠ it := fun e => by
    obtain ⟨o, ho, hc, _⟩ := id hit
    rw [e, ho] at hS
    cases hS
    exact absurd hc (by simp)
  show wpAny _ _ (do let old ← Builtin.List.listItems (.ref S); Builtin.List.listUpdate (.ref S) (fun _ => #[]); letGo old.toList.reverse; Builtin.List.listExtendWith (.ref S) (.ref it) .none) _ _ s
  refine wpAny_bind ?_
  unfold Builtin.List.listItems
  refine wpAny_bind (wpAny_seqItems hS rfl (wpAny_pure ?_))
  show wpAny _ _ (updateSeq S (fun _ => #[]) >>= fun _ => letGo (#[] : Array Value).toList.reverse >>= fun _ => Builtin.List.listExtendWith (.ref S) (.ref it) .none) _ _ s
  refine wpAny_bind (wpAny_updateSeq hS rfl ?_)
  have hS₂ := Heap.get?_update_self (Obj.mapSeq (fun _ => (#[] : Array Value))) hS rfl
  have oth : ∀ b o, b ≠ S → s.heap.get? b = some o → (s.heap.update S (Obj.mapSeq (fun _ => (#[] : Array Value)))).get? b = some o :=
    fun b o hb e => (Heap.get?_update_other _ _ (Ne.symm hb)).trans e
  refine wpAny_bind (wpAny_letGo ?_)
  refine extend_rev hh (hit.at fun o e => oth it o (Ne.symm hSi) e) (hl.at fun o e => oth l o (Ne.symm hSl) e) hne hn S .none _ hS₂ hSl fun h' tk acc' c' hk hS' hacc => ?_
  exact hR h' tk acc' c' (fun b o hb hb2 e => hk b o hb hb2 (oth b o hb e)) hS' hacc
theorem call_list_rev {Q : Value → Shared → Prop} {it l : Addr} {items : Array Value} (hh : A.handled = none) (hit : s.heap.IsRevIter it l ((items.size : Int) - 1)) (hl : s.heap.IsList l items) (hne : l ≠ it) (hn : items.size ≤ sizeLine)
    (hQ : ∀ h' tk acc' c', (∀ b o, b ≠ it → s.heap.get? b = some o → h'.get? b = some o) →
      h'.get? s.heap.objs.size = some { cls := .type "list", dict := none, data := .seq acc' c', slots := #[] } → ItemsOf (fun i v => items[items.size - 1 - i]? = some v) acc' items.size → Q (.ref s.heap.objs.size) { s with heap := h', toks := tk }) :
    wpAny (model prog w) A (call (.type "list") [.ref it]) Q E s := by
  refine callType_codes (Q₁ := fun obj s₁ => obj = .ref s.heap.objs.size ∧ s₁ = { s with heap := s.heap.push { cls := .type "list", data := .seq #[] } }) F.called_list (F.typeCall_list_1 _) F.entry_list_init
    (code_list_new _ ⟨rfl, rfl⟩) fun obj s₁ h₁ => ?_
  obtain ⟨rfl, rfl⟩ := h₁
  have hS : (s.heap.push { cls := .type "list", data := .seq #[] }).get? s.heap.objs.size = some { cls := .type "list", data := .seq #[] } := Heap.get?_push_size _ rfl
  obtain ⟨ol, hol, _⟩ := id hl
  refine ⟨⟨_, hS, rfl⟩, F.args_list_init_2 _ _, list_init_rev (A := A.in1) hh (hit.at fun o e => Heap.get?_push_of_some _ e) (hl.push _) hne hn _ hS (Nat.ne_of_gt (Heap.lt_size hol)) fun h' tk acc' c' hk hS' hacc => ?_⟩
  exact ⟨rfl, hQ h' tk acc' c' (fun b o hb e => hk b o (Nat.ne_of_lt (Heap.lt_size e)) hb (Heap.get?_push_of_some _ e)) hS' hacc⟩
end
/-- list(reversed(x)), x a list: a new list -/
def tLstRev (K : PySem.W.Frag) (te : TE) : TE := fun σ H Q => te σ H fun v H1 => ∃ (a : Addr) (xs : List V), v = .ref a ∧ SqL K H1 a xs ∧ ∀ q, H1 q = none → Q (.ref q) (upd H1 q (.lst xs.reverse))
theorem pe_lstRev {X : Cx} {e : Expr} {te : TE} {p p2 pos pos2 : Pos} (hc : X.calm = true) (hg : Gl X "list") (hm : X.mg "list" = none) (hg2 : Gl X "reversed") (hm2 : X.mg "reversed" = none) (he : PE X e te)
    (hs : starEach [e] X.env = (false, eval e X.env) :: starEach [] X.env := by rfl)
    (hs2 : starEach [.Call (.Name "reversed" p2) [e] [] pos2] X.env = (false, eval (.Call (.Name "reversed" p2) [e] [] pos2) X.env) :: starEach [] X.env := by rfl) :
    PE X (.Call (.Name "list" p) [.Call (.Name "reversed" p2) [e] [] pos2] [] pos) (tLstRev X.K te) := by
  refine ⟨fun pins s σ H Q I h => ?_⟩
  refine Call_ (ld_blt I hg hm boot_list (PyProof.Rows.callWith_type1 (PyProof.Rows.args_cons (Call_ (ld_blt I hg2 hm2 PyProof.Rows.boot_reversed (PyProof.Rows.callWith_type1 (PyProof.Rows.args_cons (thn (he.run pins s σ H _ I h) fun u s1 ⟨v, H1, I1, r1, q1⟩ => PyProof.Rows.args_nil ?_) hs) hs rfl))) hs2) hs2 rfl))
  obtain ⟨a, xs, ev, hq, q⟩ := q1
  subst ev
  obtain rfl : u = Value.ref a := r1
  obtain ⟨its, rv, p', hz⟩ := I1.list hq
  refine call_reversed_list p'.isList (PyProof.Rows.args_nil ?_)
  have k0 : ∀ b o, s1.heap.get? b = some o → (s1.heap.push (revObj a ((its.toArray.size : Int) - 1))).get? b = some o := fun b o e => Heap.get?_push_of_some _ e
  have I2 : Inv X pins σ H1 { s1 with heap := s1.heap.push (revObj a ((its.toArray.size : Int) - 1)) } := I1.kept (t' := s1.toks) k0
  obtain ⟨f0, f1, f2, f3, f4, f5⟩ := I1.fpOk (H' := H1) (b := s1.heap.objs.size) (Nat.le_refl _) (I1.hok.fresh (Nat.le_refl _))
  have hl := p'.isList
  obtain ⟨ol, hol, _⟩ := id hl
  have hne : a ≠ s1.heap.objs.size := Nat.ne_of_lt (Heap.lt_size hol)
  have hn : its.toArray.size ≤ sizeLine := by rw [List.size_toArray, ← rv.length]; exact hz
  refine call_list_rev (s := { s1 with heap := s1.heap.push (revObj a ((its.toArray.size : Int) - 1)) }) (I1.ok.hd hc) ⟨_, Heap.get?_push_size _ rfl, rfl, rfl⟩ (hl.push _) hne hn fun h' tk acc c' hk e' hi => ?_
  refine ⟨.ref _, upd H1 _ (.lst xs.reverse), I2.turnedNew (t' := tk) (ch := [s1.heap.objs.size]) (fun b o hb e => hk b o (by simpa using hb) e) (fun b hb => ?_) (Nat.le_refl _) (show ObjOk X.prog X.w _ _ _ (.lst xs.reverse) from ⟨by rw [List.length_reverse]; exact hz, acc.toList, c', RT.vals_rev rv hi, ?_⟩), rfl, q _ (I2.hok.fresh (Nat.le_refl _))⟩
  · rw [List.mem_singleton] at hb
    subst hb
    exact ⟨f0, f1, f2, f3, f4, f5⟩
  · rw [Array.toArray_toList]; exact e'

section
variable {X : Cx} {Cl : ClT} {W : WX} {T : Tab} {N : List Str} {sc : Scope} {lv : Nat} {a b c e : Expr} {es : List Expr} {f g h : Ro → Res D} {pos p p2 apos : Pos}
theorem post_at {K : Frg} {W : WX} {G H : Hp} {σ : L2.St} {r : Res D} {Q : VK} (h : PostE K Cl W G H σ r Q) : PostE K Cl (fun cls d _ H' => WE W σ cls d H') G H [] r Q := by
  cases r with
  | ok d => exact h
  | exc c ns ds => exact h
  | stuck => exact h
/-- an instance, then the rest -/
theorem PE.ins {r : Ro → Res D} {k : D → Res D} {σ : L2.St} {H : Hp} {Q : VK} {R : V → Hp → Prop} (hh : tE X.K Cl W (fun ρ => (r ρ).bind k) σ H Q)
    (i : ∀ v G1 H1 d, Rep X.K Cl G1 d v → Same G1 H1 → PostE X.K Cl W G1 H1 σ (k d) Q → R v H1) : tE X.K Cl W r σ H R := by
  obtain ⟨G0, H0, G, ρ, sim, q⟩ := hh
  refine ⟨G0, H0, G, ρ, sim, ?_⟩
  exact headE (PostE.seqE (r := r ρ) q) fun v G1 H1 k1 ⟨d, G1', ed, k1', r1, q1⟩ => i v G1' H1 d r1 k1'.low q1
/-- len(o) of an own class -/
theorem r_lenm (ok : XOk X N sc T Cl lv) (tk : Takes X W) {x : E} (hg : glB sc "len" = true) (ha : OkE X Cl W T x a) (hs : isStar a = false) : OkE X Cl W T (.lenm x) (.Call (.Name "len" p) [a] [] pos) := by
  have hv : PE X (.Call (.Name "len" p) [a] [] pos) (tE X.K Cl W fun ρ => (ev T x .val ρ).bind fun d => lenmR T d) := by
    refine ⟨fun pins s σ H Q I hh => ?_⟩
    have q3 : tE X.K Cl W (ev T x .val) σ H (fun v H1 => ∃ d G1, Same G1 H1 ∧ Rep X.K Cl G1 d v ∧ PostE X.K Cl W G1 H1 σ (lenmR T d) Q) := PE.ins hh fun v G1 H1 d r sm q => ⟨d, G1, sm, r, q⟩
    refine wpAny_Call_Name_kw (ld_blt I (gl_of ok hg) (ok.facts.bi .len) (show bootBuiltins "len" = some (.builtin "len") by decide +kernel) ?_ (by decide) (by decide))
    refine PyProof.Rows.callWith_builtin1 (thn ((pa_cons ha.v pa_nil (star_cons hs)).run pos pins s σ H (fun vs H1 => ∃ v d G1, vs = [v] ∧ Same G1 H1 ∧ Rep X.K Cl G1 d v ∧ PostE X.K Cl W G1 H1 σ (lenmR T d) Q) I (PE.ins hh fun v G1 H1 d r sm q => ⟨v, d, G1, rfl, sm, r, q⟩)) fun us s1 ⟨vs, H1, I1, rv, v, d, G1, ev, sm, r1, q1⟩ => ?_) (star_cons hs) rfl
    subst ev
    cases d with
    | ins c ns xs =>
      have r1' := r1
      simp only [Rep] at r1'
      obtain ⟨ad, C, dx, ys, rfl, hC, hA, hl, rr⟩ := r1'
      cases rv with
      | cons ru rn =>
      cases ru
      cases rn
      cases hm : T.mt c "__len__" 0 with
      | none =>
        replace q1 : PostE X.K Cl W G1 H1 σ (match T.mt c "__len__" 0 with | some F => (F [.ins c ns xs]).bind lenOk | none => .stuck) Q := q1
        rw [hm] at q1
        exact q1.elim
      | some F =>
        replace q1 : PostE X.K Cl W G1 H1 σ (match T.mt c "__len__" 0 with | some F => (F [.ins c ns xs]).bind lenOk | none => .stuck) Q := q1
        rw [hm] at q1
        replace q1 : PostE X.K Cl W G1 H1 σ ((F [.ins c ns xs]).bind lenOk) Q := q1
        obtain ⟨f, fd, ps, lm, hc, hM, hlm, FO, hb, hps⟩ := ok.facts.mt c "__len__" 0 F C hm hC
        obtain ⟨mA, J, _⟩ := ins_get I1.hok (sm _ _ hA)
        obtain ⟨od, J, _⟩ := J.look
        obtain ⟨m, hF⟩ := I1.fr
        refine PySem.W.len_K hF I1.ok.mod.kin J hM.at_ hM.fn ?_
        have q2 := PostE.seqE (r := F [.ins c ns xs]) q1
        have hsp : spP X.K Cl ps.length F [.ref ad] H1 (fun v H2 => ∃ n : Int, v = .int n ∧ (0 ≤ n ∧ n < 2 ^ 63) ∧ Q (.int n) H2) (WE W σ) := by
          refine ⟨by rw [hps]; rfl, G1, [.ins c ns xs], sm, Reps.one r1, post_at ?_⟩
          refine headE q2 fun v G2 H2 k2 ⟨d, G2', ed, k2', r2, q3⟩ => ?_
          cases d with
          | int n =>
            replace q3 : PostE X.K Cl W G2' H2 σ (if 0 ≤ n ∧ n < 2 ^ 63 then .ok (.int n) else .stuck) Q := q3
            simp only [Rep] at r2
            split at q3
            · rename_i hn
              exact ⟨n, r2, hn, q3 _ G2' H2 (Ext.refl k2'.low) (by simp only [Rep])⟩
            · exact q3.elim
          | _ => exact q3.elim
        have e0 : Env0 X.prog X.w X.K X.mg X.base X.A.in1 X.stack s1 H1 := by
          have e := I1.env0
          exact ⟨e.frames, e.mod, e.bs, e.bsz, e.funs, e.frf, e.hok, e.bare⟩
        have r2 : Vals [V.ref ad] [Value.ref ad] := .cons rfl .nil
        refine wpAny_call (codeAny_mono (FO.run X.A.in1 X.stack s1 H1 ⟨[.ref ad], []⟩ [.ref ad] [.ref ad] _ (WE W σ) (ok.room.mono hlm).in1 e0 (by
          have := hb s1 [.ref ad] I1.kIn (by rw [hps]; rfl)
          simpa using this) r2 hsp) fun r s' hq => ?_)
        cases r with
        | error e => exact passAt tk σ pins H1 s1 e s' I1 hq
        | ok fl =>
          cases fl with
          | ret u =>
            obtain ⟨v, H2, I2, ru, n, ev, hn, hq2⟩ := I1.after hq
            subst ev
            obtain ⟨t, rfl⟩ := ru
            exact ⟨hn, .int n, H2, I2.tok _, ⟨_, rfl⟩, hq2⟩
          | next => exact False.elim hq
          | brk => exact False.elim hq
          | cont => exact False.elim hq
    | _ => exact q1.elim
  exact OkE.of hv (fun _ => rfl) (funext fun ρ => by simp only [ev, fin]) (funext fun ρ => by simp only [ev, fin]) (funext fun ρ => by simp only [ev, fin]; rfl)
theorem lookup_zip_none {ns : List Str} {xs : List V} {m : Str} (h : m ∉ ns) : (ns.zip xs).lookup m = none := by
  induction ns generalizing xs with
  | nil => rfl
  | cons n ns ih =>
    cases xs with
    | nil => rfl
    | cons x xs =>
      rw [List.zip_cons_cons, List.lookup_cons]
      have : (m == n) = false := beq_eq_false_iff_ne.mpr fun z => h (z ▸ List.mem_cons_self)
      rw [this]
      exact ih fun z => h (List.mem_cons_of_mem _ z)
theorem meth_ok {T : Tab} {mth : Str} {n : Nat} {r : Res (List D)} {d : D} {K : Frg} {G H : Hp} {σ : L2.St} {Q : VK} (h : PostE K Cl W G H σ (methR T mth n r d) Q) : ∃ c ns xs F, d = .ins c ns xs ∧ mth ∉ ns ∧ T.mt c mth n = some F ∧ PostE K Cl W G H σ (r.bind fun ds => F (.ins c ns xs :: ds)) Q := by
  cases d with
  | ins c ns xs =>
    replace h : PostE K Cl W G H σ (if mth ∈ ns then .stuck else match T.mt c mth n with | some F => r.bind fun ds => F (.ins c ns xs :: ds) | none => .stuck) Q := h
    by_cases hm : mth ∈ ns
    · rw [if_pos hm] at h; exact h.elim
    · rw [if_neg hm] at h
      cases hF : T.mt c mth n with
      | none => rw [hF] at h; exact h.elim
      | some F => rw [hF] at h; exact ⟨c, ns, xs, F, rfl, hm, hF, h⟩
  | _ => exact h.elim
theorem meth_eq {o : Expr} {m : Str} {apos pos : Pos} {es : List Expr} {env : Env} (hb : attributeBase o m env (eval o env) = eval o env) (hst : (starEach es env).any (·.1) = false) (hline : (apos.endLine == pos.line) = true) (hl : es.length < 30) :
    eval (.Call (.Attribute o m apos) es [] pos) env = (do
      let ov ← eval o env
      standAt apos.atName
      let (f, first) ← holding [ov] (getMethod ov m (do return (← importBound o env).getD true))
      callWith pos f first (backTo pos (starEach es env)) (backToKw pos (keywordEach [] env))) := by
  have hform : methodCallForm (es.length + ([] : List Keyword).length) (backTo pos (starEach es env)) (backToKw pos (keywordEach [] env)) = true := by
    have h1 : (backTo pos (starEach es env)).all (fun x => !x.1) = true := by
      rw [List.all_eq_not_any_not]
      simp only [Bool.not_not]
      rw [back_any, hst]
      rfl
    have h2 : (backToKw pos (keywordEach [] env)).all (fun x => x.1.isSome) = true := rfl
    unfold methodCallForm
    rw [h1, h2]
    show (true && true && decide (es.length + 0 + (if ([] : List (Option Str × Sem Value)).isEmpty = true then 0 else 1) < 30)) = true
    simpa using hl
  have hpos : methodCallPos true o env apos pos = pure pos := by unfold methodCallPos; simp [hline]
  show (attributeBase o m env (eval o env) >>= fun ov => standAt apos.atName >>= fun _ => methodCall o m apos pos env ov (es.length + ([] : List Keyword).length) (backTo pos (starEach es env)) (backToKw pos (keywordEach [] env))) = _
  rw [hb]
  unfold methodCall
  rw [hform, hpos]
  rfl
/-- o.m(e, ..) -/
theorem r_meth (ok : XOk X N sc T Cl lv) (tk : Takes X W) {x : E} {xs zs : Es} {m : Str} (ha : OkE X Cl W T x a) (hx : OkArgs X Cl W T xs (e :: es)) (hr : OkArgs X Cl W T zs es) (hs : isStar e = false) (hb0 : isCall0 a = false) (hline : (apos.endLine == pos.line) = true) (hfew : (e :: es).length < 30) :
    OkE X Cl W T (.meth x m xs) (.Call (.Attribute a m apos) (e :: es) [] pos) := by
  have hv : PE X (.Call (.Attribute a m apos) (e :: es) [] pos) (tE X.K Cl W fun ρ => (ev T x .val ρ).bind fun d => methR T m xs.len (evs T xs ρ) d) := by
    refine ⟨fun pins s σ H Q I hh => ?_⟩
    obtain ⟨G0, H0, G, ρ, sim, q⟩ := hh
    have q2 : tE X.K Cl W (ev T x .val) σ H (fun v H1 => ∃ d G1, Ext G H G1 H1 ∧ Rep X.K Cl G1 d v ∧ PostE X.K Cl W G1 H1 σ (methR T m xs.len (evs T xs ρ) d) Q) :=
      ⟨G0, H0, G, ρ, sim, headE (PostE.seqE (r := ev T x .val ρ) q) fun v G1 H1 k1 ⟨d, G1', ed, k1', r1, q1⟩ => ⟨d, G1', k1', r1, q1⟩⟩
    refine PySem.W.methodCall_KW (thn (ha.v.run pins s σ H _ I q2) fun u s1 ⟨v, H1, I1, rx, d, G1, k1, r1, q1⟩ => ?_) (meth_eq (base_of hb0) (by rw [star_cons hs, List.any_cons, hr.st]; rfl) hline hfew)
    obtain ⟨c, ns, ys, F, rfl, hmn, hmt, q3⟩ := meth_ok q1
    have r1' := r1
    simp only [Rep] at r1'
    obtain ⟨ad, C, dx, zs', rfl, hC, hA, hl, rr⟩ := r1'
    obtain rfl : u = Value.ref ad := rx
    obtain ⟨f, fd, ps, lm, hc, hM, hlm, FO, hb, hps⟩ := ok.facts.mt c m xs.len F C hmt hC
    refine getmeth_ok I1 (k1.low _ _ hA) hc hM (lookup_zip_none hmn) ?_
    have q4 := PostA.seqE (r := evs T xs ρ) q3
    have q5 : tA X.K Cl W (evs T xs) σ H1 (fun vs H2 => ∃ ds G2, ds.length = xs.len ∧ Ext G1 H1 G2 H2 ∧ Reps X.K Cl G2 ds vs ∧ PostE X.K Cl W G2 H2 σ (F (.ins c ns ys :: ds)) Q) := by
      refine ⟨G0, H0, G1, ρ, sim.grow k1, ?_⟩
      cases ee : evs T xs ρ with
      | exc c ns ds => rw [ee] at q4; exact q4
      | stuck => rw [ee] at q4; exact q4
      | ok ds =>
        rw [ee] at q4
        intro vs G2 H2 k2 r2
        obtain ⟨ds', G2', ed, k2', r2', q6⟩ := q4 vs G2 H2 k2 r2
        cases ed
        exact ⟨ds, G2', evs_len ee, k2', r2', q6⟩
    refine PySem.W.callWith_K (first := [.ref ad]) (h₀ := X.base) I.ok.mod.kin hM.kp (thn (hx.v.run pos pins s1 σ H1 _ I1 q5) fun us s2 ⟨vs, H2, I2, r, ds, G2, hdl, k2, r2, q6⟩ => ⟨I2.kIn, ?_⟩) (star_cons hs) (by rw [back_any]; exact hr.st)
    refine run_fnS (us := .ref ad :: us) (vs := .ref ad :: vs) FO (ok.room.mono (Nat.le_trans (Nat.le_succ _) hlm)) hb (passAt tk σ) I2 (.cons rfl r) ⟨?_, G2, .ins c ns ys :: ds, k2.low, Reps.cons (r1.mono k2.vis) r2, post_at q6⟩
    rw [List.length_cons, ← r2.length, hdl, hps]
  exact OkE.of hv (fun _ => rfl) (funext fun ρ => by simp only [ev, fin]) (funext fun ρ => by simp only [ev, fin]) (funext fun ρ => by simp only [ev, fin]; rfl)
/-- o.m() -/
theorem r_meth0 (ok : XOk X N sc T Cl lv) (tk : Takes X W) {x : E} {m : Str} (ha : OkE X Cl W T x a) (hb0 : isCall0 a = false) (hline : (apos.endLine == pos.line) = true) : OkE X Cl W T (.meth x m .nil) (.Call (.Attribute a m apos) [] [] pos) := by
  have hv : PE X (.Call (.Attribute a m apos) [] [] pos) (tE X.K Cl W fun ρ => (ev T x .val ρ).bind fun d => methR T m 0 (evs T .nil ρ) d) := by
    refine ⟨fun pins s σ H Q I hh => ?_⟩
    obtain ⟨G0, H0, G, ρ, sim, q⟩ := hh
    have q2 : tE X.K Cl W (ev T x .val) σ H (fun v H1 => ∃ d G1, Ext G H G1 H1 ∧ Rep X.K Cl G1 d v ∧ PostE X.K Cl W G1 H1 σ (methR T m 0 (evs T .nil ρ) d) Q) :=
      ⟨G0, H0, G, ρ, sim, headE (PostE.seqE (r := ev T x .val ρ) q) fun v G1 H1 k1 ⟨d, G1', ed, k1', r1, q1⟩ => ⟨d, G1', k1', r1, q1⟩⟩
    refine PySem.W.methodCall_KW (thn (ha.v.run pins s σ H _ I q2) fun u s1 ⟨v, H1, I1, rx, d, G1, k1, r1, q1⟩ => ?_) (meth_eq (base_of hb0) rfl hline (by decide))
    obtain ⟨c, ns, ys, F, rfl, hmn, hmt, q3⟩ := meth_ok q1
    have r1' := r1
    simp only [Rep] at r1'
    obtain ⟨ad, C, dx, zs', rfl, hC, hA, hl, rr⟩ := r1'
    obtain rfl : u = Value.ref ad := rx
    obtain ⟨f, fd, ps, lm, hc, hM, hlm, FO, hb, hps⟩ := ok.facts.mt c m 0 F C hmt hC
    refine getmeth_ok I1 (k1.low _ _ hA) hc hM (lookup_zip_none hmn) ?_
    have q4 : PostE X.K Cl W G1 H1 σ (F [.ins c ns ys]) Q := by
      simp only [evs] at q3
      exact q3
    exact PySem.W.callWith_K0 (first := [.ref ad]) I1.kIn hM.kp (run_fnS (us := [.ref ad]) (vs := [.ref ad]) FO (ok.room.mono (Nat.le_trans (Nat.le_succ _) hlm)) hb (passAt tk σ) I1 (.cons rfl .nil) ⟨by rw [hps]; rfl, G1, [.ins c ns ys], k1.low, Reps.one r1, post_at q4⟩)
  exact OkE.of hv (fun _ => rfl) (funext fun ρ => by simp only [ev, fin, Es.len]) (funext fun ρ => by simp only [ev, fin, Es.len]) (funext fun ρ => by simp only [ev, fin, Es.len]; rfl)
/-- math.gcd -/
theorem r_gcd (ok : XOk X N sc T Cl lv) {xs zs : Es} (hg : glB sc "gcd" = true) (ha : OkArgs X Cl W T xs (e :: es)) (hr : OkArgs X Cl W T zs es) (hs : isStar e = false) : OkE X Cl W T (.gcd xs) (.Call (.Name "gcd" p) (e :: es) [] pos) := by
  have hpl : (backTo pos (starEach es X.env)).any (·.1) = false := by rw [back_any]; exact hr.st
  have hv : PE X (.Call (.Name "gcd" p) (e :: es) [] pos) (tE X.K Cl W fun ρ => if T.gc = true then (evsB T xs ρ).bind fun ds => Res.ofO (gcdF ds) else .stuck) := by
    by_cases ht : T.gc = true
    · simp only [ht, if_true]
      have hc : CallR X (.builtin "math.gcd") (rC X.K Cl gcdF) := by
        intro pins s σ H vs us Q I r ⟨ds, d, G, sm, rr, hd, hq⟩
        unfold gcdF at hd
        split at hd
        · rename_i a b
          cases hd
          cases rr with
          | cons r1 rr =>
          cases rr with
          | cons r2 rr =>
          cases rr
          cases r1.int
          cases r2.int
          exact cr_gcd pins s σ H _ us Q I r ⟨a, b, rfl, hq _ G H (Ext.refl sm) (by simp only [Rep])⟩
        · cases hd
      exact PE.imp (pe_callBfun hc (gl_of ok hg) (ok.facts.gc ht) ha.b (by decide) (star_cons hs) hpl) fun σ H Q hh => rowB hh
    · simp only [ht, if_false]
      exact ⟨fun pins s σ H Q I ⟨G0, H0, G, ρ, sim, q⟩ => q.elim⟩
  exact OkE.of hv (fun _ => rfl) (funext fun ρ => by simp only [ev, fin]) (funext fun ρ => by simp only [ev, fin]) (funext fun ρ => by simp only [ev, fin]; rfl)
/-! reversed and ranges made lists and tuples -/
theorem made_lst {K : Frg} {G1 H1 : Hp} {t : Bool} {ds : List D} {xs : List V} {q : Addr} {Q : VK} (sm : Same G1 H1) (r : Reps K Cl G1 ds xs) (hq : H1 q = none) (h : ∀ v G2 H2, Ext G1 H1 G2 H2 → Rep K Cl G2 (sqD t ds) v → Q v H2) :
    Q (.ref q) (upd H1 q (if t = true then .tup xs else .lst xs)) := by
  refine h _ _ _ (Ext.new (o := if t = true then .tup xs else .lst xs) sm hq) ?_
  have k := r.mono (same_upd (o := if t = true then .tup xs else .lst xs) (Same.free sm hq))
  cases t with
  | true => simp only [sqD, if_true, Rep]; exact ⟨q, xs, rfl, SqT.of upd_same, by simpa using k⟩
  | false => simp only [sqD, Bool.false_eq_true, if_false, Rep]; exact ⟨q, xs, rfl, upd_same, by simpa using k⟩
theorem r_sqr (ok : XOk X N sc T Cl lv) {t : Bool} {x : E} (hg : glB sc (sqN t) = true) (hg2 : glB sc "reversed" = true) (ha : OkE X Cl W T x a) (hs : isStar a = false) :
    OkE X Cl W T (.sqr t x) (.Call (.Name (sqN t) p) [.Call (.Name "reversed" p2) [a] [] apos] [] pos) := by
  have red : ∀ {σ : L2.St} {H : Hp} {Q : VK}, tE X.K Cl W (fun ρ => (ev T x .bor ρ).bind fun d => (revLR d).bind fun ds => .ok (sqD t ds)) σ H Q →
      tB X.K Cl W (ev T x .bor) σ H (fun v H1 => ∃ (ad : Addr) (xs : List V), v = .ref ad ∧ SqL X.K H1 ad xs ∧ ∀ q, H1 q = none → Q (.ref q) (upd H1 q (if t = true then .tup xs.reverse else .lst xs.reverse))) := fun hh => by
    refine PB.get hh fun v G1 H1 d r1 sm q => ?_
    cases d with
    | lst ds =>
      obtain ⟨ad, xs, rfl, h1, h2⟩ := r1.lst sm
      exact ⟨ad, xs, rfl, SqL.of h1, fun q' hq => made_lst sm h2.reverse hq q⟩
    | frl ds =>
      obtain ⟨ad, xs, rfl, h1, h2⟩ := r1.frl sm
      exact ⟨ad, xs, rfl, h1, fun q' hq => made_lst sm h2.reverse hq q⟩
    | _ => exact q.elim
  have hv : PE X (.Call (.Name (sqN t) p) [.Call (.Name "reversed" p2) [a] [] apos] [] pos) (tE X.K Cl W fun ρ => (ev T x .bor ρ).bind fun d => (revLR d).bind fun ds => .ok (sqD t ds)) := by
    cases t with
    | true => exact PE.imp (RT.pe_tupRev ok.calm (gl_of ok hg) (ok.facts.bi .tuple) (gl_of ok hg2) ok.facts.rev ha.b (star_cons hs)) fun σ H Q hh => red hh
    | false => exact PE.imp (pe_lstRev ok.calm (gl_of ok hg) (ok.facts.bi .list) (gl_of ok hg2) ok.facts.rev ha.b (star_cons hs)) fun σ H Q hh => red hh
  exact OkE.of hv (fun _ => rfl) (funext fun ρ => by simp only [ev, fin]) (funext fun ρ => by simp only [ev, fin]) (funext fun ρ => by simp only [ev, fin]; rfl)
theorem rg_fin {K : Frg} {t : Bool} {i j : Int} {G H : Hp} {σ : L2.St} {Q : VK} (sm : Same G H) (q : PostE K Cl W G H σ ((rngR (.int i) (.int j)).bind fun ds => .ok (sqD t ds)) Q) :
    RgOk i j ∧ ∀ q, H q = none → Q (.ref q) (upd H q (if t = true then .tup (rgV i j) else .lst (rgV i j))) := by
  replace q : PostE K Cl W G H σ ((if -(2 ^ 62) ≤ i ∧ i < 2 ^ 62 ∧ -(2 ^ 62) ≤ j ∧ j < 2 ^ 62 ∧ (j - i).toNat ≤ sizeLine then Res.ok ((List.range (j - i).toNat).map fun k => D.int (i + (k : Nat))) else Res.stuck).bind fun ds => .ok (sqD t ds)) Q := q
  by_cases hc : -(2 ^ 62) ≤ i ∧ i < 2 ^ 62 ∧ -(2 ^ 62) ≤ j ∧ j < 2 ^ 62 ∧ (j - i).toNat ≤ sizeLine
  · rw [if_pos hc] at q
    have hz : (j - i).toNat ≤ 2 ^ 24 := by have := hc.2.2.2.2; rw [sizeLine_eq] at this; omega
    refine ⟨⟨hc.1, hc.2.1, hc.2.2.1, hc.2.2.2.1, hz⟩, fun q' hq => made_lst sm ?_ hq q⟩
    have e1 : ((List.range (j - i).toNat).map fun k => D.int (i + (k : Nat))) = ((List.range (j - i).toNat).map fun k : Nat => (i + (k : Nat) : Int)).map D.int := by rw [List.map_map]; rfl
    have e2 : rgV i j = ((List.range (j - i).toNat).map fun k : Nat => (i + (k : Nat) : Int)).map V.int := by unfold rgV; rw [List.map_map]; rfl
    rw [e1, e2]
    exact Reps.of_ints _
  · rw [if_neg hc] at q; exact q.elim
theorem r_sq1 (ok : XOk X N sc T Cl lv) {t : Bool} {x : E} (hg : glB sc (sqN t) = true) (hg2 : glB sc "range" = true) (ha : OkE X Cl W T x a) (hs : isStar a = false) :
    OkE X Cl W T (.sq1 t x) (.Call (.Name (sqN t) p) [.Call (.Name "range" p2) [a] [] apos] [] pos) := by
  have red : ∀ {σ : L2.St} {H : Hp} {Q : VK}, tE X.K Cl W (fun ρ => (ev T x .bor ρ).bind fun y => (rngR (.int 0) y).bind fun ds => .ok (sqD t ds)) σ H Q →
      tB X.K Cl W (ev T x .bor) σ H (fun v H1 => ∃ n, v = .int n ∧ RgOk 0 n ∧ ∀ q, H1 q = none → Q (.ref q) (upd H1 q (if t = true then .tup (rgV 0 n) else .lst (rgV 0 n)))) := fun hh => by
    refine PB.get hh fun v G1 H1 d r1 sm q => ?_
    cases d with
    | int n => cases r1.int; exact ⟨n, rfl, rg_fin sm q⟩
    | _ => exact q.elim
  have hv : PE X (.Call (.Name (sqN t) p) [.Call (.Name "range" p2) [a] [] apos] [] pos) (tE X.K Cl W fun ρ => (ev T x .bor ρ).bind fun y => (rngR (.int 0) y).bind fun ds => .ok (sqD t ds)) := by
    cases t with
    | true => exact PE.imp (pe_tupRg ok.calm (gl_of ok hg) (ok.facts.bi .tuple) (prg_1 (gl_of ok hg2) ok.facts.rng ha.b (star_cons hs))) fun σ H Q hh => red hh
    | false => exact PE.imp (pe_listRg ok.calm (gl_of ok hg) (ok.facts.bi .list) (prg_1 (gl_of ok hg2) ok.facts.rng ha.b (star_cons hs))) fun σ H Q hh => red hh
  exact OkE.of hv (fun _ => rfl) (funext fun ρ => by simp only [ev, fin]) (funext fun ρ => by simp only [ev, fin]) (funext fun ρ => by simp only [ev, fin]; rfl)
theorem r_sq2 (ok : XOk X N sc T Cl lv) {t : Bool} {x y : E} (hg : glB sc (sqN t) = true) (hg2 : glB sc "range" = true) (ha : OkE X Cl W T x a) (hb : OkE X Cl W T y b) (hs : isStar a = false) (hs2 : isStar b = false) :
    OkE X Cl W T (.sq2 t x y) (.Call (.Name (sqN t) p) [.Call (.Name "range" p2) [a, b] [] apos] [] pos) := by
  have red : ∀ {σ : L2.St} {H : Hp} {Q : VK}, tE X.K Cl W (fun ρ => (ev T x .bor ρ).bind fun x => (ev T y .bor ρ).bind fun y => (rngR x y).bind fun ds => .ok (sqD t ds)) σ H Q →
      tB X.K Cl W (ev T x .bor) σ H (fun v H1 => tB X.K Cl W (ev T y .bor) σ H1 fun w H2 => ∃ i j, v = .int i ∧ w = .int j ∧ RgOk i j ∧ ∀ q, H2 q = none → Q (.ref q) (upd H2 q (if t = true then .tup (rgV i j) else .lst (rgV i j)))) := fun hh => by
    obtain ⟨G0, H0, G, ρ, sim, q⟩ := hh
    refine ⟨G0, H0, G, ρ, sim, headB (PostB.seqE (r := ev T x .bor ρ) q) fun v G1 H1 k1 ⟨d, G1', ed, k1', r1, q1⟩ => ⟨G0, H0, G1', ρ, sim.grow k1', headB (PostB.seqE (r := ev T y .bor ρ) q1) fun w G2 H2 k2 ⟨d2, G2', ed2, k2', r2, q2⟩ => ?_⟩⟩
    cases d with
    | int i =>
      cases r1.int
      cases d2 with
      | int j => cases r2.int; exact ⟨i, j, rfl, rfl, rg_fin k2'.low q2⟩
      | _ => exact q2.elim
    | _ => cases d2 <;> exact q2.elim
  have hv : PE X (.Call (.Name (sqN t) p) [.Call (.Name "range" p2) [a, b] [] apos] [] pos) (tE X.K Cl W fun ρ => (ev T x .bor ρ).bind fun x => (ev T y .bor ρ).bind fun y => (rngR x y).bind fun ds => .ok (sqD t ds)) := by
    cases t with
    | true => exact PE.imp (pe_tupRg ok.calm (gl_of ok hg) (ok.facts.bi .tuple) (prg_2 (gl_of ok hg2) ok.facts.rng ha.b hb.b (by rw [star_cons hs]) (star_cons hs2) (by rw [star_cons hs2]; rfl))) fun σ H Q hh => red hh
    | false => exact PE.imp (pe_listRg ok.calm (gl_of ok hg) (ok.facts.bi .list) (prg_2 (gl_of ok hg2) ok.facts.rng ha.b hb.b (by rw [star_cons hs]) (star_cons hs2) (by rw [star_cons hs2]; rfl))) fun σ H Q hh => red hh
  exact OkE.of hv (fun _ => rfl) (funext fun ρ => by simp only [ev, fin]) (funext fun ρ => by simp only [ev, fin]) (funext fun ρ => by simp only [ev, fin]; rfl)

/-! f-strings -/
theorem r_fmt {x : E} (ha : OkE X Cl W T x a) : OkE X Cl W T (.fmt x) (.FormattedValue a (-1) none pos) := by
  have hv : PE X (.FormattedValue a (-1) none pos) (tE X.K Cl W fun ρ => (ev T x .bor ρ).bind fun d => Res.ofO (fmtD d)) := by
    refine PE.imp (pe_fmt ha.b) fun σ H Q hh => PB.get hh fun v G1 H1 d r1 sm q => ?_
    obtain ⟨d', hd, hq⟩ := PostE.ofO q
    cases d with
    | str y =>
      cases r1.str
      replace hd : (if y.length ≤ sizeLine then some (D.str y) else none) = some d' := hd
      split at hd
      · cases hd; exact .inl ⟨y, rfl, ‹_›, hq _ G1 H1 (Ext.refl sm) (by simp only [Rep])⟩
      · cases hd
    | int i =>
      cases r1.int
      replace hd : (if i.natAbs.log2 < 1920 then some (D.str (toString i)) else none) = some d' := hd
      split at hd
      · cases hd; exact .inr ⟨i, rfl, ‹_›, hq _ G1 H1 (Ext.refl sm) (by simp only [Rep])⟩
      · cases hd
    | _ => cases hd
  exact OkE.of hv (fun _ => rfl) (funext fun ρ => by simp only [ev, fin]) (funext fun ρ => by simp only [ev, fin]) (funext fun ρ => by simp only [ev, fin]; rfl)
structure OkJ (X : Cx) (Cl : ClT) (W : WX) (T : Tab) (xs : Es) (es : List Expr) : Prop where
  ex : ∃ ts, PJ X es ts ∧ ∀ acc σ H Q, tE X.K Cl W (evJ T xs acc) σ H Q → tJs ts acc σ H fun out H1 => Q (.str out) H1
theorem j_nil : OkJ X Cl W T .nil [] := ⟨[], .nil, fun acc σ H Q ⟨G0, H0, G, ρ, sim, q⟩ => by
  simp only [evJ] at q
  exact q _ G H (Ext.refl sim.low) (by simp only [Rep])⟩
theorem j_cons {x : E} {xs : Es} (ha : OkE X Cl W T x e) (hr : OkJ X Cl W T xs es) : OkJ X Cl W T (.cons x xs) (e :: es) := by
  obtain ⟨ts, h1, h2⟩ := hr.ex
  refine ⟨_, .cons ha.b h1, fun acc σ H Q ⟨G0, H0, G, ρ, sim, q⟩ => ?_⟩
  simp only [evJ] at q
  refine ⟨G0, H0, G, ρ, sim, headB (PostB.seqE (r := ev T x .bor ρ) q) fun v G1 H1 k1 ⟨d, G1', ed, k1', r1, q1⟩ => ?_⟩
  cases d with
  | str y =>
    cases r1.str
    replace q1 : PostE X.K Cl W G1' H1 σ (if (acc ++ y).length ≤ sizeLine then evJ T xs (acc ++ y) ρ else .stuck) Q := q1
    split at q1
    · exact ⟨y, rfl, ‹_›, h2 _ σ H1 Q ⟨G0, H0, G1', ρ, sim.grow k1', q1⟩⟩
    · exact q1.elim
  | _ => exact q1.elim
theorem r_joined {xs : Es} (h : OkJ X Cl W T xs es) (hl : 2 ≤ es.length) : OkE X Cl W T (.joined xs) (.JoinedStr es pos) := by
  obtain ⟨ts, h1, h2⟩ := h.ex
  have hv : PE X (.JoinedStr es pos) (tE X.K Cl W fun ρ => evJ T xs Str.empty ρ) := by
    cases es with
    | nil => simp at hl
    | cons e es =>
      cases es with
      | nil => simp at hl
      | cons e2 es => exact PE.imp (pe_joined h1) fun σ H Q hh => h2 _ σ H Q hh
  exact OkE.of hv (fun _ => rfl) (funext fun ρ => by simp only [ev, fin]) (funext fun ρ => by simp only [ev, fin]) (funext fun ρ => by simp only [ev, fin]; rfl)
/-! l.index(x) -/
theorem rowPy_rep {K : Frg} {G H : Hp} {d : D} {v : V} {ps : List PyData} (sm : Same G H) (r : RepB K Cl G H d v) (e : rowPy d = some ps) : ∃ ad xs, v = .ref ad ∧ SqL K H ad xs ∧ Dp K H v (.list ps) := by
  cases d with
  | lst ys =>
    obtain ⟨ad, xs, rfl, h1, h2⟩ := r.lst sm
    exact ⟨ad, xs, rfl, SqL.of h1, r.dp sm (by simp only [toPy]; rw [show toPys ys = some ps from e]; rfl)⟩
  | frl ys =>
    obtain ⟨ad, xs, rfl, h1, h2⟩ := r.frl sm
    exact ⟨ad, xs, rfl, h1, r.dp sm (by simp only [toPy]; rw [show toPys ys = some ps from e]; rfl)⟩
  | _ => cases e
theorem r_idxof (ok : XOk X N sc T Cl lv) {x y : E} (ha : OkE X Cl W T x a) (hb : OkE X Cl W T y b) (hs : isStar b = false) (hc0 : isCall0 a = false) (hline : (apos.endLine == pos.line) = true) :
    OkE X Cl W T (.idxof x y) (.Call (.Attribute a "index" apos) [b] [] pos) := by
  have hv : PE X (.Call (.Attribute a "index" apos) [b] [] pos) (tE X.K Cl W fun ρ => (ev T x .bor ρ).bind fun d => idxofR (ev T y .bor ρ) d) := by
    refine PE.imp (pe_bm PySem.F.plainAttrs_list PySem.F.slot_list_index (by kernel_rfl) (mt_indexD ok.hu) ha.b (pa_cons hb.b pa_nil (star_cons hs)) (base_of hc0) (by rw [star_cons hs]; rfl) hline (star_cons hs) rfl) fun σ H Q hh => ?_
    obtain ⟨G0, H0, G, ρ, sim, q⟩ := hh
    refine ⟨G0, H0, G, ρ, sim, ?_⟩
    refine headB (PostB.seqE (r := ev T x .bor ρ) q) fun v G1 H1 k1 ⟨d, G1', ed, k1', r1, q1⟩ => ?_
    cases hp : rowPy d with
    | none =>
      unfold idxofR at q1
      rw [hp] at q1
      exact q1.elim
    | some ps =>
      unfold idxofR at q1
      rw [hp] at q1
      replace q1 : PostE X.K Cl W G1' H1 σ ((ev T y .bor ρ).bind fun p => Res.ofO (idxofD ps p)) Q := q1
      obtain ⟨ad, xs, rfl, hL, hD⟩ := rowPy_rep k1'.low r1 hp
      refine ⟨.inl ⟨rfl, xs, hL⟩, G0, H0, G1', ρ, sim.grow k1', headB (PostB.seqE (r := ev T y .bor ρ) q1) fun w G2 H2 k2 ⟨d2, G2', ed2, k2', r2, q2⟩ => ?_⟩
      obtain ⟨d', hd, hq⟩ := PostE.ofO q2
      unfold idxofD at hd
      split at hd
      · rename_i qy hy
        split at hd
        · rename_i hc
          obtain ⟨j, hj, rfl⟩ := Option.map_eq_some_iff.mp hd
          obtain ⟨hj1, hj2, hj3⟩ := List.findIdx?_eq_some_iff_getElem.mp hj
          obtain ⟨ad2, xs2, e2, _, hD2⟩ := rowPy_rep k2'.low (r1.grow k2') hp
          cases e2
          exact ⟨ad, w, qy, ps, j, ps[j], rfl, rfl, hD2, r2.dp k2'.low hy, hc.2, hc.1, List.getElem?_eq_getElem hj1, hj2, fun m z' hm hz => by
            obtain ⟨hm1, rfl⟩ := List.getElem?_eq_some_iff.mp hz
            have := hj3 m hm
            simpa using this, hq _ G2' H2 (Ext.refl k2'.low) (by simp only [Rep])⟩
        · cases hd
      · cases hd
  exact OkE.of hv (fun _ => rfl) (funext fun ρ => by simp only [ev, fin]) (funext fun ρ => by simp only [ev, fin]) (funext fun ρ => by simp only [ev, fin]; rfl)
end
end Pu
/-! PuK: every expression that passes the check is worth what it is said to be. -/
namespace Pu
open PySem PySem.Spec PyProof.Rows L2

def ttOf (K : Frg) (Cl : ClT) (T : Tab) : Eo → TT
  | .no => tYes
  | .yes e => tT K Cl W0 (ev T e .tst)
theorem ttOf_ok {K : Frg} {Cl : ClT} {T : Tab} (c : Eo) : OkC K Cl (ttOf K Cl T c) (evc T c) := by
  intro σ H G0 H0 G ρ b Q sim e k
  cases c with
  | no =>
    simp only [evc] at e
    cases e
    exact k G H (Ext.refl sim.low)
  | yes x =>
    simp only [evc] at e
    refine ⟨G0, H0, G, ρ, sim, ?_⟩
    rw [e]
    exact k
theorem lc_lst (r : Res (List D)) (k : List D → Res (List D)) : ∀ d : D, (r.bind fun ds => (k ds).bind fun ys => Res.ok (D.lst ys)) = .ok d → ∃ ds, d = .lst ds := by
  intro d e
  cases r with
  | exc c ns ds => cases e
  | stuck => cases e
  | ok ds =>
    cases ek : k ds with
    | exc c ns ds => simp only [Res.bind, ek] at e; cases e
    | stuck => simp only [Res.bind, ek] at e; cases e
    | ok ys => simp only [Res.bind, ek] at e; cases e; exact ⟨_, rfl⟩
/-- the pieces of a comprehension -/
structure OkLc (X : Cx) (Cl : ClT) (W : WX) (T : Tab) (own : List (Str × Nat)) (elt : E) (tg : Tg) (it : It) (c : Eo) (x t i : Expr) (ifs : List Expr) (s2 : Scope) : Prop where
  pi : PI X t i (tI X.K Cl W true (evi T it true))
  blk : BlkOk X.N X.env.scope s2 own
  pg : ∀ (s : Shared) (H : Hp) (C : Addr) (cl : List (Str × Addr)) (fp : List Addr), PG (X.blk s H s2 (compEnvC s2 cl C X.env) fp) t (gT X.K tg)
  pt : ∀ (s : Shared) (H : Hp) (C : Addr) (cl : List (Str × Addr)) (fp : List Addr), PTs (X.blk s H s2 (compEnvC s2 cl C X.env) fp) ifs (ttOf X.K Cl T c)
  pe : ∀ (s : Shared) (H : Hp) (C : Addr) (cl : List (Str × Addr)) (fp : List Addr), PE (X.blk s H s2 (compEnvC s2 cl C X.env) fp) x (tE X.K Cl W0 (ev T elt .val))
  fold : ∀ x, foldedSetIterable i X.env x = pure x
  mem : ∀ j ∈ tgSlots tg, j ∈ own.map (·.2)
section
variable {X : Cx} {Cl : ClT} {W : WX} {T : Tab} {N : List Str} {sc : Scope} {lv : Nat}
theorem XOk.blk (ok : XOk X N sc T Cl lv) (s2 : Scope) (s : Shared) (H : Hp) (C : Addr) (cl : List (Str × Addr)) (fp : List Addr) : XOk (X.blk s H s2 (compEnvC s2 cl C X.env) fp) N (relS s2 sc) T Cl lv :=
  ⟨ok.names, by show relS s2 X.env.scope = _; rw [ok.scope], ok.calm, ok.nd, ok.room, ok.facts⟩
theorem may_blk (s2 : Scope) (s : Shared) (H : Hp) (C : Addr) (cl : List (Str × Addr)) (fp : List Addr) : ∀ x, locB s2 x = true → MayStore (X.blk s H s2 (compEnvC s2 cl C X.env) fp) x := by
  intro x hx
  rcases loc_of hx with h | h
  · have k : (relS s2 X.env.scope).names.lookup x = some .local := lookup_relS_keep (by decide) h
    exact ⟨.inl k, .inr k⟩
  · have k : (relS s2 X.env.scope).names.lookup x = some .cell := lookup_relS_keep (by decide) h
    refine ⟨.inr k, .inl ?_⟩
    show (s2.names.lookup x == some NameKind.cell) = true
    rw [h]
    rfl
theorem r_lc (ok : XOk X N sc T Cl lv) {own : List (Str × Nat)} {elt : E} {tg : Tg} {it : It} {c : Eo} {x t i : Expr} {ifs : List Expr} {s2 : Scope} {pos : Pos} (h : OkLc X Cl W T own elt tg it c x t i ifs s2) :
    OkE X Cl W T (.lc own elt tg it c) (.ListComp x [⟨t, i, ifs, 0⟩] s2 pos) := by
  have hv : PE X (.ListComp x [⟨t, i, ifs, 0⟩] s2 pos) (tE X.K Cl W fun ρ => (evi T it true ρ).bind fun ds => (lcL (asg tg) (evc T c) (ev T elt .val) (wipeR ρ (own.map (·.2))) ds).bind fun ys => .ok (.lst ys)) :=
    PE.imp (pe_lc ok.calm ok.nd h.pi h.blk h.pg h.pt h.pe h.fold) fun σ H Q hq => lc_red (ttOf_ok c) h.mem (by
      obtain ⟨G0, H0, G, ρ, sim, q⟩ := hq
      exact ⟨G0, H0, G, ρ, sim, PostE.toF q (lc_lst _ _)⟩)
  exact OkE.of hv (fun _ => rfl) (funext fun ρ => by simp only [ev, fin]) (funext fun ρ => by simp only [ev, fin]) (funext fun ρ => by simp only [ev, fin]; rfl)
end

theorem kwLen : ∀ {kws : List Keyword}, kwAll kws = true → (kwVals kws).length = (kwNames kws).length
  | [], _ => rfl
  | ⟨some x, e, _⟩ :: ks, h => by
    show (kwVals ks).length + 1 = (kwNames ks).length + 1
    rw [kwLen (kws := ks) h]
  | ⟨none, _, _⟩ :: _, h => by cases h
mutual
theorem sndE : ∀ (ir : E) {N : List Str} {sc : Scope} {e : Expr}, chk N sc ir e = true → ∀ {X : Cx} {Cl : ClT} {W : WX} {T : Tab} {lv : Nat}, XOk X N sc T Cl lv → Takes X W → OkE X Cl W T ir e
  | .var i, N, sc, e, h, X, Cl, W, T, lv, ok, tk => by
    simp only [chk] at h
    split at h
    · simp only [Bool.and_eq_true, decide_eq_true_eq] at h
      exact r_var ok h.1.1.1 h.1.1.2 h.1.2 h.2
    · cases h
  | .non, N, sc, e, h, X, Cl, W, T, lv, ok, tk => by
    simp only [chk] at h
    split at h
    · exact r_const (d := .non) pe_non (fun H => by simp only [Rep]) (fun _ => rfl) fun m ρ => by simp only [ev]
    · cases h
  | .bl b, N, sc, e, h, X, Cl, W, T, lv, ok, tk => by
    simp only [chk] at h
    split at h
    · simp only [decide_eq_true_eq] at h
      subst h
      exact r_const (d := .bl b) pe_bl (fun H => by simp only [Rep]) (fun _ => rfl) fun m ρ => by simp only [ev]
    · cases h
  | .int b, N, sc, e, h, X, Cl, W, T, lv, ok, tk => by
    simp only [chk] at h
    split at h
    · simp only [decide_eq_true_eq] at h
      subst h
      exact r_const (d := .int b) pe_int (fun H => by simp only [Rep]) (fun _ => rfl) fun m ρ => by simp only [ev]
    · cases h
  | .str b, N, sc, e, h, X, Cl, W, T, lv, ok, tk => by
    simp only [chk] at h
    split at h
    · simp only [decide_eq_true_eq] at h
      subst h
      exact r_const (d := .str b) pe_str (fun H => by simp only [Rep]) (fun _ => rfl) fun m ρ => by simp only [ev]
    · cases h
  | .glob x, N, sc, e, h, X, Cl, W, T, lv, ok, tk => by
    simp only [chk] at h
    split at h
    · simp only [Bool.and_eq_true, decide_eq_true_eq] at h
      obtain ⟨⟨rfl, h2⟩, h3⟩ := h
      exact r_glob ok h2 h3
    · cases h
  | .bin o a b, N, sc, e, h, X, Cl, W, T, lv, ok, tk => by
    simp only [chk] at h
    split at h
    · simp only [Bool.and_eq_true, decide_eq_true_eq] at h
      obtain ⟨⟨rfl, h2⟩, h3⟩ := h
      exact r_bin (sndE a h2 ok tk) (sndE b h3 ok tk)
    · cases h
  | .neg a, N, sc, e, h, X, Cl, W, T, lv, ok, tk => by
    simp only [chk] at h
    split at h
    · exact r_neg (sndE a h ok tk)
    · cases h
  | .cmp o a b, N, sc, e, h, X, Cl, W, T, lv, ok, tk => by
    simp only [chk] at h
    split at h
    · simp only [Bool.and_eq_true, decide_eq_true_eq, Bool.not_eq_true'] at h
      obtain ⟨⟨⟨rfl, h2⟩, h3⟩, h4⟩ := h
      exact r_cmp ok (sndE a h2 ok tk) (sndE b h3 ok tk) h4
    · cases h
  | .cmp2 o o2 a b c, N, sc, e, h, X, Cl, W, T, lv, ok, tk => by
    simp only [chk] at h
    split at h
    · simp only [Bool.and_eq_true, decide_eq_true_eq, Bool.not_eq_true'] at h
      obtain ⟨⟨⟨⟨⟨rfl, rfl⟩, h2⟩, h3⟩, h4⟩, h5⟩ := h
      exact r_cmp2 ok (sndE a h2 ok tk) (sndE b h3 ok tk) (sndE c h4 ok tk) h5
    · cases h
  | .not_ a, N, sc, e, h, X, Cl, W, T, lv, ok, tk => by
    simp only [chk] at h
    split at h
    · exact r_not (sndE a h ok tk)
    · cases h
  | .ands xs, N, sc, e, h, X, Cl, W, T, lv, ok, tk => by
    simp only [chk] at h
    split at h
    · simp only [Bool.and_eq_true, Bool.not_eq_true'] at h
      exact r_ands (sndRow xs h.1 h.2 ok tk)
    · cases h
  | .ors xs, N, sc, e, h, X, Cl, W, T, lv, ok, tk => by
    simp only [chk] at h
    split at h
    · simp only [Bool.and_eq_true, Bool.not_eq_true'] at h
      exact r_ors (sndRow xs h.1 h.2 ok tk)
    · cases h
  | .ife c a b, N, sc, e, h, X, Cl, W, T, lv, ok, tk => by
    simp only [chk] at h
    split at h
    · simp only [Bool.and_eq_true] at h
      exact r_ife (sndE c h.1.1 ok tk) (sndE a h.1.2 ok tk) (sndE b h.2 ok tk)
    · cases h
  | .call f xs, N, sc, e, h, X, Cl, W, T, lv, ok, tk => by
    simp only [chk] at h
    split at h
    · simp only [Bool.and_eq_true, decide_eq_true_eq, Bool.not_eq_true'] at h
      obtain ⟨⟨⟨⟨rfl, h2⟩, h3⟩, h4⟩, h5⟩ := h
      rename_i es _
      cases xs with
      | nil => cases h5
      | cons y ys =>
        cases es with
        | nil => simp only [chks] at h4; cases h4
        | cons z zs =>
          have h6 := h4
          simp only [chks, Bool.and_eq_true, Bool.not_eq_true'] at h6
          exact r_call ok tk h2 h3 (sndEs (.cons y ys) h4 ok tk) (sndEs ys h6.2 ok tk) h6.1.2
    · cases h
  | .callk f xs ks ys, N, sc, e, h, X, Cl, W, T, lv, ok, tk => by
    simp only [chk] at h
    split at h
    · simp only [Bool.and_eq_true, decide_eq_true_eq, Bool.not_eq_true'] at h
      obtain ⟨⟨⟨⟨⟨⟨⟨rfl, h2⟩, h3⟩, h4⟩, h5⟩, h6⟩, h7⟩, h8⟩ := h
      rename_i _ es kws _
      cases xs with
      | nil => cases h5
      | cons y zs =>
        cases es with
        | nil => simp only [chks] at h4; cases h4
        | cons w ws =>
          have h9 := h4
          simp only [chks, Bool.and_eq_true, Bool.not_eq_true'] at h9
          refine r_callk ok tk h2 h3 (sndEs (.cons y zs) h4 ok tk) (sndEs zs h9.2 ok tk) h9.1.2 h6 h7 (sndEs ys h8 ok tk) ?_
          rw [chks_len h8, ← h7]
          exact kwLen h6
    · cases h
  | .bi b xs, N, sc, e, h, X, Cl, W, T, lv, ok, tk => by
    simp only [chk] at h
    split at h
    · simp only [Bool.and_eq_true, decide_eq_true_eq, Bool.not_eq_true'] at h
      obtain ⟨⟨⟨rfl, h2⟩, h4⟩, h5⟩ := h
      rename_i _ es _
      cases xs with
      | nil => cases h5
      | cons y ys =>
        cases es with
        | nil => simp only [chks] at h4; cases h4
        | cons z zs =>
          have h6 := h4
          simp only [chks, Bool.and_eq_true, Bool.not_eq_true'] at h6
          exact r_bi ok h2 (sndEs (.cons y ys) h4 ok tk) (sndEs ys h6.2 ok tk) h6.1.2
    · cases h
  | .isi a ts, N, sc, e, h, X, Cl, W, T, lv, ok, tk => by
    simp only [chk] at h
    split at h
    · simp only [Bool.and_eq_true, decide_eq_true_eq, Bool.not_eq_true'] at h
      obtain ⟨⟨⟨⟨⟨⟨rfl, h2⟩, h3⟩, h4⟩, h5⟩, h6⟩, h7⟩ := h
      exact r_isi ok h2 (sndE a h3 ok tk) h6 h4 h7 h5
    · cases h
  | .isi1 a t, N, sc, e, h, X, Cl, W, T, lv, ok, tk => by
    simp only [chk] at h
    split at h
    · simp only [Bool.and_eq_true, decide_eq_true_eq, Bool.not_eq_true'] at h
      obtain ⟨⟨⟨⟨⟨rfl, h2⟩, h3⟩, rfl⟩, h5⟩, h6⟩ := h
      exact r_isi1 ok h2 (sndE a h3 ok tk) h6 h5
    · cases h
  | .fld a f, N, sc, e, h, X, Cl, W, T, lv, ok, tk => by
    simp only [chk] at h
    split at h
    · simp only [Bool.and_eq_true, decide_eq_true_eq, Bool.not_eq_true'] at h
      obtain ⟨⟨rfl, h2⟩, h3⟩ := h
      exact r_fld ok (sndE a h2 ok tk) h3
    · cases h
  | .idx a b, N, sc, e, h, X, Cl, W, T, lv, ok, tk => by
    simp only [chk] at h
    split at h
    · simp only [Bool.and_eq_true, Bool.not_eq_true'] at h
      exact r_idx (sndE a h.1.1 ok tk) (sndE b h.1.2 ok tk) h.2
    · cases h
  | .slc a lo hi, N, sc, e, h, X, Cl, W, T, lv, ok, tk => by
    simp only [chk] at h
    split at h
    · simp only [Bool.and_eq_true] at h
      exact r_slc (sndE a h.1.1 ok tk) (sndEo lo h.1.2 ok tk) (sndEo hi h.2 ok tk)
    · cases h
  | .tup xs, N, sc, e, h, X, Cl, W, T, lv, ok, tk => by
    simp only [chk] at h
    split at h
    · simp only [Bool.and_eq_true, decide_eq_true_eq] at h
      exact r_tup (sndEs xs h.1 ok tk) (chks_len h.1) h.2
    · cases h
  | .lst xs, N, sc, e, h, X, Cl, W, T, lv, ok, tk => by
    simp only [chk] at h
    split at h
    · simp only [Bool.and_eq_true, decide_eq_true_eq] at h
      exact r_lst (sndEs xs h.1 ok tk) (chks_len h.1) h.2
    · cases h
  | .bad, N, sc, e, h, X, Cl, W, T, lv, ok, tk => by
    refine ⟨⟨fun pins s σ H Q I ⟨G0, H0, G, ρ, sim, q⟩ => ?_⟩, ⟨fun pins s σ H Q I ⟨G0, H0, G, ρ, sim, q⟩ => ?_⟩, ⟨fun pins s σ H Q I ⟨G0, H0, G, ρ, sim, q⟩ => ?_⟩⟩
    · simp only [ev] at q
      exact q.elim
    · simp only [ev] at q
      exact q.elim
    · simp only [ev] at q
      exact q.elim
  | .lenm a, N, sc, e, h, X, Cl, W, T, lv, ok, tk => by
    simp only [chk] at h
    split at h
    · simp only [Bool.and_eq_true, decide_eq_true_eq, Bool.not_eq_true'] at h
      obtain ⟨⟨⟨rfl, h2⟩, h3⟩, h4⟩ := h
      exact r_lenm ok tk h2 (sndE a h3 ok tk) h4
    · cases h
  | .meth a f xs, N, sc, e, h, X, Cl, W, T, lv, ok, tk => by
    simp only [chk] at h
    split at h
    · simp only [Bool.and_eq_true, decide_eq_true_eq, Bool.not_eq_true'] at h
      obtain ⟨⟨⟨⟨⟨rfl, h2⟩, h3⟩, h4⟩, h5⟩, h6⟩ := h
      rename_i o m ap es cp
      cases xs with
      | nil =>
        cases es with
        | nil => exact r_meth0 ok tk (sndE a h2 ok tk) h4 h5
        | cons _ _ => simp only [chks] at h3; cases h3
      | cons y ys =>
        cases es with
        | nil => simp only [chks] at h3; cases h3
        | cons w ws =>
          have h9 := h3
          simp only [chks, Bool.and_eq_true, Bool.not_eq_true'] at h9
          exact r_meth ok tk (sndE a h2 ok tk) (sndEs (.cons y ys) h3 ok tk) (sndEs ys h9.2 ok tk) h9.1.2 h4 h5 h6
    · cases h
  | .gcd xs, N, sc, e, h, X, Cl, W, T, lv, ok, tk => by
    simp only [chk] at h
    split at h
    · simp only [Bool.and_eq_true, decide_eq_true_eq, Bool.not_eq_true'] at h
      obtain ⟨⟨⟨rfl, h2⟩, h4⟩, h5⟩ := h
      rename_i _ es _
      cases xs with
      | nil => cases h5
      | cons y ys =>
        cases es with
        | nil => simp only [chks] at h4; cases h4
        | cons z zs =>
          have h6 := h4
          simp only [chks, Bool.and_eq_true, Bool.not_eq_true'] at h6
          exact r_gcd ok h2 (sndEs (.cons y ys) h4 ok tk) (sndEs ys h6.2 ok tk) h6.1.2
    · cases h
  | .sqr t a, N, sc, e, h, X, Cl, W, T, lv, ok, tk => by
    simp only [chk] at h
    split at h
    · simp only [Bool.and_eq_true, decide_eq_true_eq, Bool.not_eq_true'] at h
      obtain ⟨⟨⟨⟨⟨rfl, h2⟩, rfl⟩, h4⟩, h5⟩, h6⟩ := h
      exact r_sqr ok h2 h4 (sndE a h5 ok tk) h6
    · cases h
  | .sq1 t a, N, sc, e, h, X, Cl, W, T, lv, ok, tk => by
    simp only [chk] at h
    split at h
    · simp only [Bool.and_eq_true, decide_eq_true_eq, Bool.not_eq_true'] at h
      obtain ⟨⟨⟨⟨⟨rfl, h2⟩, rfl⟩, h4⟩, h5⟩, h6⟩ := h
      exact r_sq1 ok h2 h4 (sndE a h5 ok tk) h6
    · cases h
  | .sq2 t a b, N, sc, e, h, X, Cl, W, T, lv, ok, tk => by
    simp only [chk] at h
    split at h
    · simp only [Bool.and_eq_true, decide_eq_true_eq, Bool.not_eq_true'] at h
      obtain ⟨⟨⟨⟨⟨⟨⟨rfl, h2⟩, rfl⟩, h4⟩, h5⟩, h6⟩, h7⟩, h8⟩ := h
      exact r_sq2 ok h2 h4 (sndE a h5 ok tk) (sndE b h6 ok tk) h7 h8
    · cases h
  | .fmt a, N, sc, e, h, X, Cl, W, T, lv, ok, tk => by
    simp only [chk] at h
    split at h
    · exact r_fmt (sndE a h ok tk)
    · cases h
  | .joined xs, N, sc, e, h, X, Cl, W, T, lv, ok, tk => by
    simp only [chk] at h
    split at h
    · simp only [Bool.and_eq_true, decide_eq_true_eq] at h
      exact r_joined (sndJ xs h.1 ok tk) h.2
    · cases h
  | .idxof a b, N, sc, e, h, X, Cl, W, T, lv, ok, tk => by
    simp only [chk] at h
    split at h
    · simp only [Bool.and_eq_true, decide_eq_true_eq, Bool.not_eq_true'] at h
      obtain ⟨⟨⟨⟨⟨rfl, h2⟩, h3⟩, h4⟩, h5⟩, h6⟩ := h
      exact r_idxof ok (sndE a h2 ok tk) (sndE b h3 ok tk) h4 h5 h6
    · cases h
  | .lc own elt tg it c, N, sc, e, h, X, Cl, W, T, lv, ok, tk => by
    simp only [chk] at h
    split at h
    · simp only [Bool.and_eq_true, Bool.not_eq_true'] at h
      obtain ⟨⟨⟨⟨⟨⟨⟨h1, h2⟩, h3⟩, h4⟩, h5⟩, h6⟩, h7⟩, h8⟩ := h
      refine r_lc ok ⟨sndI it h5 ok tk _ true, by rw [ok.names, ok.scope]; exact blkOk_by h1, fun s H C cl fp => pg_tgt (ok.blk _ s H C cl fp) (may_blk _ s H C cl fp) h4, fun s H C cl fp => ?_, fun s H C cl fp => (sndE elt h7 (ok.blk _ s H C cl fp) takes0).v, set_ok h6, ?_⟩
      · cases c with
        | no =>
          simp only [chkc] at h8
          split at h8
          · exact pts_nil
          · cases h8
        | yes y =>
          simp only [chkc] at h8
          split at h8
          · exact pts_one (sndE y h8 (ok.blk _ s H C cl fp) takes0).t
          · cases h8
      · intro j hj
        cases tg with
        | nm k =>
          have e1 : j = k := by simpa [tgSlots] using hj
          subst e1
          simpa using h3
        | tp ks =>
          rw [List.all_eq_true] at h3
          simpa using h3 j hj
    · cases h
theorem sndEs : ∀ (xs : Es) {N : List Str} {sc : Scope} {es : List Expr}, chks N sc xs es = true → ∀ {X : Cx} {Cl : ClT} {W : WX} {T : Tab} {lv : Nat}, XOk X N sc T Cl lv → Takes X W → OkArgs X Cl W T xs es
  | .nil, N, sc, es, h, X, Cl, W, T, lv, ok, tk => by
    simp only [chks] at h
    split at h
    · exact args_nil
    · cases h
  | .cons y ys, N, sc, es, h, X, Cl, W, T, lv, ok, tk => by
    simp only [chks] at h
    split at h
    · simp only [Bool.and_eq_true, Bool.not_eq_true'] at h
      exact args_cons (sndE y h.1.1 ok tk) h.1.2 (sndEs ys h.2 ok tk)
    · cases h
theorem sndJ : ∀ (xs : Es) {N : List Str} {sc : Scope} {es : List Expr}, chks N sc xs es = true → ∀ {X : Cx} {Cl : ClT} {W : WX} {T : Tab} {lv : Nat}, XOk X N sc T Cl lv → Takes X W → OkJ X Cl W T xs es
  | .nil, N, sc, es, h, X, Cl, W, T, lv, ok, tk => by
    simp only [chks] at h
    split at h
    · exact j_nil
    · cases h
  | .cons y ys, N, sc, es, h, X, Cl, W, T, lv, ok, tk => by
    simp only [chks] at h
    split at h
    · simp only [Bool.and_eq_true, Bool.not_eq_true'] at h
      exact j_cons (sndE y h.1.1 ok tk) (sndJ ys h.2 ok tk)
    · cases h
theorem sndRow : ∀ (xs : Es) {N : List Str} {sc : Scope} {es : List Expr}, chks N sc xs es = true → xs.isNil = false → ∀ {X : Cx} {Cl : ClT} {W : WX} {T : Tab} {lv : Nat}, XOk X N sc T Cl lv → Takes X W → OkRow X Cl W T xs es
  | .nil, N, sc, es, h, hn, X, Cl, W, T, lv, ok, tk => by cases hn
  | .cons y ys, N, sc, es, h, hn, X, Cl, W, T, lv, ok, tk => by
    simp only [chks] at h
    split at h
    · simp only [Bool.and_eq_true, Bool.not_eq_true'] at h
      cases ys with
      | nil =>
        rename_i w xs
        cases xs with
        | nil => exact row_one (sndE y h.1.1 ok tk)
        | cons _ _ => have := h.2; simp only [chks] at this; cases this
      | cons z zs =>
        rename_i w xs
        cases xs with
        | nil => have := h.2; simp only [chks] at this; cases this
        | cons _ _ => exact row_cons (sndE y h.1.1 ok tk) (sndRow (.cons z zs) h.2 rfl ok tk)
    · cases h
theorem sndEo : ∀ (o : Eo) {N : List Str} {sc : Scope} {e : Option Expr}, chko N sc o e = true → ∀ {X : Cx} {Cl : ClT} {W : WX} {T : Tab} {lv : Nat}, XOk X N sc T Cl lv → Takes X W → PrtOk X Cl W e (evo T o)
  | .no, N, sc, e, h, X, Cl, W, T, lv, ok, tk => by
    simp only [chko] at h
    split at h
    · simp only [evo]
      trivial
    · cases h
  | .yes x, N, sc, e, h, X, Cl, W, T, lv, ok, tk => by
    simp only [chko] at h
    split at h
    · simp only [evo]
      exact (sndE x h ok tk).b
    · cases h
theorem sndI : ∀ (it : It) {N : List Str} {sc : Scope} {e : Expr}, chkI N sc it e = true → ∀ {X : Cx} {Cl : ClT} {W : WX} {T : Tab} {lv : Nat}, XOk X N sc T Cl lv → Takes X W → ∀ (tg : Expr) (bor : Bool), PI X tg e (tI X.K Cl W bor (evi T it bor))
  | .seq x, N, sc, e, h, X, Cl, W, T, lv, ok, tk => fun tg bor => by
    simp only [chkI] at h
    have := pi_seq (tg := tg) (sndE x h ok tk) bor
    cases bor
    · rw [show evi T (.seq x) false = fun ρ => (ev T x (md false) ρ).bind itemsR from funext fun ρ => by simp only [evi, md]]; exact this
    · rw [show evi T (.seq x) true = fun ρ => (ev T x (md true) ρ).bind itemsR from funext fun ρ => by simp only [evi, md]]; exact this
  | .rng x, N, sc, e, h, X, Cl, W, T, lv, ok, tk => fun tg bor => by
    simp only [chkI] at h
    split at h
    · simp only [Bool.and_eq_true, decide_eq_true_eq, Bool.not_eq_true'] at h
      obtain ⟨⟨⟨rfl, h2⟩, h3⟩, h4⟩ := h
      rw [show evi T (.rng x) bor = fun ρ => (ev T x .bor ρ).bind fun y => rngR (.int 0) y from funext fun ρ => by cases bor <;> simp only [evi]]
      exact pi_rng ok h2 (sndE x h3 ok tk) h4 bor
    · cases h
  | .rng2 x y, N, sc, e, h, X, Cl, W, T, lv, ok, tk => fun tg bor => by
    simp only [chkI] at h
    split at h
    · simp only [Bool.and_eq_true, decide_eq_true_eq, Bool.not_eq_true'] at h
      obtain ⟨⟨⟨⟨⟨rfl, h2⟩, h3⟩, h4⟩, h5⟩, h6⟩ := h
      rw [show evi T (.rng2 x y) bor = fun ρ => (ev T x .bor ρ).bind fun x => (ev T y .bor ρ).bind fun y => rngR x y from funext fun ρ => by cases bor <;> simp only [evi]]
      exact pi_rng2 ok h2 (sndE x h3 ok tk) (sndE y h4 ok tk) h5 h6 bor
    · cases h
  | .rev x, N, sc, e, h, X, Cl, W, T, lv, ok, tk => fun tg bor => by
    simp only [chkI] at h
    split at h
    · simp only [Bool.and_eq_true, decide_eq_true_eq, Bool.not_eq_true'] at h
      obtain ⟨⟨⟨rfl, h2⟩, h3⟩, h4⟩ := h
      cases bor
      · rw [show evi T (.rev x) false = fun ρ => (ev T x (md false) ρ).bind revR from funext fun ρ => by simp only [evi, md]]; exact pi_rev ok h2 (sndE x h3 ok tk) h4 false
      · rw [show evi T (.rev x) true = fun ρ => (ev T x (md true) ρ).bind revR from funext fun ρ => by simp only [evi, md]]; exact pi_rev ok h2 (sndE x h3 ok tk) h4 true
    · cases h
end
theorem sndLc {own : List (Str × Nat)} {elt : E} {tg : Tg} {it : It} {c : Eo} {N : List Str} {sc : Scope} {x t i : Expr} {ifs : List Expr} {s2 : Scope} {p : Pos} (h : chk N sc (.lc own elt tg it c) (.ListComp x [⟨t, i, ifs, 0⟩] s2 p) = true)
    {X : Cx} {Cl : ClT} {W : WX} {T : Tab} {lv : Nat} (ok : XOk X N sc T Cl lv) (tk : Takes X W) : OkLc X Cl W T own elt tg it c x t i ifs s2 := by
  simp only [chk, Bool.and_eq_true, Bool.not_eq_true'] at h
  obtain ⟨⟨⟨⟨⟨⟨⟨h1, h2⟩, h3⟩, h4⟩, h5⟩, h6⟩, h7⟩, h8⟩ := h
  refine ⟨sndI it h5 ok tk _ true, by rw [ok.names, ok.scope]; exact blkOk_by h1, fun s H C cl fp => pg_tgt (ok.blk _ s H C cl fp) (may_blk _ s H C cl fp) h4, fun s H C cl fp => ?_, fun s H C cl fp => (sndE elt h7 (ok.blk _ s H C cl fp) takes0).v, set_ok h6, ?_⟩
  · cases c with
    | no =>
      simp only [chkc] at h8
      split at h8
      · exact pts_nil
      · cases h8
    | yes y =>
      simp only [chkc] at h8
      split at h8
      · exact pts_one (sndE y h8 (ok.blk _ s H C cl fp) takes0).t
      · cases h8
  · intro j hj
    cases tg with
    | nm k =>
      have e1 : j = k := by simpa [tgSlots] using hj
      subst e1
      simpa using h3
    | tp ks =>
      rw [List.all_eq_true] at h3
      simpa using h3 j hj
end Pu
/-! PuL: statements as a small language of their own, what they do to the slots, and when a piece of the program's text is such a statement. -/
namespace Pu
open PySem PySem.Spec PyProof.Rows L2

mutual
inductive S where
  | set (i : Nat) (e : E) | setT (tg : Tg) (e : E) | setI (i : Nat) (ix e : E) | app (i : Nat) (e : E) | exp (e : E)
  | ret (e : Eo) | ite (c : E) (a b : Ss) | for_ (tg : Tg) (it : It) (b : Ss) | whl (c : E) (b : Ss)
  | brk | cnt | pass
  | setF (i : Nat) (f : Str) (e : E) | bad
inductive Ss where
  | nil | cons (s : S) (ss : Ss)
end
/-- how a statement ends -/
inductive SR where
  | nx (ρ : Ro) | bk (ρ : Ro) | ct (ρ : Ro) | rt (d : D) | ex (ρ : Ro) (c : Str) (ns : List Str) (ds : List D) | stuck

/-! the slots whose lists are handed on as values -/
mutual
@[simp] def pv : E → Md → List Nat
  | .var i, .val => [i]
  | .var _, _ => []
  | .non, _ => []
  | .bl _, _ => []
  | .int _, _ => []
  | .str _, _ => []
  | .glob _, _ => []
  | .bin _ a b, _ => pv a .bor ++ pv b .bor
  | .neg a, _ => pv a .bor
  | .cmp _ a b, _ => pv a .bor ++ pv b .bor
  | .cmp2 _ _ a b c, _ => pv a .bor ++ pv b .bor ++ pv c .bor
  | .not_ a, .tst => pv a .tst
  | .not_ a, _ => pv a .val
  | .ands xs, .tst => pvs xs .tst
  | .ands xs, _ => pvs xs .val
  | .ors xs, .tst => pvs xs .tst
  | .ors xs, _ => pvs xs .val
  | .ife c a b, _ => pv c .tst ++ pv a .val ++ pv b .val
  | .call _ xs, _ => pvs xs .val
  | .callk _ xs _ ys, _ => pvs xs .val ++ pvs ys .val
  | .bi _ xs, _ => pvs xs .bor
  | .isi a _, _ => pv a .bor
  | .isi1 a _, _ => pv a .bor
  | .fld a _, _ => pv a .bor
  | .idx a b, _ => pv a .bor ++ pv b .bor
  | .slc a lo hi, _ => pv a .bor ++ pvo lo .bor ++ pvo hi .bor
  | .tup xs, _ => pvs xs .val
  | .lst xs, _ => pvs xs .val
  | .lc _ elt _ it c, _ => pvi it .bor ++ pv elt .val ++ pvo c .tst
  | .bad, _ => []
  | .lenm a, _ => pv a .val
  | .meth a _ xs, _ => pv a .val ++ pvs xs .val
  | .gcd xs, _ => pvs xs .bor
  | .sqr _ a, _ => pv a .bor
  | .sq1 _ a, _ => pv a .bor
  | .sq2 _ a b, _ => pv a .bor ++ pv b .bor
  | .fmt a, _ => pv a .bor
  | .joined xs, _ => pvs xs .bor
  | .idxof a b, _ => pv a .bor ++ pv b .bor
@[simp] def pvs : Es → Md → List Nat
  | .nil, _ => []
  | .cons e es, m => pv e m ++ pvs es m
@[simp] def pvo : Eo → Md → List Nat
  | .no, _ => []
  | .yes e, m => pv e m
@[simp] def pvi : It → Md → List Nat
  | .seq e, m => pv e m
  | .rng a, _ => pv a .bor
  | .rng2 a b, _ => pv a .bor ++ pv b .bor
  | .rev e, m => pv e m
end
@[simp] def isNew : E → Bool
  | .lst _ => true
  | .lc _ _ _ _ _ => true
  | _ => false
/-- an expression whose list is always a new one -/
@[simp] def fresh : E → Bool
  | .lst _ => true
  | .lc _ _ _ _ _ => true
  | .bi .list _ => true
  | .bin .Add a b => isNew a || isNew b
  | _ => false
@[simp] def slOf (e : E) (d : D) : Sl := match fresh e, d with
  | true, .lst ds => .own ds
  | _, d => .val d
def onD (ρ : Ro) (r : Res D) (k : D → SR) : SR := match r with
  | .ok d => k d
  | .exc c ns ds => .ex ρ c ns ds
  | .stuck => .stuck
def onB (ρ : Ro) (r : Res D) (a b : SR) : SR := match r with
  | .ok (.bl true) => a
  | .ok (.bl false) => b
  | .exc c ns ds => .ex ρ c ns ds
  | _ => .stuck
def ownR (ρ : Ro) (i : Nat) (k : List D → SR) : SR := match ρ[i]? with
  | some (.own ds) => k ds
  | _ => .stuck
def objR (ρ : Ro) (i : Nat) (k : Str → List Str → List D → SR) : SR := match ρ[i]? with
  | some (.obj c ns ds) => k c ns ds
  | _ => .stuck
def setFR (T : Tab) (ρ : Ro) (i : Nat) (f : Str) (d : D) (c : Str) (ns : List Str) (ds : List D) : SR :=
  if T.fd c f = true ∧ f ∉ ns ∧ ns.length < 999 then .nx (ρ.set i (.obj c (ns ++ [f]) (ds ++ [d]))) else .stuck
def appR (ρ : Ro) (i : Nat) (ds : List D) (d : D) : SR := if ds.length < sizeLine then .nx (ρ.set i (.own (ds ++ [d]))) else .stuck
def setIR (ρ : Ro) (i : Nat) (ds : List D) (d k : D) : SR := match k with
  | .int z => match ixN ds.length z with
    | some j => .nx (ρ.set i (.own (ds.set j d)))
    | none => .stuck
  | _ => .stuck
def asgR (tg : Tg) (ρ : Ro) (d : D) : SR := match asg tg d ρ with
  | some ρ' => .nx ρ'
  | none => .stuck
def forL (tg : Tg) (body : Ro → SR) : List D → Ro → SR
  | [], ρ => .nx ρ
  | d :: ds, ρ => match asg tg d ρ with
    | none => .stuck
    | some ρ1 => match body ρ1 with
      | .nx ρ2 => forL tg body ds ρ2
      | .ct ρ2 => forL tg body ds ρ2
      | .bk ρ2 => .nx ρ2
      | .rt d => .rt d
      | .ex ρ c ns ds => .ex ρ c ns ds
      | .stuck => .stuck
def forR (tg : Tg) (body : Ro → SR) (ρ : Ro) (r : Res (List D)) : SR := match r with
  | .ok ds => forL tg body ds ρ
  | .exc c ns ds => .ex ρ c ns ds
  | .stuck => .stuck
def whlL (ps : List Nat) (c : Ro → Res D) (body : Ro → SR) : Nat → Ro → SR
  | 0, _ => .stuck
  | n + 1, ρ => onB (pubs ps ρ) (c (pubs ps ρ)) (match body (pubs ps ρ) with
      | .nx ρ2 => whlL ps c body n ρ2
      | .ct ρ2 => whlL ps c body n ρ2
      | .bk ρ2 => .nx ρ2
      | .rt d => .rt d
      | .ex ρ c ns ds => .ex ρ c ns ds
      | .stuck => .stuck) (.nx (pubs ps ρ))
def thenR (r : SR) (k : Ro → SR) : SR := match r with
  | .nx ρ => k ρ
  | .bk ρ => .bk ρ
  | .ct ρ => .ct ρ
  | .rt d => .rt d
  | .ex ρ c ns ds => .ex ρ c ns ds
  | .stuck => .stuck
mutual
def ex (T : Tab) : S → Ro → SR
  | .set i e, ρ => onD (pubs (pv e .val) ρ) (ev T e .val (pubs (pv e .val) ρ)) fun d => .nx ((pubs (pv e .val) ρ).set i (slOf e d))
  | .setT tg e, ρ => onD (pubs (pv e .val) ρ) (ev T e .val (pubs (pv e .val) ρ)) fun d => asgR tg (pubs (pv e .val) ρ) d
  | .setI i ix e, ρ => onD (pubs (pv e .val ++ pv ix .bor) ρ) (ev T e .val (pubs (pv e .val ++ pv ix .bor) ρ)) fun d => ownR (pubs (pv e .val ++ pv ix .bor) ρ) i fun ds => onD (pubs (pv e .val ++ pv ix .bor) ρ) (ev T ix .bor (pubs (pv e .val ++ pv ix .bor) ρ)) fun k => setIR (pubs (pv e .val ++ pv ix .bor) ρ) i ds d k
  | .app i e, ρ => ownR (pubs (pv e .val) ρ) i fun ds => onD (pubs (pv e .val) ρ) (ev T e .val (pubs (pv e .val) ρ)) fun d => appR (pubs (pv e .val) ρ) i ds d
  | .exp e, ρ => onD (pubs (pv e .val) ρ) (ev T e .val (pubs (pv e .val) ρ)) fun _ => .nx (pubs (pv e .val) ρ)
  | .ret o, ρ => match o with
    | .no => .rt .non
    | .yes e => onD (pubs (pv e .val) ρ) (ev T e .val (pubs (pv e .val) ρ)) fun d => .rt d
  | .ite c a b, ρ => onB (pubs (pv c .tst) ρ) (ev T c .tst (pubs (pv c .tst) ρ)) (exs T a (pubs (pv c .tst) ρ)) (exs T b (pubs (pv c .tst) ρ))
  | .for_ tg it b, ρ => forR tg (exs T b) (pubs (pvi it .val) ρ) (evi T it false (pubs (pvi it .val) ρ))
  | .whl c b, ρ => whlL (pv c .tst) (ev T c .tst) (exs T b) T.fu ρ
  | .brk, ρ => .bk ρ
  | .cnt, ρ => .ct ρ
  | .pass, ρ => .nx ρ
  | .setF i f e, ρ => onD (pubs (pv e .val) ρ) (ev T e .val (pubs (pv e .val) ρ)) fun d => objR (pubs (pv e .val) ρ) i (setFR T (pubs (pv e .val) ρ) i f d)
  | .bad, _ => .stuck
def exs (T : Tab) : Ss → Ro → SR
  | .nil, ρ => .nx ρ
  | .cons s ss, ρ => thenR (ex T s ρ) (exs T ss)
end

/-! ### the text is such a statement -/
def isComp : Expr → Bool
  | .ListComp _ _ _ _ => true
  | .SetComp _ _ _ _ => true
  | .DictComp _ _ _ _ _ => true
  | _ => false
/-- a name that is a comprehension's own -/
def ownName (x : Str) : Expr → Bool
  | .ListComp _ _ s _ => s.names.any fun (n, k) => n == x && (k == .local || k == .cell)
  | _ => false
/-- how a comprehension is stored: straight on (by its line) or as any value -/
def lineOk (y : Pos) (x : Str) (sc : Scope) : Expr → Bool
  | .ListComp _ _ _ p => (y.line == p.line) && (match sc.names.lookup x with | some .local => true | some .cell => true | _ => false)
  | _ => true
def isTupE : Expr → Bool
  | .Tuple _ _ _ => true
  | _ => false
mutual
def chS (N : List Str) (sc : Scope) : S → Stmt → Bool
  | .set i e, ss => match ss with
    | .Assign [.Name x y] v _ => decide (N[i]? = some x) && locB sc x && decide (i < N.length) && chk N sc e v && lineOk y x sc v && !ownName x v
    | _ => false
  | .setT tg e, ss => match ss with
    | .Assign [.Tuple es k y] v _ => tgChk N sc tg (.Tuple es k y) && chk N sc e v && !isTupE v && !isComp v
    | _ => false
  | .setI i ix e, ss => match ss with
    | .Assign [.Subscript (.Name x _) k _] v _ => decide (N[i]? = some x) && visB sc x && decide (x ≠ "__debug__") && decide (x ≠ "__classdict__") && chk N sc ix k && chk N sc e v && !isSlc k && !isComp v
    | _ => false
  | .app i e, ss => match ss with
    | .Expr (.Call (.Attribute (.Name x _) m ap) [v] [] cp) _ => decide (N[i]? = some x) && visB sc x && decide (x ≠ "__debug__") && decide (x ≠ "__classdict__") && decide (m = "append") && chk N sc e v && !isStar v && (ap.endLine == cp.line)
    | _ => false
  | .exp e, ss => match ss with
    | .Expr v _ => chk N sc e v && !isComp v
    | _ => false
  | .ret o, ss => match ss with
    | .Return v _ => chko N sc o v
    | _ => false
  | .ite c a b, ss => match ss with
    | .If t x y _ => chk N sc c t && chSs N sc a x && chSs N sc b y
    | _ => false
  | .for_ tg it b, ss => match ss with
    | .For t i x [] _ => tgChk N sc tg t && chkI N sc it i && !isSet i && chSs N sc b x
    | _ => false
  | .whl c b, ss => match ss with
    | .While t x [] _ => chk N sc c t && chSs N sc b x
    | _ => false
  | .brk, ss => match ss with
    | .Break _ => true
    | _ => false
  | .cnt, ss => match ss with
    | .Continue _ => true
    | _ => false
  | .pass, ss => match ss with
    | .Pass _ => true
    | _ => false
  | .setF i f e, ss => match ss with
    | .Assign [.Attribute (.Name x _) g _] v _ => decide (N[i]? = some x) && visB sc x && decide (x ≠ "__debug__") && decide (x ≠ "__classdict__") && decide (f = g) && chk N sc e v && !isComp v
    | _ => false
  | .bad, _ => true
def chSs (N : List Str) (sc : Scope) : Ss → List Stmt → Bool
  | .nil, ss => match ss with
    | [] => true
    | _ => false
  | .cons s rest, ss => match ss with
    | x :: xs => chS N sc s x && chSs N sc rest xs
    | _ => false
end
end Pu
/-! PuM: every statement that passes the check does what it is said to do. -/
namespace Pu
open PySem PySem.Spec PyProof.Rows L2

def PostS (K : Frg) (Cl : ClT) (W : WX) (G0 : GX) (H0 G : Hp) (r : SR) (Z : Ends) : Prop := match r with
  | .nx ρ => ∀ σ H G', Sim K Cl G0 H0 G' H ρ σ → Same G G' → Z.nx σ H
  | .bk ρ => ∀ σ H G', Sim K Cl G0 H0 G' H ρ σ → Same G G' → Z.bk σ H
  | .ct ρ => ∀ σ H G', Sim K Cl G0 H0 G' H ρ σ → Same G G' → Z.ct σ H
  | .rt d => ∀ v G' H, Ext G0.g H0 G' H → Rep K Cl G' d v → Z.rt v H
  | .ex ρ c ns ds => ∀ σ H G' cls dd, Sim K Cl G0 H0 G' H ρ σ → ExcAt K Cl G' H c ns ds cls dd → W cls dd σ H
  | .stuck => False
def tS (K : Frg) (Cl : ClT) (W : WX) (G0 : GX) (H0 : Hp) (f : Ro → SR) : TS := fun Z σ H => ∃ G ρ, Sim K Cl G0 H0 G H ρ σ ∧ PostS K Cl W G0 H0 G (f ρ) Z
section
variable {K : Frg} {Cl : ClT} {W : WX} {G0 : GX} {H0 G G1 H H1 : Hp} {Z Z' : Ends} {r : SR} {ρ : Ro} {σ : L2.St}
theorem PostS.grow (s : Same G G1) (h : PostS K Cl W G0 H0 G r Z) : PostS K Cl W G0 H0 G1 r Z := by
  cases r with
  | nx ρ => exact fun σ H G' sim e => h σ H G' sim (s.trans e)
  | bk ρ => exact fun σ H G' sim e => h σ H G' sim (s.trans e)
  | ct ρ => exact fun σ H G' sim e => h σ H G' sim (s.trans e)
  | rt d => exact h
  | ex ρ c ns ds => exact h
  | stuck => exact h
/-- an expression ahead of the rest -/
theorem onD_run {d : Res D} {k : D → SR} (sim : Sim K Cl G0 H0 G H ρ σ) (h : PostS K Cl W G0 H0 G (onD ρ d k) Z) :
    PostE K Cl W G H σ d (fun v H1 => ∃ x G1, d = .ok x ∧ Ext G H G1 H1 ∧ Rep K Cl G1 x v ∧ PostS K Cl W G0 H0 G1 (k x) Z) := by
  cases d with
  | ok x => exact fun v G1 H1 e r => ⟨x, G1, rfl, e, r, PostS.grow e.vis h⟩
  | exc c ns ds => exact fun cls dd G1 H1 e x => h σ H1 G1 cls dd (sim.grow e) x
  | stuck => exact h
theorem onD_runB {d : Res D} {k : D → SR} (sim : Sim K Cl G0 H0 G H ρ σ) (h : PostS K Cl W G0 H0 G (onD ρ d k) Z) :
    PostB K Cl W G H σ d (fun v H1 => ∃ x G1, d = .ok x ∧ Ext G H G1 H1 ∧ RepB K Cl G1 H1 x v ∧ PostS K Cl W G0 H0 G1 (k x) Z) := by
  cases d with
  | ok x => exact fun v G1 H1 e r => ⟨x, G1, rfl, e, r, PostS.grow e.vis h⟩
  | exc c ns ds => exact fun cls dd G1 H1 e x => h σ H1 G1 cls dd (sim.grow e) x
  | stuck => exact h
theorem onD_runF {d : Res D} {k : D → SR} (sim : Sim K Cl G0 H0 G H ρ σ) (hl : ∀ x, d = .ok x → ∃ ds, x = .lst ds) (h : PostS K Cl W G0 H0 G (onD ρ d k) Z) :
    PostF K Cl W G H σ d (fun v H1 => ∃ ds p xs G1, d = .ok (.lst ds) ∧ v = .ref p ∧ Ext G H G1 H1 ∧ G1 p = none ∧ H p = none ∧ H1 p = some (.lst xs) ∧ Reps K Cl G1 ds xs ∧ PostS K Cl W G0 H0 G1 (k (.lst ds)) Z) := by
  cases d with
  | ok x =>
    obtain ⟨ds, rfl⟩ := hl x rfl
    exact fun p xs G1 H1 e g hp hx r => ⟨ds, p, xs, G1, rfl, rfl, e, g, hp, hx, r, PostS.grow e.vis h⟩
  | exc c ns ds => exact fun cls dd G1 H1 e x => h σ H1 G1 cls dd (sim.grow e) x
  | stuck => exact h
theorem onB_run {d : Res D} {a b : SR} (sim : Sim K Cl G0 H0 G H ρ σ) (h : PostS K Cl W G0 H0 G (onB ρ d a b) Z) :
    PostT K Cl W G H σ d (fun t H1 => ∃ G1, Ext G H G1 H1 ∧ PostS K Cl W G0 H0 G1 (if t = true then a else b) Z) := by
  cases d with
  | ok x =>
    cases x with
    | bl t =>
      intro G1 H1 e
      refine ⟨G1, e, PostS.grow e.vis ?_⟩
      cases t with
      | true => rw [if_pos rfl]; exact h
      | false => rw [if_neg Bool.false_ne_true]; exact h
    | _ => exact h
  | exc c ns ds => exact fun cls dd G1 H1 e x => h σ H1 G1 cls dd (sim.grow e) x
  | stuck => exact h
end

/-- where statements stand -/
structure XS (X : Cx) (N : List Str) (sc : Scope) (T : Tab) (Cl : ClT) (W : WX) (lv : Nat) : Prop where
  ok : XOk X N sc T Cl lv
  fn : ∀ x, X.fn x = true
  kind : X.env.scope.kind = .function
  po : PassesOwn (model X.prog X.w) X.A X.env X.xe
  tk : Takes X W

section
variable {X : Cx} {Cl : ClT} {W : WX} {T : Tab} {N : List Str} {sc : Scope} {lv : Nat} {G0 : GX} {H0 : Hp}
theorem PS.imp {s : Stmt} {t t' : TS} (h : PS X s t) (i : ∀ Z σ H, t' Z σ H → t Z σ H) : PS X s t' := ⟨fun pins s σ H Z I q => h.run pins s σ H Z I (i _ _ _ q)⟩
theorem PSs.imp {s : List Stmt} {t t' : TS} (h : PSs X s t) (i : ∀ Z σ H, t' Z σ H → t Z σ H) : PSs X s t' := ⟨fun pins s σ H Z I q => h.run pins s σ H Z I (i _ _ _ q)⟩
theorem XS.may (xs : XS X N sc T Cl W lv) : ∀ x, locB sc x = true → MayStore X x := fun x h => by
  refine ⟨?_, .inl (xs.fn x)⟩
  rw [xs.ok.scope]
  exact loc_of h
/-- what is handed on is shared first -/
theorem pubbed {is : List Nat} {f : Ro → SR} {Z : Ends} {σ : L2.St} {H : Hp} (h : tS X.K Cl W G0 H0 f Z σ H) : ∃ G ρ, Sim X.K Cl G0 H0 G H (pubs is ρ) σ ∧ PostS X.K Cl W G0 H0 G (f ρ) Z := by
  obtain ⟨G, ρ, sim, q⟩ := h
  obtain ⟨G', s', k⟩ := sim.pubs is
  exact ⟨G', ρ, s', PostS.grow k q⟩

/-! storing a name -/
theorem new_lst {e : E} (hf : isNew e = true) : ∀ {ρ : Ro} {d : D}, ev T e .bor ρ = .ok d → ∃ ds, d = .lst ds := by
  intro ρ d h
  cases e with
  | lst xs =>
    simp only [ev, fin] at h
    cases ee : evs T xs ρ with
    | exc c ns ds => rw [ee] at h; cases h
    | stuck => rw [ee] at h; cases h
    | ok ds => rw [ee] at h; cases h; exact ⟨_, rfl⟩
  | lc own elt tg it c =>
    simp only [ev, fin] at h
    exact lc_lst _ _ d h
  | _ => cases hf
theorem add_lstL {x y d : D} (h : addD x y = some d) (hx : ∃ ds, x = .lst ds) : ∃ xs ys, x = .lst xs ∧ y = .lst ys ∧ d = .lst (xs ++ ys) ∧ xs.length + ys.length ≤ sizeLine := by
  obtain ⟨xs, rfl⟩ := hx
  cases y with
  | lst ys =>
    by_cases c : xs.length + ys.length ≤ sizeLine
    · have e' := (if_pos c).symm.trans h
      cases e'
      exact ⟨xs, ys, rfl, rfl, rfl, c⟩
    · have e' := (if_neg c).symm.trans h
      cases e'
  | _ => cases h
theorem add_lstR {x y d : D} (h : addD x y = some d) (hy : ∃ ds, y = .lst ds) : ∃ xs ys, x = .lst xs ∧ y = .lst ys ∧ d = .lst (xs ++ ys) ∧ xs.length + ys.length ≤ sizeLine := by
  obtain ⟨ys, rfl⟩ := hy
  cases x with
  | lst xs => exact add_lstL h ⟨_, rfl⟩
  | _ => cases h
theorem bin_ok {f g : Ro → Res D} {F : D → D → Option D} {ρ : Ro} {d : D} (h : bin f g F ρ = .ok d) : ∃ x y, f ρ = .ok x ∧ g ρ = .ok y ∧ F x y = some d := by
  unfold bin at h
  cases e1 : f ρ with
  | exc c ns ds => rw [e1] at h; cases h
  | stuck => rw [e1] at h; cases h
  | ok x =>
    rw [e1] at h
    replace h : ((g ρ).bind fun y => Res.ofO (F x y)) = .ok d := h
    cases e2 : g ρ with
    | exc c ns ds => rw [e2] at h; cases h
    | stuck => rw [e2] at h; cases h
    | ok y =>
      rw [e2] at h
      replace h : Res.ofO (F x y) = .ok d := h
      cases e3 : F x y with
      | none => rw [e3] at h; cases h
      | some d' => rw [e3] at h; cases h; exact ⟨x, y, rfl, rfl, e3⟩
theorem cat_lst {a b : E} (hf : (isNew a || isNew b) = true) {ρ : Ro} {x y d : D} (h1 : ev T a .bor ρ = .ok x) (h2 : ev T b .bor ρ = .ok y) (h : addD x y = some d) : ∃ xs ys, x = .lst xs ∧ y = .lst ys ∧ d = .lst (xs ++ ys) ∧ xs.length + ys.length ≤ sizeLine := by
  cases e : isNew a with
  | true => exact add_lstL h (new_lst e h1)
  | false =>
    rw [e] at hf
    exact add_lstR h (new_lst hf h2)
/-- two expressions in a row, their lists laid one behind another -/
theorem twoF {f g : Ro → Res D} {σ : L2.St} {H : Hp} {Q : VK} {F : D → D → Option D} (h : tF X.K Cl W (bin f g F) σ H Q) (hF : ∀ ρ x y d, f ρ = .ok x → g ρ = .ok y → F x y = some d → ∃ xs ys, x = .lst xs ∧ y = .lst ys ∧ d = .lst (xs ++ ys) ∧ xs.length + ys.length ≤ sizeLine) :
    tB X.K Cl W f σ H fun v H1 => tB X.K Cl W g σ H1 fun w H2 => ∃ xs ys G2, Same G2 H2 ∧ RepB X.K Cl G2 H2 (.lst xs) v ∧ RepB X.K Cl G2 H2 (.lst ys) w ∧ xs.length + ys.length ≤ sizeLine ∧ ∀ p vs G' H', Ext G2 H2 G' H' → G' p = none → H2 p = none → H' p = some (.lst vs) → Reps X.K Cl G' (xs ++ ys) vs → Q (.ref p) H' := by
  obtain ⟨G0, H0, G, ρ, sim, h⟩ := h
  refine ⟨G0, H0, G, ρ, sim, ?_⟩
  cases e : f ρ with
  | exc c ns ds =>
    have e1 : bin f g F ρ = .exc c ns ds := by unfold bin; rw [e]; rfl
    rw [e1] at h; exact h
  | stuck =>
    have e1 : bin f g F ρ = .stuck := by unfold bin; rw [e]; rfl
    rw [e1] at h; exact h
  | ok x =>
    intro v G1 H1 k1 r1
    refine ⟨G0, H0, G1, ρ, sim.grow k1, ?_⟩
    cases e' : g ρ with
    | exc c ns ds =>
      have e1 : bin f g F ρ = .exc c ns ds := by unfold bin; rw [e]; show Res.bind (g ρ) _ = _; rw [e']; rfl
      rw [e1] at h
      exact PostX.grow k1 h
    | stuck =>
      have e1 : bin f g F ρ = .stuck := by unfold bin; rw [e]; show Res.bind (g ρ) _ = _; rw [e']; rfl
      rw [e1] at h; exact h.elim
    | ok y =>
      intro w G2 H2 k2 r2
      have e1 : bin f g F ρ = Res.ofO (F x y) := by unfold bin; rw [e]; show Res.bind (g ρ) _ = _; rw [e']; rfl
      rw [e1] at h
      cases e3 : F x y with
      | none => rw [e3] at h; exact h.elim
      | some d =>
        rw [e3] at h
        obtain ⟨xs, ys, rfl, rfl, rfl, hl⟩ := hF ρ x y d e e' e3
        exact ⟨xs, ys, G2, k2.low, r1.grow k2, r2, hl, fun p vs G' H' k3 g3 h3 h4 h5 => h p vs G' H' ((k1.trans k2).trans k3) g3 (Same.free (k1.trans k2).sub h3) h4 h5⟩
theorem fresh_lst {e : E} (hf : fresh e = true) : ∀ {ρ : Ro} {d : D}, ev T e .val ρ = .ok d → ∃ ds, d = .lst ds := by
  intro ρ d h
  cases e with
  | lst xs =>
    simp only [ev, fin] at h
    cases ee : evs T xs ρ with
    | exc c ns ds => rw [ee] at h; cases h
    | stuck => rw [ee] at h; cases h
    | ok ds => rw [ee] at h; cases h; exact ⟨_, rfl⟩
  | lc own elt tg it c =>
    simp only [ev, fin] at h
    exact lc_lst _ _ d h
  | bi b xs =>
    cases b with
    | list =>
      simp only [ev, fin] at h
      cases ee : evsB T xs ρ with
      | exc c ns ds => rw [ee] at h; cases h
      | stuck => rw [ee] at h; cases h
      | ok ds =>
        rw [ee] at h
        replace h : Res.ofO (BI.fn .list ds) = .ok d := h
        match ds with
        | [x] =>
          replace h : Res.ofO (listD x) = .ok d := h
          cases x with
          | lst ys => cases h; exact ⟨_, rfl⟩
          | frl ys => cases h; exact ⟨_, rfl⟩
          | tup ys => cases h; exact ⟨_, rfl⟩
          | _ => cases h
        | [] => cases h
        | _ :: _ :: _ => cases h
    | _ => cases hf
  | bin o a b =>
    cases o with
    | Add =>
      simp only [ev, fin] at h
      obtain ⟨x, y, h1, h2, h3⟩ := bin_ok h
      obtain ⟨xs, ys, rfl, rfl, rfl, _⟩ := cat_lst hf h1 h2 h3
      exact ⟨_, rfl⟩
    | _ => cases hf
  | _ => cases hf
/-- the rule of an expression that makes a new list -/
theorem pe_fresh (ok : XOk X N sc T Cl lv) (tk : Takes X W) {e : E} {v : Expr} (hf : fresh e = true) (h : chk N sc e v = true) : PE X v (tF X.K Cl W (ev T e .val)) := by
  cases e with
  | lst xs =>
    simp only [chk] at h
    split at h
    · simp only [Bool.and_eq_true, decide_eq_true_eq] at h
      refine PE.imp (pe_lst (sndEs xs h.1 ok tk).v) fun σ H Q hh => ?_
      obtain ⟨G0, H0, G, ρ, sim, q⟩ := hh
      refine ⟨G0, H0, G, ρ, sim, ?_⟩
      simp only [ev, fin] at q
      cases ee : evs T xs ρ with
      | exc c ns ds => rw [ee] at q; exact q
      | stuck => rw [ee] at q; exact q
      | ok ds =>
        rw [ee] at q
        intro vs G1 H1 k1 r1
        have hl := evs_len ee
        have hc := chks_len h.1
        refine ⟨by rw [← r1.length, hl, hc, sizeLine_eq]; omega, fun p hp => ?_⟩
        have gp : G1 p = none := Same.free k1.low hp
        refine q p vs G1 _ ⟨fun b u e => ?_, k1.vis, fun b u e => ?_, k1.hid⟩ gp (Same.free k1.sub hp) upd_same r1
        · rw [upd_ne (ne_of_none (k1.sub b u e) hp)]
          exact k1.sub b u e
        · rw [upd_ne (ne_of_none e gp)]
          exact k1.low b u e
    · cases h
  | lc own elt tg it c =>
    have h0 := h
    simp only [chk] at h
    split at h
    · have o := sndLc h0 ok tk
      refine PE.imp (pe_lc ok.calm ok.nd o.pi o.blk o.pg o.pt o.pe o.fold) fun σ H Q hq => lc_red (ttOf_ok c) o.mem ?_
      rw [show (ev T (.lc own elt tg it c) .val) = fun ρ => (evi T it true ρ).bind fun ds => (lcL (asg tg) (evc T c) (ev T elt .val) (wipeR ρ (own.map (·.2))) ds).bind fun ys => .ok (.lst ys) from funext fun ρ => by simp only [ev, fin]] at hq
      exact hq
    · cases h
  | bi b xs =>
    cases b with
    | list =>
      simp only [chk] at h
      split at h
      · simp only [Bool.and_eq_true, decide_eq_true_eq, Bool.not_eq_true'] at h
        obtain ⟨⟨⟨rfl, h2⟩, h4⟩, h5⟩ := h
        rename_i _ es _
        cases xs with
        | nil => cases h5
        | cons y ys =>
          cases es with
          | nil => simp only [chks] at h4; cases h4
          | cons z zs =>
            have h6 := h4
            simp only [chks, Bool.and_eq_true, Bool.not_eq_true'] at h6
            have hpl : ∀ pos, (backTo pos (starEach zs X.env)).any (·.1) = false := fun pos => by rw [back_any]; exact (sndEs ys h6.2 ok tk).st
            refine PE.imp (pe_callTy call_list_of (gl_of ok h2) (ok.facts.bi .list) (by decide +kernel) (sndEs (.cons y ys) h4 ok tk).b (by decide) (by decide) (star_cons h6.1.2) (hpl _)) fun σ H Q hh => ?_
            obtain ⟨G0, H0, G, ρ, sim, q⟩ := hh
            refine ⟨G0, H0, G, ρ, sim, ?_⟩
            simp only [ev, fin] at q
            cases ee : evsB T (.cons y ys) ρ with
            | exc c ns ds => rw [ee] at q; exact q
            | stuck => rw [ee] at q; exact q
            | ok ds =>
              rw [ee] at q
              intro vs G1 H1 k1 r1
              match ds, r1, q with
              | [x], r1, q =>
                obtain ⟨v, rfl, r2⟩ := r1.one
                have fin' : ∀ (ad : Addr) (ws : List V) (ds : List D), (SqL X.K H1 ad ws ∨ SqT X.K H1 ad ws) → Reps X.K Cl G1 ds ws → v = .ref ad → listD x = some (.lst ds) → ∃ p ys, [v] = [V.ref p] ∧ (SqL X.K H1 p ys ∨ SqT X.K H1 p ys) ∧ ∀ l, H1 l = none → Q (.ref l) (upd H1 l (.lst ys)) := fun ad ws ds hs hr ev el => by
                  subst ev
                  refine ⟨ad, ws, rfl, hs, fun p hp => ?_⟩
                  have gp : G1 p = none := Same.free k1.low hp
                  replace q : PostF X.K Cl W G H σ (Res.ofO (listD x)) Q := q
                  rw [el] at q
                  refine q p ws G1 _ ⟨fun b u e => ?_, k1.vis, fun b u e => ?_, k1.hid⟩ gp (Same.free k1.sub hp) upd_same hr
                  · rw [upd_ne (ne_of_none (k1.sub b u e) hp)]
                    exact k1.sub b u e
                  · rw [upd_ne (ne_of_none e gp)]
                    exact k1.low b u e
                cases x with
                | lst ds =>
                  obtain ⟨ad, ws, rfl, h1, h2⟩ := r2.lst k1.low
                  exact fin' ad ws ds (.inl (SqL.of h1)) h2 rfl rfl
                | frl ds =>
                  obtain ⟨ad, ws, rfl, h1, h2⟩ := r2.frl k1.low
                  exact fin' ad ws ds (.inl h1) h2 rfl rfl
                | tup ds =>
                  obtain ⟨ad, ws, rfl, h1, h2, _⟩ := r2.tup k1.low
                  exact fin' ad ws ds (.inr h1) h2 rfl rfl
                | _ => exact q.elim
              | [], _, q => exact q.elim
              | _ :: _ :: _, _, q => exact q.elim
      · cases h
    | _ => cases hf
  | bin o a b =>
    cases o with
    | Add =>
      simp only [chk] at h
      split at h
      · simp only [Bool.and_eq_true, decide_eq_true_eq] at h
        obtain ⟨⟨rfl, h2⟩, h3⟩ := h
        refine ⟨fun pins s σ H Q I hh => ?_⟩
        have hh' : tF X.K Cl W (bin (ev T a .bor) (ev T b .bor) addD) σ H Q := by
          rw [show (ev T (.bin .Add a b) .val) = bin (ev T a .bor) (ev T b .bor) addD from funext fun ρ => by simp only [ev, fin, binD]] at hh
          exact hh
        refine wpAny_BinOp (binT (sndE a h2 ok tk).b (sndE b h3 ok tk).b I (twoF hh' fun ρ x y d e1 e2 e3 => cat_lst hf e1 e2 e3) fun v u s2 x y H2 I2 rx ry q => ?_)
        obtain ⟨xs, ys, G2, sm, r1, r2, hl, hq⟩ := q
        obtain ⟨ad, vs, rfl, q1, q2⟩ := r1.lst sm
        obtain ⟨bd, ws, rfl, q3, q4⟩ := r2.lst sm
        refine op_cat pins s2 σ H2 _ _ _ _ Q I2 rx ry ⟨ad, bd, vs, ws, rfl, rfl, q1, q3, by rw [← q2.length, ← q4.length]; exact hl, fun p hp => ?_⟩
        have gp : G2 p = none := Same.free sm hp
        refine hq p (vs ++ ws) G2 _ ⟨fun b u e => ?_, fun _ _ e => e, fun b u e => ?_, fun _ e _ => e⟩ gp hp upd_same (q2.append q4)
        · rw [upd_ne (ne_of_none e hp)]
          exact e
        · rw [upd_ne (ne_of_none e gp)]
          exact sm b u e
      · cases h
    | _ => cases hf
  | _ => cases hf
theorem slOf_fresh {e : E} {ds : List D} (h : fresh e = true) : slOf e (.lst ds) = .own ds := by
  unfold slOf
  rw [h]
theorem slOf_not {e : E} {d : D} (h : fresh e = false) : slOf e d = .val d := by
  unfold slOf
  rw [h]
theorem no_swap {v : Expr} {x : Str} {y pos : Pos} (hk : X.env.scope.kind = .function) (hc : isComp v = false ∨ (∃ elt gs s p, v = .ListComp elt gs s p ∧ X.env.scope.names.lookup x ≠ some .local)) : swapsWith v (some (.Name x y)) pos.line X.env = pure false := by
  rcases hc with hc | ⟨elt, gs, s, p, rfl, hn⟩
  · cases v <;> first | rfl | cases hc
  · have e1 : (X.env.kindOf x == some NameKind.local) = false := by
      rw [beq_eq_false_iff_ne]
      exact hn
    unfold swapsWith
    simp only [e1, Bool.and_false, Bool.false_and]
theorem r_set (xs : XS X N sc T Cl W lv) {i : Nat} {e : E} {x : Str} {v : Expr} {y pos : Pos} (hN : N[i]? = some x) (hl : locB sc x = true) (hc : chk N sc e v = true) (hln : lineOk y x sc v = true) (hon : ownName x v = false) :
    PS X (.Assign [.Name x y] v pos) (tS X.K Cl W G0 H0 (ex T (.set i e))) := by
  have ok := xs.ok
  have hNx : X.N[i]? = some x := by rw [ok.names]; exact hN
  have hloc : Loc X.env.scope x := by rw [ok.scope]; exact loc_of hl
  -- the stored value, by its rule
  have store : ∀ {te : TE}, (∀ Z σ H, tS X.K Cl W G0 H0 (ex T (.set i e)) Z σ H → tAsg te (gName i) Z σ H) → PE X v te → (isComp v = true → ∀ elt gs s p, v = .ListComp elt gs s p → X.env.scope.names.lookup x ≠ some .local) → PS X (.Assign [.Name x y] v pos) (tS X.K Cl W G0 H0 (ex T (.set i e))) := fun {te} red hv hcell => by
    refine PS.imp (ps_set ok.nd hNx hloc hv (no_swap xs.kind ?_) (.inl (xs.fn x))) red
    cases hcv : isComp v with
    | false => exact .inl rfl
    | true =>
      cases v with
      | ListComp elt gs s p => exact .inr ⟨elt, gs, s, p, rfl, hcell hcv elt gs s p rfl⟩
      | SetComp _ _ _ _ => cases e <;> (simp only [chk] at hc; cases hc)
      | DictComp _ _ _ _ _ => cases e <;> (simp only [chk] at hc; cases hc)
      | _ => cases hcv
  have red1 : fresh e = false → ∀ Z σ H, tS X.K Cl W G0 H0 (ex T (.set i e)) Z σ H → tAsg (tE X.K Cl W (ev T e .val)) (gName i) Z σ H := fun hf Z σ H h => by
    obtain ⟨G, ρ, sim, q⟩ := pubbed (is := pv e .val) h
    simp only [ex] at q
    refine ⟨G0, H0, G, _, sim, headE (onD_run sim q) fun v G1 H1 _ ⟨d, G1', ed, k1, r1, q1⟩ => ?_⟩
    rw [slOf_not hf] at q1
    exact q1 _ _ G1' ((sim.grow k1).put i r1) (Same.refl _)
  have red2 : fresh e = true → ∀ Z σ H, tS X.K Cl W G0 H0 (ex T (.set i e)) Z σ H → tAsg (tF X.K Cl W (ev T e .val)) (gName i) Z σ H := fun hf Z σ H h => by
    obtain ⟨G, ρ, sim, q⟩ := pubbed (is := pv e .val) h
    simp only [ex] at q
    refine ⟨G0, H0, G, _, sim, ?_⟩
    have q2 := onD_runF sim (fun x hx => fresh_lst hf hx) q
    cases ee : ev T e .val (pubs (pv e .val) ρ) with
    | exc c ns ds => rw [ee] at q2; exact q2
    | stuck => rw [ee] at q2; exact q2
    | ok d =>
      rw [ee] at q2
      cases d with
      | lst ds =>
        intro p ws G1 H1 k1 g1 hp hx r1
        obtain ⟨ds', p', ws', G1', ed, ep, k1', g1', hp', hx', r1', q1⟩ := q2 p ws G1 H1 k1 g1 hp hx r1
        cases ed
        cases ep
        rw [slOf_fresh hf] at q1
        exact q1 _ _ G1' (sim.putNew i k1' hp' g1' hx' r1') (Same.refl _)
      | _ => exact q2
  cases hf : fresh e with
  | false =>
    refine store (red1 hf) (sndE e hc ok xs.tk).v fun hcv elt gs s p ev' => ?_
    subst ev'
    cases e with
    | lc _ _ _ _ _ => cases hf
    | _ => simp only [chk] at hc; cases hc
  | true =>
    cases hcv : isComp v with
    | false => exact store (red2 hf) (pe_fresh ok xs.tk hf hc) fun z => by rw [hcv] at z; cases z
    | true =>
      cases v with
      | ListComp elt gs s p =>
        by_cases hx : X.env.scope.names.lookup x = some .local
        · cases e with
          | lc own el tg it c =>
            have h0 := hc
            simp only [chk] at hc
            split at hc
            · rename_i x' t' i' ifs' s' p' heq
              cases heq
              have o := sndLc h0 ok xs.tk
              have hline : (y.line == p.line) = true := by
                simp only [lineOk, Bool.and_eq_true] at hln
                exact hln.1
              refine PS.imp (ps_setLc ok.calm ok.nd hNx hx (sw_true xs.kind hx hline hon) o.pi o.blk o.pg o.pt o.pe o.fold) fun Z σ H h => ?_
              have h2 := red2 hf Z σ H h
              refine lc_red (ttOf_ok c) o.mem ?_
              rw [show (ev T (.lc own el tg it c) .val) = fun ρ => (evi T it true ρ).bind fun ds => (lcL (asg tg) (evc T c) (ev T el .val) (wipeR ρ (own.map (·.2))) ds).bind fun ys => .ok (.lst ys) from funext fun ρ => by simp only [ev, fin]] at h2
              exact h2
            · cases hc
          | _ => simp only [chk] at hc; cases hc
        · exact store (red2 hf) (pe_fresh ok xs.tk hf hc) fun _ _ _ _ _ _ => hx
      | SetComp _ _ _ _ => cases e <;> (simp only [chk] at hc; cases hc)
      | DictComp _ _ _ _ _ => cases e <;> (simp only [chk] at hc; cases hc)
      | _ => cases hcv
end
end Pu
/-! PuN: the other statements, loops, blocks. -/
namespace Pu
open PySem PySem.Spec PyProof.Rows L2
section
variable {X : Cx} {Cl : ClT} {W : WX} {T : Tab} {N : List Str} {sc : Scope} {lv : Nat} {G0 : GX} {H0 : Hp}
theorem swap_none {v : Expr} {t : Option Expr} {l : Nat} {env : Env} (h : isComp v = false) : swapsWith v t l env = pure false := by
  cases v <;> first | rfl | cases h
theorem swap_sole {t v : Expr} {l : Nat} {env : Env} (h : isComp v = false) : swapsWithSole [t] v l env = pure false := by
  cases v <;> first | rfl | cases h
theorem swap_stores {t v : Expr} {env : Env} (h : isTupE v = false) : swappedStores [t] v env = pure none := by
  cases t <;> cases v <;> first | rfl | cases h
theorem asgR_inv {tg : Tg} {ρ : Ro} {d : D} {K : Frg} {G : Hp} {Z : Ends} (h : PostS K Cl W G0 H0 G (asgR tg ρ d) Z) : ∃ ρ', asg tg d ρ = some ρ' ∧ PostS K Cl W G0 H0 G (.nx ρ') Z := by
  unfold asgR at h
  split at h
  · rename_i ρ' e
    exact ⟨ρ', e, h⟩
  · exact h.elim
theorem r_setT (xs : XS X N sc T Cl W lv) {tg : Tg} {e : E} {es : List Expr} {k : Nat} {v : Expr} {y pos : Pos} (ht : tgChk N sc tg (.Tuple es k y) = true) (hc : chk N sc e v = true) (h1 : isTupE v = false) (h2 : isComp v = false) :
    PS X (.Assign [.Tuple es k y] v pos) (tS X.K Cl W G0 H0 (ex T (.setT tg e))) := by
  refine PS.imp (ps_asg (sndE e hc xs.ok xs.tk).v (pg_tgt xs.ok xs.may ht) (swap_sole h2) (swap_stores h1) rfl) fun Z σ H h => ?_
  obtain ⟨G, ρ, sim, q⟩ := pubbed (is := pv e .val) h
  simp only [ex] at q
  refine ⟨G0, H0, G, _, sim, headE (onD_run sim q) fun v G1 H1 _ ⟨d, G1', ed, k1, r1, q1⟩ => ?_⟩
  obtain ⟨ρ', ea, q2⟩ := asgR_inv q1
  exact gT_run (vs := tgSlots tg) (sim.grow k1) r1 ea (fun _ h => h) fun σ' s' _ => q2 σ' H1 G1' s' (Same.refl _)
theorem ownR_inv {ρ : Ro} {i : Nat} {k : List D → SR} {K : Frg} {G : Hp} {Z : Ends} (h : PostS K Cl W G0 H0 G (ownR ρ i k) Z) : ∃ ds, ρ[i]? = some (.own ds) ∧ PostS K Cl W G0 H0 G (k ds) Z := by
  unfold ownR at h
  split at h
  · rename_i ds e
    exact ⟨ds, e, h⟩
  · exact h.elim
/-- x[k] = v, x a list of the frame's own -/
theorem r_setI (xs : XS X N sc T Cl W lv) {i : Nat} {ix e : E} {x : Str} {k v : Expr} {p y pos : Pos} (hN : N[i]? = some x) (hv : visB sc x = true) (h1 : x ≠ "__debug__") (h2 : x ≠ "__classdict__") (hk : chk N sc ix k = true) (hc : chk N sc e v = true)
    (hs : isSlc k = false) (hcv : isComp v = false) : PS X (.Assign [.Subscript (.Name x p) k y] v pos) (tS X.K Cl W G0 H0 (ex T (.setI i ix e))) := by
  have ha : ∀ w, assign (.Subscript (.Name x p) k y) X.env w = (do
      let ov ← holding [w] (eval (.Name x p) X.env)
      let iv ← holding [w, ov] (eval k X.env)
      standAt y
      holding [w, ov, iv] (setItem ov iv w)
      release [w, ov, iv] []) := fun w => by
    cases k <;> first | rfl | cases hs
  have base : PE X (.Name x p) (tVar i) := pe_var (by rw [xs.ok.names]; exact hN) (vis_of' xs.ok hv) (ne_dbg h1) (beq_eq_false_iff_ne.mpr h2)
  refine PS.imp (ps_asg (sndE e hc xs.ok xs.tk).v (pg_sub base (sndE ix hk xs.ok xs.tk).b set_list ha) (swap_sole hcv) (by cases v <;> rfl) rfl) fun Z σ H h => ?_
  obtain ⟨G, ρ, sim, q⟩ := pubbed (is := pv e .val ++ pv ix .bor) h
  simp only [ex] at q
  refine ⟨G0, H0, G, _, sim, headE (onD_run sim q) fun v G1 H1 _ ⟨d, G1', ed, k1, r1, q1⟩ => ?_⟩
  have s1 := sim.grow k1
  show tVar i σ H1 fun o H2 => tB X.K Cl W (ev T ix .bor) σ H2 fun j H3 => rSetL o j v H3 fun H4 => Z.nx σ H4
  obtain ⟨ds, hi, q2⟩ := ownR_inv q1
  obtain ⟨ad, ws, e1, _, _, e4, r4⟩ := s1.own i ds hi
  refine ⟨_, e1, G0, H0, G1', _, s1, headB (onD_runB s1 q2) fun w G2 H2 _ ⟨kk, G2', ek, k2, r2, q3⟩ => ?_⟩
  have s2 := s1.grow k2
  cases kk with
  | int z =>
    cases r2.int
    replace q3 : PostS X.K Cl W G0 H0 G2' (match ixN ds.length z with
      | some j => .nx ((pubs (pv e .val ++ pv ix .bor) ρ).set i (.own (ds.set j d)))
      | none => .stuck) Z := q3
    cases hj : ixN ds.length z with
    | none => rw [hj] at q3; exact q3.elim
    | some j =>
      rw [hj] at q3
      refine ⟨ad, ws, z, j, rfl, rfl, k2.sub _ _ e4, by rw [← r4.length]; exact hj, ?_⟩
      exact q3 σ _ G2' (s2.chg hi e1 (k2.sub _ _ e4) ((r4.mono k2.vis).set (r1.mono k2.vis) j)) (Same.refl _)
  | _ => exact q3.elim
theorem r_app (xs : XS X N sc T Cl W lv) {i : Nat} {e : E} {x : Str} {v : Expr} {p ap cp pos : Pos} (hN : N[i]? = some x) (hv : visB sc x = true) (h1 : x ≠ "__debug__") (h2 : x ≠ "__classdict__") (hc : chk N sc e v = true) (hs : isStar v = false) (hln : (ap.endLine == cp.line) = true) :
    PS X (.Expr (.Call (.Attribute (.Name x p) "append" ap) [v] [] cp) pos) (tS X.K Cl W G0 H0 (ex T (.app i e))) := by
  have base : PE X (.Name x p) (tVar i) := pe_var (by rw [xs.ok.names]; exact hN) (vis_of' xs.ok hv) (ne_dbg h1) (beq_eq_false_iff_ne.mpr h2)
  refine PS.imp (ps_expr (pe_bm PySem.F.plainAttrs_list PySem.F.slot_list_append PySem.F.type_list_append mt_append base (pa_cons (sndE e hc xs.ok xs.tk).v pa_nil (star_cons hs)) rfl (by rw [star_cons hs]; rfl) hln (star_cons hs) rfl) (by rfl)) fun Z σ H h => ?_
  obtain ⟨G, ρ, sim, q⟩ := pubbed (is := pv e .val) h
  simp only [ex] at q
  obtain ⟨ds, hi, q1⟩ := ownR_inv q
  obtain ⟨ad, ws, e1, _, _, e4, r4⟩ := sim.own i ds hi
  refine ⟨_, e1, .inl ⟨rfl, ws, SqL.of e4⟩, G0, H0, G, _, sim, headE (onD_run sim q1) fun w G1 H1 _ ⟨d, G1', ed, k1, r1, q2⟩ => ?_⟩
  have s1 := sim.grow k1
  unfold appR at q2
  split at q2
  · rename_i hl
    refine ⟨ad, ws, w, rfl, rfl, k1.sub _ _ e4, by rw [← r4.length]; exact hl, ?_⟩
    exact q2 σ _ G1' (s1.chg hi e1 (k1.sub _ _ e4) ((r4.mono k1.vis).append (Reps.one r1))) (Same.refl _)
  · exact q2.elim
theorem r_exp (xs : XS X N sc T Cl W lv) {e : E} {v : Expr} {pos : Pos} (hc : chk N sc e v = true) (hcv : isComp v = false) : PS X (.Expr v pos) (tS X.K Cl W G0 H0 (ex T (.exp e))) := by
  refine PS.imp (ps_expr (sndE e hc xs.ok xs.tk).v (swap_none hcv)) fun Z σ H h => ?_
  obtain ⟨G, ρ, sim, q⟩ := pubbed (is := pv e .val) h
  simp only [ex] at q
  exact ⟨G0, H0, G, _, sim, headE (onD_run sim q) fun v G1 H1 _ ⟨d, G1', ed, k1, r1, q1⟩ => q1 σ H1 G1' (sim.grow k1) (Same.refl _)⟩
theorem r_ret (xs : XS X N sc T Cl W lv) {o : Eo} {v : Option Expr} {pos : Pos} (hc : chko N sc o v = true) : PS X (.Return v pos) (tS X.K Cl W G0 H0 (ex T (.ret o))) := by
  cases o with
  | no =>
    simp only [chko] at hc
    split at hc
    · refine PS.imp ps_retN fun Z σ H ⟨G, ρ, sim, q⟩ => ?_
      simp only [ex] at q
      exact q _ G H sim.ext (by simp only [Rep])
    · cases hc
  | yes e =>
    simp only [chko] at hc
    split at hc
    · refine PS.imp (ps_ret (sndE e hc xs.ok xs.tk).v) fun Z σ H h => ?_
      obtain ⟨G, ρ, sim, q⟩ := pubbed (is := pv e .val) h
      simp only [ex] at q
      exact ⟨G0, H0, G, _, sim, headE (onD_run sim q) fun v G1 H1 _ ⟨d, G1', ed, k1, r1, q1⟩ => q1 v G1' H1 (sim.ext.trans k1) r1⟩
    · cases hc
theorem r_ite (xs : XS X N sc T Cl W lv) {c : E} {a b : Ss} {t : Expr} {x y : List Stmt} {pos : Pos} (hc : chk N sc c t = true) (ha : PSs X x (tS X.K Cl W G0 H0 (exs T a))) (hb : PSs X y (tS X.K Cl W G0 H0 (exs T b))) :
    PS X (.If t x y pos) (tS X.K Cl W G0 H0 (ex T (.ite c a b))) := by
  refine PS.imp (ps_if (sndE c hc xs.ok xs.tk).t ha hb) fun Z σ H h => ?_
  obtain ⟨G, ρ, sim, q⟩ := pubbed (is := pv c .tst) h
  simp only [ex] at q
  refine ⟨G0, H0, G, _, sim, ?_⟩
  have q2 := onB_run sim q
  cases ec : ev T c .tst (pubs (pv c .tst) ρ) with
  | exc c ns ds => rw [ec] at q2; exact q2
  | stuck => rw [ec] at q2; exact q2
  | ok d =>
    rw [ec] at q2
    cases d with
    | bl t =>
      intro G1 H1 k1
      obtain ⟨G1', k1', q3⟩ := q2 G1 H1 k1
      cases t with
      | true => rw [if_pos rfl] at q3 ⊢; exact ⟨G1', _, sim.grow k1', q3⟩
      | false => rw [if_neg Bool.false_ne_true] at q3 ⊢; exact ⟨G1', _, sim.grow k1', q3⟩
    | _ => exact q2
theorem objR_inv {ρ : Ro} {i : Nat} {k : Str → List Str → List D → SR} {K : Frg} {G : Hp} {Z : Ends} (h : PostS K Cl W G0 H0 G (objR ρ i k) Z) : ∃ c ns ds, ρ[i]? = some (.obj c ns ds) ∧ PostS K Cl W G0 H0 G (k c ns ds) Z := by
  unfold objR at h
  split at h
  · exact ⟨_, _, _, ‹_›, h⟩
  · exact h.elim
theorem putF_zip {f : Str} {v : V} : ∀ {ns : List Str} {xs : List V}, f ∉ ns → ns.length = xs.length → putF f v (ns.zip xs) = (ns ++ [f]).zip (xs ++ [v])
  | [], [], _, _ => rfl
  | [], _ :: _, _, h => by cases h
  | _ :: _, [], _, h => by cases h
  | n :: ns, x :: xs, hn, h => by
    have hne : ¬ n = f := fun z => hn (by rw [z]; exact List.mem_cons_self ..)
    show (if n = f then _ else (n, x) :: putF f v (ns.zip xs)) = _
    rw [if_neg hne, putF_zip (fun z => hn (List.mem_cons_of_mem _ z)) (by simpa using h)]
    rfl
theorem r_setF (xs : XS X N sc T Cl W lv) {i : Nat} {f : Str} {e : E} {x : Str} {v : Expr} {p ap pos : Pos} (hN : N[i]? = some x) (hv : visB sc x = true) (h1 : x ≠ "__debug__") (h2 : x ≠ "__classdict__") (hc : chk N sc e v = true) (hcv : isComp v = false) :
    PS X (.Assign [.Attribute (.Name x p) f ap] v pos) (tS X.K Cl W G0 H0 (ex T (.setF i f e))) := by
  have base : PE X (.Name x p) (tVar i) := pe_var (by rw [xs.ok.names]; exact hN) (vis_of' xs.ok hv) (ne_dbg h1) (beq_eq_false_iff_ne.mpr h2)
  refine PS.imp (ps_fld base (sndE e hc xs.ok xs.tk).v (swap_none hcv)) fun Z σ H h => ?_
  obtain ⟨G, ρ, sim, q⟩ := pubbed (is := pv e .val) h
  simp only [ex] at q
  refine ⟨G0, H0, G, _, sim, headE (onD_run sim q) fun w G1 H1 _ ⟨d, G1', ed, k1, r1, q2⟩ => ?_⟩
  obtain ⟨c, ns, ds, hi, q3⟩ := objR_inv q2
  have s1 := sim.grow k1
  obtain ⟨a, C, dx, ws, e1, hC, _, _, e5, l6, r7⟩ := s1.obj i c ns ds hi
  unfold setFR at q3
  split at q3
  · rename_i hh
    obtain ⟨ht, hnm, hlt⟩ := hh
    obtain ⟨cl, na⟩ := xs.ok.facts.fd c f C ht hC
    refine ⟨_, e1, a, C, dx, _, rfl, e5, cl, na, ?_, ?_⟩
    · rw [List.length_zip, ← l6, Nat.min_self]
      omega
    · rw [putF_zip hnm l6]
      exact q3 σ _ G1' (s1.chgObj hi e1 hC e5 (by rw [List.length_append, List.length_append, l6]; rfl) (r7.append (Reps.one r1))) (Same.refl _)
  · exact q3.elim
theorem r_bad {x : Stmt} : PS X x (tS X.K Cl W G0 H0 (ex T .bad)) := ⟨fun pins s σ H Z I ⟨G, ρ, sim, q⟩ => by
  simp only [ex] at q
  exact q.elim⟩
/-! blocks -/
theorem r_nil : PSs X [] (tS X.K Cl W G0 H0 (exs T .nil)) := PSs.imp pss_nil fun Z σ H ⟨G, ρ, sim, q⟩ => by
  simp only [exs] at q
  exact q σ H G sim (Same.refl _)
theorem thenR_run {K : Frg} {G : Hp} {r : SR} {k : Ro → SR} {Z : Ends} (h : PostS K Cl W G0 H0 G (thenR r k) Z) : PostS K Cl W G0 H0 G r { Z with nx := tS K Cl W G0 H0 k Z } := by
  cases r with
  | nx ρ => exact fun σ H G' sim s => ⟨G', ρ, sim, PostS.grow s h⟩
  | bk ρ => exact h
  | ct ρ => exact h
  | rt d => exact h
  | ex ρ c ns ds => exact h
  | stuck => exact h
theorem r_cons {s : S} {ss : Ss} {x : Stmt} {rest : List Stmt} (h1 : PS X x (tS X.K Cl W G0 H0 (ex T s))) (h2 : PSs X rest (tS X.K Cl W G0 H0 (exs T ss))) : PSs X (x :: rest) (tS X.K Cl W G0 H0 (exs T (.cons s ss))) :=
  PSs.imp (pss_cons h1 h2) fun Z σ H ⟨G, ρ, sim, q⟩ => by
    simp only [exs] at q
    exact ⟨G, ρ, sim, thenR_run q⟩
/-! loops -/
theorem r_for (xs : XS X N sc T Cl W lv) {tg : Tg} {it : It} {b : Ss} {t i : Expr} {x : List Stmt} {pos : Pos} (ht : tgChk N sc tg t = true) (hi : chkI N sc it i = true) (hs : isSet i = false) (hb : PSs X x (tS X.K Cl W G0 H0 (exs T b))) :
    PS X (.For t i x [] pos) (tS X.K Cl W G0 H0 (ex T (.for_ tg it b))) := by
  refine PS.imp (ps_for xs.po xs.ok.calm (sndI it hi xs.ok xs.tk t false) (pg_tgt xs.ok xs.may ht) hb (set_ok hs)) fun Z σ H h => ?_
  obtain ⟨G, ρ0, sim, q⟩ := pubbed (is := pvi it .val) h
  simp only [ex] at q
  generalize pubs (pvi it .val) ρ0 = ρ at sim q
  refine ⟨G0, H0, G, ρ, sim, ?_⟩
  cases ei : evi T it false ρ with
  | exc c ns ds =>
    rw [ei] at q
    exact fun cls dd G1 H1 e x => q σ H1 G1 cls dd (sim.grow e) x
  | stuck => rw [ei] at q; exact q
  | ok ds =>
    rw [ei] at q
    replace q : PostS X.K Cl W G0 H0 G (forL tg (exs T b) ds ρ) Z := q
    intro J G1 H1 k1 wo
    obtain ⟨small, Gd, Y, wk, gs, yy⟩ := wo
    rw [if_neg Bool.false_ne_true] at gs
    refine for_it wk (fun i σ' H' => ∃ G2 ρ2, Sim X.K Cl G0 H0 G2 H' ρ2 σ' ∧ Same G1 G2 ∧ PostS X.K Cl W G0 H0 G2 (forL tg (exs T b) (ds.drop i) ρ2) Z) ?_ ?_ ?_ ?_
    · exact ⟨G1, ρ, sim.grow k1, Same.refl _, by rw [List.drop_zero]; exact PostS.grow k1.vis q⟩
    · rintro i σ' H' hi' ⟨G2, ρ2, s2, g2, _⟩
      exact gs H' (g2.trans s2.low)
    · rintro i y σ' H' H'' hi' ⟨G2, ρ2, s2, g2, q2⟩ yd
      obtain ⟨d, G3, hd, k3, r3⟩ := yy i y H' H'' G2 hi' g2 s2.low (gs H' (g2.trans s2.low)) yd
      have edrop : ds.drop i = d :: ds.drop (i + 1) := by
        have hlt : i < ds.length := hi'
        rw [List.getElem?_eq_getElem hlt] at hd
        cases hd
        exact List.drop_eq_getElem_cons hlt
      rw [edrop] at q2
      unfold forL at q2
      cases ea : asg tg d ρ2 with
      | none => rw [ea] at q2; exact q2.elim
      | some ρ3 =>
        rw [ea] at q2
        dsimp only at q2
        refine gT_run (vs := tgSlots tg) (s2.grow k3) r3 ea (fun _ h => h) fun σ3 s3 _ => ⟨G3, ρ3, s3, ?_⟩
        have q3 := PostS.grow k3.vis q2
        cases eb : exs T b ρ3 with
        | nx ρ4 => rw [eb] at q3; exact fun σ4 H4 G4 s4 g4 => ⟨G4, ρ4, s4, g2.trans (k3.vis.trans g4), PostS.grow g4 q3⟩
        | ct ρ4 => rw [eb] at q3; exact fun σ4 H4 G4 s4 g4 => ⟨G4, ρ4, s4, g2.trans (k3.vis.trans g4), PostS.grow g4 q3⟩
        | bk ρ4 => rw [eb] at q3; exact q3
        | rt d => rw [eb] at q3; exact q3
        | ex ρ c ns ds => rw [eb] at q3; exact q3
        | stuck => rw [eb] at q3; exact q3
    · rintro σ' H' ⟨G2, ρ2, s2, g2, q2⟩
      rw [List.drop_length] at q2
      exact q2 σ' H' G2 s2 (Same.refl _)
theorem r_whl (xs : XS X N sc T Cl W lv) {c : E} {b : Ss} {t : Expr} {x : List Stmt} {pos : Pos} (hc : chk N sc c t = true) (hb : PSs X x (tS X.K Cl W G0 H0 (exs T b))) :
    PS X (.While t x [] pos) (tS X.K Cl W G0 H0 (ex T (.whl c b))) := by
  refine PS.imp (ps_while xs.po (sndE c hc xs.ok xs.tk).t hb) fun Z σ H ⟨G, ρ, sim, q⟩ => ?_
  simp only [ex] at q
  refine ⟨fun m σ' H' => ∃ G2 ρ2, Sim X.K Cl G0 H0 G2 H' ρ2 σ' ∧ PostS X.K Cl W G0 H0 G2 (whlL (pv c .tst) (ev T c .tst) (exs T b) m ρ2) Z, ⟨T.fu, G, ρ, sim, q⟩, ?_⟩
  rintro m σ' H' ⟨G2, ρ2, s2, q2⟩
  cases m with
  | zero => exact q2.elim
  | succ n =>
    unfold whlL at q2
    obtain ⟨G3, s3, g3⟩ := s2.pubs (pv c .tst)
    replace q2 := PostS.grow g3 q2
    refine ⟨G0, H0, G3, _, s3, ?_⟩
    have q3 := onB_run s3 q2
    cases ec : ev T c .tst (pubs (pv c .tst) ρ2) with
    | exc c ns ds => rw [ec] at q3; exact q3
    | stuck => rw [ec] at q3; exact q3
    | ok d =>
      rw [ec] at q3
      cases d with
      | bl tt =>
        intro G4 H4 k4
        obtain ⟨G4', k4', q4⟩ := q3 G4 H4 k4
        have s4 := s3.grow k4'
        cases tt with
        | false =>
          rw [if_neg Bool.false_ne_true] at q4 ⊢
          exact q4 σ' H4 G4' s4 (Same.refl _)
        | true =>
          rw [if_pos rfl] at q4 ⊢
          refine ⟨fun σ5 H5 => ∃ G5 ρ5, Sim X.K Cl G0 H0 G5 H5 ρ5 σ5 ∧ PostS X.K Cl W G0 H0 G5 (whlL (pv c .tst) (ev T c .tst) (exs T b) n ρ5) Z, fun σ5 H5 h5 => ⟨n, Nat.lt_succ_self n, h5⟩, G4', _, s4, ?_⟩
          cases eb : exs T b (pubs (pv c .tst) ρ2) with
          | nx ρ4 => rw [eb] at q4; exact fun σ6 H6 G6 s6 g6 => ⟨G6, ρ4, s6, PostS.grow g6 q4⟩
          | ct ρ4 => rw [eb] at q4; exact fun σ6 H6 G6 s6 g6 => ⟨G6, ρ4, s6, PostS.grow g6 q4⟩
          | bk ρ4 => rw [eb] at q4; exact q4
          | rt d => rw [eb] at q4; exact q4
          | ex ρ c ns ds => rw [eb] at q4; exact q4
          | stuck => rw [eb] at q4; exact q4
      | _ => exact q3
end

mutual
theorem sndS : ∀ (s : S) {N : List Str} {sc : Scope} {x : Stmt}, chS N sc s x = true → ∀ {X : Cx} {Cl : ClT} {W : WX} {T : Tab} {lv : Nat} (G0 : GX) (H0 : Hp), XS X N sc T Cl W lv → PS X x (tS X.K Cl W G0 H0 (ex T s))
  | .set i e, N, sc, x, h, X, Cl, W, T, lv, G0, H0, xs => by
    simp only [chS] at h
    split at h
    · simp only [Bool.and_eq_true, decide_eq_true_eq, Bool.not_eq_true'] at h
      obtain ⟨⟨⟨⟨⟨h1, h2⟩, h3⟩, h4⟩, h5⟩, h6⟩ := h
      exact r_set xs h1 h2 h4 h5 h6
    · cases h
  | .setT tg e, N, sc, x, h, X, Cl, W, T, lv, G0, H0, xs => by
    simp only [chS] at h
    split at h
    · simp only [Bool.and_eq_true, Bool.not_eq_true'] at h
      obtain ⟨⟨⟨h1, h2⟩, h3⟩, h4⟩ := h
      exact r_setT xs h1 h2 h3 h4
    · cases h
  | .setI i ix e, N, sc, x, h, X, Cl, W, T, lv, G0, H0, xs => by
    simp only [chS] at h
    split at h
    · simp only [Bool.and_eq_true, decide_eq_true_eq, Bool.not_eq_true'] at h
      obtain ⟨⟨⟨⟨⟨⟨⟨h1, h2⟩, h3⟩, h4⟩, h5⟩, h6⟩, h7⟩, h8⟩ := h
      exact r_setI xs h1 h2 h3 h4 h5 h6 h7 h8
    · cases h
  | .app i e, N, sc, x, h, X, Cl, W, T, lv, G0, H0, xs => by
    simp only [chS] at h
    split at h
    · simp only [Bool.and_eq_true, decide_eq_true_eq, Bool.not_eq_true'] at h
      obtain ⟨⟨⟨⟨⟨⟨⟨h1, h2⟩, h3⟩, h4⟩, rfl⟩, h6⟩, h7⟩, h8⟩ := h
      exact r_app xs h1 h2 h3 h4 h6 h7 h8
    · cases h
  | .exp e, N, sc, x, h, X, Cl, W, T, lv, G0, H0, xs => by
    simp only [chS] at h
    split at h
    · simp only [Bool.and_eq_true, Bool.not_eq_true'] at h
      exact r_exp xs h.1 h.2
    · cases h
  | .ret o, N, sc, x, h, X, Cl, W, T, lv, G0, H0, xs => by
    simp only [chS] at h
    split at h
    · exact r_ret xs h
    · cases h
  | .ite c a b, N, sc, x, h, X, Cl, W, T, lv, G0, H0, xs => by
    simp only [chS] at h
    split at h
    · simp only [Bool.and_eq_true] at h
      exact r_ite xs h.1.1 (sndSs a h.1.2 G0 H0 xs) (sndSs b h.2 G0 H0 xs)
    · cases h
  | .for_ tg it b, N, sc, x, h, X, Cl, W, T, lv, G0, H0, xs => by
    simp only [chS] at h
    split at h
    · simp only [Bool.and_eq_true, Bool.not_eq_true'] at h
      exact r_for xs h.1.1.1 h.1.1.2 h.1.2 (sndSs b h.2 G0 H0 xs)
    · cases h
  | .whl c b, N, sc, x, h, X, Cl, W, T, lv, G0, H0, xs => by
    simp only [chS] at h
    split at h
    · simp only [Bool.and_eq_true] at h
      exact r_whl xs h.1 (sndSs b h.2 G0 H0 xs)
    · cases h
  | .brk, N, sc, x, h, X, Cl, W, T, lv, G0, H0, xs => by
    simp only [chS] at h
    split at h
    · exact PS.imp ps_break fun Z σ H ⟨G, ρ, sim, q⟩ => by
        simp only [ex] at q
        exact q σ H G sim (Same.refl _)
    · cases h
  | .cnt, N, sc, x, h, X, Cl, W, T, lv, G0, H0, xs => by
    simp only [chS] at h
    split at h
    · exact PS.imp ps_continue fun Z σ H ⟨G, ρ, sim, q⟩ => by
        simp only [ex] at q
        exact q σ H G sim (Same.refl _)
    · cases h
  | .pass, N, sc, x, h, X, Cl, W, T, lv, G0, H0, xs => by
    simp only [chS] at h
    split at h
    · exact PS.imp ps_pass fun Z σ H ⟨G, ρ, sim, q⟩ => by
        simp only [ex] at q
        exact q σ H G sim (Same.refl _)
    · cases h
  | .setF i f e, N, sc, x, h, X, Cl, W, T, lv, G0, H0, xs => by
    simp only [chS] at h
    split at h
    · simp only [Bool.and_eq_true, decide_eq_true_eq, Bool.not_eq_true'] at h
      obtain ⟨⟨⟨⟨⟨⟨hN, hv⟩, h1⟩, h2⟩, rfl⟩, hc⟩, hcv⟩ := h
      exact r_setF xs hN hv h1 h2 hc hcv
    · cases h
  | .bad, N, sc, x, h, X, Cl, W, T, lv, G0, H0, xs => r_bad
theorem sndSs : ∀ (ss : Ss) {N : List Str} {sc : Scope} {x : List Stmt}, chSs N sc ss x = true → ∀ {X : Cx} {Cl : ClT} {W : WX} {T : Tab} {lv : Nat} (G0 : GX) (H0 : Hp), XS X N sc T Cl W lv → PSs X x (tS X.K Cl W G0 H0 (exs T ss))
  | .nil, N, sc, x, h, X, Cl, W, T, lv, G0, H0, xs => by
    simp only [chSs] at h
    split at h
    · exact r_nil
    · cases h
  | .cons s ss, N, sc, x, h, X, Cl, W, T, lv, G0, H0, xs => by
    simp only [chSs] at h
    split at h
    · simp only [Bool.and_eq_true] at h
      exact r_cons (sndS s h.1 G0 H0 xs) (sndSs ss h.2 G0 H0 xs)
    · cases h
end
end Pu
/-! PuO: defs and classes: a body that passes the check makes a def that is worth what the body does. -/
namespace Pu
open PySem PySem.Spec PyProof.Rows L2

/-- how a def ends -/
def endD : SR → Res D
  | .nx _ => .ok .non
  | .rt d => .ok d
  | .ex _ c ns ds => .exc c ns ds
  | _ => .stuck
@[simp] def initR (n : Nat) (ds : List D) : Ro := ds.map Sl.val ++ List.replicate (n - ds.length) Sl.no
def runFn (T : Tab) (n : Nat) (b : Ss) (ds : List D) : Res D := endD (exs T b (initR n ds))
/-- how an __init__ ends: the object is made -/
def objD (ρ : Ro) : Res D := match ρ[(0 : Nat)]? with
  | some (.obj c ns ds) => .ok (.ins c ns ds)
  | _ => .stuck
def endI : SR → Res D
  | .nx ρ => objD ρ
  | .ex _ c ns ds => .exc c ns ds
  | _ => .stuck
@[simp] def initO (c : Str) (n : Nat) (ds : List D) : Ro := Sl.obj c [] [] :: (ds.map Sl.val ++ List.replicate (n - (ds.length + 1)) Sl.no)
def runInit (T : Tab) (c : Str) (n : Nat) (b : Ss) (ds : List D) : Res D := endI (exs T b (initO c n ds))

theorem init_get {n : Nat} {ds : List D} {i : Nat} {s : Sl} (h : (initR n ds)[i]? = some s) : s = .no ∨ ∃ d, s = .val d ∧ ds[i]? = some d := by
  unfold initR at h
  by_cases hl : i < ds.length
  · rw [List.getElem?_append_left (by rw [List.length_map]; exact hl), List.getElem?_map] at h
    cases e : ds[i]? with
    | none => rw [e] at h; cases h
    | some d => rw [e] at h; cases h; exact .inr ⟨d, rfl, rfl⟩
  · rw [List.getElem?_append_right (by rw [List.length_map]; omega)] at h
    exact .inl (List.eq_of_mem_replicate (List.mem_of_getElem? h))
theorem initO_get {c : Str} {n : Nat} {ds : List D} {i : Nat} {s : Sl} (h : (initO c n ds)[i]? = some s) : (i = 0 ∧ s = .obj c [] []) ∨ s = .no ∨ ∃ d j, i = j + 1 ∧ s = .val d ∧ ds[j]? = some d := by
  unfold initO at h
  cases i with
  | zero => cases h; exact .inl ⟨rfl, rfl⟩
  | succ j =>
    rw [List.getElem?_cons_succ] at h
    have h' : (initR (n - 1) ds)[j]? = some s := by
      unfold initR
      rw [show n - 1 - ds.length = n - (ds.length + 1) by omega]
      exact h
    rcases init_get h' with e | ⟨d, e, q⟩
    · exact .inr (.inl e)
    · exact .inr (.inr ⟨d, j, rfl, e, q⟩)

/-- an __init__'s promise: C the class, x the object -/
def spI (K : Frg) (Cl : ClT) (C : Addr) (n : Nat) (F : List D → Res D) : Sp := fun vs H Q E => vs.length = n + 1 ∧ ∃ G H1 x dx vs' ds, vs = .ref x :: vs' ∧ H = upd (upd H1 dx (.own x)) x (.ins C dx []) ∧ H1 x = none ∧ H1 dx = none ∧ dx ≠ x ∧ Same G H1 ∧
  Reps K Cl G ds vs' ∧ PostE K Cl (fun cls d _ H' => E cls d H') G H1 [] (F ds) (fun v H' => v = .ref x → Q .non H')
section
variable {P : Program} {w : World} {K : Frg} {mg : Str → Option Value} {base : Heap} {Cl : ClT} {x qual : Str} {params : Arguments} {body : List Stmt} {scope : Scope} {dvs : List V} {kws : List (Str × V)} {f : Addr} {fd : FuncData} {N ps : List Str} {lv : Nat} {T : Tab} {b : Ss}
theorem xs_cx {cdv : Value} {A : Around} {outer : List Env} {s : Shared} {H : Hp} {E : XK} (S : FnScope N ps scope) (hf : Facts T P w K mg base Cl lv) (hr : Room lv (A.deeper (envOfC qual scope s.heap.objs.size f cdv))) :
    XS (cxOf (L2.CX P w) P w K mg base N qual scope f cdv A outer s H E) N scope T Cl (fun cls d _ H' => E cls d H') lv :=
  ⟨⟨rfl, rfl, rfl, S.nd, hr, hf⟩, fun _ => rfl, S.kind, passes_of (K := fun e s'' => L2.CX P w outer H s E e s'') (E₁ := fun e' s'' => L2.CX P w outer H s E e' s'') rfl, takes_of rfl rfl rfl rfl⟩
theorem len_pre {N ps : List Str} (h : N.take ps.length = ps) : ps.length ≤ N.length := by
  have := congrArg List.length h
  rw [List.length_take] at this
  omega
/-- the slots at the entry -/
theorem sim_start {G H : Hp} {ds : List D} {vs : List V} {n : Nat} (sm : Same G H) (hn : N.length = n) (r : Reps K Cl G ds vs) : Sim K Cl ⟨G, 0⟩ H G H (initR n ds) (L2.start N vs) := by
  have val : ∀ i d, ds[i]? = some d → ∃ v, (L2.start N vs)[i]? = some (some v) ∧ Rep K Cl G d v := fun i d q => by
    obtain ⟨v, e1, e2⟩ := r.get q
    refine ⟨v, ?_, e2⟩
    have hl : i < vs.length := (List.getElem?_eq_some_iff.mp e1).1
    unfold L2.start
    rw [List.getElem?_append_left (by rw [List.length_map]; exact hl), List.getElem?_map, e1]
    rfl
  refine ⟨Ext.refl sm, ?_, fun i d q => ?_, fun i d q => ?_, fun i j d1 d2 n q1 q2 => ?_, fun i c ns ds q => ?_, fun i j c c' ns ns' d1 d2 q1 q2 => ?_⟩
  · unfold initR L2.start
    rw [List.length_append, List.length_append, List.length_map, List.length_map, List.length_replicate, List.length_replicate, r.length, hn]
  · rcases init_get q with e | ⟨d', e, q'⟩
    · cases e
    · cases e
      exact val i d q'
  · rcases init_get q with e | ⟨d', e, q'⟩ <;> cases e
  · rcases init_get q1 with e | ⟨d', e, q'⟩ <;> cases e
  · rcases init_get q with e | ⟨d', e, q'⟩ <;> cases e
  · rcases init_get q1 with e | ⟨d', e, q'⟩ <;> cases e
/-- A DEF -/
theorem fnOk_of (F : FunD K x qual params body scope dvs kws f fd) (S : FnScope N ps scope) (hc : chSs N scope b body = true) (hf : Facts T P w K mg base Cl lv) :
    FnOk P w K mg base (L2.CX P w) (lv + 1) f fd ps (spP K Cl ps.length (runFn T N.length b)) := by
  refine F.ok S (fun vs H Q E h => h.1) fun cdv A outer s H vs Q E hr h => ?_
  obtain ⟨hl, G, ds, sm, r, q⟩ := h
  have xs := xs_cx (cdv := cdv) (outer := outer) (s := s) (H := H) (E := E) (f := f) (qual := qual) (A := A) (scope := scope) S hf hr
  refine ⟨_, sndSs b hc ⟨G, 0⟩ H xs, ?_⟩
  refine ⟨G, initR N.length ds, sim_start sm rfl r, ?_⟩
  unfold runFn at q
  cases e : exs T b (initR N.length ds) with
  | nx ρ =>
    rw [e] at q
    intro σ H' G' sim _
    exact q .non G' H' sim.ext (by simp only [Rep])
  | rt d => rw [e] at q; exact fun v G' H' k rr => q v G' H' k rr
  | ex ρ c ns es => rw [e] at q; exact fun σ H' G' cls dd sim ea => q cls dd G' H' sim.ext ea
  | bk ρ => rw [e] at q; exact q.elim
  | ct ρ => rw [e] at q; exact q.elim
  | stuck => rw [e] at q; exact q.elim
/-- the slots at the entry of an __init__ -/
theorem sim_startO {G H1 : Hp} {ds : List D} {vs : List V} {n : Nat} {a dx C : Addr} {c : Str} (hC : Cl c = some C) (sm : Same G H1) (h1 : H1 a = none) (h2 : H1 dx = none) (hne : dx ≠ a) (hn : N.length = n) (r : Reps K Cl G ds vs) :
    Sim K Cl ⟨G, a⟩ H1 G (upd (upd H1 dx (.own a)) a (.ins C dx [])) (initO c n ds) (L2.start N (.ref a :: vs)) := by
  have s0 : Same H1 (upd (upd H1 dx (.own a)) a (.ins C dx [])) := fun b o e => by
    rw [upd_ne (ne_of_none e h1), upd_ne (ne_of_none e h2)]
    exact e
  have st : L2.start N (.ref a :: vs) = some (.ref a) :: (vs.map some ++ List.replicate (N.length - (vs.length + 1)) none) := rfl
  have val : ∀ i d, ds[i]? = some d → ∃ v, (L2.start N (.ref a :: vs))[i + 1]? = some (some v) ∧ Rep K Cl G d v := fun i d q => by
    obtain ⟨v, e1, e2⟩ := r.get q
    refine ⟨v, ?_, e2⟩
    have hl : i < vs.length := (List.getElem?_eq_some_iff.mp e1).1
    rw [st, List.getElem?_cons_succ, List.getElem?_append_left (by rw [List.length_map]; exact hl), List.getElem?_map, e1]
    rfl
  refine ⟨⟨s0, Same.refl _, sm.trans s0, fun b e _ => e⟩, ?_, fun i d q => ?_, fun i d q => ?_, fun i j d1 d2 n q1 q2 => ?_, fun i c' ns es q => ?_, fun i j c c' ns ns' d1 d2 q1 q2 => ?_⟩
  · rw [st]
    unfold initO
    rw [List.length_cons, List.length_cons, List.length_append, List.length_append, List.length_map, List.length_map, List.length_replicate, List.length_replicate, r.length, hn]
  · rcases initO_get q with ⟨_, e⟩ | e | ⟨d', j, rfl, e, q'⟩
    · cases e
    · cases e
    · cases e
      exact val j d q'
  · rcases initO_get q with ⟨_, e⟩ | e | ⟨d', j, rfl, e, q'⟩ <;> cases e
  · rcases initO_get q1 with ⟨_, e⟩ | e | ⟨d', j, rfl, e, q'⟩ <;> cases e
  · rcases initO_get q with ⟨rfl, e⟩ | e | ⟨d', j, rfl, e, q'⟩
    · cases e
      exact ⟨a, C, dx, [], by rw [st]; rfl, hC, ⟨h1, rfl⟩, Same.free sm h1, upd_same, rfl, Reps.nil⟩
    · cases e
    · cases e
  · rcases initO_get q1 with ⟨rfl, e⟩ | e | ⟨d', j, rfl, e, q'⟩
    · rcases initO_get q2 with ⟨rfl, e⟩ | e | ⟨d', j, rfl, e, q'⟩
      · rfl
      · cases e
      · cases e
    · cases e
    · cases e
/-- A CLASS'S __init__ -/
theorem initOk_of {c : Str} {C : Addr} {p0 : Str} (hC : Cl c = some C) (F : FunD K x qual params body scope dvs kws f fd) (S : FnScope N (p0 :: ps) scope) (hc : chSs N scope b body = true) (hf : Facts T P w K mg base Cl lv) :
    FnOk P w K mg base (L2.CX P w) (lv + 1) f fd (p0 :: ps) (spI K Cl C ps.length (runInit T c N.length b)) := by
  refine F.ok S (fun vs H Q E h => h.1) fun cdv A outer s H vs Q E hr h => ?_
  obtain ⟨hl, G, H1, a, dx, vs', ds, rfl, rfl, h1, h2, hne, sm, r, q⟩ := h
  have xs := xs_cx (cdv := cdv) (outer := outer) (s := s) (H := upd (upd H1 dx (.own a)) a (.ins C dx [])) (E := E) (f := f) (qual := qual) (A := A) (scope := scope) S hf hr
  refine ⟨_, sndSs b hc ⟨G, a⟩ H1 xs, ?_⟩
  refine ⟨G, initO c N.length ds, sim_startO hC sm h1 h2 hne rfl r, ?_⟩
  unfold runInit at q
  cases e : exs T b (initO c N.length ds) with
  | nx ρ =>
    rw [e] at q
    intro σ H' G' sim _
    replace q : PostE K Cl (fun cls d _ H' => E cls d H') G H1 [] (objD ρ) (fun v H' => v = .ref a → Q .non H') := q
    unfold objD at q
    split at q
    · rename_i c' ns es hi
      obtain ⟨a', C', dx', xs', e1, hC', ⟨e3, e3'⟩, e4, e5, e6, e7⟩ := sim.obj 0 c' ns es hi
      have e3'' : a' = a := e3'
      subst e3''
      have sg : Same G' (upd G' a' (.ins C' dx' (ns.zip xs'))) := same_upd e4
      refine q (.ref a') (upd G' a' (.ins C' dx' (ns.zip xs'))) H' ⟨sim.ext.sub, sim.ext.vis.trans sg, Ext.show sim.low e4 e5, fun z zn zs => ?_⟩ ?_ rfl
      · rw [upd_ne (fun z' => zs (by rw [z']; exact e3))]
        exact sim.ext.hid z zn zs
      · simp only [Rep]
        exact ⟨a', C', dx', xs', rfl, hC', upd_same, e6, e7.mono sg⟩
    · exact q.elim
  | rt d => rw [e] at q; exact q.elim
  | ex ρ c ns es => rw [e] at q; exact fun σ H' G' cls dd sim ea => q cls dd G' H' sim.ext ea
  | bk ρ => rw [e] at q; exact q.elim
  | ct ρ => rw [e] at q; exact q.elim
  | stuck => rw [e] at q; exact q.elim
end

/-! ### calls -/
section
variable {P : Program} {w : World} {K : Frg} {mg : Str → Option Value} {base : Heap} {Cl : ClT} {f C : Addr} {fd : FuncData} {ps : List Str} {lv : Nat} {F : List D → Res D} {dvs : List V} {us0 : List Value} {dflt : List D} {n : Nat} {ks : List Str}
theorem callOk_of (FO : FnOk P w K mg base (L2.CX P w) lv f fd ps (spP K Cl ps.length F)) (hb : Binds K fd ps us0) (hd : Vals dvs us0) (hD : ∀ H : Hp, Reps K Cl H dflt dvs) (hn : n + dflt.length = ps.length) :
    CallOk P w K mg base Cl lv (.ref f) n (fun as => F (as ++ dflt)) := by
  intro X W e1 e2 e3 e4 e5 hr tk pins s σ G H ds vs us Q I r sm rr hl q
  subst e1 e2 e3 e4 e5
  refine run_fnSD FO hr hb hd (passAt tk σ) I r ⟨?_, G, ds ++ dflt, sm, rr.append (hD G), post_at q⟩
  rw [List.length_append, ← rr.length, ← (hD G).length, hl, hn]
theorem callOk_all (FO : FnOk P w K mg base (L2.CX P w) lv f fd ps (spP K Cl ps.length F)) (hb : Binds K fd ps []) (hn : n = ps.length) :
    CallOk P w K mg base Cl lv (.ref f) n F := by
  intro X W e1 e2 e3 e4 e5 hr tk pins s σ G H ds vs us Q I r sm rr hl q
  subst e1 e2 e3 e4 e5
  refine run_fnS FO hr hb (passAt tk σ) I r ⟨?_, G, ds, sm, rr, post_at q⟩
  rw [← rr.length, hl, hn]
theorem callKOk_of {g : List Value → List Value → List Value} {gV : List V → List V → List V} {gD : List D → List D → List D} (FO : FnOk P w K mg base (L2.CX P w) lv f fd ps (spP K Cl ps.length F)) (hb : KBn K fd ps n ks g gV)
    (hg : ∀ (H : Hp) (ds es : List D) (vs zs : List V), Reps K Cl H ds vs → Reps K Cl H es zs → ds.length = n → es.length = ks.length → Reps K Cl H (gD ds es) (gV vs zs) ∧ (gV vs zs).length = ps.length) :
    CallKOk P w K mg base Cl lv (.ref f) n ks (fun as => F (gD (as.take n) (as.drop n))) := by
  intro X W e1 e2 e3 e4 e5 hr tk pins s σ G H ds es vs zs us ws Q I r rz sm rr rrz hl hlz q
  subst e1 e2 e3 e4 e5
  dsimp only at q
  rw [List.take_left' hl, List.drop_left' hl] at q
  obtain ⟨g1, g2⟩ := hg G ds es vs zs rr rrz hl hlz
  refine wpAny_call (codeAny_mono (FO.run X.A X.stack s H ⟨us, ks.zip ws⟩ (g us ws) (gV vs zs) Q (WE W σ) hr I.env0 (hb.to s us ws I.kIn (by rw [← r.length, ← rr.length, hl]) (by rw [← rz.length, ← rrz.length, hlz])) (hb.rel r rz) ⟨g2, G, gD ds es, sm, g1, post_at q⟩) fun r s' hq => ?_)
  cases r with
  | error e => exact passAt tk σ pins H s e s' I hq
  | ok fl =>
    cases fl with
    | ret u => exact I.after hq
    | next => exact False.elim hq
    | brk => exact False.elim hq
    | cont => exact False.elim hq
theorem Ext.skip {G H H1 G' H' : Hp} (sm : Same G H) (s : Same H H1) (e : Ext G H1 G' H') : Ext G H G' H' :=
  ⟨s.trans e.sub, e.vis, e.low, fun a g h => e.hid a g (Same.some s h)⟩
/-- C(..): an object is made. Its promise's heap lies without the object's dict -/
theorem spI_post {W : WX} {G H : Hp} {σ : L2.St} {ds : List D} {vs : List V} {Q : VK} {x dx : Addr} {m : Nat} (sm : Same G H) (rr : Reps K Cl G ds vs) (hl : vs.length = m) (q : PostE K Cl W G H σ (F ds) Q) (h1 : H x = none) (h2 : H dx = none) (hne : dx ≠ x) :
    spI K Cl C m F (.ref x :: vs) (upd (upd H dx (.own x)) x (.ins C dx [])) (fun v H2 => v = .non ∧ Q (.ref x) H2) (WE W σ) := by
  refine ⟨by rw [List.length_cons, hl], G, H, x, dx, vs, ds, rfl, rfl, h1, h2, hne, sm, rr, ?_⟩
  have q' := post_at q
  cases e : F ds with
  | ok d =>
    rw [e] at q'
    exact fun v G' H' k r ev => ⟨rfl, ev ▸ q' v G' H' k r⟩
  | exc c ns ds => rw [e] at q'; exact q'
  | stuck => rw [e] at q'; exact q'
theorem makeOk_of {g : List Value → List Value → List Value} {gV : List V → List V → List V} {gD : List D → List D → List D} {p0 : Str} (M : Mk K C f) (FO : FnOk P w K mg base (L2.CX P w) lv f fd (p0 :: ps) (spI K Cl C ps.length F)) (hb : KBn K fd (p0 :: ps) (n + 1) ks g gV)
    (hg : ∀ (H : Hp) (x : V) (ds es : List D) (vs zs : List V), Reps K Cl H ds vs → Reps K Cl H es zs → ds.length = n → es.length = ks.length → ∃ rs, gV (x :: vs) zs = x :: rs ∧ Reps K Cl H (gD ds es) rs ∧ rs.length = ps.length) :
    CallKOk P w K mg base Cl (lv + 1) (.ref C) n ks (fun as => F (gD (as.take n) (as.drop n))) := by
  intro X W e1 e2 e3 e4 e5 hr tk pins s σ G H ds es vs zs us ws Q I r rz sm rr rrz hl hlz q
  subst e1 e2 e3 e4 e5
  dsimp only at q
  rw [List.take_left' hl, List.drop_left' hl] at q
  have l1 : vs.length = n := by rw [← rr.length, hl]
  have l2 : zs.length = ks.length := by rw [← rrz.length, hlz]
  have hq : spI X.K Cl C ps.length F (gV (.ref (s.heap.objs.size + 1) :: vs) zs) (upd (upd H s.heap.objs.size (.own (s.heap.objs.size + 1))) (s.heap.objs.size + 1) (.ins C s.heap.objs.size [])) (fun v H2 => v = .non ∧ Q (.ref (s.heap.objs.size + 1)) H2) (WE W σ) := by
    obtain ⟨rs, g1, g2, g3⟩ := hg G (.ref (s.heap.objs.size + 1)) ds es vs zs rr rrz hl hlz
    rw [g1]
    exact spI_post sm g2 g3 q (I.hok.fresh (Nat.le_succ _)) (I.hok.fresh (Nat.le_refl _)) (Nat.ne_of_lt (Nat.lt_succ_self _))
  have I2 := Inv.made (C := C) I
  have r1 : Vals (V.ref (s.heap.objs.size + 1) :: vs) (Value.ref (s.heap.objs.size + 1) :: us) := .cons rfl r
  have r2 := hb.rel r1 rz
  have n1 : (Value.ref (s.heap.objs.size + 1) :: us).length = n + 1 := by rw [List.length_cons, ← r.length, l1]
  refine wpAny_call (make_map (f := f) I.kIn M.makes M.init (beq_iff_eq.mp M.fn) (codeAny_mono (FO.run _ X.stack _ _ ⟨Value.ref (s.heap.objs.size + 1) :: us, ks.zip ws⟩ (g (Value.ref (s.heap.objs.size + 1) :: us) ws) _ _ (WE W σ) (hr.make C us (ks.zip ws))
    (I2.env0.make C us (ks.zip ws)) (hb.to _ (Value.ref (s.heap.objs.size + 1) :: us) ws I2.kIn n1 (rz.length.symm.trans l2)) r2 hq) fun r s' hq' => ?_))
  cases r with
  | error e => exact passAt tk σ pins _ _ e s' I2 hq'
  | ok fl =>
    cases fl with
    | ret u =>
      obtain ⟨v, H', I3, rv, ev, q3⟩ := I2.after hq'
      subst ev
      exact ⟨rv, ⟨V.ref (s.heap.objs.size + 1), H', I3, rfl, q3⟩⟩
    | next => exact False.elim hq'
    | brk => exact False.elim hq'
    | cont => exact False.elim hq'
/-- without keywords -/
theorem CallKOk.plain {F : List D → Res D} {u : Value} (h : CallKOk P w K mg base Cl lv u n [] F) : CallOk P w K mg base Cl lv u n F := by
  intro X W e1 e2 e3 e4 e5 hr tk pins s σ G H ds vs us Q I r sm rr hl q
  have := h X W e1 e2 e3 e4 e5 hr tk pins s σ G H ds [] vs [] us [] Q I r .nil sm rr Reps.nil hl rfl (by rw [List.append_nil]; exact q)
  exact this
theorem CallOk.imp {F F' : List D → Res D} {u : Value} (h : CallOk P w K mg base Cl lv u n F) (e : ∀ ds, ds.length = n → F ds = F' ds) : CallOk P w K mg base Cl lv u n F' := by
  intro X W e1 e2 e3 e4 e5 hr tk pins s σ G H ds vs us Q I r sm rr hl q
  rw [← e ds hl] at q
  exact h X W e1 e2 e3 e4 e5 hr tk pins s σ G H ds vs us Q I r sm rr hl q
theorem CallOk.mono {u : Value} {lv' : Nat} (h : CallOk P w K mg base Cl lv u n F) (hl : lv ≤ lv') : CallOk P w K mg base Cl lv' u n F :=
  fun X W e1 e2 e3 e4 e5 hr => h X W e1 e2 e3 e4 e5 (hr.mono hl)
theorem CallKOk.mono {u : Value} {lv' : Nat} (h : CallKOk P w K mg base Cl lv u n ks F) (hl : lv ≤ lv') : CallKOk P w K mg base Cl lv' u n ks F :=
  fun X W e1 e2 e3 e4 e5 hr => h X W e1 e2 e3 e4 e5 (hr.mono hl)
end
end Pu
/-! PuP: a module's defs, one behind another: each one adds to the table of what the names are worth. -/
namespace Pu
open PySem PySem.Spec PyProof.Rows L2

def look {α : Type} : List (Str × α) → Str → Option α
  | [], _ => none
  | (y, a) :: r, x => if x = y then some a else look r x
theorem look_mem {α : Type} {x : Str} {a : α} : ∀ {l : List (Str × α)}, look l x = some a → (x, a) ∈ l
  | [], h => by cases h
  | (y, b) :: r, h => by
    unfold look at h
    split at h
    · rename_i e
      cases h
      rw [e]
      exact List.mem_cons_self ..
    · exact List.mem_cons_of_mem _ (look_mem h)
theorem look_same {α : Type} {x : Str} {a : α} {l : List (Str × α)} : look ((x, a) :: l) x = some a := if_pos rfl
theorem look_ne {α : Type} {x y : Str} {a : α} {l : List (Str × α)} (h : ¬ x = y) : look ((y, a) :: l) x = look l x := if_neg h
/-- the table at the beginning: constants, classes with their fields -/
def tab0 (fu : Nat) (gs : List (Str × D)) (cs : List (Str × List Str)) (gc : Bool := false) : Tab where
  mt := fun _ _ _ => none
  gc := gc
  fu := fu
  fn := fun _ _ => none
  fk := fun _ _ _ => none
  gl := look gs
  fd := fun c f => match look cs c with
    | some fs => decide (f ∈ fs)
    | none => false
def Tab.add (T : Tab) (x : Str) (n : Nat) (F : List D → Res D) : Tab := { T with fn := fun y m => if y = x ∧ m = n then some F else T.fn y m }
def Tab.addk (T : Tab) (x : Str) (n : Nat) (ks : List Str) (F : List D → Res D) : Tab := { T with fk := fun y m js => if y = x ∧ m = n ∧ js = ks then some F else T.fk y m js }
def Tab.addm (T : Tab) (c x : Str) (n : Nat) (F : List D → Res D) : Tab := { T with mt := fun d y m => if d = c ∧ y = x ∧ m = n then some F else T.mt d y m }
theorem Tab.addm_same {T : Tab} {c x : Str} {n : Nat} {F : List D → Res D} : (T.addm c x n F).mt c x n = some F := if_pos ⟨rfl, rfl, rfl⟩
theorem Tab.addm_ne {T : Tab} {c d x y : Str} {n m : Nat} {F : List D → Res D} (h : ¬ (d = c ∧ y = x)) : (T.addm c x n F).mt d y m = T.mt d y m := if_neg fun z => h ⟨z.1, z.2.1⟩
theorem Tab.addm_fn {T : Tab} {c x y : Str} {n m : Nat} {F : List D → Res D} : (T.addm c x n F).fn y m = T.fn y m := rfl
theorem Tab.addm_fk {T : Tab} {c x y : Str} {n m : Nat} {js : List Str} {F : List D → Res D} : (T.addm c x n F).fk y m js = T.fk y m js := rfl
theorem Tab.add_mt {T : Tab} {c x y : Str} {n m : Nat} {F : List D → Res D} : (T.add x n F).mt c y m = T.mt c y m := rfl
theorem Tab.addk_mt {T : Tab} {c x y : Str} {n m : Nat} {ks : List Str} {F : List D → Res D} : (T.addk x n ks F).mt c y m = T.mt c y m := rfl
theorem Tab.add_same {T : Tab} {x : Str} {n : Nat} {F : List D → Res D} : (T.add x n F).fn x n = some F := if_pos ⟨rfl, rfl⟩
theorem Tab.add_ne {T : Tab} {x y : Str} {n m : Nat} {F : List D → Res D} (h : ¬ y = x) : (T.add x n F).fn y m = T.fn y m := if_neg fun z => h z.1
theorem Tab.add_fk {T : Tab} {x y : Str} {n m : Nat} {js : List Str} {F : List D → Res D} : (T.add x n F).fk y m js = T.fk y m js := rfl
theorem Tab.addk_fn {T : Tab} {x y : Str} {n m : Nat} {ks : List Str} {F : List D → Res D} : (T.addk x n ks F).fn y m = T.fn y m := rfl
theorem Tab.addk_same {T : Tab} {x : Str} {n : Nat} {ks : List Str} {F : List D → Res D} : (T.addk x n ks F).fk x n ks = some F := if_pos ⟨rfl, rfl, rfl⟩
theorem Tab.addk_ne {T : Tab} {x y : Str} {n m : Nat} {ks js : List Str} {F : List D → Res D} (h : ¬ y = x) : (T.addk x n ks F).fk y m js = T.fk y m js := if_neg fun z => h z.1

section
variable {P : Program} {w : World} {K : Frg} {mg : Str → Option Value} {base : Heap} {Cl : ClT} {T : Tab} {lv : Nat} {x : Str} {u : Value} {n : Nat} {ks : List Str} {F : List D → Res D}
theorem Facts.mono {lv' : Nat} (h : Facts T P w K mg base Cl lv) (hl : lv ≤ lv') : Facts T P w K mg base Cl lv' where
  bi := h.bi
  rng := h.rng
  rev := h.rev
  isi := h.isi
  fn := fun x n F e => by
    obtain ⟨u, h1, h2, h3⟩ := h.fn x n F e
    exact ⟨u, h1, h2, h3.mono hl⟩
  fk := fun x n ks F e => by
    obtain ⟨u, h1, h2, h3⟩ := h.fk x n ks F e
    exact ⟨u, h1, h2, h3.mono hl⟩
  gl := h.gl
  fd := h.fd
  mt := fun c m n F C e hC => by
    obtain ⟨f, fd, ps, lm, h1, h2, h3, h4⟩ := h.mt c m n F C e hC
    exact ⟨f, fd, ps, lm, h1, h2, Nat.le_trans h3 hl, h4⟩
  gc := h.gc
theorem Facts.add (h : Facts T P w K mg base Cl lv) (h1 : mg x = some u) (h2 : PySem.W.keepIn K u = true) (h3 : CallOk P w K mg base Cl lv u n F) : Facts (T.add x n F) P w K mg base Cl lv where
  bi := h.bi
  rng := h.rng
  rev := h.rev
  isi := h.isi
  fn := fun y m G e => by
    replace e : (if y = x ∧ m = n then some F else T.fn y m) = some G := e
    split at e
    · rename_i c
      obtain ⟨rfl, rfl⟩ := c
      cases e
      exact ⟨u, h1, h2, h3⟩
    · exact h.fn y m G e
  fk := h.fk
  gl := h.gl
  fd := h.fd
  mt := h.mt
  gc := h.gc
theorem Facts.addk (h : Facts T P w K mg base Cl lv) (h1 : mg x = some u) (h2 : PySem.W.keepIn K u = true) (h3 : CallKOk P w K mg base Cl lv u n ks F) : Facts (T.addk x n ks F) P w K mg base Cl lv where
  bi := h.bi
  rng := h.rng
  rev := h.rev
  isi := h.isi
  fn := h.fn
  fk := fun y m js G e => by
    replace e : (if y = x ∧ m = n ∧ js = ks then some F else T.fk y m js) = some G := e
    split at e
    · rename_i c
      obtain ⟨rfl, rfl, rfl⟩ := c
      cases e
      exact ⟨u, h1, h2, h3⟩
    · exact h.fk y m js G e
  gl := h.gl
  fd := h.fd
  mt := h.mt
  gc := h.gc
theorem Facts.addm {c m : Str} {C : Addr} (h : Facts T P w K mg base Cl lv) (hC : Cl c = some C) (hM : MetOk P w K mg base Cl lv C m n F) : Facts (T.addm c m n F) P w K mg base Cl lv where
  bi := h.bi
  rng := h.rng
  rev := h.rev
  isi := h.isi
  fn := h.fn
  fk := h.fk
  gl := h.gl
  fd := h.fd
  mt := fun d y j G C' e hC' => by
    replace e : (if d = c ∧ y = m ∧ j = n then some F else T.mt d y j) = some G := e
    split at e
    · rename_i z
      obtain ⟨rfl, rfl, rfl⟩ := z
      cases e
      rw [hC] at hC'
      cases hC'
      exact hM
    · exact h.mt d y j G C' e hC'
  gc := h.gc
/-- the constants' list -/
def GlOk (K : Frg) (mg : Str → Option Value) (Cl : ClT) (gs : List (Str × D)) : Prop := ∀ p ∈ gs, ∃ u v, mg p.1 = some u ∧ RelV v u ∧ ∀ H : Hp, Rep K Cl H p.2 v
theorem GlOk.nil : GlOk K mg Cl [] := fun p h => by cases h
theorem GlOk.cons {gs : List (Str × D)} {d : D} {v : V} (h1 : mg x = some u) (h2 : RelV v u) (h3 : ∀ H : Hp, Rep K Cl H d v) (t : GlOk K mg Cl gs) : GlOk K mg Cl ((x, d) :: gs) := fun p h => by
  rcases List.mem_cons.mp h with e | h
  · subst e
    exact ⟨u, v, h1, h2, h3⟩
  · exact t p h
theorem GlOk.int {gs : List (Str × D)} {i : Int} {t : Tok} (h1 : mg x = some (.int i t)) (r : GlOk K mg Cl gs) : GlOk K mg Cl ((x, .int i) :: gs) := GlOk.cons (v := .int i) h1 ⟨_, rfl⟩ (fun _ => by simp only [Rep]) r
theorem GlOk.str {gs : List (Str × D)} {i : Str} {t : Tok} (h1 : mg x = some (.str i t)) (r : GlOk K mg Cl gs) : GlOk K mg Cl ((x, .str i) :: gs) := GlOk.cons (v := .str i) h1 ⟨_, rfl⟩ (fun _ => by simp only [Rep]) r
/-- the classes' list -/
def ClsOk (K : Frg) (Cl : ClT) (cs : List (Str × List Str)) : Prop := ∀ p ∈ cs, ∀ C, Cl p.1 = some C → Cls K C ∧ ∀ f ∈ p.2, NoAttr K C f
theorem ClsOk.nil : ClsOk K Cl [] := fun p h => by cases h
theorem ClsOk.cons {c : Str} {fs : List Str} {C : Addr} {cs : List (Str × List Str)} (e : Cl c = some C) (h1 : Cls K C) (h2 : ∀ f ∈ fs, NoAttr K C f) (t : ClsOk K Cl cs) : ClsOk K Cl ((c, fs) :: cs) := fun p h => by
  rcases List.mem_cons.mp h with z | h
  · subst z
    intro C' e'
    rw [e] at e'
    cases e'
    exact ⟨h1, h2⟩
  · exact t p h
theorem facts0 {fu : Nat} {gs : List (Str × D)} {cs : List (Str × List Str)} {gc : Bool} (hgc : gc = true → mg "gcd" = some (.builtin "math.gcd")) (hb : ∀ b : BI, mg b.name = none) (h1 : mg "range" = none) (h2 : mg "reversed" = none) (h3 : mg "isinstance" = none) (hg : GlOk K mg Cl gs) (hc : ClsOk K Cl cs) :
    Facts (tab0 fu gs cs gc) P w K mg base Cl 0 where
  mt := fun c m n F C e hC => by cases e
  gc := hgc
  bi := hb
  rng := h1
  rev := h2
  isi := h3
  fn := fun x n F e => by cases e
  fk := fun x n ks F e => by cases e
  gl := fun x d e => hg _ (look_mem e)
  fd := fun c f C e hC => by
    replace e : (match look cs c with
      | some fs => decide (f ∈ fs)
      | none => false) = true := e
    cases el : look cs c with
    | none => rw [el] at e; cases e
    | some fs =>
      rw [el] at e
      obtain ⟨g1, g2⟩ := hc _ (look_mem el) C hC
      exact ⟨g1, g2 f (of_decide_eq_true e)⟩

/-! ### a def of the module -/
/-- the def x stands behind the top -/
def DefAt (K : Frg) (mg : Str → Option Value) (x : Str) (st : Stmt) : Prop := ∃ f fd, FunD K x x (defArgs st) (defBody st) (defScope st) [] [] f fd ∧ mg x = some (.ref f)
theorem def_mk {h : Heap} {st : Stmt} {f : Addr} {oc : Value} {od an : Option Addr} {osl : Array (Option Value)} {kV doc pm cdv ct : Value} (X : K.In h) (G : h.Ns mainGlobals mg)
    (a : PySem.W.nsIn K mainGlobals x = some (some (.ref f))) (l : K.lookup f = some ⟨oc, od, .func (PySem.W.fnOf x x (defArgs st) (defBody st) (defScope st) .none kV doc pm an cdv ct), osl⟩) (c : PySem.W.codeIn K cdv x = true) (k : PySem.W.keepIn K (.ref f) = true) : DefAt K mg x st :=
  ⟨f, _, ⟨⟨oc, od, .none, kV, doc, pm, an, cdv, ct, osl, rfl, l, c, .inl ⟨rfl, rfl⟩, .inl rfl⟩, k⟩, PySem.W.mg_of X G a⟩
theorem Facts.def_ {st : Stmt} {N ps : List Str} {b : Ss} (h : Facts T P w K mg base Cl lv) (hd : DefAt K mg x st) (S : FnScope N ps (defScope st)) (hc : chSs N (defScope st) b (defBody st) = true)
    (hb : ∀ (kV doc pm : Value) (an : Option Addr) (cdv ct : Value) (us : List Value), us.length = ps.length → bindArgs (PySem.W.fnOf x x (defArgs st) (defBody st) (defScope st) .none kV doc pm an cdv ct) ⟨us, []⟩ = pure (ps.zip us)) :
    Facts (T.add x ps.length (runFn T N.length b)) P w K mg base Cl (lv + 1) := by
  obtain ⟨f, fd, F, hm⟩ := hd
  exact (h.mono (Nat.le_succ _)).add hm F.kp (callOk_all (fnOk_of F S hc h) (F.bindsN hb) rfl)
/-- a def that calls itself: it is worth what it does with so many calls in one another -/
def runRec (T : Tab) (x : Str) (m n : Nat) (b : Ss) : Nat → List D → Res D
  | 0 => fun _ => .stuck
  | k + 1 => runFn (T.add x m (runRec T x m n b k)) n b
theorem Facts.rec_ {st : Stmt} {N ps : List Str} {b : Ss} (h : Facts T P w K mg base Cl lv) (hd : DefAt K mg x st) (S : FnScope N ps (defScope st)) (hc : chSs N (defScope st) b (defBody st) = true)
    (hb : ∀ (kV doc pm : Value) (an : Option Addr) (cdv ct : Value) (us : List Value), us.length = ps.length → bindArgs (PySem.W.fnOf x x (defArgs st) (defBody st) (defScope st) .none kV doc pm an cdv ct) ⟨us, []⟩ = pure (ps.zip us)) (k : Nat) :
    Facts (T.add x ps.length (runRec T x ps.length N.length b k)) P w K mg base Cl (lv + k) := by
  obtain ⟨f, fd, F, hm⟩ := hd
  induction k with
  | zero => exact h.add hm F.kp fun X W _ _ _ _ _ _ _ pins s σ G H ds vs us Q _ _ _ _ _ q => q.elim
  | succ k ih => exact (h.mono (Nat.le_add_right _ _)).add hm F.kp (callOk_all (fnOk_of F S hc ih) (F.bindsN hb) rfl)

/-! ### a class of the module -/
/-- the class c with this __init__ stands behind the top -/
structure ClassAt (K : Frg) (mg : Str → Option Value) (c qual : Str) (st : Stmt) (kws : List (Str × V)) (C : Addr) : Prop where
  mgc : mg c = some (.ref C)
  ini : ∃ f fd, FunD K "__init__" qual (defArgs st) (defBody st) (defScope st) [] kws f fd ∧ Mk K C f
theorem Facts.class_ {c qual : Str} {C : Addr} {st : Stmt} {kws : List (Str × V)} {N ps : List Str} {p0 : Str} {b : Ss} (h : Facts T P w K mg base Cl lv) (hC : Cl c = some C) (hd : ClassAt K mg c qual st kws C) (S : FnScope N (p0 :: ps) (defScope st)) (hc : chSs N (defScope st) b (defBody st) = true)
    (hn : n + ks.length = ps.length)
    (hb : ∀ (kV doc pm : Value) (an : Option Addr) (cdv ct : Value) (us ws : List Value), us.length = n + 1 → ws.length = ks.length → bindArgs (PySem.W.fnOf "__init__" qual (defArgs st) (defBody st) (defScope st) .none kV doc pm an cdv ct) ⟨us, ks.zip ws⟩ = pure ((p0 :: ps).zip (us ++ ws))) :
    CallKOk P w K mg base Cl (lv + 2) (.ref C) n ks (runInit T c N.length b) := by
  obtain ⟨f, fd, F, M⟩ := hd.ini
  have FO := initOk_of hC F S hc h
  have kb : KBn K fd (p0 :: ps) (n + 1) ks (fun us ws => us ++ ws) (fun vs zs => vs ++ zs) := by
    obtain ⟨oc, od, dV, kV, doc, pm, an, cdv, ct, osl, rfl, lk, hcd, hD, hK⟩ := F.ex
    rcases hD with ⟨_, rfl⟩ | ⟨e, _⟩
    · exact ⟨fun s us ws X l1 l2 => BindsTo.of_eq (hb kV doc pm an cdv ct us ws l1 l2), fun r1 r2 => r1.append r2⟩
    · exact absurd rfl e
  have := makeOk_of (g := fun us ws => us ++ ws) (gV := fun vs zs => vs ++ zs) (gD := fun ds es => ds ++ es) M FO kb fun H x ds es vs zs r1 r2 l1 l2 =>
    ⟨vs ++ zs, rfl, r1.append r2, by rw [List.length_append, ← r1.length, ← r2.length, l1, l2, hn]⟩
  simpa only [List.take_append_drop] using this
theorem Facts.classK {c qual : Str} {C : Addr} {st : Stmt} {kws : List (Str × V)} {N ps : List Str} {p0 : Str} {b : Ss} (h : Facts T P w K mg base Cl lv) (hC : Cl c = some C) (hd : ClassAt K mg c qual st kws C) (S : FnScope N (p0 :: ps) (defScope st)) (hc : chSs N (defScope st) b (defBody st) = true)
    (hn : n + ks.length = ps.length)
    (hb : ∀ (kV doc pm : Value) (an : Option Addr) (cdv ct : Value) (us ws : List Value), us.length = n + 1 → ws.length = ks.length → bindArgs (PySem.W.fnOf "__init__" qual (defArgs st) (defBody st) (defScope st) .none kV doc pm an cdv ct) ⟨us, ks.zip ws⟩ = pure ((p0 :: ps).zip (us ++ ws))) :
    Facts (T.addk c n ks (runInit T c N.length b)) P w K mg base Cl (lv + 2) := by
  have ck := Facts.class_ h hC hd S hc hn hb
  obtain ⟨f, fd, F, M⟩ := hd.ini
  exact (h.mono (Nat.le_add_right _ _)).addk hd.mgc M.kp ck
theorem Facts.classP {c qual : Str} {C : Addr} {st : Stmt} {kws : List (Str × V)} {N ps : List Str} {p0 : Str} {b : Ss} (h : Facts T P w K mg base Cl lv) (hC : Cl c = some C) (hd : ClassAt K mg c qual st kws C) (S : FnScope N (p0 :: ps) (defScope st)) (hc : chSs N (defScope st) b (defBody st) = true)
    (hb : ∀ (kV doc pm : Value) (an : Option Addr) (cdv ct : Value) (us : List Value), us.length = ps.length + 1 → bindArgs (PySem.W.fnOf "__init__" qual (defArgs st) (defBody st) (defScope st) .none kV doc pm an cdv ct) ⟨us, []⟩ = pure ((p0 :: ps).zip us)) :
    Facts (T.add c ps.length (runInit T c N.length b)) P w K mg base Cl (lv + 2) := by
  have ck := Facts.class_ (n := ps.length) (ks := []) h hC hd S hc rfl fun kV doc pm an cdv ct us ws l1 l2 => by
    have : ws = [] := List.eq_nil_of_length_eq_zero l2
    subst this
    rw [List.append_nil]
    exact hb kV doc pm an cdv ct us l1
  obtain ⟨f, fd, F, M⟩ := hd.ini
  exact (h.mono (Nat.le_add_right _ _)).add hd.mgc M.kp ck.plain
/-- a class made without its keyword-only values: the defaults -/
theorem Facts.classD {c qual : Str} {C : Addr} {st : Stmt} {kws : List (Str × V)} {N ps : List Str} {p0 : Str} {b : Ss} {dflt : List D} (h : Facts T P w K mg base Cl lv) (hC : Cl c = some C) (hd : ClassAt K mg c qual st kws C) (hk : kws ≠ []) (hdf : ∀ H : Hp, Reps K Cl H dflt (kws.map (·.2)))
    (S : FnScope N (p0 :: ps) (defScope st)) (hc : chSs N (defScope st) b (defBody st) = true) (hn : n + kws.length = ps.length)
    (hb : ∀ (D : Addr) (doc pm : Value) (an : Option Addr) (cdv ct : Value) (us mv : List Value), us.length = n + 1 → mv.length = kws.length → KwChain D ((kws.map (·.1)).zip mv) (bindArgs (PySem.W.fnOf "__init__" qual (defArgs st) (defBody st) (defScope st) .none (.ref D) doc pm an cdv ct) ⟨us, []⟩) ((p0 :: ps).zip (us ++ mv))) :
    Facts (T.add c n (fun as => runInit T c N.length b (as ++ dflt))) P w K mg base Cl (lv + 2) := by
  obtain ⟨f, fd, F, M⟩ := hd.ini
  have FO := initOk_of hC F S hc h
  obtain ⟨mv, kb⟩ := F.kbinds0 (ps := p0 :: ps) (n + 1) [] kws (fun us mz _ => us ++ mz) hk (fun q hq => hq) (fun r1 r2 _ => r1.append r2) fun D doc pm an cdv ct us mv ws l1 l2 l3 => by
    have : ws = [] := List.eq_nil_of_length_eq_zero l3
    subst this
    exact hb D doc pm an cdv ct us mv l1 l2
  have ck := makeOk_of (gD := fun ds _ => ds ++ dflt) M FO kb fun H x ds es vs zs r1 r2 l1 l2 =>
    ⟨vs ++ kws.map (·.2), rfl, r1.append (hdf H), by rw [List.length_append, ← r1.length, l1, List.length_map, hn]⟩
  have ck2 := ck.plain
  refine (h.mono (Nat.le_add_right _ _)).add hd.mgc M.kp (ck2.imp fun ds hl => ?_)
  show runInit T c N.length b (ds.take n ++ dflt) = _
  rw [List.take_of_length_le (Nat.le_of_eq hl)]
theorem kwdR {D a : Addr} {x : Str} (h : PySem.W.nsIn K D x = some (some (.ref a))) : KwdV K (.ref D) [(x, .ref a)] :=
  .inr ⟨D, rfl, fun q hq => by rw [List.mem_singleton] at hq; subst hq; exact ⟨_, h, rfl⟩⟩
theorem kwdS {D : Addr} {x y : Str} {t : Tok} (h : PySem.W.nsIn K D x = some (some (.str y t))) : KwdV K (.ref D) [(x, .str y)] :=
  .inr ⟨D, rfl, fun q hq => by rw [List.mem_singleton] at hq; subst hq; exact ⟨_, h, ⟨_, rfl⟩⟩⟩
/-- the frozen heap that a proof is about -/
abbrev frgOf {K : Frg} {h : Heap} (_ : K.In h) : Frg := K
/-- a pair of whole numbers of the module -/
def Tup2At (K : Frg) (a : Addr) (i j : Int) : Prop := ∃ (dd : Option Addr) (t u : Tok) (n : Nat) (sl : Array (Option Value)), K.lookup a = some ⟨.type "tuple", dd, .seq #[.int i t, .int j u] n, sl⟩
theorem tup2_mk {a : Addr} {i j : Int} {dd : Option Addr} {t u : Tok} {n : Nat} {sl : Array (Option Value)} (h : K.lookup a = some ⟨.type "tuple", dd, .seq #[.int i t, .int j u] n, sl⟩) : Tup2At K a i j := ⟨dd, t, u, n, sl, h⟩
theorem Tup2At.rep {a : Addr} {i j : Int} (h : Tup2At K a i j) (H : Hp) : Rep K Cl H (.tup [.int i, .int j]) (.ref a) := by
  obtain ⟨dd, t, u, n, sl, h⟩ := h
  simp only [Rep]
  refine ⟨a, [.int i, .int j], rfl, .inr ⟨_, #[.int i t, .int j u], n, h, rfl, rfl, by rw [sizeLine_eq]; simp, .cons ⟨_, rfl⟩ (.cons ⟨_, rfl⟩ .nil)⟩, ?_⟩
  exact Reps.of_ints [i, j]
theorem tupc {h : Heap} {a : Addr} {i j : Int} {dd : Option Addr} {t u : Tok} {n : Nat} {sl : Array (Option Value)} (X : K.In h) (G : h.Ns mainGlobals mg) (g : PySem.W.nsIn K mainGlobals x = some (some (.ref a)))
    (l : K.lookup a = some ⟨.type "tuple", dd, .seq #[.int i t, .int j u] n, sl⟩) : ∃ a, mg x = some (.ref a) ∧ Tup2At K a i j := ⟨a, PySem.W.mg_of X G g, tup2_mk l⟩
theorem GlOk.tup2 {gs : List (Str × D)} {a : Addr} {i j : Int} (h1 : mg x = some (.ref a)) (h2 : Tup2At K a i j) (r : GlOk K mg Cl gs) : GlOk K mg Cl ((x, .tup [.int i, .int j]) :: gs) := GlOk.cons (v := .ref a) h1 rfl (fun H => h2.rep H) r
/-- the class at C has this method -/
structure MethAt (K : Frg) (m qual : Str) (st : Stmt) (C : Addr) : Prop where
  ex : ∃ f fd, FunD K m qual (defArgs st) (defBody st) (defScope st) [] [] f fd ∧ Meth K C m f
theorem meth_mk {st : Stmt} {m qual : Str} {C f : Addr} {oc : Value} {od an : Option Addr} {osl : Array (Option Value)} {kV doc pm cdv ct : Value} (a : PySem.W.findIn K (.ref C) m = some (some (.ref f))) (i : PySem.W.isFn K (.ref f) = true)
    (l : K.lookup f = some ⟨oc, od, .func (PySem.W.fnOf m qual (defArgs st) (defBody st) (defScope st) .none kV doc pm an cdv ct), osl⟩) (c : PySem.W.codeIn K cdv qual = true) (k : PySem.W.keepIn K (.ref f) = true) : MethAt K m qual st C :=
  ⟨f, _, ⟨⟨oc, od, .none, kV, doc, pm, an, cdv, ct, osl, rfl, l, c, .inl ⟨rfl, rfl⟩, .inl rfl⟩, k⟩, ⟨a, i, k⟩⟩
theorem Facts.meth_ {c m qual : Str} {C : Addr} {st : Stmt} {N ps : List Str} {p0 : Str} {b : Ss} (h : Facts T P w K mg base Cl lv) (hC : Cl c = some C) (hCl : Cls K C) (hd : MethAt K m qual st C) (S : FnScope N (p0 :: ps) (defScope st)) (hc : chSs N (defScope st) b (defBody st) = true)
    (hb : ∀ (kV doc pm : Value) (an : Option Addr) (cdv ct : Value) (us : List Value), us.length = ps.length + 1 → bindArgs (PySem.W.fnOf m qual (defArgs st) (defBody st) (defScope st) .none kV doc pm an cdv ct) ⟨us, []⟩ = pure ((p0 :: ps).zip us)) :
    Facts (T.addm c m ps.length (runFn T N.length b)) P w K mg base Cl (lv + 2) := by
  obtain ⟨f, fd, F, M⟩ := hd.ex
  exact (h.mono (Nat.le_add_right _ _)).addm hC ⟨f, fd, p0 :: ps, lv + 1, hCl, M, Nat.le_refl _, fnOk_of F S hc h, F.bindsN (ps := p0 :: ps) hb, rfl⟩
theorem class_mk {h : Heap} {st : Stmt} {c qual : Str} {kws : List (Str × V)} {C f : Addr} {oc : Value} {od an : Option Addr} {osl : Array (Option Value)} {kV doc pm cdv ct : Value} (X : K.In h) (G : h.Ns mainGlobals mg)
    (aC : PySem.W.nsIn K mainGlobals c = some (some (.ref C))) (mk : PySem.W.makesIn K C = true) (kc : PySem.W.keepIn K (.ref C) = true) (a : PySem.W.findIn K (.ref C) "__init__" = some (some (.ref f))) (i : PySem.W.isFn K (.ref f) = true)
    (l : K.lookup f = some ⟨oc, od, .func (PySem.W.fnOf "__init__" qual (defArgs st) (defBody st) (defScope st) .none kV doc pm an cdv ct), osl⟩) (cd : PySem.W.codeIn K cdv qual = true) (k : PySem.W.keepIn K (.ref f) = true) (hk : KwdV K kV kws) : ClassAt K mg c qual st kws C :=
  ⟨PySem.W.mg_of X G aC, f, _, ⟨⟨oc, od, .none, kV, doc, pm, an, cdv, ct, osl, rfl, l, cd, .inl ⟨rfl, rfl⟩, hk⟩, k⟩, ⟨mk, a, i, kc⟩⟩

theorem class_ex {h : Heap} {st : Stmt} {c qual : Str} {kws : List (Str × V)} {C f : Addr} {oc : Value} {od an : Option Addr} {osl : Array (Option Value)} {kV doc pm cdv ct : Value} {fs : List Str} (X : K.In h) (G : h.Ns mainGlobals mg)
    (aC : PySem.W.nsIn K mainGlobals c = some (some (.ref C))) (mk : PySem.W.makesIn K C = true) (kc : PySem.W.keepIn K (.ref C) = true) (a : PySem.W.findIn K (.ref C) "__init__" = some (some (.ref f))) (i : PySem.W.isFn K (.ref f) = true)
    (l : K.lookup f = some ⟨oc, od, .func (PySem.W.fnOf "__init__" qual (defArgs st) (defBody st) (defScope st) .none kV doc pm an cdv ct), osl⟩) (cd : PySem.W.codeIn K cdv qual = true) (k : PySem.W.keepIn K (.ref f) = true) (hk : KwdV K kV kws)
    (pg : PySem.W.plainGet K C Str.empty = true) (hd : PySem.W.hasDictIn K C = true) (po : PySem.W.plainOver K C = true) (sa : PySem.W.findIn K (.ref C) "__setattr__" = some (some (.builtin "object.__setattr__"))) (hf : ∀ f ∈ fs, NoAttr K C f) {R : Frg → Addr → Prop} (hR : R K C) :
    ∃ C, ClassAt K mg c qual st kws C ∧ Cls K C ∧ (∀ f ∈ fs, NoAttr K C f) ∧ R K C := ⟨C, class_mk X G aC mk kc a i l cd k hk, ⟨pg, hd, po, sa⟩, hf, hR⟩
theorem no_attrs {C : Addr} : ∀ f ∈ ([] : List Str), NoAttr K C f := fun f h => absurd h List.not_mem_nil
theorem no_attr {C : Addr} {f : Str} {fs : List Str} (h : PySem.W.findIn K (.ref C) f = some none) (t : ∀ g ∈ fs, NoAttr K C g) : ∀ g ∈ f :: fs, NoAttr K C g := List.forall_mem_cons.mpr ⟨h, t⟩

/-! ### the law's def -/
/-- what the law's def must come to -/
def LawOk (F : List D → Res D) : Prop := ∀ ns : List Int, ns.length ≤ 63 → F [.frl (ns.map D.int)] = .ok (.bl true)
def spLaw (K : Frg) : Sp := fun vs H Q _ => ∃ (a : Addr) (ns : List Int), vs = [.ref a] ∧ SqL K H a (ns.map V.int) ∧ ns.length ≤ 63 ∧ ∀ H', Q (.bl true) H'
theorem spLaw_at {Cl : ClT} (hF : LawOk F) {vs : List V} {H : Hp} {Q : VK} {E : XK} (h : spLaw K vs H Q E) : spP K Cl 1 F vs H Q E := by
  obtain ⟨a, ns, rfl, hS, hl, q⟩ := h
  refine ⟨rfl, H, [.frl (ns.map D.int)], Same.refl _, Reps.one ?_, ?_⟩
  · simp only [Rep]
    exact ⟨a, _, rfl, hS, Reps.of_ints ns⟩
  · rw [hF ns hl]
    intro v G' H' _ r
    have e : v = .bl true := by simpa only [Rep] using r
    rw [e]
    exact q H'
theorem law_imp {f : Addr} {fd : FuncData} {ps : List Str} (hF : LawOk F) (h : FnOk P w K mg base (L2.CX P w) lv f fd ps (spP K Cl 1 F)) : FnOk P w K mg base (L2.CX P w) lv f fd ps (spLaw K) :=
  h.imp fun vs H Q E q => spLaw_at hF q
/-- the walk of a law whose def is worth F -/
theorem walk {l : PySem.W.OpenLaw} {q : Program} {loose : List Str} {XP : (Str → Option Value) → Heap → Prop} {YP : World → Heap → Prop} {d : DefRec} {K : Params → PySem.W.Frag} {lv : Nat} (hn : l.most = some 63) (hdf : d.params.defaults = []) (hr : Room lv callerA)
    (hY : ∀ (w : World) (h : Heap), YP w h → (K w.params).In h)
    (hL : ∀ (w : World) (mg : Str → Option Value) (fa : Addr) (h : Heap), (K w.params).In h → h.Ns mainGlobals mg → mg d.name = some (.ref fa) →
      ∃ (fd : FuncData), (∀ (s : Shared) (u : Value), BindsTo s fd ⟨[u], []⟩ [("script", u)]) ∧ ∀ base : Heap, (K w.params).In base → base.Ns mainGlobals mg → FnOk l.prog w (K w.params) mg base (L2.CX l.prog w) lv fa fd ["script"] (spLaw (K w.params))) :
    PySem.W.WalkO q loose XP YP l.row.toRowW d [] (fun f vs => PySem.call f vs) :=
  L2.walk_of (n := 63) (k := lv) (x := "script") (CX := fun w => L2.CX l.prog w) (sp := fun w => spLaw (K w.params)) hn (by decide) hdf hr hY hL
    (fun _ H a ns hl _ hS => ⟨a, ns, rfl, hS, hl, fun _ => rfl⟩) fun w H s e s' z => by
      obtain ⟨_, _, _, _, _, _, _, _, _, _, _, _, z⟩ := z
      exact z.elim
/-- the law's def, given all that it calls -/
theorem law_end {st : Stmt} {N : List Str} {b : Ss} {fa : Addr} {x : Str} (hd : DefAt K mg x st) (hm : mg x = some (.ref fa)) (S : FnScope N ["script"] (defScope st)) (hc : chSs N (defScope st) b (defBody st) = true)
    (hb : ∀ (kV doc pm : Value) (an : Option Addr) (cdv ct : Value) (us : List Value), us.length = 1 → bindArgs (PySem.W.fnOf x x (defArgs st) (defBody st) (defScope st) .none kV doc pm an cdv ct) ⟨us, []⟩ = pure ((["script"] : List Str).zip us))
    (hf : ∀ base : Heap, Facts T P w K mg base Cl lv) (hF : LawOk (runFn T N.length b)) :
    ∃ (fd : FuncData), (∀ (s : Shared) (u : Value), BindsTo s fd ⟨[u], []⟩ [("script", u)]) ∧ ∀ base : Heap, K.In base → base.Ns mainGlobals mg → FnOk P w K mg base (L2.CX P w) (lv + 1) fa fd ["script"] (spLaw K) := by
  obtain ⟨f, fd, F, hm'⟩ := hd
  rw [hm] at hm'
  cases hm'
  exact ⟨fd, fun s u => F.bindsA (ps := ["script"]) hb s [u] rfl, fun base _ _ => law_imp hF (fnOk_of F S hc (hf base))⟩
end
end Pu
/-! PuQ: reckoning with what a def is worth: equality of data, evaluation step by step, loops. -/
namespace Pu
open PySem PySem.Spec PyProof.Rows L2

/-! ### data that may be compared -/
mutual
def fitD : D → Nat → Bool
  | .non, _ => true
  | .bl _, _ => true
  | .int _, _ => true
  | .str x, _ => PyData.canLay0 (.str x)
  | .lst xs, n => match n with
    | 0 => false
    | m + 1 => fitDs xs m
  | .frl xs, n => match n with
    | 0 => false
    | m + 1 => fitDs xs m
  | .tup xs, n => match n with
    | 0 => false
    | m + 1 => fitDs xs m
  | .ins _ _ _, _ => false
def fitDs : List D → Nat → Bool
  | [], _ => true
  | d :: ds, n => fitD d n && fitDs ds n
end
mutual
def eqvD : D → D → Bool
  | .non, y => match y with
    | .non => true
    | _ => false
  | .bl a, y => match y with
    | .bl b => a == b
    | .int j => (if a then 1 else 0) == j
    | _ => false
  | .int i, y => match y with
    | .bl b => i == (if b then 1 else 0)
    | .int j => i == j
    | _ => false
  | .str a, y => match y with
    | .str b => a == b
    | _ => false
  | .lst xs, y => match y with
    | .lst ys => eqvDs xs ys
    | .frl ys => eqvDs xs ys
    | _ => false
  | .frl xs, y => match y with
    | .lst ys => eqvDs xs ys
    | .frl ys => eqvDs xs ys
    | _ => false
  | .tup xs, y => match y with
    | .tup ys => eqvDs xs ys
    | _ => false
  | .ins _ _ _, _ => false
def eqvDs : List D → List D → Bool
  | [], ys => match ys with
    | [] => true
    | _ => false
  | x :: xs, ys => match ys with
    | [] => false
    | y :: ys => eqvD x y && eqvDs xs ys
end
mutual
theorem toPy_fit : ∀ (d : D) (n : Nat), fitD d n = true → ∃ p, toPy d = some p ∧ p.canLay0 = true ∧ p.depth ≤ n
  | .non, n, _ => ⟨.none, rfl, rfl, by simp only [PyData.depth]; omega⟩
  | .bl b, n, _ => ⟨.bool b, rfl, rfl, by simp only [PyData.depth]; omega⟩
  | .int b, n, _ => ⟨.int b, rfl, rfl, by simp only [PyData.depth]; omega⟩
  | .str x, n, h => ⟨.str x, rfl, by simpa only [fitD] using h, by simp only [PyData.depth]; omega⟩
  | .lst xs, n, h => by
    cases n with
    | zero => simp only [fitD] at h; cases h
    | succ m =>
      simp only [fitD] at h
      obtain ⟨ps, e1, e2, e3⟩ := toPys_fit xs m h
      exact ⟨.list ps, by simp only [toPy, e1, Option.map_some], by simpa only [PyData.canLay0] using e2, by simp only [PyData.depth]; omega⟩
  | .frl xs, n, h => by
    cases n with
    | zero => simp only [fitD] at h; cases h
    | succ m =>
      simp only [fitD] at h
      obtain ⟨ps, e1, e2, e3⟩ := toPys_fit xs m h
      exact ⟨.list ps, by simp only [toPy, e1, Option.map_some], by simpa only [PyData.canLay0] using e2, by simp only [PyData.depth]; omega⟩
  | .tup xs, n, h => by
    cases n with
    | zero => simp only [fitD] at h; cases h
    | succ m =>
      simp only [fitD] at h
      obtain ⟨ps, e1, e2, e3⟩ := toPys_fit xs m h
      exact ⟨.tuple ps, by simp only [toPy, e1, Option.map_some], by simpa only [PyData.canLay0] using e2, by simp only [PyData.depth]; omega⟩
  | .ins _ _ _, n, h => by simp only [fitD] at h; cases h
theorem toPys_fit : ∀ (ds : List D) (n : Nat), fitDs ds n = true → ∃ ps, toPys ds = some ps ∧ PyData.canLayAll0 ps = true ∧ PyData.depthAll ps ≤ n
  | [], n, _ => ⟨[], rfl, rfl, by simp only [PyData.depthAll]; omega⟩
  | d :: ds, n, h => by
    simp only [fitDs, Bool.and_eq_true] at h
    obtain ⟨p, e1, e2, e3⟩ := toPy_fit d n h.1
    obtain ⟨ps, f1, f2, f3⟩ := toPys_fit ds n h.2
    exact ⟨p :: ps, by simp only [toPys, e1, f1], by simp only [PyData.canLayAll0, e2, f2, Bool.and_self], by simp only [PyData.depthAll]; omega⟩
end
mutual
theorem eqv_fit : ∀ (x y : D) (p q : PyData), toPy x = some p → toPy y = some q → PyData.eqv p q = eqvD x y
  | .non, y, p, q, h1, h2 => by
    cases h1
    cases y <;> simp only [toPy, Option.map_eq_some_iff] at h2 <;> first | (cases h2; rfl) | (obtain ⟨_, _, rfl⟩ := h2; rfl) | cases h2
  | .bl b, y, p, q, h1, h2 => by
    cases h1
    cases y <;> simp only [toPy, Option.map_eq_some_iff] at h2 <;> first | (cases h2; rfl) | (obtain ⟨_, _, rfl⟩ := h2; rfl) | cases h2
  | .int b, y, p, q, h1, h2 => by
    cases h1
    cases y <;> simp only [toPy, Option.map_eq_some_iff] at h2 <;> first | (cases h2; rfl) | (obtain ⟨_, _, rfl⟩ := h2; rfl) | cases h2
  | .str b, y, p, q, h1, h2 => by
    cases h1
    cases y <;> simp only [toPy, Option.map_eq_some_iff] at h2 <;> first | (cases h2; rfl) | (obtain ⟨_, _, rfl⟩ := h2; rfl) | cases h2
  | .lst xs, y, p, q, h1, h2 => by
    simp only [toPy, Option.map_eq_some_iff] at h1
    obtain ⟨ps, e1, rfl⟩ := h1
    cases y with
    | lst ys =>
      simp only [toPy, Option.map_eq_some_iff] at h2
      obtain ⟨qs, e2, rfl⟩ := h2
      simp only [eqvD, PyData.eqv]
      exact eqvs_fit xs ys ps qs e1 e2
    | frl ys =>
      simp only [toPy, Option.map_eq_some_iff] at h2
      obtain ⟨qs, e2, rfl⟩ := h2
      simp only [eqvD, PyData.eqv]
      exact eqvs_fit xs ys ps qs e1 e2
    | tup ys => simp only [toPy, Option.map_eq_some_iff] at h2; obtain ⟨qs, e2, rfl⟩ := h2; simp only [eqvD, PyData.eqv]
    | _ => simp only [toPy] at h2; cases h2 <;> simp only [eqvD, PyData.eqv]
  | .frl xs, y, p, q, h1, h2 => by
    simp only [toPy, Option.map_eq_some_iff] at h1
    obtain ⟨ps, e1, rfl⟩ := h1
    cases y with
    | lst ys =>
      simp only [toPy, Option.map_eq_some_iff] at h2
      obtain ⟨qs, e2, rfl⟩ := h2
      simp only [eqvD, PyData.eqv]
      exact eqvs_fit xs ys ps qs e1 e2
    | frl ys =>
      simp only [toPy, Option.map_eq_some_iff] at h2
      obtain ⟨qs, e2, rfl⟩ := h2
      simp only [eqvD, PyData.eqv]
      exact eqvs_fit xs ys ps qs e1 e2
    | tup ys => simp only [toPy, Option.map_eq_some_iff] at h2; obtain ⟨qs, e2, rfl⟩ := h2; simp only [eqvD, PyData.eqv]
    | _ => simp only [toPy] at h2; cases h2 <;> simp only [eqvD, PyData.eqv]
  | .tup xs, y, p, q, h1, h2 => by
    simp only [toPy, Option.map_eq_some_iff] at h1
    obtain ⟨ps, e1, rfl⟩ := h1
    cases y with
    | tup ys =>
      simp only [toPy, Option.map_eq_some_iff] at h2
      obtain ⟨qs, e2, rfl⟩ := h2
      simp only [eqvD, PyData.eqv]
      exact eqvs_fit xs ys ps qs e1 e2
    | lst ys => simp only [toPy, Option.map_eq_some_iff] at h2; obtain ⟨qs, e2, rfl⟩ := h2; simp only [eqvD, PyData.eqv]
    | frl ys => simp only [toPy, Option.map_eq_some_iff] at h2; obtain ⟨qs, e2, rfl⟩ := h2; simp only [eqvD, PyData.eqv]
    | _ => simp only [toPy] at h2; cases h2 <;> simp only [eqvD, PyData.eqv]
  | .ins _ _ _, y, p, q, h1, h2 => by simp only [toPy] at h1; cases h1
theorem eqvs_fit : ∀ (xs ys : List D) (ps qs : List PyData), toPys xs = some ps → toPys ys = some qs → PyData.eqvAll ps qs = eqvDs xs ys
  | [], ys, ps, qs, h1, h2 => by
    simp only [toPys] at h1
    cases h1
    cases ys with
    | nil => simp only [toPys] at h2; cases h2; rfl
    | cons y ys =>
      simp only [toPys] at h2
      split at h2
      · cases h2; rfl
      · cases h2
  | x :: xs, ys, ps, qs, h1, h2 => by
    simp only [toPys] at h1
    split at h1
    · rename_i p ps' e1 e2
      cases h1
      cases ys with
      | nil => simp only [toPys] at h2; cases h2; rfl
      | cons y ys =>
        simp only [toPys] at h2
        split at h2
        · rename_i q qs' f1 f2
          cases h2
          simp only [PyData.eqvAll, eqvDs, eqv_fit x y p q e1 f1, eqvs_fit xs ys ps' qs' e2 f2]
        · cases h2
    · cases h1
end
theorem shaped_fit {d : D} (h : fitD d 64 = true) : ∃ p, toPy d = some p ∧ SeqAt.shaped p = true := by
  obtain ⟨p, e1, e2, e3⟩ := toPy_fit d 64 h
  exact ⟨p, e1, by unfold SeqAt.shaped; rw [e2, decide_eq_true e3]; rfl⟩
theorem eqD_fit {x y : D} (h1 : fitD x 64 = true) (h2 : fitD y 64 = true) : eqD x y = some (.bl (eqvD x y)) := by
  obtain ⟨p, e1, f1⟩ := shaped_fit h1
  obtain ⟨q, e2, f2⟩ := shaped_fit h2
  unfold eqD
  rw [e1, e2]
  show (if SeqAt.shaped p = true ∧ SeqAt.shaped q = true then some (D.bl (PyData.eqv p q)) else none) = _
  rw [if_pos ⟨f1, f2⟩, eqv_fit x y p q e1 e2]
theorem neD_fit {x y : D} (h1 : fitD x 64 = true) (h2 : fitD y 64 = true) : neD x y = some (.bl (!eqvD x y)) := by
  obtain ⟨p, e1, f1⟩ := shaped_fit h1
  obtain ⟨q, e2, f2⟩ := shaped_fit h2
  unfold neD
  rw [e1, e2]
  show (if SeqAt.shaped p = true ∧ SeqAt.shaped q = true then some (D.bl (!PyData.eqv p q)) else none) = _
  rw [if_pos ⟨f1, f2⟩, eqv_fit x y p q e1 e2]
theorem any_fit {x : D} {p : PyData} (e : toPy x = some p) : ∀ {ys : List D} {ps : List PyData}, toPys ys = some ps → (ps.any fun z => PyData.eqv z p) = ys.any fun y => eqvD y x
  | [], ps, h => by
    simp only [toPys] at h
    cases h
    rfl
  | y :: ys, ps, h => by
    simp only [toPys] at h
    split at h
    · rename_i q qs e1 e2
      cases h
      rw [List.any_cons, List.any_cons, any_fit e e2, eqv_fit y x q p e1 e]
    · cases h
theorem memD_fit {x : D} {ys : List D} (h1 : fitD x 64 = true) (h2 : fitDs ys 63 = true) : memD x (.lst ys) = some (ys.any fun y => eqvD y x) := by
  obtain ⟨p, e1, f1⟩ := shaped_fit h1
  obtain ⟨q, e2, f2⟩ := shaped_fit (d := .lst ys) (by simpa only [fitD] using h2)
  simp only [toPy, Option.map_eq_some_iff] at e2
  obtain ⟨qs, e2, rfl⟩ := e2
  show (match toPy x, toPys ys with
    | some p, some ps => if SeqAt.shaped p = true ∧ SeqAt.shaped (.list ps) = true then some (ps.any fun z => PyData.eqv z p) else none
    | _, _ => none) = _
  rw [e1, e2]
  show (if SeqAt.shaped p = true ∧ SeqAt.shaped (.list qs) = true then some (qs.any fun z => PyData.eqv z p) else none) = _
  rw [if_pos ⟨f1, f2⟩, any_fit e1 e2]
theorem fitDs_mem {ds : List D} {n : Nat} : fitDs ds n = true ↔ ∀ d ∈ ds, fitD d n = true := by
  induction ds with
  | nil => simp [fitDs]
  | cons d ds ih => simp [fitDs, ih]
theorem eqvDs_ints : ∀ (xs ys : List Int), eqvDs (xs.map D.int) (ys.map D.int) = decide (xs = ys)
  | [], [] => rfl
  | [], _ :: _ => rfl
  | _ :: _, [] => rfl
  | x :: xs, y :: ys => by
    simp only [List.map_cons, eqvDs, eqvD, eqvDs_ints xs ys, List.cons.injEq, Bool.decide_and]
    rfl
mutual
theorem eqvD_refl : ∀ (d : D) (n : Nat), fitD d n = true → eqvD d d = true
  | .non, _, _ => rfl
  | .bl b, _, _ => by simp [eqvD]
  | .int b, _, _ => by simp [eqvD]
  | .str b, _, _ => by simp [eqvD]
  | .lst xs, n, h => by
    cases n with
    | zero => simp only [fitD] at h; cases h
    | succ m => simp only [fitD] at h; simp only [eqvD]; exact eqvDs_refl xs m h
  | .frl xs, n, h => by
    cases n with
    | zero => simp only [fitD] at h; cases h
    | succ m => simp only [fitD] at h; simp only [eqvD]; exact eqvDs_refl xs m h
  | .tup xs, n, h => by
    cases n with
    | zero => simp only [fitD] at h; cases h
    | succ m => simp only [fitD] at h; simp only [eqvD]; exact eqvDs_refl xs m h
  | .ins _ _ _, n, h => by simp only [fitD] at h; cases h
theorem eqvDs_refl : ∀ (ds : List D) (n : Nat), fitDs ds n = true → eqvDs ds ds = true
  | [], _, _ => rfl
  | d :: ds, n, h => by
    simp only [fitDs, Bool.and_eq_true] at h
    simp only [eqvDs, eqvD_refl d n h.1, eqvDs_refl ds n h.2, Bool.and_self]
end
/-! ### evaluation, in small steps -/
def op2 (F : D → D → Option D) (a b : Res D) : Res D := a.bind fun x => b.bind fun y => Res.ofO (F x y)
def op1 (F : D → Option D) (a : Res D) : Res D := a.bind fun x => Res.ofO (F x)
def andR (a b : Res D) : Res D := a.bind fun d => condR d b (.ok (.bl false))
def orR (a b : Res D) : Res D := a.bind fun d => condR d (.ok (.bl true)) b
def iteR (c a b : Res D) : Res D := c.bind fun d => condR d a b
def notR' (a : Res D) : Res D := a.bind notR
def consR (a : Res D) (b : Res (List D)) : Res (List D) := a.bind fun d => b.bind fun ds => .ok (d :: ds)
def appR2 (a b : Res (List D)) : Res (List D) := a.bind fun d => b.bind fun ds => .ok (d ++ ds)
def biR (b : BI) (a : Res (List D)) : Res D := a.bind fun ds => Res.ofO (b.fn ds)
def tupR (a : Res (List D)) : Res D := a.bind fun ds => .ok (.tup ds)
def lstR (a : Res (List D)) : Res D := a.bind fun ds => .ok (.lst ds)
def fldR2 (T : Tab) (f : Str) (a : Res D) : Res D := a.bind fun d => fldR T f d
def tyR (F : D → Option Bool) (a : Res D) : Res D := a.bind fun d => Res.ofO ((F d).map .bl)
def lcR (a : Res (List D)) (k : List D → Res (List D)) : Res D := (a.bind k).bind fun ys => .ok (.lst ys)
def prR (o : Option (Res D)) (k : Option Int → Res D) : Res D := match o with
  | none => k none
  | some r => r.bind fun d => match d with
    | .int i => k (some i)
    | _ => .stuck
def itR (f : D → Res (List D)) (a : Res D) : Res (List D) := a.bind f
def rngR1 (a : Res D) : Res (List D) := a.bind fun y => rngR (.int 0) y
def rngR2 (a b : Res D) : Res (List D) := a.bind fun x => b.bind fun y => rngR x y
section
variable {F : D → D → Option D} {F1 : D → Option D} {x y d : D} {xs ds es : List D} {r r2 : Res D} {rs : Res (List D)} {b : BI} {k : List D → Res (List D)} {T : Tab} {f : Str}
@[simp] theorem op2_ok : op2 F (.ok x) (.ok y) = Res.ofO (F x y) := rfl
@[simp] theorem op1_ok : op1 F1 (.ok x) = Res.ofO (F1 x) := rfl
@[simp] theorem andR_t : andR (.ok (.bl true)) r = r := rfl
@[simp] theorem andR_f : andR (.ok (.bl false)) r = .ok (.bl false) := rfl
@[simp] theorem andR_b {p q : Bool} : andR (.ok (.bl p)) (.ok (.bl q)) = .ok (.bl (p && q)) := by cases p <;> rfl
@[simp] theorem orR_t : orR (.ok (.bl true)) r = .ok (.bl true) := rfl
@[simp] theorem orR_f : orR (.ok (.bl false)) r = r := rfl
@[simp] theorem orR_b {p q : Bool} : orR (.ok (.bl p)) (.ok (.bl q)) = .ok (.bl (p || q)) := by cases p <;> rfl
theorem andR_if {p : Prop} [Decidable p] : andR (.ok (.bl (decide p))) r = if p then r else .ok (.bl false) := by
  by_cases h : p
  · rw [if_pos h, decide_eq_true h]; rfl
  · rw [if_neg h, decide_eq_false h]; rfl
theorem orR_if {p : Prop} [Decidable p] : orR (.ok (.bl (decide p))) r = if p then .ok (.bl true) else r := by
  by_cases h : p
  · rw [if_pos h, decide_eq_true h]; rfl
  · rw [if_neg h, decide_eq_false h]; rfl
@[simp] theorem iteR_t : iteR (.ok (.bl true)) r r2 = r := rfl
@[simp] theorem iteR_f : iteR (.ok (.bl false)) r r2 = r2 := rfl
theorem iteR_if {p : Bool} : iteR (.ok (.bl p)) r r2 = if p = true then r else r2 := by cases p <;> rfl
@[simp] theorem notR'_ok {p : Bool} : notR' (.ok (.bl p)) = .ok (.bl (!p)) := rfl
@[simp] theorem consR_ok : consR (.ok d) (.ok ds) = .ok (d :: ds) := rfl
@[simp] theorem appR2_ok : appR2 (.ok ds) (.ok es) = .ok (ds ++ es) := rfl
@[simp] theorem biR_ok : biR b (.ok ds) = Res.ofO (b.fn ds) := rfl
@[simp] theorem tupR_ok : tupR (.ok ds) = .ok (.tup ds) := rfl
@[simp] theorem lstR_ok : lstR (.ok ds) = .ok (.lst ds) := rfl
@[simp] theorem fldR2_ok : fldR2 T f (.ok d) = fldR T f d := rfl
theorem fldR_at {c : Str} {ns : List Str} (h1 : T.fd c f = true) (h2 : (ns.zip ds).lookup f = some d) : fldR T f (.ins c ns ds) = .ok d := by
  show (if T.fd c f = true then Res.ofO ((ns.zip ds).lookup f) else .stuck) = _
  rw [if_pos h1, h2]
  rfl
theorem tyR_ok {F : D → Option Bool} {p : Bool} (h : F d = some p) : tyR F (.ok d) = .ok (.bl p) := by
  show Res.ofO ((F d).map D.bl) = _
  rw [h]
  rfl
theorem lcR_ok {ys : List D} (h : k ds = .ok ys) : lcR (.ok ds) k = .ok (.lst ys) := by
  show (k ds).bind _ = _
  rw [h]
  rfl
@[simp] theorem apR_ok {G : List D → Res D} : apR (some G) (.ok ds) = G ds := rfl
@[simp] theorem ofO_some {α : Type} {a : α} : Res.ofO (some a) = .ok a := rfl
@[simp] theorem prR_none {k : Option Int → Res D} : prR none k = k none := rfl
@[simp] theorem prR_int {k : Option Int → Res D} {i : Int} : prR (some (.ok (.int i))) k = k (some i) := rfl
@[simp] theorem itR_lst : itR itemsR (.ok (.lst xs)) = .ok xs := rfl
@[simp] theorem itR_frl : itR itemsR (.ok (.frl xs)) = .ok xs := rfl
@[simp] theorem itR_tup : itR itemsR (.ok (.tup xs)) = .ok xs := rfl
@[simp] theorem itR_revL : itR revR (.ok (.lst xs)) = .ok xs.reverse := rfl
@[simp] theorem itR_revT : itR revR (.ok (.tup xs)) = .ok xs.reverse := rfl
theorem two62 : (2 : Int) ^ 62 = 4611686018427387904 := by decide +kernel
/-- a range of places -/
def nats (n : Nat) : List D := (List.range n).map fun k => .int (k : Nat)
theorem res_bind {α β : Type} {a : α} {f : α → Res β} : Res.bind (.ok a) f = f a := rfl
theorem rng_if {i j : Int} : rngR (.int i) (.int j) = (if -(2 ^ 62) ≤ i ∧ i < 2 ^ 62 ∧ -(2 ^ 62) ≤ j ∧ j < 2 ^ 62 ∧ (j - i).toNat ≤ sizeLine then .ok ((List.range (j - i).toNat).map fun k => .int (i + (k : Nat))) else .stuck) := by
  rw [rngR]
theorem rng_ok {i j : Int} (h : -4611686018427387904 ≤ i ∧ i < 4611686018427387904 ∧ -4611686018427387904 ≤ j ∧ j < 4611686018427387904 ∧ (j - i).toNat ≤ 16777216) : rngR (.int i) (.int j) = .ok ((List.range (j - i).toNat).map fun k => .int (i + (k : Nat))) := by
  rw [rng_if, two62, PySem.sizeLine_eq, if_pos h]
theorem rngR_nat {m n : Nat} (h : n ≤ 16777216) (hm : m ≤ 16777216) : rngR (.int (m : Int)) (.int (n : Int)) = .ok ((List.range (n - m)).map fun k => .int ((m + k : Nat) : Int)) := by
  rw [rng_ok (by omega)]
  rw [show ((n : Int) - (m : Int)).toNat = n - m by omega]
  congr 1
theorem rngR_0 {n : Nat} (h : n ≤ 16777216) : rngR (.int 0) (.int (n : Int)) = .ok (nats n) := by
  rw [rng_ok (by omega)]
  rw [show ((n : Int) - 0).toNat = n by omega]
  unfold nats
  congr 1
  exact List.map_congr_left fun k _ => by rw [Int.zero_add]
theorem rngR1_nat {n : Nat} (h : n ≤ 16777216) : rngR1 (.ok (.int (n : Int))) = .ok (nats n) := by
  unfold rngR1
  rw [res_bind]
  exact rngR_0 h
theorem rngR2_nat {m n : Nat} (h : n ≤ 16777216) (hm : m ≤ 16777216) : rngR2 (.ok (.int (m : Int))) (.ok (.int (n : Int))) = .ok ((List.range (n - m)).map fun k => .int ((m + k : Nat) : Int)) := by
  unfold rngR2
  rw [res_bind, res_bind]
  exact rngR_nat h hm
end
section
variable {T : Tab} {ρ : Ro} {a b c : E} {o o2 : Operator} {p p2 : CmpOp} {xs ys : Es} {m : Md} {i : Nat} {f : Str} {ks : List Str} {k : BI} {ts : List Ty} {t : Ty} {lo hi : Eo}
@[simp] theorem ev_var : ev T (.var i) .val ρ = getV ρ i := by simp only [ev]
@[simp] theorem ev_varB : ev T (.var i) .bor ρ = getB ρ i := by simp only [ev]
@[simp] theorem ev_varT : ev T (.var i) .tst ρ = op1 truD (getB ρ i) := by simp only [ev, op1]
@[simp] theorem ev_non : ev T .non .val ρ = .ok .non := by simp only [ev, fin]
@[simp] theorem ev_nonB : ev T .non .bor ρ = .ok .non := by simp only [ev, fin]
@[simp] theorem ev_bl {v : Bool} : ev T (.bl v) .val ρ = .ok (.bl v) := by simp only [ev, fin]
@[simp] theorem ev_blB {v : Bool} : ev T (.bl v) .bor ρ = .ok (.bl v) := by simp only [ev, fin]
@[simp] theorem ev_blT {v : Bool} : ev T (.bl v) .tst ρ = .ok (.bl v) := by simp only [ev, fin]; rfl
@[simp] theorem ev_int {v : Int} : ev T (.int v) .val ρ = .ok (.int v) := by simp only [ev, fin]
@[simp] theorem ev_intB {v : Int} : ev T (.int v) .bor ρ = .ok (.int v) := by simp only [ev, fin]
@[simp] theorem ev_str {v : Str} : ev T (.str v) .val ρ = .ok (.str v) := by simp only [ev, fin]
@[simp] theorem ev_strB {v : Str} : ev T (.str v) .bor ρ = .ok (.str v) := by simp only [ev, fin]
@[simp] theorem ev_glob : ev T (.glob f) .val ρ = Res.ofO (T.gl f) := by simp only [ev, fin]
@[simp] theorem ev_globB : ev T (.glob f) .bor ρ = Res.ofO (T.gl f) := by simp only [ev, fin]
@[simp] theorem ev_bin : ev T (.bin o a b) .val ρ = op2 (binD o) (ev T a .bor ρ) (ev T b .bor ρ) := by simp only [ev, fin]; rfl
@[simp] theorem ev_binB : ev T (.bin o a b) .bor ρ = op2 (binD o) (ev T a .bor ρ) (ev T b .bor ρ) := by simp only [ev, fin]; rfl
@[simp] theorem ev_binT : ev T (.bin o a b) .tst ρ = op1 truD (op2 (binD o) (ev T a .bor ρ) (ev T b .bor ρ)) := by simp only [ev, fin]; rfl
@[simp] theorem ev_neg : ev T (.neg a) .val ρ = op1 negD (ev T a .bor ρ) := by simp only [ev, fin]; rfl
@[simp] theorem ev_negB : ev T (.neg a) .bor ρ = op1 negD (ev T a .bor ρ) := by simp only [ev, fin]; rfl
@[simp] theorem ev_cmp : ev T (.cmp p a b) m ρ = op2 (cmpD p) (ev T a .bor ρ) (ev T b .bor ρ) := by simp only [ev]; rfl
theorem and2 {r r2 r3 : Res D} : (r.bind fun x => r2.bind fun y => (Res.ofO (cmpD p x y)).bind fun d => condR d (r3.bind fun z => Res.ofO (cmpD p2 y z)) (.ok (.bl false))) = andR (op2 (cmpD p) r r2) (op2 (cmpD p2) r2 r3) := by
  cases r with
  | exc c ns ds => rfl
  | stuck => rfl
  | ok x =>
    cases r2 with
    | exc c ns ds => rfl
    | stuck => rfl
    | ok y => rfl
@[simp] theorem ev_cmp2 : ev T (.cmp2 p p2 a b c) m ρ = andR (op2 (cmpD p) (ev T a .bor ρ) (ev T b .bor ρ)) (op2 (cmpD p2) (ev T b .bor ρ) (ev T c .bor ρ)) := by simp only [ev]; exact and2
@[simp] theorem ev_not : ev T (.not_ a) .val ρ = notR' (ev T a .val ρ) := by simp only [ev]; rfl
@[simp] theorem ev_notB : ev T (.not_ a) .bor ρ = notR' (ev T a .val ρ) := by simp only [ev]; rfl
@[simp] theorem ev_notT : ev T (.not_ a) .tst ρ = notR' (ev T a .tst ρ) := by simp only [ev]; rfl
@[simp] theorem ev_and : ev T (.ands xs) .val ρ = evAnd T xs .val ρ := by simp only [ev]
@[simp] theorem ev_andB : ev T (.ands xs) .bor ρ = evAnd T xs .val ρ := by simp only [ev]
@[simp] theorem ev_andT : ev T (.ands xs) .tst ρ = evAnd T xs .tst ρ := by simp only [ev]
@[simp] theorem ev_or : ev T (.ors xs) .val ρ = evOr T xs .val ρ := by simp only [ev]
@[simp] theorem ev_orB : ev T (.ors xs) .bor ρ = evOr T xs .val ρ := by simp only [ev]
@[simp] theorem ev_orT : ev T (.ors xs) .tst ρ = evOr T xs .tst ρ := by simp only [ev]
theorem bind_ok {r : Res D} : (r.bind fun d => .ok d) = r := by cases r <;> rfl
@[simp] theorem evAnd_1 : evAnd T (.cons a .nil) m ρ = ev T a m ρ := by
  simp only [evAnd, Es.isNil, if_true]
  exact bind_ok
@[simp] theorem evAnd_2 : evAnd T (.cons a (.cons b xs)) m ρ = andR (ev T a m ρ) (evAnd T (.cons b xs) m ρ) := by
  rw [evAnd]
  simp only [Es.isNil, Bool.false_eq_true, if_false]
  rfl
@[simp] theorem evOr_1 : evOr T (.cons a .nil) m ρ = ev T a m ρ := by
  simp only [evOr, Es.isNil, if_true]
  exact bind_ok
@[simp] theorem evOr_2 : evOr T (.cons a (.cons b xs)) m ρ = orR (ev T a m ρ) (evOr T (.cons b xs) m ρ) := by
  rw [evOr]
  simp only [Es.isNil, Bool.false_eq_true, if_false]
  rfl
@[simp] theorem ev_ife : ev T (.ife a b c) .val ρ = iteR (ev T a .tst ρ) (ev T b .val ρ) (ev T c .val ρ) := by simp only [ev]; rfl
@[simp] theorem ev_ifeB : ev T (.ife a b c) .bor ρ = iteR (ev T a .tst ρ) (ev T b .val ρ) (ev T c .val ρ) := by simp only [ev]; rfl
@[simp] theorem ev_call : ev T (.call f xs) .val ρ = apR (T.fn f xs.len) (evs T xs ρ) := by simp only [ev, fin]
@[simp] theorem ev_callB : ev T (.call f xs) .bor ρ = apR (T.fn f xs.len) (evs T xs ρ) := by simp only [ev, fin]
@[simp] theorem ev_callT : ev T (.call f xs) .tst ρ = op1 truD (apR (T.fn f xs.len) (evs T xs ρ)) := by simp only [ev, fin]; rfl
@[simp] theorem ev_callk : ev T (.callk f xs ks ys) .val ρ = apR (T.fk f xs.len ks) (appR2 (evs T xs ρ) (evs T ys ρ)) := by simp only [ev, fin]; rfl
@[simp] theorem ev_callkB : ev T (.callk f xs ks ys) .bor ρ = apR (T.fk f xs.len ks) (appR2 (evs T xs ρ) (evs T ys ρ)) := by simp only [ev, fin]; rfl
@[simp] theorem ev_bi : ev T (.bi k xs) .val ρ = biR k (evsB T xs ρ) := by simp only [ev, fin]; rfl
@[simp] theorem ev_biB : ev T (.bi k xs) .bor ρ = biR k (evsB T xs ρ) := by simp only [ev, fin]; rfl
@[simp] theorem ev_biT : ev T (.bi k xs) .tst ρ = op1 truD (biR k (evsB T xs ρ)) := by simp only [ev, fin]; rfl
@[simp] theorem ev_isi : ev T (.isi a ts) .val ρ = tyR (isTys ts) (ev T a .bor ρ) := by simp only [ev, fin]; rfl
@[simp] theorem ev_isiT : ev T (.isi a ts) .tst ρ = op1 truD (tyR (isTys ts) (ev T a .bor ρ)) := by simp only [ev, fin]; rfl
@[simp] theorem ev_isi1 : ev T (.isi1 a t) .val ρ = tyR (isTy t) (ev T a .bor ρ) := by simp only [ev, fin]; rfl
@[simp] theorem ev_isi1T : ev T (.isi1 a t) .tst ρ = op1 truD (tyR (isTy t) (ev T a .bor ρ)) := by simp only [ev, fin]; rfl
@[simp] theorem ev_fld : ev T (.fld a f) .val ρ = fldR2 T f (ev T a .bor ρ) := by simp only [ev, fin]; rfl
@[simp] theorem ev_fldB : ev T (.fld a f) .bor ρ = fldR2 T f (ev T a .bor ρ) := by simp only [ev, fin]; rfl
@[simp] theorem ev_fldT : ev T (.fld a f) .tst ρ = op1 truD (fldR2 T f (ev T a .bor ρ)) := by simp only [ev, fin]; rfl
@[simp] theorem ev_idx : ev T (.idx a b) .val ρ = op2 idxD (ev T a .bor ρ) (ev T b .bor ρ) := by simp only [ev, fin]; rfl
@[simp] theorem ev_idxB : ev T (.idx a b) .bor ρ = op2 idxD (ev T a .bor ρ) (ev T b .bor ρ) := by simp only [ev, fin]; rfl
@[simp] theorem ev_idxT : ev T (.idx a b) .tst ρ = op1 truD (op2 idxD (ev T a .bor ρ) (ev T b .bor ρ)) := by simp only [ev, fin]; rfl
def evoR (T : Tab) (ρ : Ro) : Eo → Option (Res D)
  | .no => none
  | .yes e => some (ev T e .bor ρ)
def slcR (a : Res D) (lo hi : Option (Res D)) : Res D := a.bind fun x => prR lo fun l => prR hi fun u => Res.ofO (slcD x l u)
@[simp] theorem slcR_ok {x : D} {l u : Option (Res D)} : slcR (.ok x) l u = prR l fun l => prR u fun u => Res.ofO (slcD x l u) := rfl
theorem prt_prR {o : Eo} {k : Option Int → Res D} : prt (evo T o) ρ k = prR (evoR T ρ o) k := by
  cases o with
  | no => simp only [evo, evoR]; rfl
  | yes e =>
    simp only [evo, evoR]
    show (ev T e .bor ρ).bind _ = (ev T e .bor ρ).bind _
    refine congrArg _ (funext fun d => ?_)
    cases d <;> rfl
@[simp] theorem ev_slc : ev T (.slc a lo hi) .val ρ = slcR (ev T a .bor ρ) (evoR T ρ lo) (evoR T ρ hi) := by
  simp only [ev, fin, slc, slcR, prt_prR]
@[simp] theorem ev_slcB : ev T (.slc a lo hi) .bor ρ = slcR (ev T a .bor ρ) (evoR T ρ lo) (evoR T ρ hi) := by
  simp only [ev, fin, slc, slcR, prt_prR]
@[simp] theorem evoR_no : evoR T ρ .no = none := rfl
@[simp] theorem evoR_yes {e : E} : evoR T ρ (.yes e) = some (ev T e .bor ρ) := rfl
@[simp] theorem ev_tup : ev T (.tup xs) .val ρ = tupR (evs T xs ρ) := by simp only [ev, fin]; rfl
@[simp] theorem ev_tupB : ev T (.tup xs) .bor ρ = tupR (evs T xs ρ) := by simp only [ev, fin]; rfl
@[simp] theorem ev_lst : ev T (.lst xs) .val ρ = lstR (evs T xs ρ) := by simp only [ev, fin]; rfl
@[simp] theorem ev_lstB : ev T (.lst xs) .bor ρ = lstR (evs T xs ρ) := by simp only [ev, fin]; rfl
theorem lc_eq {rs : Res (List D)} {k : List D → Res (List D)} : (rs.bind fun ds => (k ds).bind fun ys => .ok (.lst ys)) = lcR rs k := by cases rs <;> rfl
@[simp] theorem ev_lc {own : List (Str × Nat)} {elt : E} {tg : Tg} {it : It} {c : Eo} : ev T (.lc own elt tg it c) .val ρ = lcR (evi T it true ρ) (lcL (asg tg) (evc T c) (ev T elt .val) (wipeR ρ (own.map (·.2)))) := by
  simp only [ev, fin]
  exact lc_eq
@[simp] theorem ev_lcB {own : List (Str × Nat)} {elt : E} {tg : Tg} {it : It} {c : Eo} : ev T (.lc own elt tg it c) .bor ρ = lcR (evi T it true ρ) (lcL (asg tg) (evc T c) (ev T elt .val) (wipeR ρ (own.map (·.2)))) := by
  simp only [ev, fin]
  exact lc_eq
@[simp] theorem evs_nil : evs T .nil ρ = .ok [] := by simp only [evs]
@[simp] theorem evs_cons {es : Es} : evs T (.cons a es) ρ = consR (ev T a .val ρ) (evs T es ρ) := by simp only [evs]; rfl
@[simp] theorem evsB_nil : evsB T .nil ρ = .ok [] := by simp only [evsB]
@[simp] theorem evsB_cons {es : Es} : evsB T (.cons a es) ρ = consR (ev T a .bor ρ) (evsB T es ρ) := by simp only [evsB]; rfl
@[simp] theorem evi_seqT : evi T (.seq a) true ρ = itR itemsR (ev T a .bor ρ) := by simp only [evi]; rfl
@[simp] theorem evi_seqF : evi T (.seq a) false ρ = itR itemsR (ev T a .val ρ) := by simp only [evi]; rfl
@[simp] theorem evi_rng {bb : Bool} : evi T (.rng a) bb ρ = rngR1 (ev T a .bor ρ) := by cases bb <;> (simp only [evi]; rfl)
@[simp] theorem evi_rng2 {bb : Bool} : evi T (.rng2 a b) bb ρ = rngR2 (ev T a .bor ρ) (ev T b .bor ρ) := by cases bb <;> (simp only [evi]; rfl)
@[simp] theorem evi_revT : evi T (.rev a) true ρ = itR revR (ev T a .bor ρ) := by simp only [evi]; rfl
@[simp] theorem evi_revF : evi T (.rev a) false ρ = itR revR (ev T a .val ρ) := by simp only [evi]; rfl
@[simp] theorem evc_no : evc T .no ρ = .ok (.bl true) := by simp only [evc]
@[simp] theorem evc_yes : evc T (.yes a) ρ = ev T a .tst ρ := by simp only [evc]
end
/-! slots -/
section
variable {ρ : Ro} {i : Nat} {d : D} {ds : List D} {x : Sl} {c : Str} {ns : List Str} {is : List Nat}
@[simp] theorem getV_0 : getV (.val d :: ρ) 0 = .ok d := rfl
@[simp] theorem getV_s : getV (x :: ρ) (i + 1) = getV ρ i := rfl
@[simp] theorem getB_0 : getB (.val d :: ρ) 0 = .ok d := rfl
@[simp] theorem getB_o : getB (.own ds :: ρ) 0 = .ok (.lst ds) := rfl
@[simp] theorem getB_j : getB (.obj c ns ds :: ρ) 0 = .ok (.ins c ns ds) := rfl
@[simp] theorem getB_s : getB (x :: ρ) (i + 1) = getB ρ i := rfl
@[simp] theorem pub1_v : pub1 (.val d :: ρ) 0 = .val d :: ρ := rfl
@[simp] theorem pub1_n : pub1 (.no :: ρ) 0 = .no :: ρ := rfl
@[simp] theorem pub1_j : pub1 (.obj c ns ds :: ρ) 0 = .obj c ns ds :: ρ := rfl
@[simp] theorem pub1_o : pub1 (.own ds :: ρ) 0 = .val (.lst ds) :: ρ := rfl
@[simp] theorem pub1_s : pub1 (x :: ρ) (i + 1) = x :: pub1 ρ i := by
  unfold pub1
  rw [List.getElem?_cons_succ]
  cases ρ[i]? with
  | none => rfl
  | some s => cases s <;> rfl
@[simp] theorem pubs_nil : pubs [] ρ = ρ := rfl
@[simp] theorem pubs_cons : pubs (i :: is) ρ = pubs is (pub1 ρ i) := rfl
@[simp] theorem set_0 {y : Sl} : (y :: ρ).set 0 x = x :: ρ := rfl
@[simp] theorem set_s {y : Sl} : (y :: ρ).set (i + 1) x = y :: ρ.set i x := rfl
end
/-! statements -/
def rtR (ρ : Ro) (r : Res D) : SR := onD ρ r .rt
def setR (ss : Ss) (T : Tab) (i : Nat) (e : E) (ρ : Ro) (r : Res D) : SR := thenR (onD ρ r fun d => .nx (ρ.set i (slOf e d))) (exs T ss)
def setTR (ss : Ss) (T : Tab) (tg : Tg) (ρ : Ro) (r : Res D) : SR := thenR (onD ρ r fun d => asgR tg ρ d) (exs T ss)
def appS (ss : Ss) (T : Tab) (i : Nat) (ρ : Ro) (r : Res D) : SR := thenR (ownR ρ i fun ds => onD ρ r fun d => appR ρ i ds d) (exs T ss)
def setIS (ss : Ss) (T : Tab) (i : Nat) (ρ : Ro) (r k : Res D) : SR := thenR (onD ρ r fun d => ownR ρ i fun ds => onD ρ k fun k => setIR ρ i ds d k) (exs T ss)
def setFS (ss : Ss) (T : Tab) (i : Nat) (f : Str) (ρ : Ro) (r : Res D) : SR := thenR (onD ρ r fun d => objR ρ i (setFR T ρ i f d)) (exs T ss)
def iteS (ss a b : Ss) (T : Tab) (ρ : Ro) (r : Res D) : SR := thenR (onB ρ r (exs T a ρ) (exs T b ρ)) (exs T ss)
def forS (ss : Ss) (tg : Tg) (b : Ss) (T : Tab) (ρ : Ro) (r : Res (List D)) : SR := thenR (forR tg (exs T b) ρ r) (exs T ss)
def expS (ss : Ss) (T : Tab) (ρ : Ro) (r : Res D) : SR := thenR (onD ρ r fun _ => .nx ρ) (exs T ss)
/-! .. each at the slots where its lists have been handed on -/
def atSet (ss : Ss) (T : Tab) (i : Nat) (e : E) (ρ : Ro) : SR := setR ss T i e ρ (ev T e .val ρ)
def atSetT (ss : Ss) (T : Tab) (tg : Tg) (e : E) (ρ : Ro) : SR := setTR ss T tg ρ (ev T e .val ρ)
def atApp (ss : Ss) (T : Tab) (i : Nat) (e : E) (ρ : Ro) : SR := appS ss T i ρ (ev T e .val ρ)
def atSetI (ss : Ss) (T : Tab) (i : Nat) (ix e : E) (ρ : Ro) : SR := setIS ss T i ρ (ev T e .val ρ) (ev T ix .bor ρ)
def atSetF (ss : Ss) (T : Tab) (i : Nat) (f : Str) (e : E) (ρ : Ro) : SR := setFS ss T i f ρ (ev T e .val ρ)
def atIte (ss : Ss) (T : Tab) (c : E) (a b : Ss) (ρ : Ro) : SR := iteS ss a b T ρ (ev T c .tst ρ)
def atFor (ss : Ss) (T : Tab) (tg : Tg) (it : It) (b : Ss) (ρ : Ro) : SR := forS ss tg b T ρ (evi T it false ρ)
def atExp (ss : Ss) (T : Tab) (e : E) (ρ : Ro) : SR := expS ss T ρ (ev T e .val ρ)
def atRet (T : Tab) (e : E) (ρ : Ro) : SR := rtR ρ (ev T e .val ρ)
section
variable {T : Tab} {ρ : Ro} {ss a b : Ss} {e c ix : E} {i : Nat} {tg : Tg} {it : It} {f : Str} {d k : D} {ds : List D}
@[simp] theorem exs_nil : exs T .nil ρ = .nx ρ := by simp only [exs]
@[simp] theorem exs_set : exs T (.cons (.set i e) ss) ρ = atSet ss T i e (pubs (pv e .val) ρ) := by simp only [exs, ex]; rfl
@[simp] theorem exs_setT : exs T (.cons (.setT tg e) ss) ρ = atSetT ss T tg e (pubs (pv e .val) ρ) := by simp only [exs, ex]; rfl
@[simp] theorem exs_app : exs T (.cons (.app i e) ss) ρ = atApp ss T i e (pubs (pv e .val) ρ) := by simp only [exs, ex]; rfl
@[simp] theorem exs_setI : exs T (.cons (.setI i ix e) ss) ρ = atSetI ss T i ix e (pubs (pv e .val ++ pv ix .bor) ρ) := by simp only [exs, ex]; rfl
@[simp] theorem exs_setF : exs T (.cons (.setF i f e) ss) ρ = atSetF ss T i f e (pubs (pv e .val) ρ) := by simp only [exs, ex]; rfl
@[simp] theorem exs_ite : exs T (.cons (.ite c a b) ss) ρ = atIte ss T c a b (pubs (pv c .tst) ρ) := by simp only [exs, ex]; rfl
@[simp] theorem exs_for : exs T (.cons (.for_ tg it b) ss) ρ = atFor ss T tg it b (pubs (pvi it .val) ρ) := by simp only [exs, ex]; rfl
@[simp] theorem exs_exp : exs T (.cons (.exp e) ss) ρ = atExp ss T e (pubs (pv e .val) ρ) := by simp only [exs, ex]; rfl
theorem onD_rt {r : Res D} : thenR (onD ρ r .rt) (exs T ss) = rtR ρ r := by cases r <;> rfl
@[simp] theorem exs_ret : exs T (.cons (.ret (.yes e)) ss) ρ = atRet T e (pubs (pv e .val) ρ) := by
  simp only [exs, ex]
  exact onD_rt
@[simp] theorem exs_retN : exs T (.cons (.ret .no) ss) ρ = .rt .non := by simp only [exs, ex]; rfl
@[simp] theorem exs_brk : exs T (.cons .brk ss) ρ = .bk ρ := by simp only [exs, ex]; rfl
@[simp] theorem exs_cnt : exs T (.cons .cnt ss) ρ = .ct ρ := by simp only [exs, ex]; rfl
@[simp] theorem exs_pass : exs T (.cons .pass ss) ρ = exs T ss ρ := by simp only [exs, ex]; rfl
@[simp] theorem atSet_eq : atSet ss T i e ρ = setR ss T i e ρ (ev T e .val ρ) := rfl
@[simp] theorem atSetT_eq : atSetT ss T tg e ρ = setTR ss T tg ρ (ev T e .val ρ) := rfl
@[simp] theorem atApp_eq : atApp ss T i e ρ = appS ss T i ρ (ev T e .val ρ) := rfl
@[simp] theorem atSetI_eq : atSetI ss T i ix e ρ = setIS ss T i ρ (ev T e .val ρ) (ev T ix .bor ρ) := rfl
@[simp] theorem atSetF_eq : atSetF ss T i f e ρ = setFS ss T i f ρ (ev T e .val ρ) := rfl
@[simp] theorem atIte_eq : atIte ss T c a b ρ = iteS ss a b T ρ (ev T c .tst ρ) := rfl
@[simp] theorem atFor_eq : atFor ss T tg it b ρ = forS ss tg b T ρ (evi T it false ρ) := rfl
@[simp] theorem atExp_eq : atExp ss T e ρ = expS ss T ρ (ev T e .val ρ) := rfl
@[simp] theorem atRet_eq : atRet T e ρ = rtR ρ (ev T e .val ρ) := rfl
@[simp] theorem rtR_ok : rtR ρ (.ok d) = .rt d := rfl
@[simp] theorem setR_ok : setR ss T i e ρ (.ok d) = exs T ss (ρ.set i (slOf e d)) := rfl
theorem setTR_ok {xs : List D} {is : List Nat} (h : xs.length = is.length) : setTR ss T (.tp is) ρ (.ok (.tup xs)) = exs T ss (setAll is xs ρ) := by
  unfold setTR
  simp only [onD, asgR, asg, if_pos h, thenR]
theorem appS_ok (h : ρ[i]? = some (.own ds)) (hl : ds.length < 16777216) : appS ss T i ρ (.ok d) = exs T ss (ρ.set i (.own (ds ++ [d]))) := by
  unfold appS
  simp only [ownR, h, onD, appR]
  rw [if_pos (by rw [PySem.sizeLine_eq]; exact hl)]
  rfl
theorem setFS_ok {cn : Str} {ns : List Str} (h : ρ[i]? = some (.obj cn ns ds)) (h1 : T.fd cn f = true) (h2 : f ∉ ns) (h3 : ns.length < 999) : setFS ss T i f ρ (.ok d) = exs T ss (ρ.set i (.obj cn (ns ++ [f]) (ds ++ [d]))) := by
  unfold setFS
  simp only [onD, objR, h, setFR]
  rw [if_pos ⟨h1, h2, h3⟩]
  rfl
@[simp] theorem iteS_t : iteS ss a b T ρ (.ok (.bl true)) = thenR (exs T a ρ) (exs T ss) := rfl
@[simp] theorem iteS_f : iteS ss a b T ρ (.ok (.bl false)) = thenR (exs T b ρ) (exs T ss) := rfl
@[simp] theorem iteS_b {p : Bool} : iteS ss a b T ρ (.ok (.bl p)) = if p = true then thenR (exs T a ρ) (exs T ss) else thenR (exs T b ρ) (exs T ss) := by cases p <;> rfl
@[simp] theorem forS_ok : forS ss tg b T ρ (.ok ds) = thenR (forL tg (exs T b) ds ρ) (exs T ss) := rfl
@[simp] theorem expS_ok : expS ss T ρ (.ok d) = exs T ss ρ := rfl
@[simp] theorem thenR_nx {k : Ro → SR} : thenR (.nx ρ) k = k ρ := rfl
@[simp] theorem thenR_rt {k : Ro → SR} : thenR (.rt d) k = .rt d := rfl
@[simp] theorem thenR_bk {k : Ro → SR} : thenR (.bk ρ) k = .bk ρ := rfl
@[simp] theorem thenR_ct {k : Ro → SR} : thenR (.ct ρ) k = .ct ρ := rfl
@[simp] theorem endD_nx : endD (.nx ρ) = .ok .non := rfl
@[simp] theorem endD_rt : endD (.rt d) = .ok d := rfl
@[simp] theorem endI_nx {cn : Str} {ns : List Str} : endI (.nx (.obj cn ns ds :: ρ)) = .ok (.ins cn ns ds) := rfl
theorem slOf_v (h : fresh e = false) : slOf e d = .val d := slOf_not h
end
/-! own lists and objects, slot by slot -/
def contR (ss : Ss) (T : Tab) : Option Ro → SR
  | some ρ => exs T ss ρ
  | none => .stuck
def appAt : Ro → Nat → D → Option Ro
  | [], _, _ => none
  | x :: ρ, 0, d => match x with
    | .own ds => if ds.length < 16777216 then some (.own (ds ++ [d]) :: ρ) else none
    | _ => none
  | x :: ρ, i + 1, d => (appAt ρ i d).map (x :: ·)
def setIAt : Ro → Nat → D → D → Option Ro
  | [], _, _, _ => none
  | x :: ρ, 0, d, k => match x, k with
    | .own ds, .int z => (ixN ds.length z).map fun j => .own (ds.set j d) :: ρ
    | _, _ => none
  | x :: ρ, i + 1, d, k => (setIAt ρ i d k).map (x :: ·)
def setFAt (T : Tab) : Ro → Nat → Str → D → Option Ro
  | [], _, _, _ => none
  | x :: ρ, 0, f, d => match x with
    | .obj c ns ds => if T.fd c f = true ∧ f ∉ ns ∧ ns.length < 999 then some (.obj c (ns ++ [f]) (ds ++ [d]) :: ρ) else none
    | _ => none
  | x :: ρ, i + 1, f, d => (setFAt T ρ i f d).map (x :: ·)
theorem cont_map {ss : Ss} {T : Tab} {o : Option Ro} {r : SR} {k : Ro → Ro} (h : ∀ ρ, o = some ρ → r = .nx (k ρ)) (h2 : o = none → r = .stuck) : thenR r (exs T ss) = contR ss T (o.map k) := by
  cases o with
  | none => rw [h2 rfl]; rfl
  | some ρ => rw [h ρ rfl]; rfl
theorem appAt_eq : ∀ (ρ : Ro) (i : Nat) (d : D), appAt ρ i d = match ρ[i]? with
    | some (.own ds) => if ds.length < 16777216 then some (ρ.set i (.own (ds ++ [d]))) else none
    | _ => none
  | [], i, d => by simp [appAt]
  | x :: ρ, 0, d => by cases x <;> rfl
  | x :: ρ, i + 1, d => by
    rw [appAt, appAt_eq ρ i d, List.getElem?_cons_succ]
    cases e : ρ[i]? with
    | none => rfl
    | some s =>
      cases s with
      | own ds =>
        dsimp only
        split <;> rfl
      | _ => rfl
theorem setIAt_eq : ∀ (ρ : Ro) (i : Nat) (d k : D), setIAt ρ i d k = match ρ[i]?, k with
    | some (.own ds), .int z => (ixN ds.length z).map fun j => ρ.set i (.own (ds.set j d))
    | _, _ => none
  | [], i, d, k => by simp [setIAt]
  | x :: ρ, 0, d, k => by cases x <;> cases k <;> rfl
  | x :: ρ, i + 1, d, k => by
    rw [setIAt, setIAt_eq ρ i d k, List.getElem?_cons_succ]
    cases e : ρ[i]? with
    | none => rfl
    | some s =>
      cases s with
      | own ds =>
        cases k with
        | int z =>
          dsimp only
          cases ixN ds.length z <;> rfl
        | _ => rfl
      | _ => rfl
theorem setFAt_eq (T : Tab) : ∀ (ρ : Ro) (i : Nat) (f : Str) (d : D), setFAt T ρ i f d = match ρ[i]? with
    | some (.obj c ns ds) => if T.fd c f = true ∧ f ∉ ns ∧ ns.length < 999 then some (ρ.set i (.obj c (ns ++ [f]) (ds ++ [d]))) else none
    | _ => none
  | [], i, f, d => by simp [setFAt]
  | x :: ρ, 0, f, d => by cases x <;> rfl
  | x :: ρ, i + 1, f, d => by
    rw [setFAt, setFAt_eq T ρ i f d, List.getElem?_cons_succ]
    cases e : ρ[i]? with
    | none => rfl
    | some s =>
      cases s with
      | obj c ns ds =>
        dsimp only
        split <;> rfl
      | _ => rfl
section
variable {T : Tab} {ρ : Ro} {ss : Ss} {i : Nat} {f : Str} {d k : D} {ds : List D} {x : Sl}
@[simp] theorem appS_go : appS ss T i ρ (.ok d) = contR ss T (appAt ρ i d) := by
  rw [appAt_eq]
  unfold appS
  cases e : ρ[i]? with
  | none => simp only [ownR, e]; rfl
  | some s =>
    cases s with
    | own ds =>
      simp only [ownR, e, onD, appR, PySem.sizeLine_eq]
      split <;> rfl
    | _ => simp only [ownR, e]; rfl
@[simp] theorem setIS_go : setIS ss T i ρ (.ok d) (.ok k) = contR ss T (setIAt ρ i d k) := by
  rw [setIAt_eq]
  unfold setIS
  cases e : ρ[i]? with
  | none => simp only [onD, ownR, e]; rfl
  | some s =>
    cases s with
    | own ds =>
      cases k with
      | int z =>
        simp only [onD, ownR, e, setIR]
        cases ixN ds.length z <;> rfl
      | _ => simp only [onD, ownR, e, setIR]; rfl
    | _ => simp only [onD, ownR, e]; rfl
@[simp] theorem setFS_go : setFS ss T i f ρ (.ok d) = contR ss T (setFAt T ρ i f d) := by
  rw [setFAt_eq]
  unfold setFS
  cases e : ρ[i]? with
  | none => simp only [onD, objR, e]; rfl
  | some s =>
    cases s with
    | obj c ns ds =>
      simp only [onD, objR, e, setFR]
      split <;> rfl
    | _ => simp only [onD, objR, e]; rfl
@[simp] theorem contR_some : contR ss T (some ρ) = exs T ss ρ := rfl
@[simp] theorem appAt_0 (h : ds.length < 16777216) : appAt (.own ds :: ρ) 0 d = some (.own (ds ++ [d]) :: ρ) := if_pos h
@[simp] theorem appAt_s : appAt (x :: ρ) (i + 1) d = (appAt ρ i d).map (x :: ·) := rfl
@[simp] theorem setIAt_0 {z : Int} {j : Nat} (h : ixN ds.length z = some j) : setIAt (.own ds :: ρ) 0 d (.int z) = some (.own (ds.set j d) :: ρ) := by
  show (ixN ds.length z).map _ = _
  rw [h]
  rfl
@[simp] theorem setIAt_s : setIAt (x :: ρ) (i + 1) d k = (setIAt ρ i d k).map (x :: ·) := rfl
@[simp] theorem setFAt_0 {c : Str} {ns : List Str} (h1 : T.fd c f = true) (h2 : f ∉ ns) (h3 : ns.length < 999) : setFAt T (.obj c ns ds :: ρ) 0 f d = some (.obj c (ns ++ [f]) (ds ++ [d]) :: ρ) := if_pos ⟨h1, h2, h3⟩
@[simp] theorem setFAt_s : setFAt T (x :: ρ) (i + 1) f d = (setFAt T ρ i f d).map (x :: ·) := rfl
end

/-! ### the operations on plain values -/
section
variable {i j : Int} {p q : Bool} {x y : Str} {d : D} {xs ys : List D}
@[simp] theorem binD_add : binD .Add = addD := rfl
@[simp] theorem binD_sub : binD .Sub = subD := rfl
@[simp] theorem binD_mul : binD .Mult = mulD := rfl
@[simp] theorem binD_fdiv : binD .FloorDiv = fdivD := rfl
@[simp] theorem binD_mod : binD .Mod = modD := rfl
@[simp] theorem binD_pow : binD .Pow = powD := rfl
@[simp] theorem cmpD_eq : cmpD .Eq = eqD := rfl
@[simp] theorem cmpD_ne : cmpD .NotEq = neD := rfl
@[simp] theorem cmpD_lt : cmpD .Lt = ltD := rfl
@[simp] theorem cmpD_le : cmpD .LtE = leD := rfl
@[simp] theorem cmpD_gt : cmpD .Gt = gtD := rfl
@[simp] theorem cmpD_ge : cmpD .GtE = geD := rfl
@[simp] theorem cmpD_is : cmpD .Is = isD := rfl
@[simp] theorem cmpD_isNot : cmpD .IsNot = isNotD := rfl
@[simp] theorem cmpD_in : cmpD .In = inD := rfl
@[simp] theorem cmpD_notIn : cmpD .NotIn = notInD := rfl
@[simp] theorem addD_int : addD (.int i) (.int j) = some (.int (i + j)) := rfl
@[simp] theorem subD_int : subD (.int i) (.int j) = some (.int (i - j)) := rfl
@[simp] theorem negD_int : negD (.int i) = some (.int (-i)) := rfl
@[simp] theorem ltD_int : ltD (.int i) (.int j) = some (.bl (decide (i < j))) := rfl
@[simp] theorem leD_int : leD (.int i) (.int j) = some (.bl (decide (i ≤ j))) := rfl
@[simp] theorem gtD_int : gtD (.int i) (.int j) = some (.bl (decide (j < i))) := rfl
@[simp] theorem geD_int : geD (.int i) (.int j) = some (.bl (decide (j ≤ i))) := rfl
@[simp] theorem eqD_int : eqD (.int i) (.int j) = some (.bl (decide (i = j))) := by rw [eqD_fit rfl rfl]; rfl
@[simp] theorem neD_int : neD (.int i) (.int j) = some (.bl (!decide (i = j))) := by rw [neD_fit rfl rfl]; rfl
@[simp] theorem eqD_bl : eqD (.bl p) (.bl q) = some (.bl (p == q)) := by rw [eqD_fit rfl rfl]; rfl
@[simp] theorem isD_none : isD d .non = some (.bl (isNonD d)) := by cases d <;> rfl
@[simp] theorem isNotD_none : isNotD d .non = some (.bl (!isNonD d)) := by cases d <;> rfl
@[simp] theorem truD_bl : truD (.bl p) = some (.bl p) := rfl
@[simp] theorem truD_int : truD (.int i) = some (.bl (i != 0)) := rfl
@[simp] theorem truD_non : truD .non = some (.bl false) := rfl
@[simp] theorem truD_lst : truD (.lst xs) = some (.bl (!xs.isEmpty)) := rfl
@[simp] theorem truD_tup : truD (.tup xs) = some (.bl (!xs.isEmpty)) := rfl
theorem small_eq {n : Nat} (h : n ≤ 16777216) : n ≤ sizeLine := by
  rw [PySem.sizeLine_eq]
  exact h
theorem addD_tup (h : xs.length + ys.length ≤ 16777216) : addD (.tup xs) (.tup ys) = some (.tup (xs ++ ys)) := if_pos (small_eq h)
theorem addD_lst (h : xs.length + ys.length ≤ 16777216) : addD (.lst xs) (.lst ys) = some (.lst (xs ++ ys)) := if_pos (small_eq h)
theorem addD_str (h : x.length + y.length ≤ 16777216) : addD (.str x) (.str y) = some (.str (x ++ y)) := if_pos (small_eq h)
theorem modD_int (h : j ≠ 0) : modD (.int i) (.int j) = some (.int (i.fmod j)) := if_pos h
theorem log2_lt {n k : Nat} (h : n < 2 ^ k) (hk : 0 < k) : n.log2 < k := by
  by_cases e : n = 0
  · subst e
    rw [Nat.log2_zero]
    exact hk
  · exact (Nat.log2_lt e).mpr h
theorem fdivD_int (h : j ≠ 0) (h2 : j.natAbs < 2 ^ 64) : fdivD (.int i) (.int j) = some (.int (i.fdiv j)) := if_pos ⟨h, Nat.lt_trans (log2_lt h2 (by decide)) (by decide)⟩
theorem mulD_int (h : i.natAbs < 2 ^ 240) (h2 : j.natAbs < 2 ^ 240) : mulD (.int i) (.int j) = some (.int (i * j)) := if_pos (by
  have a := log2_lt h (by decide)
  have b := log2_lt h2 (by decide)
  omega)
theorem powD_int (h : 0 ≤ j ∧ j ≤ 1000000 ∧ i.natAbs < 2 ^ 64) : powD (.int i) (.int j) = some (.int (i ^ j.toNat)) := if_pos h
@[simp] theorem lenD_lst : lenD (.lst xs) = some (.int xs.length) := rfl
@[simp] theorem lenD_frl : lenD (.frl xs) = some (.int xs.length) := rfl
@[simp] theorem lenD_tup : lenD (.tup xs) = some (.int xs.length) := rfl
theorem lenD_str (h : x.length ≤ 16777216) : lenD (.str x) = some (.int x.length) := if_pos (small_eq h)
@[simp] theorem bi_len : BI.fn .len [d] = lenD d := rfl
@[simp] theorem bi_int : BI.fn .int [d] = intD d := rfl
@[simp] theorem bi_list : BI.fn .list [d] = listD d := rfl
@[simp] theorem bi_tuple : BI.fn .tuple [d] = tupleD d := rfl
@[simp] theorem bi_max1 : BI.fn .max [.lst xs] = maxLD (.lst xs) := rfl
@[simp] theorem bi_max2 : BI.fn .max [.int i, .int j] = some (.int (if j > i then j else i)) := rfl
@[simp] theorem bi_min2 : BI.fn .min [.int i, .int j] = some (.int (if j < i then j else i)) := rfl
@[simp] theorem intD_int : intD (.int i) = some (.int i) := rfl
@[simp] theorem listD_lst : listD (.lst xs) = some (.lst xs) := rfl
@[simp] theorem listD_frl : listD (.frl xs) = some (.lst xs) := rfl
@[simp] theorem listD_tup : listD (.tup xs) = some (.lst xs) := rfl
@[simp] theorem tupleD_lst : tupleD (.lst xs) = some (.tup xs) := rfl
@[simp] theorem tupleD_frl : tupleD (.frl xs) = some (.tup xs) := rfl
@[simp] theorem tupleD_tup : tupleD (.tup xs) = some (.tup xs) := rfl
theorem atI_nat {xs : List D} {i : Nat} {d : D} (h : xs[i]? = some d) : atI xs (i : Int) = some d := by
  have hl : i < xs.length := (List.getElem?_eq_some_iff.mp h).1
  have e : ixN xs.length (i : Int) = some i := by
    unfold ixN
    rw [if_pos (by omega), if_pos (by omega)]
    rfl
  unfold atI
  rw [e]
  exact h
theorem idxD_lst {i : Nat} (h : xs[i]? = some d) : idxD (.lst xs) (.int (i : Int)) = some d := atI_nat h
theorem idxD_tup {i : Nat} (h : xs[i]? = some d) : idxD (.tup xs) (.int (i : Int)) = some d := atI_nat h
theorem idxD_frl {i : Nat} (h : xs[i]? = some d) : idxD (.frl xs) (.int (i : Int)) = some d := atI_nat h
end
/-! ### loops -/
theorem forL_ind {tg : Tg} {body : Ro → SR} (P : Nat → Ro → Prop) {ds : List D} {ρ : Ro} (h0 : P 0 ρ) (hs : ∀ i d ρ, ds[i]? = some d → P i ρ → ∃ ρ1 ρ2, asg tg d ρ = some ρ1 ∧ (body ρ1 = .nx ρ2 ∨ body ρ1 = .ct ρ2) ∧ P (i + 1) ρ2) :
    ∃ ρ', forL tg body ds ρ = .nx ρ' ∧ P ds.length ρ' := by
  induction ds generalizing ρ P with
  | nil => exact ⟨ρ, rfl, h0⟩
  | cons d ds ih =>
    obtain ⟨ρ1, ρ2, e1, e2, h2⟩ := hs 0 d ρ rfl h0
    obtain ⟨ρ', e3, h3⟩ := ih (P := fun i => P (i + 1)) h2 fun i d ρ hi hp => hs (i + 1) d ρ (by simpa using hi) hp
    refine ⟨ρ', ?_, by simpa using h3⟩
    unfold forL
    rw [e1]
    rcases e2 with e2 | e2
    · simp only [e2]
      exact e3
    · simp only [e2]
      exact e3
/-- a loop that ends early: at the first item where it does -/
theorem forL_find {tg : Tg} {body : Ro → SR} (P : Nat → Ro → Prop) {ds : List D} {ρ : Ro} {n : Nat} {R : SR} (hn : n < ds.length) (h0 : P 0 ρ)
    (hs : ∀ i d ρ, i < n → ds[i]? = some d → P i ρ → ∃ ρ1 ρ2, asg tg d ρ = some ρ1 ∧ (body ρ1 = .nx ρ2 ∨ body ρ1 = .ct ρ2) ∧ P (i + 1) ρ2)
    (he : ∀ d ρ, ds[n]? = some d → P n ρ → ∃ ρ1 r, asg tg d ρ = some ρ1 ∧ body ρ1 = .rt r ∧ R = .rt r) : forL tg body ds ρ = R := by
  induction ds generalizing ρ P n with
  | nil => cases hn
  | cons d ds ih =>
    cases n with
    | zero =>
      obtain ⟨ρ1, r, e1, e2, e3⟩ := he d ρ rfl h0
      unfold forL
      rw [e1]
      simp only [e2]
      exact e3.symm
    | succ n =>
      obtain ⟨ρ1, ρ2, e1, e2, h2⟩ := hs 0 d ρ (Nat.succ_pos _) rfl h0
      have := ih (P := fun i => P (i + 1)) (n := n) (by simpa using hn) h2 (fun i d ρ hl hi hp => hs (i + 1) d ρ (Nat.succ_lt_succ hl) (by simpa using hi) hp) (fun d ρ hi hp => he d ρ (by simpa using hi) hp)
      unfold forL
      rw [e1]
      rcases e2 with e2 | e2
      · simp only [e2]
        exact this
      · simp only [e2]
        exact this
/-- a comprehension -/
theorem lcL_map {g : D → Ro → Option Ro} {c f : Ro → Res D} {ρ : Ro} {h : D → D} : ∀ {ds : List D}, (∀ d ∈ ds, ∃ ρ1, g d ρ = some ρ1 ∧ c ρ1 = .ok (.bl true) ∧ f ρ1 = .ok (h d)) → lcL g c f ρ ds = .ok (ds.map h)
  | [], _ => rfl
  | d :: ds, hh => by
    obtain ⟨ρ1, e1, e2, e3⟩ := hh d (List.mem_cons_self ..)
    have ih := lcL_map (ds := ds) fun x hx => hh x (List.mem_cons_of_mem _ hx)
    unfold lcL
    rw [e1]
    simp only [e2, noX, Res.bind, e3, ih, List.map_cons]
theorem lcL_filter {g : D → Ro → Option Ro} {c f : Ro → Res D} {ρ : Ro} {p : D → Bool} {h : D → D} : ∀ {ds : List D}, (∀ d ∈ ds, ∃ ρ1, g d ρ = some ρ1 ∧ c ρ1 = .ok (.bl (p d)) ∧ (p d = true → f ρ1 = .ok (h d))) → lcL g c f ρ ds = .ok ((ds.filter p).map h)
  | [], _ => rfl
  | d :: ds, hh => by
    obtain ⟨ρ1, e1, e2, e3⟩ := hh d (List.mem_cons_self ..)
    have ih := lcL_filter (ds := ds) fun x hx => hh x (List.mem_cons_of_mem _ hx)
    unfold lcL
    rw [e1]
    cases hp : p d with
    | true =>
      rw [hp] at e2
      rw [List.filter_cons_of_pos hp, List.map_cons]
      simp only [e2, noX, Res.bind, e3 hp, ih]
    | false =>
      rw [hp] at e2
      rw [List.filter_cons_of_neg (by rw [hp]; exact Bool.false_ne_true)]
      simp only [e2, noX, Res.bind, ih]
end Pu
/-! PuR: the defs that many laws share: the script's cells, its digits, what is frozen. -/
namespace Pu
open PySem L2

/-! ### a script's cell -/
def bCell : Ss :=
  (.cons (.ite (.cmp .Lt (.var 1) (.bi .len (.cons (.var 0) .nil))) (.cons (.ret (.yes (.idx (.var 0) (.var 1))))
    .nil) .nil)
    (.cons (.set 2 (.int 17))
    (.cons (.for_ (.nm 3) (.seq (.var 0)) (.cons (.set 2 (.bin .Mod (.bi .int (.cons (.bin .Add (.bin .Mult (.var 2) (.int 31)) (.bin .Mod (.bi .int (.cons (.var 3) .nil)) (.int 1000003))) .nil)) (.int 1000003)))
    .nil))
    (.cons (.ret (.yes (.bin .Mod (.bi .int (.cons (.bin .Mult (.bin .Mult (.bin .Add (.var 2) (.int 7)) (.bin .Add (.var 1) (.int 3))) (.int 69621)) .nil)) (.int 2147483647))))
    .nil))))
theorem fmod_range {i j : Int} (h : 0 < j) : 0 ≤ i.fmod j ∧ i.fmod j < j := ⟨Int.fmod_nonneg_of_pos i h, Int.fmod_lt_of_pos i h⟩
theorem cell_ok (T : Tab) (ns : List Int) (k : Nat) (hk : k < 2 ^ 32) : ∃ c : Int, runFn T 4 bCell [.frl (ns.map D.int), .int (k : Int)] = .ok (.int c) := by
  by_cases hl : k < ns.length
  · have hd : ((k : Int) < ns.length) := by omega
    have hx : (ns.map D.int)[k]? = some (.int ns[k]) := by simp [hl]
    refine ⟨ns[k], ?_⟩
    unfold runFn
    simp [bCell, hd, idxD_frl hx]
  · have hd : ¬ ((k : Int) < ns.length) := by omega
    obtain ⟨ρ', e1, sd, x, e2, h0, h1⟩ := forL_ind (tg := .nm 3) (body := exs T (.cons (.set 2 (.bin .Mod (.bi .int (.cons (.bin .Add (.bin .Mult (.var 2) (.int 31)) (.bin .Mod (.bi .int (.cons (.var 3) .nil)) (.int 1000003))) .nil)) (.int 1000003))) .nil))
      (ds := ns.map D.int) (ρ := [.val (.frl (ns.map D.int)), .val (.int k), .val (.int 17), .no])
      (fun _ ρ => ∃ (sd : Int) (x : Sl), ρ = [.val (.frl (ns.map D.int)), .val (.int k), .val (.int sd), x] ∧ 0 ≤ sd ∧ sd < 1000003)
      ⟨17, _, rfl, by decide, by decide⟩ (fun i d ρ hi ⟨sd, x, e, h0, h1⟩ => by
        subst e
        rw [List.getElem?_map] at hi
        cases hn : ns[i]? with
        | none => rw [hn] at hi; cases hi
        | some z =>
          rw [hn] at hi
          cases hi
          have r := fmod_range (i := z) (j := 1000003) (by decide)
          refine ⟨_, _, rfl, .inl ?_, (sd * 31 + z.fmod 1000003).fmod 1000003, .val (.int z), rfl, fmod_range (by decide)⟩
          simp [mulD_int (i := sd) (j := 31) (by omega) (by decide), modD_int (j := 1000003)])
    subst e2
    unfold runFn
    have m1 : mulD (.int (sd + 7)) (.int ((k : Int) + 3)) = some (.int ((sd + 7) * ((k : Int) + 3))) := mulD_int (by omega) (by omega)
    have b1 : (sd + 7) * ((k : Int) + 3) ≤ 1000010 * (2 ^ 32 + 3) := Int.mul_le_mul (by omega) (by omega) (by omega) (by decide)
    have b0 : 0 ≤ (sd + 7) * ((k : Int) + 3) := Int.mul_nonneg (by omega) (by omega)
    have m2 : mulD (.int ((sd + 7) * ((k : Int) + 3))) (.int 69621) = some (.int ((sd + 7) * ((k : Int) + 3) * 69621)) := mulD_int (by omega) (by decide)
    refine ⟨((sd + 7) * ((k : Int) + 3) * 69621).fmod 2147483647, ?_⟩
    simp [bCell, hd, e1, m1, m2, modD_int]

/-! ### a cell's digits -/
def bDigits : Ss :=
  (.cons (.set 2 (.lst .nil))
    (.cons (.set 3 (.bi .int (.cons (.var 0) .nil)))
    (.cons (.ite (.cmp .GtE (.var 3) (.bin .Pow (.int 10) (.int 18))) (.cons (.set 3 (.bin .Sub (.var 3) (.bin .Pow (.int 10) (.int 18))))
    (.cons (.for_ (.nm 4) (.seq (.var 1)) (.cons (.app 2 (.bin .Mod (.bi .int (.cons (.var 3) .nil)) (.var 4)))
    (.cons (.set 3 (.bin .FloorDiv (.bi .int (.cons (.var 3) .nil)) (.var 4)))
    .nil)))
    (.cons (.ret (.yes (.var 2)))
    .nil))) .nil)
    (.cons (.set 5 (.bin .Mod (.bi .int (.cons (.var 3) .nil)) (.int 2147483629)))
    (.cons (.for_ (.nm 6) (.rng (.bi .len (.cons (.var 1) .nil))) (.cons (.set 5 (.bin .Mod (.bi .int (.cons (.bin .Add (.bin .Add (.bin .Mult (.var 5) (.int 48271)) (.bin .Mult (.int 974711) (.var 6))) (.int 12345)) .nil)) (.int 2147483647)))
    (.cons (.set 7 (.bin .Mod (.bi .int (.cons (.bin .Mult (.var 5) (.bin .Add (.bin .FloorDiv (.var 5) (.int 65537)) (.int 3))) .nil)) (.int 2147483629)))
    (.cons (.app 2 (.bin .Mod (.bin .FloorDiv (.var 7) (.int 19)) (.idx (.var 1) (.var 6))))
    .nil))))
    (.cons (.ret (.yes (.var 2)))
    .nil))))))
/-- digits below their sizes -/
def Below (ds ss : List Int) : Prop := ds.length = ss.length ∧ ∀ (i : Nat) (d s : Int), ds[i]? = some d → ss[i]? = some s → 0 ≤ d ∧ d < s
theorem below_nil : Below [] [] := ⟨rfl, fun i d s h => by simp at h⟩
theorem take_succ {α : Type} {xs : List α} {i : Nat} {x : α} (h : xs[i]? = some x) : xs.take (i + 1) = xs.take i ++ [x] := by
  rw [List.take_add_one, h]
  rfl
theorem Below.snoc {ds ss : List Int} {i : Nat} {d s : Int} (b : Below ds (ss.take i)) (hs : ss[i]? = some s) (h : 0 ≤ d ∧ d < s) : Below (ds ++ [d]) (ss.take (i + 1)) := by
  rw [take_succ hs]
  refine ⟨by rw [List.length_append, List.length_append, b.1]; rfl, fun j x y h1 h2 => ?_⟩
  by_cases hj : j < ds.length
  · rw [List.getElem?_append_left hj] at h1
    rw [List.getElem?_append_left (by rw [← b.1]; exact hj)] at h2
    exact b.2 j x y h1 h2
  · rw [List.getElem?_append_right (by omega)] at h1
    rw [List.getElem?_append_right (by rw [← b.1]; omega), ← b.1] at h2
    cases e : j - ds.length with
    | zero =>
      rw [e] at h1 h2
      cases h1
      cases h2
      exact h
    | succ m => rw [e] at h1; simp at h1
theorem map_at {ns : List Int} {i : Nat} {d : D} (h : (ns.map D.int)[i]? = some d) : ∃ z, ns[i]? = some z ∧ d = .int z := by
  rw [List.getElem?_map] at h
  cases e : ns[i]? with
  | none => rw [e] at h; cases h
  | some z => rw [e] at h; cases h; exact ⟨z, rfl, rfl⟩
theorem nats_at {n i : Nat} {d : D} (h : (nats n)[i]? = some d) : i < n ∧ d = .int (i : Int) := by
  unfold nats at h
  rw [List.getElem?_map] at h
  by_cases hi : i < n
  · rw [List.getElem?_range hi] at h
    cases h
    exact ⟨hi, rfl⟩
  · rw [List.getElem?_eq_none (by rw [List.length_range]; omega)] at h
    cases h
theorem nats_len {n : Nat} : (nats n).length = n := by simp [nats]
theorem pow18 : powD (.int 10) (.int 18) = some (.int 1000000000000000000) := by
  rw [powD_int ⟨by decide, by decide, by decide⟩]
  rw [show (10 : Int) ^ (18 : Int).toNat = 1000000000000000000 by decide +kernel]
theorem digits_big (T : Tab) (c : Int) (ss : List Int) (hc : (1000000000000000000 : Int) ≤ c) (hl : ss.length ≤ 100000) (hs : ∀ s ∈ ss, 0 < s ∧ s < 2 ^ 60) :
    ∃ ds : List Int, runFn T 8 bDigits [.int c, .lst (ss.map D.int)] = .ok (.lst (ds.map D.int)) ∧ Below ds ss := by
  have hp : powD (.int 10) (.int 18) = some (.int 1000000000000000000) := pow18
  obtain ⟨ρ', e1, ds, x, r, e2, hb⟩ := forL_ind (tg := .nm 4) (body := exs T (.cons (.app 2 (.bin .Mod (.bi .int (.cons (.var 3) .nil)) (.var 4))) (.cons (.set 3 (.bin .FloorDiv (.bi .int (.cons (.var 3) .nil)) (.var 4))) .nil)))
    (ds := ss.map D.int) (ρ := [.val (.int c), .val (.lst (ss.map D.int)), .own [], .val (.int (c - 1000000000000000000)), .no, .no, .no, .no])
    (fun i ρ => ∃ (ds : List Int) (x : Sl) (r : Int), ρ = [.val (.int c), .val (.lst (ss.map D.int)), .own (ds.map D.int), .val (.int r), x, .no, .no, .no] ∧ Below ds (ss.take i))
    ⟨[], _, _, rfl, by simpa using below_nil⟩ (fun i d ρ hi ⟨ds, x, r, e, hb⟩ => by
      subst e
      obtain ⟨s, hsi, rfl⟩ := map_at hi
      obtain ⟨s0, s1⟩ := hs s (List.mem_of_getElem? hsi)
      have hll : ds.length < 16777216 := by
        have h1 := hb.1
        rw [List.length_take] at h1
        omega
      refine ⟨_, _, rfl, .inl ?_, ds ++ [r.fmod s], .val (.int s), r.fdiv s, rfl, hb.snoc hsi (fmod_range s0)⟩
      have a1 : appS (.cons (.set 3 (.bin .FloorDiv (.bi .int (.cons (.var 3) .nil)) (.var 4))) .nil) T 2 [.val (.int c), .val (.lst (ss.map D.int)), .own (ds.map D.int), .val (.int r), .val (.int s), .no, .no, .no] (.ok (.int (r.fmod s))) = _ :=
        appS_ok (ds := ds.map D.int) rfl (by simpa using hll)
      simp [modD_int (i := r) (j := s) (by omega), fdivD_int (i := r) (j := s) (by omega) (by omega), a1])
  subst e2
  refine ⟨ds, ?_, by simpa using hb⟩
  unfold runFn
  simp [bDigits, hp, hc, e1]
theorem digits_small (T : Tab) (c : Int) (ss : List Int) {q18 : Int} (hp : powD (.int 10) (.int 18) = some (.int q18)) (hc : ¬ q18 ≤ c) (hl : ss.length ≤ 100000) (hs : ∀ s ∈ ss, 0 < s ∧ s < 2 ^ 60) :
    ∃ ds : List Int, runFn T 8 bDigits [.int c, .lst (ss.map D.int)] = .ok (.lst (ds.map D.int)) ∧ Below ds ss := by
  obtain ⟨ρ', e1, ds, x, y, sd, e2, h0, h1, hb⟩ := forL_ind (tg := .nm 6) (body := exs T (.cons (.set 5 (.bin .Mod (.bi .int (.cons (.bin .Add (.bin .Add (.bin .Mult (.var 5) (.int 48271)) (.bin .Mult (.int 974711) (.var 6))) (.int 12345)) .nil)) (.int 2147483647)))
  (.cons (.set 7 (.bin .Mod (.bi .int (.cons (.bin .Mult (.var 5) (.bin .Add (.bin .FloorDiv (.var 5) (.int 65537)) (.int 3))) .nil)) (.int 2147483629)))
  (.cons (.app 2 (.bin .Mod (.bin .FloorDiv (.var 7) (.int 19)) (.idx (.var 1) (.var 6)))) .nil))))
    (ds := nats ss.length) (ρ := [.val (.int c), .val (.lst (ss.map D.int)), .own [], .val (.int c), .no, .val (.int (c.fmod 2147483629)), .no, .no])
    (fun i ρ => ∃ (ds : List Int) (x y : Sl) (sd : Int), ρ = [.val (.int c), .val (.lst (ss.map D.int)), .own (ds.map D.int), .val (.int c), .no, .val (.int sd), x, y] ∧ 0 ≤ sd ∧ sd < 2147483647 ∧ Below ds (ss.take i))
    ⟨[], _, _, _, rfl, (fmod_range (by decide)).1, Int.lt_trans (fmod_range (by decide)).2 (by decide), by simpa using below_nil⟩ (fun i d ρ hi ⟨ds, x, y, sd, e, h0, h1, hb⟩ => by
      subst e
      obtain ⟨hi', rfl⟩ := nats_at hi
      have hsi : ss[i]? = some ss[i] := List.getElem?_eq_getElem hi'
      generalize ss[i] = s at hsi
      obtain ⟨s0, s1⟩ := hs s (List.mem_of_getElem? hsi)
      have hx : (ss.map D.int)[i]? = some (.int s) := by rw [List.getElem?_map, hsi]; rfl
      have hll : ds.length < 16777216 := by
        have h1 := hb.1
        rw [List.length_take] at h1
        omega
      have r1 := fmod_range (i := sd * 48271 + 974711 * (i : Int) + 12345) (j := 2147483647) (by decide)
      generalize hz : (sd * 48271 + 974711 * (i : Int) + 12345).fmod 2147483647 = z at r1
      have q0 : 0 ≤ z.fdiv 65537 := Int.fdiv_nonneg r1.1 (by decide)
      have q1 : z.fdiv 65537 ≤ z := by
        rw [Int.fdiv_eq_ediv_of_nonneg _ (by decide)]
        omega
      generalize hq : z.fdiv 65537 = qq at q0 q1
      refine ⟨_, _, rfl, .inl ?_, ds ++ [(((z * (qq + 3)).fmod 2147483629).fdiv 19).fmod s], .val (.int i), .val (.int ((z * (qq + 3)).fmod 2147483629)), z, rfl, r1.1, r1.2, hb.snoc hsi (fmod_range s0)⟩
      have m1 : mulD (.int sd) (.int 48271) = some (.int (sd * 48271)) := mulD_int (by omega) (by decide)
      have m2 : mulD (.int 974711) (.int (i : Int)) = some (.int (974711 * (i : Int))) := mulD_int (by decide) (by omega)
      have m3 : mulD (.int z) (.int (qq + 3)) = some (.int (z * (qq + 3))) := mulD_int (by omega) (by omega)
      have a1 : ∀ w1 w2 w3 w4, appS .nil T 2 [.val (.int c), .val (.lst (ss.map D.int)), .own (ds.map D.int), .val (.int c), .no, w1, w2, w3] (.ok w4) = _ := fun w1 w2 w3 w4 => appS_ok (ds := ds.map D.int) rfl (by simpa using hll)
      simp [m1, m2, modD_int, hz, fdivD_int, hq, m3, idxD_lst hx, modD_int (j := s) (by omega), a1])
  subst e2
  refine ⟨ds, ?_, by rw [nats_len] at hb; simpa using hb⟩
  unfold runFn
  have hd : decide (q18 ≤ c) = false := decide_eq_false hc
  have hm : modD (.int c) (.int 2147483629) = some (.int (c.fmod 2147483629)) := modD_int (by decide)
  have hr := rngR1_nat (n := ss.length) (by omega)
  clear hc
  simp -implicitDefEqProofs [bDigits, hp, hd, hm, hr, e1]
theorem digits_ok (T : Tab) (c : Int) (ss : List Int) (hl : ss.length ≤ 100000) (hs : ∀ s ∈ ss, 0 < s ∧ s < 2 ^ 60) :
    ∃ ds : List Int, runFn T 8 bDigits [.int c, .lst (ss.map D.int)] = .ok (.lst (ds.map D.int)) ∧ Below ds ss := by
  by_cases hc : (1000000000000000000 : Int) ≤ c
  · exact digits_big T c ss hc hl hs
  · exact digits_small T c ss pow18 hc hl hs

/-! ### what is frozen -/
mutual
def frz : D → D
  | .lst xs => .tup (frzs xs)
  | .frl xs => .tup (frzs xs)
  | .tup xs => .tup (frzs xs)
  | .non => .non
  | .bl b => .bl b
  | .int i => .int i
  | .str x => .str x
  | .ins c ns xs => .ins c ns xs
def frzs : List D → List D
  | [] => []
  | d :: ds => frz d :: frzs ds
end
theorem frzs_map : ∀ ds : List D, frzs ds = ds.map frz
  | [] => rfl
  | d :: ds => by simp only [frzs, List.map_cons, frzs_map ds]
mutual
/-- how deep lists lie in one another (objects: none) -/
def flatTo : D → Nat → Bool
  | .lst xs, n => match n with
    | 0 => false
    | m + 1 => flatsTo xs m
  | .frl xs, n => match n with
    | 0 => false
    | m + 1 => flatsTo xs m
  | .tup xs, n => match n with
    | 0 => false
    | m + 1 => flatsTo xs m
  | .ins _ _ _, _ => false
  | .non, _ => true
  | .bl _, _ => true
  | .int _, _ => true
  | .str _, _ => true
def flatsTo : List D → Nat → Bool
  | [], _ => true
  | d :: ds, n => flatTo d n && flatsTo ds n
end
theorem flatsTo_mem {ds : List D} {n : Nat} : flatsTo ds n = true ↔ ∀ d ∈ ds, flatTo d n = true := by
  induction ds with
  | nil => simp [flatsTo]
  | cons d ds ih => simp [flatsTo, ih]
def bFrozen : Ss :=
  (.cons (.ite (.isi (.var 0) [.list, .tuple]) (.cons (.ret (.yes (.bi .tuple (.cons (.lc [("item", 1)] (.call "frozen" (.cons (.var 1) .nil)) (.nm 1) (.seq (.var 0)) .no) .nil))))
    .nil) .nil)
    (.cons (.ret (.yes (.var 0)))
    .nil))
theorem frozen_seq {T : Tab} {k : Nat} {d : D} {xs : List D} (ht : isTys [.list, .tuple] d = some true) (hi : itR itemsR (.ok d) = .ok xs) (ih : ∀ x ∈ xs, runRec T "frozen" 1 2 bFrozen k [x] = .ok (frz x)) :
    runRec T "frozen" 1 2 bFrozen (k + 1) [d] = .ok (.tup (xs.map frz)) := by
  have hl : lcL (asg (.nm 1)) (evc (T.add "frozen" 1 (runRec T "frozen" 1 2 bFrozen k)) .no) (ev (T.add "frozen" 1 (runRec T "frozen" 1 2 bFrozen k)) (.call "frozen" (.cons (.var 1) .nil)) .val) [.val d, .no] xs = .ok (xs.map frz) :=
    lcL_map fun x hx => ⟨[.val d, .val x], rfl, evc_no, by simp -implicitDefEqProofs [Tab.add_same, ih x hx]⟩
  unfold runRec runFn
  generalize T.add "frozen" 1 (runRec T "frozen" 1 2 bFrozen k) = T' at hl ⊢
  simp -implicitDefEqProofs [bFrozen, tyR_ok ht, hi, lcR_ok hl]
theorem frozen_atom {T : Tab} {k : Nat} {d : D} (ht : isTys [.list, .tuple] d = some false) : runRec T "frozen" 1 2 bFrozen (k + 1) [d] = .ok d := by
  unfold runRec runFn
  generalize T.add "frozen" 1 (runRec T "frozen" 1 2 bFrozen k) = T'
  simp -implicitDefEqProofs [bFrozen, tyR_ok ht]
theorem frozen_ok (T : Tab) : ∀ (k : Nat) (d : D), flatTo d k = true → runRec T "frozen" 1 2 bFrozen (k + 1) [d] = .ok (frz d) := by
  intro k
  induction k with
  | zero =>
    intro d h
    cases d with
    | lst xs => simp only [flatTo] at h; cases h
    | frl xs => simp only [flatTo] at h; cases h
    | tup xs => simp only [flatTo] at h; cases h
    | ins _ _ _ => simp only [flatTo] at h; cases h
    | _ => simp only [frz]; exact frozen_atom rfl
  | succ k ih =>
    intro d h
    cases d with
    | lst xs =>
      simp only [flatTo] at h
      simp only [frz, frzs_map]
      exact frozen_seq rfl itR_lst fun x hx => ih x (flatsTo_mem.mp h x hx)
    | frl xs =>
      simp only [flatTo] at h
      simp only [frz, frzs_map]
      exact frozen_seq rfl itR_frl fun x hx => ih x (flatsTo_mem.mp h x hx)
    | tup xs =>
      simp only [flatTo] at h
      simp only [frz, frzs_map]
      exact frozen_seq rfl itR_tup fun x hx => ih x (flatsTo_mem.mp h x hx)
    | ins _ _ _ => simp only [flatTo] at h; cases h
    | _ => simp only [frz]; exact frozen_atom rfl

/-! ### closed reckoning: by the kernel -/
mutual
def beqD : D → D → Bool
  | .non, y => match y with
    | .non => true
    | _ => false
  | .bl a, y => match y with
    | .bl b => decide (a = b)
    | _ => false
  | .int a, y => match y with
    | .int b => decide (a = b)
    | _ => false
  | .str a, y => match y with
    | .str b => decide (a = b)
    | _ => false
  | .lst xs, y => match y with
    | .lst ys => beqDs xs ys
    | _ => false
  | .tup xs, y => match y with
    | .tup ys => beqDs xs ys
    | _ => false
  | .frl xs, y => match y with
    | .frl ys => beqDs xs ys
    | _ => false
  | .ins c ns xs, y => match y with
    | .ins d ms ys => decide (c = d) && decide (ns = ms) && beqDs xs ys
    | _ => false
def beqDs : List D → List D → Bool
  | [], ys => match ys with
    | [] => true
    | _ => false
  | x :: xs, ys => match ys with
    | [] => false
    | y :: ys => beqD x y && beqDs xs ys
end
mutual
theorem beqD_eq : ∀ (x y : D), beqD x y = true → x = y
  | .non, y, h => by cases y <;> simp only [beqD] at h <;> first | rfl | cases h
  | .bl a, y, h => by
    cases y with
    | bl b => simp only [beqD, decide_eq_true_eq] at h; rw [h]
    | _ => simp only [beqD] at h; cases h
  | .int a, y, h => by
    cases y with
    | int b => simp only [beqD, decide_eq_true_eq] at h; rw [h]
    | _ => simp only [beqD] at h; cases h
  | .str a, y, h => by
    cases y with
    | str b => simp only [beqD, decide_eq_true_eq] at h; rw [h]
    | _ => simp only [beqD] at h; cases h
  | .lst xs, y, h => by
    cases y with
    | lst ys => simp only [beqD] at h; rw [beqDs_eq xs ys h]
    | _ => simp only [beqD] at h; cases h
  | .tup xs, y, h => by
    cases y with
    | tup ys => simp only [beqD] at h; rw [beqDs_eq xs ys h]
    | _ => simp only [beqD] at h; cases h
  | .frl xs, y, h => by
    cases y with
    | frl ys => simp only [beqD] at h; rw [beqDs_eq xs ys h]
    | _ => simp only [beqD] at h; cases h
  | .ins c ns xs, y, h => by
    cases y with
    | ins d ms ys =>
      simp only [beqD, Bool.and_eq_true, decide_eq_true_eq] at h
      obtain ⟨⟨h1, h2⟩, h3⟩ := h
      rw [h1, h2, beqDs_eq xs ys h3]
    | _ => simp only [beqD] at h; cases h
theorem beqDs_eq : ∀ (xs ys : List D), beqDs xs ys = true → xs = ys
  | [], ys, h => by cases ys <;> simp only [beqDs] at h <;> first | rfl | cases h
  | x :: xs, ys, h => by
    cases ys with
    | nil => simp only [beqDs] at h; cases h
    | cons y ys =>
      simp only [beqDs, Bool.and_eq_true] at h
      rw [beqD_eq x y h.1, beqDs_eq xs ys h.2]
end
def isOk (r : Res D) (d : D) : Bool := match r with
  | .ok x => beqD x d
  | _ => false
theorem isOk_eq {r : Res D} {d : D} (h : isOk r d = true) : r = .ok d := by
  cases r with
  | ok x => rw [beqD_eq x d h]
  | exc c ns ds => cases h
  | stuck => cases h
def isSome (o : Option D) (d : D) : Bool := match o with
  | some x => beqD x d
  | none => false
theorem isSome_eq {o : Option D} {d : D} (h : isSome o d = true) : o = some d := by
  cases o with
  | some x => rw [beqD_eq x d h]
  | none => cases h
end Pu
/-! PuT: evaluation of the later expressions; ratios. -/
namespace Pu
open PySem PySem.Spec PyProof.Rows L2

section
variable {T : Tab} {ρ : Ro} {a b : E} {xs : Es} {t : Bool} {f : Str} {d : D} {ds : List D} {i j : Int} {m : Md}
def gcdR (T : Tab) (r : Res (List D)) : Res D := if T.gc = true then r.bind fun ds => Res.ofO (gcdF ds) else .stuck
def lenmR2 (T : Tab) (r : Res D) : Res D := r.bind fun d => lenmR T d
def methR2 (T : Tab) (m : Str) (n : Nat) (r : Res (List D)) (a : Res D) : Res D := a.bind fun d => methR T m n r d
def sqR (t : Bool) (r : Res (List D)) : Res D := r.bind fun ds => .ok (sqD t ds)
def revR1 (r : Res D) : Res (List D) := r.bind revLR
def fmtR (r : Res D) : Res D := r.bind fun d => Res.ofO (fmtD d)
def joinR2 (acc : Str) (k : Str → Res D) (r : Res D) : Res D := r.bind fun d => joinR acc k d
def idxofR2 (r a : Res D) : Res D := a.bind fun d => idxofR r d
@[simp] theorem ev_gcd : ev T (.gcd xs) .val ρ = gcdR T (evsB T xs ρ) := by simp only [ev, fin]; rfl
@[simp] theorem ev_gcdB : ev T (.gcd xs) .bor ρ = gcdR T (evsB T xs ρ) := by simp only [ev, fin]; rfl
@[simp] theorem ev_lenm : ev T (.lenm a) .val ρ = lenmR2 T (ev T a .val ρ) := by simp only [ev, fin]; rfl
@[simp] theorem ev_lenmB : ev T (.lenm a) .bor ρ = lenmR2 T (ev T a .val ρ) := by simp only [ev, fin]; rfl
@[simp] theorem ev_meth : ev T (.meth a f xs) .val ρ = methR2 T f xs.len (evs T xs ρ) (ev T a .val ρ) := by simp only [ev, fin]; rfl
@[simp] theorem ev_methB : ev T (.meth a f xs) .bor ρ = methR2 T f xs.len (evs T xs ρ) (ev T a .val ρ) := by simp only [ev, fin]; rfl
@[simp] theorem ev_sqr : ev T (.sqr t a) .val ρ = sqR t (revR1 (ev T a .bor ρ)) := by
  simp only [ev, fin]
  cases ev T a .bor ρ with
  | ok d => rfl
  | exc c ns ds => rfl
  | stuck => rfl
@[simp] theorem ev_sqrB : ev T (.sqr t a) .bor ρ = sqR t (revR1 (ev T a .bor ρ)) := by
  rw [← ev_sqr]
  simp only [ev, fin]
@[simp] theorem ev_sq1 : ev T (.sq1 t a) .val ρ = sqR t (rngR1 (ev T a .bor ρ)) := by
  simp only [ev, fin]
  cases ev T a .bor ρ with
  | ok d => rfl
  | exc c ns ds => rfl
  | stuck => rfl
@[simp] theorem ev_sq1B : ev T (.sq1 t a) .bor ρ = sqR t (rngR1 (ev T a .bor ρ)) := by
  rw [← ev_sq1]
  simp only [ev, fin]
@[simp] theorem ev_sq2 : ev T (.sq2 t a b) .val ρ = sqR t (rngR2 (ev T a .bor ρ) (ev T b .bor ρ)) := by
  simp only [ev, fin]
  cases ev T a .bor ρ with
  | ok d => cases ev T b .bor ρ <;> rfl
  | exc c ns ds => rfl
  | stuck => rfl
@[simp] theorem ev_sq2B : ev T (.sq2 t a b) .bor ρ = sqR t (rngR2 (ev T a .bor ρ) (ev T b .bor ρ)) := by
  rw [← ev_sq2]
  simp only [ev, fin]
@[simp] theorem ev_fmt : ev T (.fmt a) .val ρ = fmtR (ev T a .bor ρ) := by simp only [ev, fin]; rfl
@[simp] theorem ev_fmtB : ev T (.fmt a) .bor ρ = fmtR (ev T a .bor ρ) := by simp only [ev, fin]; rfl
@[simp] theorem ev_joined : ev T (.joined xs) .val ρ = evJ T xs Str.empty ρ := by simp only [ev, fin]
@[simp] theorem ev_joinedB : ev T (.joined xs) .bor ρ = evJ T xs Str.empty ρ := by simp only [ev, fin]
@[simp] theorem evJ_nil {acc : Str} : evJ T .nil acc ρ = .ok (.str acc) := by simp only [evJ]
@[simp] theorem evJ_cons {acc : Str} : evJ T (.cons a xs) acc ρ = joinR2 acc (fun x => evJ T xs x ρ) (ev T a .bor ρ) := by simp only [evJ]; rfl
@[simp] theorem ev_idxof : ev T (.idxof a b) .val ρ = idxofR2 (ev T b .bor ρ) (ev T a .bor ρ) := by simp only [ev, fin]; rfl
@[simp] theorem ev_idxofB : ev T (.idxof a b) .bor ρ = idxofR2 (ev T b .bor ρ) (ev T a .bor ρ) := by simp only [ev, fin]; rfl
theorem gcdR_ok (h : T.gc = true) : gcdR T (.ok [D.int i, D.int j]) = .ok (D.int ((Nat.gcd i.natAbs j.natAbs : Nat) : Int)) := by
  unfold gcdR
  rw [if_pos h]
  rfl
@[simp] theorem sqR_ok : sqR t (.ok ds) = .ok (sqD t ds) := rfl
@[simp] theorem sqD_t : sqD true ds = .tup ds := rfl
@[simp] theorem sqD_f : sqD false ds = .lst ds := rfl
@[simp] theorem revR1_lst : revR1 (.ok (.lst ds)) = .ok ds.reverse := rfl
@[simp] theorem revR1_frl : revR1 (.ok (.frl ds)) = .ok ds.reverse := rfl
@[simp] theorem fmtR_ok : fmtR (.ok d) = Res.ofO (fmtD d) := rfl
theorem fmtD_int (h : i.natAbs < 2 ^ 1900) : fmtD (.int i) = some (.str (toString i)) := if_pos (Nat.lt_of_lt_of_le (log2_lt h (by decide)) (by decide))
theorem joinR2_ok {acc y : Str} {k : Str → Res D} (h : (acc ++ y).length ≤ 16777216) : joinR2 acc k (.ok (.str y)) = k (acc ++ y) := if_pos (small_eq h)
theorem lenmR2_ok {c : Str} {ns : List Str} {F : List D → Res D} {n : Int} (h1 : T.mt c "__len__" 0 = some F) (h2 : F [.ins c ns ds] = .ok (.int n)) (h3 : 0 ≤ n ∧ n < 9223372036854775808) : lenmR2 T (.ok (.ins c ns ds)) = .ok (.int n) := by
  show (match T.mt c "__len__" 0 with | some F => (F [.ins c ns ds]).bind lenOk | none => .stuck) = _
  rw [h1]
  show (F [.ins c ns ds]).bind lenOk = _
  rw [h2]
  show (if 0 ≤ n ∧ n < 2 ^ 63 then Res.ok (D.int n) else .stuck) = _
  rw [if_pos]
  refine ⟨h3.1, ?_⟩
  have : (2 : Int) ^ 63 = 9223372036854775808 := by decide +kernel
  rw [this]
  exact h3.2
theorem methR2_ok {c : Str} {ns : List Str} {F : List D → Res D} {n : Nat} {es : List D} (h0 : f ∉ ns) (h1 : T.mt c f n = some F) : methR2 T f n (.ok es) (.ok (.ins c ns ds)) = F (.ins c ns ds :: es) := by
  show (if f ∈ ns then Res.stuck else match T.mt c f n with | some F => (Res.ok es).bind fun ds' => F (.ins c ns ds :: ds') | none => .stuck) = _
  rw [if_neg h0, h1]
  rfl
theorem mulD_lt {p q : Nat} (h : i.natAbs < 2 ^ p) (h2 : j.natAbs < 2 ^ q) (hp : 0 < p) (hq : 0 < q) (hpq : p + q ≤ 1000000) : mulD (.int i) (.int j) = some (.int (i * j)) := if_pos (by
  have a := log2_lt h hp
  have b := log2_lt h2 hq
  omega)
theorem fdivD_lt (h : j ≠ 0) (h2 : j.natAbs < 2 ^ 9000) : fdivD (.int i) (.int j) = some (.int (i.fdiv j)) := if_pos ⟨h, log2_lt h2 (by decide)⟩
end

/-! ### the place of an item -/
theorem find_fit {x : D} {p : PyData} (e : toPy x = some p) : ∀ {ys : List D} {ps : List PyData}, toPys ys = some ps → (ps.findIdx? fun z => PyData.eqv z p) = ys.findIdx? fun y => eqvD y x
  | [], ps, h => by
    simp only [toPys] at h
    cases h
    rfl
  | y :: ys, ps, h => by
    simp only [toPys] at h
    split at h
    · rename_i q qs e1 e2
      cases h
      rw [List.findIdx?_cons, List.findIdx?_cons, find_fit e e2, eqv_fit y x q p e1 e]
    · cases h
theorem idxof_fit {x : D} {ys : List D} {j : Nat} (h1 : fitD x 64 = true) (h2 : fitDs ys 63 = true) (hj : (ys.findIdx? fun y => eqvD y x) = some j) : idxofR2 (.ok x) (.ok (.lst ys)) = .ok (.int (j : Nat)) := by
  obtain ⟨p, e1, f1⟩ := shaped_fit h1
  obtain ⟨q, e2, f2⟩ := shaped_fit (d := .lst ys) (by simpa only [fitD] using h2)
  simp only [toPy, Option.map_eq_some_iff] at e2
  obtain ⟨qs, e2, rfl⟩ := e2
  show idxofR (.ok x) (.lst ys) = _
  unfold idxofR
  rw [show rowPy (.lst ys) = some qs from e2]
  show Res.ofO (idxofD qs x) = _
  unfold idxofD
  rw [e1]
  show Res.ofO (if SeqAt.shaped p = true ∧ SeqAt.shaped (.list qs) = true then (qs.findIdx? fun z => PyData.eqv z p).map fun j => D.int (j : Nat) else none) = _
  rw [if_pos ⟨f1, f2⟩, find_fit e1 e2, hj]
  rfl

/-! ### ratios -/
def ratD (r : Rat) : D := .tup [.int r.num, .int (r.den : Int)]
/-- a ratio of so many bits -/
def Bits (k : Nat) (r : Rat) : Prop := r.num.natAbs < 2 ^ k ∧ r.den < 2 ^ k
theorem Bits.mono {k l : Nat} {r : Rat} (h : Bits k r) (hl : k ≤ l) : Bits l r := ⟨Nat.lt_of_lt_of_le h.1 (Nat.pow_le_pow_right (by decide) hl), Nat.lt_of_lt_of_le h.2 (Nat.pow_le_pow_right (by decide) hl)⟩
theorem mul_lt_pow {a b k l : Nat} (h : a < 2 ^ k) (h2 : b < 2 ^ l) : a * b < 2 ^ (k + l) := by
  rw [Nat.pow_add]
  exact Nat.lt_of_le_of_lt (Nat.mul_le_mul (Nat.le_of_lt h) (Nat.le_refl _)) (Nat.mul_lt_mul_of_pos_left h2 (Nat.pow_pos (by decide)))
theorem norm_num {t : Int} {b : Nat} (hb : b ≠ 0) : (Rat.normalize t b hb).num = t / ((Nat.gcd t.natAbs b : Nat) : Int) := by rw [Rat.num_normalize]
theorem norm_den {t : Int} {b : Nat} (hb : b ≠ 0) : (Rat.normalize t b hb).den = b / Nat.gcd t.natAbs b := by rw [Rat.den_normalize]
theorem norm_bits {t : Int} {b k : Nat} (hb : b ≠ 0) (h1 : t.natAbs < 2 ^ k) (h2 : b < 2 ^ k) : Bits k (Rat.normalize t b hb) := by
  refine ⟨?_, ?_⟩
  · rw [norm_num]
    refine Nat.lt_of_le_of_lt ?_ h1
    exact Int.natAbs_ediv_le_natAbs ..
  · rw [norm_den]
    exact Nat.lt_of_le_of_lt (Nat.div_le_self ..) h2
theorem Bits.mul {k l : Nat} {r s : Rat} (h : Bits k r) (h2 : Bits l s) : Bits (k + l) (r * s) := by
  rw [Rat.mul_def]
  refine norm_bits _ ?_ (mul_lt_pow h.2 h2.2)
  rw [Int.natAbs_mul]
  exact mul_lt_pow h.1 h2.1
theorem Bits.add {k l : Nat} {r s : Rat} (h : Bits k r) (h2 : Bits l s) : Bits (k + l + 1) (r + s) := by
  rw [Rat.add_def]
  have e : 2 ^ (k + l + 1) = 2 ^ (k + l) + 2 ^ (k + l) := by rw [Nat.pow_succ]; omega
  refine norm_bits _ ?_ ?_
  · refine Nat.lt_of_le_of_lt (Int.natAbs_add_le _ _) ?_
    rw [Int.natAbs_mul, Int.natAbs_mul, Int.natAbs_natCast, Int.natAbs_natCast, e]
    have a := mul_lt_pow h.1 h2.2
    have b := mul_lt_pow h2.1 h.2
    rw [Nat.add_comm l k] at b
    omega
  · have := mul_lt_pow h.2 h2.2
    omega

def bLowest : Ss :=
  (.cons (.set 2 (.gcd (.cons (.var 0) (.cons (.var 1) .nil))))
    (.cons (.ite (.cmp .Lt (.var 1) (.int 0)) (.cons (.set 2 (.neg (.var 2)))
    .nil) .nil)
    (.cons (.ret (.yes (.tup (.cons (.bin .FloorDiv (.var 0) (.var 2)) (.cons (.bin .FloorDiv (.var 1) (.var 2)) .nil)))))
    .nil)))
theorem lowest_ok (T : Tab) (hg : T.gc = true) {t : Int} {b : Nat} (hb : b ≠ 0) (h2 : b < 2 ^ 9000) : runFn T 3 bLowest [.int t, .int (b : Int)] = .ok (ratD (Rat.normalize t b hb)) := by
  have hn : ¬ ((b : Int) < 0) := by omega
  have hp : 0 < Nat.gcd t.natAbs b := Nat.gcd_pos_of_pos_right _ (Nat.pos_of_ne_zero hb)
  have hc : ((Nat.gcd t.natAbs b : Nat) : Int) ≠ 0 := by omega
  have hz : ((Nat.gcd t.natAbs b : Nat) : Int).natAbs < 2 ^ 9000 := by
    rw [Int.natAbs_natCast]
    exact Nat.lt_of_le_of_lt (Nat.le_of_dvd (Nat.pos_of_ne_zero hb) (Nat.gcd_dvd_right _ _)) h2
  have hz2 := Int.natAbs_natCast b
  generalize hG : ((Nat.gcd t.natAbs b : Nat) : Int) = g at *
  unfold runFn
  simp -implicitDefEqProofs [bLowest, gcdR_ok hg, hn]
  rw [hG]
  rw [fdivD_lt hc hz, fdivD_lt hc hz]
  simp -implicitDefEqProofs [ratD, norm_num hb, norm_den hb]
  subst hG
  rw [Int.fdiv_eq_ediv_of_nonneg _ (by omega), Int.fdiv_eq_ediv_of_nonneg _ (by omega)]
  exact ⟨rfl, rfl⟩
def bPlus : Ss :=
  (.cons (.ret (.yes (.call "lowest" (.cons (.bin .Add (.bin .Mult (.idx (.var 0) (.int 0)) (.idx (.var 1) (.int 1))) (.bin .Mult (.idx (.var 1) (.int 0)) (.idx (.var 0) (.int 1)))) (.cons (.bin .Mult (.idx (.var 0) (.int 1)) (.idx (.var 1) (.int 1))) .nil)))))
    .nil)
def bTimes : Ss :=
  (.cons (.ret (.yes (.call "lowest" (.cons (.bin .Mult (.idx (.var 0) (.int 0)) (.idx (.var 1) (.int 0))) (.cons (.bin .Mult (.idx (.var 0) (.int 1)) (.idx (.var 1) (.int 1))) .nil)))))
    .nil)
def bCompare : Ss :=
  (.cons (.set 2 (.bin .Mult (.idx (.var 0) (.int 0)) (.idx (.var 1) (.int 1))))
    (.cons (.set 3 (.bin .Mult (.idx (.var 1) (.int 0)) (.idx (.var 0) (.int 1))))
    (.cons (.ite (.cmp .Lt (.var 2) (.var 3)) (.cons (.ret (.yes (.neg (.int 1))))
    .nil) .nil)
    (.cons (.ite (.cmp .Gt (.var 2) (.var 3)) (.cons (.ret (.yes (.int 1)))
    .nil) .nil)
    (.cons (.ret (.yes (.int 0)))
    .nil)))))
/-- what lowest is worth -/
def LowOk (F : List D → Res D) : Prop := ∀ (t : Int) (b : Nat) (hb : b ≠ 0), b < 2 ^ 9000 → F [.int t, .int (b : Int)] = .ok (ratD (Rat.normalize t b hb))
theorem ix0 {x y : D} : idxD (.tup [x, y]) (.int 0) = some x := idxD_tup (i := 0) rfl
theorem ix1 {x y : D} : idxD (.tup [x, y]) (.int 1) = some y := idxD_tup (i := 1) rfl
theorem Bits.num {k : Nat} {r : Rat} (h : Bits k r) : r.num.natAbs < 2 ^ k := h.1
theorem Bits.den {k : Nat} {r : Rat} (h : Bits k r) : ((r.den : Nat) : Int).natAbs < 2 ^ k := by rw [Int.natAbs_natCast]; exact h.2
theorem plus_ok (T : Tab) {F : List D → Res D} (hf : T.fn "lowest" 2 = some F) (hF : LowOk F) {r s : Rat} {k l : Nat} (h1 : Bits k r) (h2 : Bits l s) (hk : 0 < k) (hl : 0 < l) (h3 : k + l ≤ 9000) :
    runFn T 2 bPlus [ratD r, ratD s] = .ok (ratD (r + s)) := by
  have m1 := mulD_lt h1.num h2.den hk hl (by omega)
  have m2 := mulD_lt h2.num h1.den hl hk (by omega)
  have m3 := mulD_lt h1.den h2.den hk hl (by omega)
  have m4 := hF (r.num * s.den + s.num * r.den) (r.den * s.den) (Nat.mul_ne_zero r.den_nz s.den_nz) (Nat.lt_of_lt_of_le (mul_lt_pow h1.2 h2.2) (Nat.pow_le_pow_right (by decide) h3))
  rw [Int.natCast_mul, ← Rat.add_def] at m4
  show runFn T 2 bPlus [.tup [.int r.num, .int (r.den : Int)], .tup [.int s.num, .int (s.den : Int)]] = _
  unfold runFn
  simp -implicitDefEqProofs [bPlus, ix0, ix1, m1, m2, m3, hf, m4]
theorem times_ok (T : Tab) {F : List D → Res D} (hf : T.fn "lowest" 2 = some F) (hF : LowOk F) {r s : Rat} {k l : Nat} (h1 : Bits k r) (h2 : Bits l s) (hk : 0 < k) (hl : 0 < l) (h3 : k + l ≤ 9000) :
    runFn T 2 bTimes [ratD r, ratD s] = .ok (ratD (r * s)) := by
  have m1 := mulD_lt h1.num h2.num hk hl (by omega)
  have m3 := mulD_lt h1.den h2.den hk hl (by omega)
  have m4 := hF (r.num * s.num) (r.den * s.den) (Nat.mul_ne_zero r.den_nz s.den_nz) (Nat.lt_of_lt_of_le (mul_lt_pow h1.2 h2.2) (Nat.pow_le_pow_right (by decide) h3))
  rw [Int.natCast_mul, ← Rat.mul_def] at m4
  show runFn T 2 bTimes [.tup [.int r.num, .int (r.den : Int)], .tup [.int s.num, .int (s.den : Int)]] = _
  unfold runFn
  simp -implicitDefEqProofs [bTimes, ix0, ix1, m1, m3, hf, m4]
/-- -1, 0 or 1 -/
def cmpR (r s : Rat) : Int := if r < s then -1 else if s < r then 1 else 0
theorem compare_ok (T : Tab) {r s : Rat} {k l : Nat} (h1 : Bits k r) (h2 : Bits l s) (hk : 0 < k) (hl : 0 < l) (h3 : k + l ≤ 9000) : runFn T 4 bCompare [ratD r, ratD s] = .ok (.int (cmpR r s)) := by
  have m1 := mulD_lt h1.num h2.den hk hl (by omega)
  have m2 := mulD_lt h2.num h1.den hl hk (by omega)
  have e : cmpR r s = if r.num * s.den < s.num * r.den then -1 else if s.num * r.den < r.num * s.den then 1 else 0 := by simp only [cmpR, Rat.lt_iff]
  rw [e]
  show runFn T 4 bCompare [.tup [.int r.num, .int (r.den : Int)], .tup [.int s.num, .int (s.den : Int)]] = _
  unfold runFn
  by_cases c1 : r.num * s.den < s.num * r.den
  · simp -implicitDefEqProofs [bCompare, ix0, ix1, m1, m2, c1]
  · by_cases c2 : s.num * r.den < r.num * s.den
    · simp -implicitDefEqProofs [bCompare, ix0, ix1, m1, m2, c1, c2]
    · simp -implicitDefEqProofs [bCompare, ix0, ix1, m1, m2, c1, c2]
end Pu
/-! PuU: machines: their checks and their making. -/
namespace Pu
open PySem PySem.Spec PyProof.Rows L2
def bIsWhole : Ss :=
  (.cons (.ret (.yes (.ands (.cons (.isi1 (.var 0) .int) (.cons (.not_ (.isi1 (.var 0) .bool)) .nil)))))
    .nil)
def bIsRow : Ss :=
  (.cons (.ret (.yes (.ands (.cons (.isi (.var 0) [.list, .tuple]) (.cons (.cmp .Eq (.bi .len (.cons (.var 0) .nil)) (.var 1)) .nil)))))
    .nil)
def bIsState : Ss :=
  (.cons (.ret (.yes (.ands (.cons (.call "is_whole" (.cons (.var 0) .nil)) (.cons (.cmp2 .LtE .Lt (.int 0) (.var 0) (.var 1)) .nil)))))
    .nil)
def bIsRatio : Ss :=
  (.cons (.ite (.ors (.cons (.not_ (.isi1 (.var 0) .tuple)) (.cons (.cmp .NotEq (.bi .len (.cons (.var 0) .nil)) (.int 2)) .nil))) (.cons (.ret (.yes (.bl false)))
    .nil) .nil)
    (.cons (.ite (.ors (.cons (.not_ (.call "is_whole" (.cons (.idx (.var 0) (.int 0)) .nil))) (.cons (.not_ (.call "is_whole" (.cons (.idx (.var 0) (.int 1)) .nil))) (.cons (.cmp .Lt (.idx (.var 0) (.int 1)) (.int 1)) .nil)))) (.cons (.ret (.yes (.bl false)))
    .nil) .nil)
    (.cons (.ret (.yes (.cmp .Eq (.gcd (.cons (.idx (.var 0) (.int 0)) (.cons (.idx (.var 0) (.int 1)) .nil))) (.int 1))))
    .nil)))
def bIsPositive : Ss :=
  (.cons (.ret (.yes (.ands (.cons (.call "is_ratio" (.cons (.var 0) .nil)) (.cons (.cmp .Gt (.idx (.var 0) (.int 0)) (.int 0)) .nil)))))
    .nil)
def bIsStep : Ss :=
  (.cons (.ite (.ors (.cons (.not_ (.call "is_row" (.cons (.var 0) (.cons (.int 4) .nil)))) (.cons (.not_ (.call "is_state" (.cons (.idx (.var 0) (.int 0)) (.cons (.var 1) .nil)))) (.cons (.not_ (.call "is_state" (.cons (.idx (.var 0) (.int 1)) (.cons (.var 1) .nil)))) (.cons (.cmp .Eq (.idx (.var 0) (.int 0)) (.idx (.var 0) (.int 1))) .nil))))) (.cons (.ret (.yes (.bl false)))
    .nil) .nil)
    (.cons (.ret (.yes (.ands (.cons (.call "is_positive" (.cons (.idx (.var 0) (.int 2)) .nil)) (.cons (.call "is_whole" (.cons (.idx (.var 0) (.int 3)) .nil)) (.cons (.cmp2 .LtE .LtE (.int 0) (.idx (.var 0) (.int 3)) (.glob "MOST_COST")) .nil))))))
    .nil))
def bRaised : Ss :=
  (.cons (.ite (.cmp .Lt (.var 1) (.int 0)) (.cons (.ite (.cmp .Eq (.idx (.var 0) (.int 0)) (.int 0)) (.cons .bad
    .nil) .nil)
    (.cons (.ret (.yes (.call "raised" (.cons (.call "lowest" (.cons (.idx (.var 0) (.int 1)) (.cons (.idx (.var 0) (.int 0)) .nil))) (.cons (.neg (.var 1)) .nil)))))
    .nil)) .nil)
    (.cons (.set 2 (.int 1))
    (.cons (.set 3 (.int 1))
    (.cons (.for_ (.nm 4) (.rng (.var 1)) (.cons (.set 2 (.bin .Mult (.var 2) (.idx (.var 0) (.int 0))))
    (.cons (.set 3 (.bin .Mult (.var 3) (.idx (.var 0) (.int 1))))
    .nil)))
    (.cons (.ret (.yes (.tup (.cons (.var 2) (.cons (.var 3) .nil)))))
    .nil)))))
def bStepChance : Ss :=
  (.cons (.ret (.yes (.call "times" (.cons (.idx (.var 0) (.int 2)) (.cons (.call "raised" (.cons (.var 1) (.cons (.idx (.var 0) (.int 3)) .nil))) .nil)))))
    .nil)
def bChanceOut : Ss :=
  (.cons (.set 3 (.glob "ZERO"))
    (.cons (.for_ (.nm 4) (.seq (.var 0)) (.cons (.ite (.cmp .Eq (.idx (.var 4) (.int 0)) (.var 1)) (.cons (.set 3 (.call "plus" (.cons (.var 3) (.cons (.call "step_chance" (.cons (.var 4) (.cons (.var 2) .nil))) .nil))))
    .nil) .nil)
    .nil))
    (.cons (.ret (.yes (.var 3)))
    .nil)))
def bCheckedSteps : Ss :=
  (.cons (.for_ (.nm 2) (.rng (.bi .len (.cons (.var 0) .nil))) (.cons (.ite (.not_ (.call "is_step" (.cons (.idx (.var 0) (.var 2)) (.cons (.var 1) .nil)))) (.cons .bad
    .nil) .nil)
    .nil))
    (.cons (.ret (.yes (.var 0)))
    .nil))
def bReachedFrom : Ss :=
  (.cons (.set 3 (.lc [("state", 4)] (.cmp .Eq (.var 4) (.var 2)) (.nm 4) (.rng (.var 1)) .no))
    (.cons (.for_ (.nm 5) (.rng (.var 1)) (.cons (.for_ (.nm 6) (.seq (.var 0)) (.cons (.ite (.idx (.var 3) (.idx (.var 6) (.int 0))) (.cons (.setI 3 (.idx (.var 6) (.int 1)) (.bl true))
    .nil) .nil)
    .nil))
    .nil))
    (.cons (.ret (.yes (.var 3)))
    .nil)))
def bCheckWays : Ss :=
  (.cons (.for_ (.nm 2) (.rng (.var 1)) (.cons (.set 3 (.call "reached_from" (.cons (.var 0) (.cons (.var 1) (.cons (.var 2) .nil)))))
    (.cons (.for_ (.nm 4) (.rng (.var 1)) (.cons (.ite (.not_ (.idx (.var 3) (.var 4))) (.cons .bad
    .nil) .nil)
    .nil))
    .nil)))
    .nil)
def bLeavingRows : Ss :=
  (.cons (.ret (.yes (.bi .tuple (.cons (.lc [("state", 2)] (.bi .tuple (.cons (.lc [("index", 3)] (.var 3) (.nm 3) (.rng (.bi .len (.cons (.var 0) .nil))) (.yes (.cmp .Eq (.idx (.idx (.var 0) (.var 3)) (.int 0)) (.var 2)))) .nil)) (.nm 2) (.rng (.var 1)) .no) .nil))))
    .nil)
def bMachine : Ss :=
  (.cons (.setF 0 "names" (.call "checked_names" (.cons (.call "frozen" (.cons (.var 1) .nil)) .nil)))
    (.cons (.setF 0 "steps" (.call "checked_steps" (.cons (.call "frozen" (.cons (.var 2) .nil)) (.cons (.bi .len (.cons (.fld (.var 0) "names") .nil)) .nil))))
    (.cons (.ite (.ors (.cons (.not_ (.call "is_positive" (.cons (.var 3) .nil))) (.cons (.cmp .Gt (.call "compare" (.cons (.var 3) (.cons (.glob "ONE") .nil))) (.int 0)) .nil))) (.cons .bad
    .nil) .nil)
    (.cons (.setF 0 "first" (.var 3))
    (.cons (.for_ (.nm 4) (.rng (.bi .len (.cons (.fld (.var 0) "names") .nil))) (.cons (.ite (.cmp .Gt (.call "compare" (.cons (.call "chance_out" (.cons (.fld (.var 0) "steps") (.cons (.var 4) (.cons (.var 3) .nil)))) (.cons (.glob "ONE") .nil))) (.int 0)) (.cons .bad
    .nil) .nil)
    .nil))
    (.cons (.exp (.call "check_ways" (.cons (.fld (.var 0) "steps") (.cons (.bi .len (.cons (.fld (.var 0) "names") .nil)) .nil))))
    (.cons (.setF 0 "leaving" (.call "leaving_rows" (.cons (.fld (.var 0) "steps") (.cons (.bi .len (.cons (.fld (.var 0) "names") .nil)) .nil))))
    .nil)))))))
/-- a step: start, goal, factor, cost -/
structure St4 where
  s : Nat
  g : Nat
  f : Rat
  c : Nat
def stD (t : St4) : D := .tup [.int (t.s : Nat), .int (t.g : Nat), ratD t.f, .int (t.c : Nat)]
def stsD (ts : List St4) : D := .tup (ts.map stD)
theorem four0 {a b c d : D} : idxD (.tup [a, b, c, d]) (.int 0) = some a := idxD_tup (i := 0) rfl
theorem four1 {a b c d : D} : idxD (.tup [a, b, c, d]) (.int 1) = some b := idxD_tup (i := 1) rfl
theorem four2 {a b c d : D} : idxD (.tup [a, b, c, d]) (.int 2) = some c := idxD_tup (i := 2) rfl
theorem four3 {a b c d : D} : idxD (.tup [a, b, c, d]) (.int 3) = some d := idxD_tup (i := 3) rfl

/-! ### the small checks -/
theorem is_whole_int (T : Tab) {i : Int} : runFn T 1 bIsWhole [.int i] = .ok (.bl true) := by
  unfold runFn
  simp -implicitDefEqProofs [bIsWhole, tyR_ok (show isTy .int (.int i) = some true from rfl), tyR_ok (show isTy .bool (.int i) = some false from rfl)]
theorem is_state_ok (T : Tab) {F : List D → Res D} (h : T.fn "is_whole" 1 = some F) (hF : ∀ i : Int, F [.int i] = .ok (.bl true)) {i n : Nat} (hi : i < n) : runFn T 2 bIsState [.int (i : Nat), .int (n : Nat)] = .ok (.bl true) := by
  have h1 : (0 : Int) ≤ (i : Int) := by omega
  have h2 : (i : Int) < (n : Int) := by omega
  unfold runFn
  simp -implicitDefEqProofs [bIsState, h, hF, h1, h2]
theorem is_ratio_ok (T : Tab) {F : List D → Res D} (h : T.fn "is_whole" 1 = some F) (hF : ∀ i : Int, F [.int i] = .ok (.bl true)) (hg : T.gc = true) (r : Rat) : runFn T 1 bIsRatio [ratD r] = .ok (.bl true) := by
  have h1 : ¬ ((r.den : Int) < 1) := by have := r.den_nz; omega
  have h2 : Nat.gcd r.num.natAbs r.den = 1 := r.reduced
  show runFn T 1 bIsRatio [.tup [.int r.num, .int (r.den : Int)]] = _
  unfold runFn
  simp -implicitDefEqProofs [bIsRatio, h, hF, h1, ix0, ix1, gcdR_ok hg, h2, tyR_ok (show isTy .tuple (.tup [.int r.num, .int (r.den : Int)]) = some true from rfl)]
theorem is_positive_ok (T : Tab) {F : List D → Res D} (h : T.fn "is_ratio" 1 = some F) (hF : ∀ r : Rat, F [ratD r] = .ok (.bl true)) {r : Rat} (hr : 0 < r) : runFn T 1 bIsPositive [ratD r] = .ok (.bl true) := by
  have h1 : 0 < r.num := by simpa [Rat.lt_iff] using hr
  have h2 := hF r
  show runFn T 1 bIsPositive [.tup [.int r.num, .int (r.den : Int)]] = _
  unfold runFn
  unfold ratD at h2
  simp -implicitDefEqProofs [bIsPositive, h, h2, ix0, h1]
theorem is_row_tup (T : Tab) {xs : List D} {n : Nat} (h : xs.length = n) : runFn T 2 bIsRow [.tup xs, .int (n : Nat)] = .ok (.bl true) := by
  unfold runFn
  simp -implicitDefEqProofs [bIsRow, h, tyR_ok (show isTys [.list, .tuple] (.tup xs) = some true from rfl)]
theorem is_step_ok (T : Tab) {Fr Fs Fp Fw : List D → Res D} (h1 : T.fn "is_row" 2 = some Fr) (h2 : T.fn "is_state" 2 = some Fs) (h3 : T.fn "is_positive" 1 = some Fp) (h4 : T.fn "is_whole" 1 = some Fw) (hm : T.gl "MOST_COST" = some (.int 60))
    (e1 : ∀ xs : List D, xs.length = 4 → Fr [.tup xs, .int 4] = .ok (.bl true)) (e2 : ∀ i n : Nat, i < n → Fs [.int (i : Nat), .int (n : Nat)] = .ok (.bl true)) (e3 : ∀ r : Rat, 0 < r → Fp [ratD r] = .ok (.bl true)) (e4 : ∀ i : Int, Fw [.int i] = .ok (.bl true))
    {t : St4} {n : Nat} (a1 : t.s < n) (a2 : t.g < n) (a3 : t.s ≠ t.g) (a4 : 0 < t.f) (a5 : t.c ≤ 60) : runFn T 2 bIsStep [stD t, .int (n : Nat)] = .ok (.bl true) := by
  have b1 := e2 t.s n a1
  have b2 := e2 t.g n a2
  have b3 : ¬ ((t.s : Int) = (t.g : Int)) := by omega
  have b4 := e3 t.f a4
  have b5 : (0 : Int) ≤ (t.c : Int) := by omega
  have b6 : (t.c : Int) ≤ 60 := by omega
  have b7 := e1 [.int (t.s : Nat), .int (t.g : Nat), ratD t.f, .int (t.c : Nat)] rfl
  have b8 := e4 (t.c : Int)
  unfold stD
  unfold runFn
  simp -implicitDefEqProofs [bIsStep, h1, h2, h3, h4, hm, b1, b2, b3, b4, b5, b6, b7, b8, four0, four1, four2, four3]
/-! ### powers, chances -/
theorem pow_lt_pow {a k : Nat} (h : a < 2 ^ k) : ∀ n : Nat, a ^ n < 2 ^ (k * n + 1)
  | 0 => by simp
  | n + 1 => by
    have ih := pow_lt_pow h n
    have := mul_lt_pow ih h
    rw [Nat.pow_succ]
    rw [show k * (n + 1) + 1 = k * n + 1 + k by rw [Nat.mul_succ]; omega]
    exact this
theorem raised_ok (T : Tab) {r : Rat} {k n : Nat} (h : Bits k r) (hk : 0 < k) (hn : n ≤ 10000) (hb : k * (n + 1) ≤ 900000) : runFn T 5 bRaised [ratD r, .int (n : Nat)] = .ok (ratD (r ^ n)) := by
  have hneg : ¬ ((n : Int) < 0) := by omega
  obtain ⟨ρ', hl, z, hz⟩ := forL_ind (tg := .nm 4) (body := exs T (.cons (.set 2 (.bin .Mult (.var 2) (.idx (.var 0) (.int 0)))) (.cons (.set 3 (.bin .Mult (.var 3) (.idx (.var 0) (.int 1)))) .nil))) (ds := nats n)
    (ρ := [.val (ratD r), .val (.int (n : Nat)), .val (.int 1), .val (.int 1), .no])
    (fun i ρ => ∃ z, ρ = [.val (ratD r), .val (.int (n : Nat)), .val (.int (r.num ^ i)), .val (.int ((r.den : Int) ^ i)), z]) ⟨.no, by simp⟩ (fun i d ρ hd ⟨z, hρ⟩ => by
      obtain ⟨hi, rfl⟩ := nats_at hd
      subst hρ
      have hki : k * i + 1 + k ≤ 1000000 := by
        have : k * i ≤ k * n := Nat.mul_le_mul (Nat.le_refl _) (Nat.le_of_lt hi)
        rw [Nat.mul_succ] at hb
        omega
      have m1 : mulD (.int (r.num ^ i)) (.int r.num) = some (.int (r.num ^ (i + 1))) := by
        rw [mulD_lt (p := k * i + 1) (q := k) (by rw [Int.natAbs_pow]; exact pow_lt_pow h.1 i) h.1 (by omega) hk hki, Int.pow_succ]
      have m2 : mulD (.int ((r.den : Int) ^ i)) (.int (r.den : Int)) = some (.int ((r.den : Int) ^ (i + 1))) := by
        rw [mulD_lt (p := k * i + 1) (q := k) (by rw [Int.natAbs_pow, Int.natAbs_natCast]; exact pow_lt_pow h.2 i) h.den (by omega) hk hki, Int.pow_succ]
      refine ⟨_, _, rfl, .inl ?_, .val (.int (i : Int)), rfl⟩
      unfold ratD
      simp -implicitDefEqProofs [ix0, ix1, m1, m2])
  rw [nats_len] at hz
  subst hz
  have e : ratD (r ^ n) = .tup [.int (r.num ^ n), .int ((r.den : Int) ^ n)] := by unfold ratD; rw [Rat.num_pow, Rat.den_pow, Int.natCast_pow]
  rw [e]
  have hr := rngR1_nat (n := n) (by omega)
  unfold runFn
  simp -implicitDefEqProofs [bRaised, hneg, hr, hl]
theorem runRec_6 {T : Tab} {x : Str} {m n : Nat} {b : Ss} {ds : List D} : runRec T x m n b 6 ds = runFn (T.add x m (runRec T x m n b 5)) n b ds := rfl
theorem step_chance_ok (T : Tab) {Ft Fr : List D → Res D} (h1 : T.fn "times" 2 = some Ft) (h2 : T.fn "raised" 2 = some Fr) {t : St4} {e : Rat} {d : D} (e1 : Fr [ratD e, .int (t.c : Nat)] = .ok (ratD (e ^ t.c))) (e2 : Ft [ratD t.f, ratD (e ^ t.c)] = .ok d) :
    runFn T 2 bStepChance [stD t, ratD e] = .ok d := by
  unfold stD
  unfold runFn
  simp -implicitDefEqProofs [bStepChance, h1, h2, four2, four3, e1, e2]
/-- the sum of the chances of a state's steps -/
def outSum (e : Rat) (x : Nat) : List St4 → Rat → Rat
  | [], acc => acc
  | t :: ts, acc => outSum e x ts (if t.s = x then acc + t.f * e ^ t.c else acc)
theorem chance_out_ok (T : Tab) {Fs Fp : List D → Res D} (h1 : T.fn "plus" 2 = some Fp) (h2 : T.fn "step_chance" 2 = some Fs) (hz : T.gl "ZERO" = some (ratD 0)) {ts : List St4} {e : Rat} {x : Nat}
    (e1 : ∀ t ∈ ts, t.s = x → Fs [stD t, ratD e] = .ok (ratD (t.f * e ^ t.c)))
    (e2 : ∀ us t vs, ts = us ++ t :: vs → t.s = x → Fp [ratD (outSum e x us 0), ratD (t.f * e ^ t.c)] = .ok (ratD (outSum e x us 0 + t.f * e ^ t.c))) :
    runFn T 5 bChanceOut [stsD ts, .int (x : Nat), ratD e] = .ok (ratD (outSum e x ts 0)) := by
  have snoc : ∀ us t acc, outSum e x (us ++ [t]) acc = if t.s = x then outSum e x us acc + t.f * e ^ t.c else outSum e x us acc := fun us => by
    induction us with
    | nil => intro t acc; rfl
    | cons u us ih => intro t acc; exact ih t _
  obtain ⟨ρ', hl, z, hz'⟩ := forL_ind (tg := .nm 4) (body := exs T (.cons (.ite (.cmp .Eq (.idx (.var 4) (.int 0)) (.var 1)) (.cons (.set 3 (.call "plus" (.cons (.var 3) (.cons (.call "step_chance" (.cons (.var 4) (.cons (.var 2) .nil))) .nil)))) .nil) .nil) .nil)) (ds := ts.map stD)
    (ρ := [.val (stsD ts), .val (.int (x : Nat)), .val (ratD e), .val (ratD 0), .no])
    (fun i ρ => ∃ z, ρ = [.val (stsD ts), .val (.int (x : Nat)), .val (ratD e), .val (ratD (outSum e x (ts.take i) 0)), z]) ⟨.no, rfl⟩ (fun i d ρ hd ⟨z, hρ⟩ => by
      rw [List.getElem?_map] at hd
      obtain ⟨t, ht, rfl⟩ := Option.map_eq_some_iff.mp hd
      subst hρ
      have hmem := List.mem_of_getElem? ht
      have hsplit : ts = ts.take i ++ t :: ts.drop (i + 1) := by
        obtain ⟨hi, hh⟩ := List.getElem?_eq_some_iff.mp ht
        rw [← hh, ← List.drop_eq_getElem_cons hi, List.take_append_drop]
      refine ⟨_, _, rfl, .inl ?_, .val (stD t), rfl⟩
      rw [take_succ ht, snoc]
      by_cases c : t.s = x
      · have f1 := e1 t hmem c
        have f2 := e2 (ts.take i) t (ts.drop (i + 1)) hsplit c
        have c' : ((t.s : Nat) : Int) = (x : Int) := by omega
        rw [if_pos c]
        have i0 : idxD (stD t) (.int 0) = some (.int (t.s : Nat)) := four0
        simp -implicitDefEqProofs [h1, h2, f1, f2, i0, c']
      · have c' : ¬ ((t.s : Nat) : Int) = (x : Int) := by omega
        rw [if_neg c]
        have i0 : idxD (stD t) (.int 0) = some (.int (t.s : Nat)) := four0
        simp -implicitDefEqProofs [i0, c'])
  rw [List.length_map, List.take_length] at hz'
  subst hz'
  unfold runFn
  unfold stsD at *
  simp -implicitDefEqProofs [bChanceOut, hz, hl]
theorem checked_steps_ok (T : Tab) {F : List D → Res D} (h : T.fn "is_step" 2 = some F) {ts : List St4} {n : Nat} (hl : ts.length ≤ 1000000) (hF : ∀ t ∈ ts, F [stD t, .int (n : Nat)] = .ok (.bl true)) :
    runFn T 3 bCheckedSteps [stsD ts, .int (n : Nat)] = .ok (stsD ts) := by
  obtain ⟨ρ', hlp, z, hz⟩ := forL_ind (tg := .nm 2) (body := exs T (.cons (.ite (.not_ (.call "is_step" (.cons (.idx (.var 0) (.var 2)) (.cons (.var 1) .nil)))) (.cons .bad .nil) .nil) .nil)) (ds := nats ts.length)
    (ρ := [.val (stsD ts), .val (.int (n : Nat)), .no])
    (fun i ρ => ∃ z, ρ = [.val (stsD ts), .val (.int (n : Nat)), z]) ⟨.no, rfl⟩ (fun i d ρ hd ⟨z, hρ⟩ => by
      obtain ⟨hi, rfl⟩ := nats_at hd
      subst hρ
      have hx : (ts.map stD)[i]? = some (stD ts[i]) := by rw [List.getElem?_map, List.getElem?_eq_getElem hi]; rfl
      have hx2 := idxD_tup hx
      have hf := hF ts[i] (List.getElem_mem hi)
      refine ⟨_, _, rfl, .inl ?_, .val (.int (i : Int)), rfl⟩
      unfold stsD
      simp -implicitDefEqProofs [hx2, h, hf])
  subst hz
  have hr := rngR1_nat (n := ts.length) (by omega)
  have hlen : lenD (stsD ts) = some (.int (ts.length : Nat)) := by unfold stsD; rw [lenD_tup, List.length_map]
  unfold runFn
  simp -implicitDefEqProofs [bCheckedSteps, hlen, hr, hlp]
/-! ### ways -/
def bls (b : List Bool) : List D := b.map D.bl
def relax (b : List Bool) (t : St4) : List Bool := if b.getD t.s false = true then b.set t.g true else b
def relaxN (ts : List St4) : Nat → List Bool → List Bool
  | 0, b => b
  | k + 1, b => ts.foldl relax (relaxN ts k b)
def at1 (n x : Nat) : List Bool := (List.range n).map fun y => decide (y = x)
theorem relax_len {b : List Bool} {t : St4} : (relax b t).length = b.length := by unfold relax; split <;> simp
theorem fold_len (ts : List St4) : ∀ b : List Bool, (ts.foldl relax b).length = b.length := by
  induction ts with
  | nil => intro b; rfl
  | cons t ts ih => intro b; rw [List.foldl_cons, ih, relax_len]
theorem relaxN_len {ts : List St4} {b : List Bool} : ∀ k, (relaxN ts k b).length = b.length
  | 0 => rfl
  | k + 1 => by rw [relaxN, fold_len, relaxN_len k]
theorem relax_keep {b : List Bool} {t : St4} {y : Nat} (h : b.getD y false = true) : (relax b t).getD y false = true := by
  unfold relax
  split
  · rw [List.getD_eq_getElem?_getD] at h ⊢
    by_cases e : t.g = y
    · subst e
      by_cases hl : t.g < b.length
      · rw [List.getElem?_set_self hl]; rfl
      · rw [List.getElem?_eq_none (by omega)] at h; cases h
    · rw [List.getElem?_set_ne e]; exact h
  · exact h
theorem fold_keep (ts : List St4) {y : Nat} : ∀ b : List Bool, b.getD y false = true → (ts.foldl relax b).getD y false = true := by
  induction ts with
  | nil => intro b h; exact h
  | cons t ts ih => intro b h; exact ih _ (relax_keep h)
theorem fold_step {t : St4} : ∀ (ts : List St4) (b : List Bool), t ∈ ts → t.g < b.length → b.getD t.s false = true → (ts.foldl relax b).getD t.g false = true := by
  intro ts
  induction ts with
  | nil => intro b h; cases h
  | cons u ts ih =>
    intro b h hl hb
    rw [List.foldl_cons]
    rcases List.mem_cons.mp h with rfl | h
    · refine fold_keep ts _ ?_
      unfold relax
      rw [if_pos hb, List.getD_eq_getElem?_getD, List.getElem?_set_self hl]
      rfl
    · exact ih _ h (by rw [relax_len]; exact hl) (relax_keep hb)
theorem relaxN_keep {ts : List St4} {b : List Bool} {y k : Nat} (h : (relaxN ts k b).getD y false = true) : ∀ j, (relaxN ts (k + j) b).getD y false = true
  | 0 => h
  | j + 1 => fold_keep ts _ (relaxN_keep h j)
/-- so many steps lead from x to y -/
inductive Way (ts : List St4) : Nat → Nat → Nat → Prop
  | nil (x : Nat) : Way ts 0 x x
  | snoc {k x y : Nat} {t : St4} (w : Way ts k x y) (h : t ∈ ts) (e : t.s = y) : Way ts (k + 1) x t.g
theorem way_true {ts : List St4} {n x : Nat} (hx : x < n) (hg : ∀ t ∈ ts, t.g < n) {k y : Nat} (w : Way ts k x y) : (relaxN ts k (at1 n x)).getD y false = true := by
  induction w with
  | nil x =>
    unfold relaxN at1
    rw [List.getD_eq_getElem?_getD, List.getElem?_map, List.getElem?_range hx]
    simp
  | @snoc k x y t w h e ih =>
    subst e
    exact fold_step ts _ h (by rw [relaxN_len]; unfold at1; rw [List.length_map, List.length_range]; exact hg t h) (ih hx)
theorem ixN_nat {n i : Nat} (h : i < n) : ixN n (i : Int) = some i := by
  unfold ixN
  simp
  omega
theorem bls_at {b : List Bool} {i : Nat} (h : i < b.length) : (bls b)[i]? = some (.bl (b.getD i false)) := by
  unfold bls
  rw [List.getElem?_map, List.getElem?_eq_getElem h, List.getD_eq_getElem?_getD, List.getElem?_eq_getElem h]
  rfl
theorem bls_set {b : List Bool} {i : Nat} : (bls b).set i (.bl true) = bls (b.set i true) := by
  unfold bls
  rw [List.map_set]
def eqTo (x : Nat) : D → D
  | .int i => .bl (decide (i = (x : Int)))
  | _ => .non
theorem eqTo_nats {n x : Nat} : (nats n).map (eqTo x) = bls (at1 n x) := by
  have e : bls (at1 n x) = (List.range n).map (fun y => D.bl (decide (y = x))) := by unfold bls at1; rw [List.map_map]; rfl
  have e2 : (nats n).map (eqTo x) = (List.range n).map (fun y : Nat => D.bl (decide ((y : Int) = (x : Int)))) := by unfold nats; rw [List.map_map]; rfl
  rw [e, e2]
  refine List.map_congr_left fun y _ => ?_
  congr 1
  rw [decide_eq_decide]
  omega
theorem reached_from_ok (T : Tab) {ts : List St4} {n x : Nat} (hn : n ≤ 1000000) (hs : ∀ t ∈ ts, t.s < n ∧ t.g < n) :
    runFn T 7 bReachedFrom [stsD ts, .int (n : Nat), .int (x : Nat)] = .ok (.lst (bls (relaxN ts n (at1 n x)))) := by
  have inner : ∀ (b : List Bool) (z4 z5 z6 : Sl), b.length = n → ∃ z, forL (.nm 6) (exs T (.cons (.ite (.idx (.var 3) (.idx (.var 6) (.int 0))) (.cons (.setI 3 (.idx (.var 6) (.int 1)) (.bl true)) .nil) .nil) .nil)) (ts.map stD)
      [.val (stsD ts), .val (.int (n : Nat)), .val (.int (x : Nat)), .own (bls b), z4, z5, z6] = .nx [.val (stsD ts), .val (.int (n : Nat)), .val (.int (x : Nat)), .own (bls (ts.foldl relax b)), z4, z5, z] := fun b z4 z5 z6 hb => by
    obtain ⟨ρ', hl, z, hz⟩ := forL_ind (tg := .nm 6) (body := exs T (.cons (.ite (.idx (.var 3) (.idx (.var 6) (.int 0))) (.cons (.setI 3 (.idx (.var 6) (.int 1)) (.bl true)) .nil) .nil) .nil)) (ds := ts.map stD)
      (ρ := [.val (stsD ts), .val (.int (n : Nat)), .val (.int (x : Nat)), .own (bls b), z4, z5, z6])
      (fun i ρ => ∃ z, ρ = [.val (stsD ts), .val (.int (n : Nat)), .val (.int (x : Nat)), .own (bls ((ts.take i).foldl relax b)), z4, z5, z]) ⟨z6, rfl⟩ (fun i d ρ hd ⟨z, hρ⟩ => by
        rw [List.getElem?_map] at hd
        obtain ⟨t, ht, rfl⟩ := Option.map_eq_some_iff.mp hd
        subst hρ
        have hm := hs t (List.mem_of_getElem? ht)
        have i0 : idxD (stD t) (.int 0) = some (.int (t.s : Nat)) := four0
        have i1 : idxD (stD t) (.int 1) = some (.int (t.g : Nat)) := four1
        have hlen : ((ts.take i).foldl relax b).length = n := by rw [fold_len, hb]
        refine ⟨_, _, rfl, .inl ?_, .val (stD t), rfl⟩
        rw [take_succ ht, List.foldl_append, List.foldl_cons, List.foldl_nil]
        generalize (ts.take i).foldl relax b = c at *
        have hx := idxD_lst (bls_at (b := c) (i := t.s) (by omega))
        have hx2 : ixN (bls c).length ((t.g : Nat) : Int) = some t.g := ixN_nat (by unfold bls; rw [List.length_map]; omega)
        unfold relax
        by_cases cc : c.getD t.s false = true
        · rw [cc] at hx
          rw [if_pos cc, ← bls_set]
          simp -implicitDefEqProofs [i0, i1, hx, setIAt_0 hx2]
        · rw [Bool.not_eq_true] at cc
          rw [cc] at hx
          rw [cc, if_neg Bool.false_ne_true]
          simp -implicitDefEqProofs [i0, hx])
    rw [List.length_map, List.take_length] at hz
    subst hz
    exact ⟨z, hl⟩
  obtain ⟨ρ', hl, z5, z6, hz⟩ := forL_ind (tg := .nm 5) (body := exs T (.cons (.for_ (.nm 6) (.seq (.var 0)) (.cons (.ite (.idx (.var 3) (.idx (.var 6) (.int 0))) (.cons (.setI 3 (.idx (.var 6) (.int 1)) (.bl true)) .nil) .nil) .nil)) .nil)) (ds := nats n)
    (ρ := [.val (stsD ts), .val (.int (n : Nat)), .val (.int (x : Nat)), .own (bls (at1 n x)), .no, .no, .no])
    (fun i ρ => ∃ z5 z6, ρ = [.val (stsD ts), .val (.int (n : Nat)), .val (.int (x : Nat)), .own (bls (relaxN ts i (at1 n x))), .no, z5, z6]) ⟨.no, .no, rfl⟩ (fun i d ρ hd ⟨z5, z6, hρ⟩ => by
      subst hρ
      obtain ⟨z, hin⟩ := inner (relaxN ts i (at1 n x)) .no (.val d) z6 (by rw [relaxN_len]; unfold at1; rw [List.length_map, List.length_range])
      refine ⟨_, _, rfl, .inl ?_, .val d, z, rfl⟩
      unfold stsD at *
      simp -implicitDefEqProofs [hin, relaxN])
  rw [nats_len] at hz
  subst hz
  have hr := rngR1_nat (n := n) (by omega)
  have hlc : ∀ ρ : Ro, ρ = [.val (stsD ts), .val (.int (n : Nat)), .val (.int (x : Nat)), .no, .no, .no, .no] → lcL (asg (.nm 4)) (evc T .no) (ev T (.cmp .Eq (.var 4) (.var 2)) .val) ρ (nats n) = .ok (bls (at1 n x)) := fun ρ e => by
    subst e
    rw [lcL_map (h := eqTo x) (fun d hd => ?_)]
    · rw [eqTo_nats]
    · obtain ⟨y, hy⟩ := List.mem_iff_getElem?.mp hd
      obtain ⟨hyn, rfl⟩ := nats_at hy
      exact ⟨_, rfl, by simp [evc], by simp [eqTo]⟩
  unfold runFn
  simp -implicitDefEqProofs [bReachedFrom, hr, lcR_ok (hlc _ rfl), hl]
theorem check_ways_ok (T : Tab) {F : List D → Res D} (h : T.fn "reached_from" 3 = some F) {ts : List St4} {n : Nat} (hn : n ≤ 1000000)
    (hF : ∀ x < n, F [stsD ts, .int (n : Nat), .int (x : Nat)] = .ok (.lst (bls (relaxN ts n (at1 n x))))) (hall : ∀ x y, x < n → y < n → (relaxN ts n (at1 n x)).getD y false = true) :
    runFn T 5 bCheckWays [stsD ts, .int (n : Nat)] = .ok .non := by
  have inner : ∀ (x : Nat) (z : Sl), x < n → ∃ z', forL (.nm 4) (exs T (.cons (.ite (.not_ (.idx (.var 3) (.var 4))) (.cons .bad .nil) .nil) .nil)) (nats n)
      [.val (stsD ts), .val (.int (n : Nat)), .val (.int (x : Nat)), .val (.lst (bls (relaxN ts n (at1 n x)))), z] = .nx [.val (stsD ts), .val (.int (n : Nat)), .val (.int (x : Nat)), .val (.lst (bls (relaxN ts n (at1 n x)))), z'] := fun x z hx => by
    obtain ⟨ρ', hl, z', hz⟩ := forL_ind (tg := .nm 4) (body := exs T (.cons (.ite (.not_ (.idx (.var 3) (.var 4))) (.cons .bad .nil) .nil) .nil)) (ds := nats n)
      (ρ := [.val (stsD ts), .val (.int (n : Nat)), .val (.int (x : Nat)), .val (.lst (bls (relaxN ts n (at1 n x)))), z])
      (fun i ρ => ∃ z, ρ = [.val (stsD ts), .val (.int (n : Nat)), .val (.int (x : Nat)), .val (.lst (bls (relaxN ts n (at1 n x)))), z]) ⟨z, rfl⟩ (fun i d ρ hd ⟨z, hρ⟩ => by
        obtain ⟨hi, rfl⟩ := nats_at hd
        subst hρ
        have hx2 := idxD_lst (bls_at (b := relaxN ts n (at1 n x)) (i := i) (by rw [relaxN_len]; unfold at1; rw [List.length_map, List.length_range]; exact hi))
        rw [hall x i hx hi] at hx2
        refine ⟨_, _, rfl, .inl ?_, .val (.int (i : Int)), rfl⟩
        simp -implicitDefEqProofs [hx2])
    subst hz
    exact ⟨z', hl⟩
  obtain ⟨ρ', hl, z2, z3, z4, hz⟩ := forL_ind (tg := .nm 2) (body := exs T (.cons (.set 3 (.call "reached_from" (.cons (.var 0) (.cons (.var 1) (.cons (.var 2) .nil))))) (.cons (.for_ (.nm 4) (.rng (.var 1)) (.cons (.ite (.not_ (.idx (.var 3) (.var 4))) (.cons .bad .nil) .nil) .nil)) .nil))) (ds := nats n)
    (ρ := [.val (stsD ts), .val (.int (n : Nat)), .no, .no, .no])
    (fun i ρ => ∃ z2 z3 z4, ρ = [.val (stsD ts), .val (.int (n : Nat)), z2, z3, z4]) ⟨.no, .no, .no, rfl⟩ (fun i d ρ hd ⟨z2, z3, z4, hρ⟩ => by
      obtain ⟨hi, rfl⟩ := nats_at hd
      subst hρ
      obtain ⟨z', hin⟩ := inner i z4 hi
      have hf := hF i hi
      have hr := rngR1_nat (n := n) (by omega)
      refine ⟨_, _, rfl, .inl ?_, .val (.int (i : Int)), .val (.lst (bls (relaxN ts n (at1 n i)))), z', rfl⟩
      simp -implicitDefEqProofs [h, hf, hr, hin])
  subst hz
  have hr := rngR1_nat (n := n) (by omega)
  unfold runFn
  simp -implicitDefEqProofs [bCheckWays, hr, hl]
/-- for each state the numbers of the steps that start there -/
def leaveD (ts : List St4) (n : Nat) : D := .tup ((List.range n).map fun x => .tup (((List.range ts.length).filter fun i => decide ((ts[i]?.map St4.s) = some x)).map fun i => .int (i : Nat)))
def startIs (ts : List St4) (x : Nat) : D → Bool
  | .int i => decide ((ts[i.toNat]?.map St4.s) = some x)
  | _ => false
theorem leaving_rows_ok (T : Tab) {ts : List St4} {n : Nat} (hn : n ≤ 1000000) (ht : ts.length ≤ 1000000) : runFn T 4 bLeavingRows [stsD ts, .int (n : Nat)] = .ok (leaveD ts n) := by
  have hr := rngR1_nat (n := n) (by omega)
  have hr2 := rngR1_nat (n := ts.length) (by omega)
  have hlen : lenD (stsD ts) = some (.int (ts.length : Nat)) := by unfold stsD; rw [lenD_tup, List.length_map]
  have inner : ∀ x : Nat, x < n → ∀ z3 : Sl, lcL (asg (.nm 3)) (evc T (.yes (.cmp .Eq (.idx (.idx (.var 0) (.var 3)) (.int 0)) (.var 2)))) (ev T (.var 3) .val) [.val (stsD ts), .val (.int (n : Nat)), .val (.int (x : Nat)), .no] (nats ts.length)
      = .ok (((List.range ts.length).filter fun i => decide ((ts[i]?.map St4.s) = some x)).map fun i => .int (i : Nat)) := fun x hx z3 => by
    rw [lcL_filter (p := startIs ts x) (h := fun d => d) (fun d hd => ?_)]
    · rw [List.map_id']
      unfold nats
      rw [List.filter_map]
      rfl
    · obtain ⟨y, hy⟩ := List.mem_iff_getElem?.mp hd
      obtain ⟨hyn, rfl⟩ := nats_at hy
      have hx1 : (ts.map stD)[y]? = some (stD ts[y]) := by rw [List.getElem?_map, List.getElem?_eq_getElem hyn]; rfl
      have hx2 := idxD_tup hx1
      have i0 : idxD (stD ts[y]) (.int 0) = some (.int (ts[y].s : Nat)) := four0
      refine ⟨_, rfl, ?_, fun _ => by simp⟩
      unfold stsD
      simp -implicitDefEqProofs [evc, hx2, i0, startIs, List.getElem?_eq_getElem hyn]
      omega
  have outer : lcL (asg (.nm 2)) (evc T .no) (ev T (.bi .tuple (.cons (.lc [("index", 3)] (.var 3) (.nm 3) (.rng (.bi .len (.cons (.var 0) .nil))) (.yes (.cmp .Eq (.idx (.idx (.var 0) (.var 3)) (.int 0)) (.var 2)))) .nil)) .val) [.val (stsD ts), .val (.int (n : Nat)), .no, .no] (nats n)
      = .ok ((List.range n).map fun x => .tup (((List.range ts.length).filter fun i => decide ((ts[i]?.map St4.s) = some x)).map fun i => .int (i : Nat))) := by
    rw [lcL_map (h := fun d => match d with | .int x => .tup (((List.range ts.length).filter fun i => decide ((ts[i]?.map St4.s) = some x.toNat)).map fun i => .int (i : Nat)) | _ => .non) (fun d hd => ?_)]
    · unfold nats
      rw [List.map_map]
      rfl
    · obtain ⟨y, hy⟩ := List.mem_iff_getElem?.mp hd
      obtain ⟨hyn, rfl⟩ := nats_at hy
      have hin := inner y hyn .no
      refine ⟨_, rfl, by simp [evc], ?_⟩
      simp -implicitDefEqProofs [hlen, hr2, lcR_ok hin]
  unfold runFn
  simp -implicitDefEqProofs [bLeavingRows, hr, lcR_ok outer, leaveD]
/-! ### the making of a machine -/
abbrev mcN : List Str := ["names", "steps", "first", "leaving"]
def machD (names : List D) (ts : List St4) (r : Rat) : D := .ins "Machine" mcN [.tup names, stsD ts, ratD r, leaveD ts names.length]
theorem machine_ok (T : Tab) {Ffz Fcn Fcs Fip Fcm Fco Fcw Flr : List D → Res D} (h1 : T.fn "frozen" 1 = some Ffz) (h2 : T.fn "checked_names" 1 = some Fcn) (h3 : T.fn "checked_steps" 2 = some Fcs) (h4 : T.fn "is_positive" 1 = some Fip) (h5 : T.fn "compare" 2 = some Fcm)
    (h6 : T.fn "chance_out" 3 = some Fco) (h7 : T.fn "check_ways" 2 = some Fcw) (h8 : T.fn "leaving_rows" 2 = some Flr) (hO : T.gl "ONE" = some (ratD 1))
    (f1 : T.fd "Machine" "names" = true) (f2 : T.fd "Machine" "steps" = true) (f3 : T.fd "Machine" "first" = true) (f4 : T.fd "Machine" "leaving" = true)
    {names0 steps0 : D} {names : List D} {ts : List St4} {r : Rat} {c : Nat → D} (hn : names.length ≤ 1000000)
    (a1 : Ffz [names0] = .ok (.tup names)) (a2 : Ffz [steps0] = .ok (stsD ts)) (a3 : Fcn [.tup names] = .ok (.tup names)) (a4 : Fcs [stsD ts, .int (names.length : Nat)] = .ok (stsD ts)) (a5 : Fip [ratD r] = .ok (.bl true))
    (a6 : ∃ z : Int, Fcm [ratD r, ratD 1] = .ok (.int z) ∧ z ≤ 0) (a7 : ∀ x < names.length, ∃ z : Int, Fco [stsD ts, .int (x : Nat), ratD r] = .ok (c x) ∧ Fcm [c x, ratD 1] = .ok (.int z) ∧ z ≤ 0)
    (a8 : Fcw [stsD ts, .int (names.length : Nat)] = .ok .non) (a9 : Flr [stsD ts, .int (names.length : Nat)] = .ok (leaveD ts names.length)) :
    runInit T "Machine" 5 bMachine [names0, steps0, ratD r] = .ok (machD names ts r) := by
  obtain ⟨z6, e6, g6⟩ := a6
  have g6' : ¬ (0 < z6) := by omega
  have hfn : fldR T "names" (.ins "Machine" ["names"] [.tup names]) = .ok (.tup names) := fldR_at f1 rfl
  have k1 : fldR T "names" (.ins "Machine" ["names", "steps", "first"] [.tup names, stsD ts, ratD r]) = .ok (.tup names) := fldR_at f1 rfl
  have k2 : fldR T "steps" (.ins "Machine" ["names", "steps", "first"] [.tup names, stsD ts, ratD r]) = .ok (stsD ts) := fldR_at f2 rfl
  have hr := rngR1_nat (n := names.length) (by omega)
  obtain ⟨ρ', hl, z, hz⟩ := forL_ind (tg := .nm 4) (body := exs T (.cons (.ite (.cmp .Gt (.call "compare" (.cons (.call "chance_out" (.cons (.fld (.var 0) "steps") (.cons (.var 4) (.cons (.var 3) .nil)))) (.cons (.glob "ONE") .nil))) (.int 0)) (.cons .bad .nil) .nil) .nil)) (ds := nats names.length)
    (ρ := [.obj "Machine" ["names", "steps", "first"] [.tup names, stsD ts, ratD r], .val names0, .val steps0, .val (ratD r), .no])
    (fun i ρ => ∃ z, ρ = [.obj "Machine" ["names", "steps", "first"] [.tup names, stsD ts, ratD r], .val names0, .val steps0, .val (ratD r), z]) ⟨.no, rfl⟩ (fun i d ρ hd ⟨z, hρ⟩ => by
      obtain ⟨hi, rfl⟩ := nats_at hd
      subst hρ
      obtain ⟨y, q1, q2, q3⟩ := a7 i hi
      have q3' : ¬ (0 < y) := by omega
      refine ⟨_, _, rfl, .inl ?_, .val (.int (i : Int)), rfl⟩
      simp -implicitDefEqProofs [h5, h6, hO, k2, q1, q2, q3'])
  subst hz
  have n0 : ("names" : Str) ∉ ([] : List Str) := by decide +kernel
  have n1 : ("steps" : Str) ∉ (["names"] : List Str) := by decide +kernel
  have n2 : ("first" : Str) ∉ (["names", "steps"] : List Str) := by decide +kernel
  have n3 : ("leaving" : Str) ∉ (["names", "steps", "first"] : List Str) := by decide +kernel
  have s0 : setFAt T [.obj "Machine" [] [], .val names0, .val steps0, .val (ratD r), .no] 0 "names" (.tup names) = some [.obj "Machine" ["names"] [.tup names], .val names0, .val steps0, .val (ratD r), .no] := setFAt_0 f1 n0 (by decide)
  have s1 : setFAt T [.obj "Machine" ["names"] [.tup names], .val names0, .val steps0, .val (ratD r), .no] 0 "steps" (stsD ts) = some [.obj "Machine" ["names", "steps"] [.tup names, stsD ts], .val names0, .val steps0, .val (ratD r), .no] := setFAt_0 f2 n1 (by decide)
  have s2 : setFAt T [.obj "Machine" ["names", "steps"] [.tup names, stsD ts], .val names0, .val steps0, .val (ratD r), .no] 0 "first" (ratD r) = some [.obj "Machine" ["names", "steps", "first"] [.tup names, stsD ts, ratD r], .val names0, .val steps0, .val (ratD r), .no] := setFAt_0 f3 n2 (by decide)
  have s3 : setFAt T [.obj "Machine" ["names", "steps", "first"] [.tup names, stsD ts, ratD r], .val names0, .val steps0, .val (ratD r), z] 0 "leaving" (leaveD ts names.length) = some [.obj "Machine" mcN [.tup names, stsD ts, ratD r, leaveD ts names.length], .val names0, .val steps0, .val (ratD r), z] := setFAt_0 f4 n3 (by decide)
  unfold runInit
  simp -implicitDefEqProofs [bMachine, s0, s1, s2, s3, h1, h2, h3, h4, h5, h7, h8, hO, a1, a2, a3, a4, a5, a8, a9, e6, g6', hfn, k1, k2, hr, hl, machD]
end Pu
/-! PuV: the chances of a machine's steps, as parts of a whole number. -/
namespace Pu
open PySem PySem.Spec PyProof.Rows L2

theorem den_dvd {r : Rat} {M : Nat} {z : Int} (h : r * (M : Rat) = (z : Rat)) : r.den ∣ M := by
  have h1 : r.num * (M : Int) = z * (r.den : Int) := by
    have hd : ((r.den : Nat) : Rat) ≠ 0 := by
      intro e
      have := r.den_nz
      have e2 : ((r.den : Nat) : Rat) = ((0 : Nat) : Rat) := e
      exact this (Rat.natCast_inj.mp e2)
    have hr : r = (r.num : Rat) / ((r.den : Nat) : Rat) := by
      rw [← Rat.mkRat_eq_div]
      exact (Rat.mkRat_self r).symm
    have key : ∀ x m n d w : Rat, d ≠ 0 → x = n / d → x * m = w → n * m = w * d := by
      intro x m n d w h1 h2 h3
      subst h2
      grind
    have this := key r (M : Rat) (r.num : Rat) ((r.den : Nat) : Rat) (z : Rat) hd hr h
    have e3 : ((r.num * (M : Int) : Int) : Rat) = ((z * (r.den : Int) : Int) : Rat) := by
      rw [Rat.intCast_mul, Rat.intCast_mul]
      exact this
    exact Rat.intCast_inj.mp e3
  have h2 : (r.den : Int) ∣ r.num * (M : Int) := ⟨z, by rw [h1, Int.mul_comm]⟩
  have h3 : r.den ∣ r.num.natAbs * M := by
    have := Int.natAbs_dvd_natAbs.mpr h2
    rwa [Int.natAbs_mul, Int.natAbs_natCast, Int.natAbs_natCast] at this
  exact Nat.Coprime.dvd_of_dvd_mul_left (Nat.Coprime.symm r.reduced) h3
/-- a ratio that is u parts of M -/
def Part (M u : Nat) (r : Rat) : Prop := r * (M : Rat) = ((u : Int) : Rat)
theorem prt_bits {M u : Nat} {r : Rat} (h : Part M u r) (hM : 0 < M) (h2 : M < 2 ^ 100) (hu : u ≤ M) : Bits 100 r := by
  have hd : r.den ∣ M := den_dvd h
  have hdl := Nat.le_of_dvd hM hd
  refine ⟨?_, Nat.lt_of_le_of_lt hdl h2⟩
  have hMr : (0 : Rat) < (M : Rat) := by
    have : ((0 : Nat) : Rat) < (M : Rat) := Rat.natCast_lt_natCast.mpr hM
    exact this
  have h1 : r ≤ 1 := by
    have hle : ((u : Int) : Rat) ≤ (M : Rat) := by
      have : ((u : Int) : Rat) ≤ ((M : Int) : Rat) := Rat.intCast_le_intCast.mpr (by omega)
      exact this
    have key : ∀ x m w : Rat, 0 < m → x * m = w → w ≤ m → x ≤ 1 := by
      intro x m w a b c
      have e1 : x * m ≤ 1 * m := by rw [b, Rat.one_mul]; exact c
      exact Rat.le_of_mul_le_mul_right e1 a
    exact key r (M : Rat) _ hMr h hle
  have h0 : 0 ≤ r := by
    have hle : (0 : Rat) ≤ ((u : Int) : Rat) := by
      have : ((0 : Int) : Rat) ≤ ((u : Int) : Rat) := Rat.intCast_le_intCast.mpr (by omega)
      exact this
    have key : ∀ x m w : Rat, 0 < m → x * m = w → 0 ≤ w → 0 ≤ x := by
      intro x m w a b c
      have e1 : 0 * m ≤ x * m := by rw [b, Rat.zero_mul]; exact c
      exact Rat.le_of_mul_le_mul_right e1 a
    exact key r (M : Rat) _ hMr h hle
  have a1 : r.num ≤ (r.den : Int) := by
    have := (Rat.le_iff r 1).mp h1
    simpa using this
  have a0 : 0 ≤ r.num := Rat.num_nonneg.mpr h0
  have : r.num.natAbs ≤ r.den := by omega
  omega
theorem prt_add {M u v : Nat} {r s : Rat} (h : Part M u r) (h2 : Part M v s) : Part M (u + v) (r + s) := by
  unfold Part at *
  rw [Rat.add_mul, h, h2, ← Rat.intCast_add]
  rfl
theorem prt_zero {M : Nat} : Part M 0 0 := by
  unfold Part
  rw [Rat.zero_mul]
  rfl
theorem prt_le {M u : Nat} {r : Rat} (h : Part M u r) (hM : 0 < M) (hu : u ≤ M) : ¬ (1 : Rat) < r := by
  intro hlt
  have hMr : (0 : Rat) < (M : Rat) := by
    have : ((0 : Nat) : Rat) < (M : Rat) := Rat.natCast_lt_natCast.mpr hM
    exact this
  have hle : ((u : Int) : Rat) ≤ (M : Rat) := by
    have : ((u : Int) : Rat) ≤ ((M : Int) : Rat) := Rat.intCast_le_intCast.mpr (by omega)
    exact this
  have key : ∀ x m w : Rat, 0 < m → x * m = w → w ≤ m → x ≤ 1 := by
    intro x m w a b c
    have e1 : x * m ≤ 1 * m := by rw [b, Rat.one_mul]; exact c
    exact Rat.le_of_mul_le_mul_right e1 a
  have := key r (M : Rat) _ hMr h hle
  exact Rat.not_le.mpr hlt this
theorem one_powR : ∀ n : Nat, (1 : Rat) ^ n = 1
  | 0 => Rat.pow_zero 1
  | n + 1 => by rw [Rat.pow_succ, one_powR n, Rat.mul_one]
/-- the parts of a state's steps -/
def partSum (u : St4 → Nat) (x : Nat) (ts : List St4) : Nat := ts.foldl (fun a t => if t.s = x then a + u t else a) 0
theorem part_fold (u : St4 → Nat) (x : Nat) : ∀ (ts : List St4) (a : Nat), ts.foldl (fun a t => if t.s = x then a + u t else a) a = a + partSum u x ts := by
  intro ts
  unfold partSum
  induction ts with
  | nil => intro a; rfl
  | cons t ts ih =>
    intro a
    rw [List.foldl_cons, List.foldl_cons, ih, ih (if t.s = x then 0 + u t else 0)]
    split <;> omega
theorem partSum_cons (u : St4 → Nat) (x : Nat) (t : St4) (ts : List St4) : partSum u x (t :: ts) = (if t.s = x then u t else 0) + partSum u x ts := by
  show (t :: ts).foldl (fun a t => if t.s = x then a + u t else a) 0 = _
  rw [List.foldl_cons, part_fold]
  split <;> omega
theorem partSum_app (u : St4 → Nat) (x : Nat) (ts us : List St4) : partSum u x (ts ++ us) = partSum u x ts + partSum u x us := by
  show (ts ++ us).foldl (fun a t => if t.s = x then a + u t else a) 0 = _
  rw [List.foldl_append, part_fold]
  rfl
theorem outSum_prt {M : Nat} {u : St4 → Nat} {x : Nat} : ∀ (ts : List St4) (acc : Rat) (a : Nat), (∀ t ∈ ts, t.s = x → Part M (u t) t.f) → Part M a acc → Part M (a + partSum u x ts) (outSum 1 x ts acc)
  | [], acc, a, _, h => by simpa [partSum, outSum] using h
  | t :: ts, acc, a, hu, h => by
    rw [partSum_cons]
    unfold outSum
    have one : (1 : Rat) ^ t.c = 1 := one_powR t.c
    rw [one, Rat.mul_one]
    by_cases c : t.s = x
    · rw [if_pos c, if_pos c, ← Nat.add_assoc]
      exact outSum_prt ts _ _ (fun t ht => hu t (List.mem_cons_of_mem _ ht)) (prt_add h (hu t List.mem_cons_self c))
    · rw [if_neg c, if_neg c, Nat.zero_add]
      exact outSum_prt ts _ _ (fun t ht => hu t (List.mem_cons_of_mem _ ht)) h
end Pu
/-! PuW: while; the ratios and the machine that a law draws. -/
namespace Pu
open PySem PySem.Spec PyProof.Rows L2

section
variable {T : Tab} {ρ : Ro} {ss b : Ss} {c : E}
def atWhl (ss : Ss) (T : Tab) (c : E) (b : Ss) (ρ : Ro) : SR := thenR (whlL (pv c .tst) (ev T c .tst) (exs T b) T.fu ρ) (exs T ss)
@[simp] theorem exs_whl : exs T (.cons (.whl c b) ss) ρ = atWhl ss T c b ρ := by simp only [exs, ex]; rfl
theorem whl_ind {ps : List Nat} {c : Ro → Res D} {body : Ro → SR} (hps : ps = []) (I : Nat → Ro → Prop)
    (step : ∀ k ρ, I k ρ → c ρ = .ok (.bl false) ∨ (c ρ = .ok (.bl true) ∧ ∃ k' ρ2, k' < k ∧ body ρ = .nx ρ2 ∧ I k' ρ2)) :
    ∀ (fuel k : Nat) (ρ : Ro), I k ρ → k < fuel → ∃ k' ρ', whlL ps c body fuel ρ = .nx ρ' ∧ I k' ρ' ∧ c ρ' = .ok (.bl false) := by
  subst hps
  intro fuel
  induction fuel with
  | zero => intro k ρ _ h; exact absurd h (Nat.not_lt_zero _)
  | succ fuel ih =>
    intro k ρ hI hk
    rcases step k ρ hI with h | ⟨h, k', ρ2, hk', hb, hI2⟩
    · refine ⟨k, ρ, ?_, hI, h⟩
      show onB ρ (c ρ) _ (.nx ρ) = _
      rw [h]
      rfl
    · obtain ⟨k'', ρ', e, hI', hc'⟩ := ih k' ρ2 hI2 (by omega)
      refine ⟨k'', ρ', ?_, hI', hc'⟩
      show onB ρ (c ρ) (match body ρ with
        | .nx ρ2 => whlL [] c body fuel ρ2
        | .ct ρ2 => whlL [] c body fuel ρ2
        | .bk ρ2 => .nx ρ2
        | .rt d => .rt d
        | .ex ρ c ns ds => .ex ρ c ns ds
        | .stuck => .stuck) (.nx ρ) = _
      rw [h, hb]
      exact e
end
@[simp] theorem bi_abs {d : D} : BI.fn .abs [d] = absD d := rfl
@[simp] theorem absD_int {i : Int} : absD (.int i) = some (.int (i.natAbs : Nat)) := by
  show some (D.int (if i < 0 then -i else i)) = _
  congr 2
  split <;> omega
def bLGcd : Ss :=
  (.cons (.set 0 (.bi .abs (.cons (.var 0) .nil)))
    (.cons (.set 1 (.bi .abs (.cons (.var 1) .nil)))
    (.cons (.whl (.cmp .NotEq (.var 1) (.int 0)) (.cons (.set 2 (.bin .Mod (.bi .int (.cons (.var 0) .nil)) (.var 1)))
    (.cons (.set 0 (.var 1))
    (.cons (.set 1 (.var 2))
    .nil))))
    (.cons (.ret (.yes (.var 0)))
    .nil))))
def bLRatio : Ss :=
  (.cons (.set 2 (.call "_law_gcd" (.cons (.var 0) (.cons (.var 1) .nil))))
    (.cons (.ite (.cmp .Lt (.var 1) (.int 0)) (.cons (.set 2 (.neg (.var 2)))
    .nil) .nil)
    (.cons (.ret (.yes (.tup (.cons (.bin .FloorDiv (.var 0) (.var 2)) (.cons (.bin .FloorDiv (.var 1) (.var 2)) .nil)))))
    .nil)))
def bLMachine : Ss :=
  (.cons (.set 5 (.call "_law_digits" (.cons (.call "_law_cell" (.cons (.var 0) (.cons (.var 1) .nil))) (.cons (.lst (.cons (.int 9) (.cons (.var 3) (.cons (.bin .Add (.var 4) (.int 1)) (.cons (.int 97) (.cons (.int 2) .nil)))))) .nil))))
    (.cons (.set 6 (.bin .Add (.var 2) (.idx (.var 5) (.int 1))))
    (.cons (.set 7 (.idx (.var 5) (.int 0)))
    (.cons (.set 8 (.bin .FloorDiv (.bin .Add (.var 6) (.int 1)) (.int 2)))
    (.cons (.set 9 (.lst .nil))
    (.cons (.for_ (.nm 10) (.rng (.var 6)) (.cons (.set 11 (.call "_law_digits" (.cons (.call "_law_cell" (.cons (.var 0) (.cons (.bin .Add (.bin .Add (.var 1) (.int 1)) (.var 10)) .nil))) (.cons (.bin .Add (.bin .Mult (.lst (.cons (.int 6) (.cons (.bin .Add (.var 4) (.int 1)) (.cons (.int 4) (.cons (.int 7) .nil))))) (.var 6)) (.lst (.cons (.int 3) .nil))) .nil))))
    (.cons (.set 12 (.lst .nil))
    (.cons (.set 13 (.idx (.var 11) (.bin .Mult (.int 4) (.var 6))))
    (.cons (.for_ (.nm 14) (.rng (.var 6)) (.cons (.set 16 (.slc (.var 11) (.yes (.bin .Mult (.int 4) (.var 14))) (.yes (.bin .Add (.bin .Mult (.int 4) (.var 14)) (.int 4)))))
    (.cons (.set 17 (.cmp .Lt (.idx (.var 16) (.int 0)) (.int 4)))
    (.cons (.set 18 (.idx (.var 16) (.int 1)))
    (.cons (.ite (.ors (.cons (.cmp .Eq (.var 7) (.int 2)) (.cons (.cmp .Eq (.var 7) (.int 3)) .nil))) (.cons (.set 18 (.bin .FloorDiv (.idx (.var 16) (.int 1)) (.int 3)))
    (.cons (.ite (.cmp .NotEq (.bi .int (.cons (.cmp .Lt (.var 10) (.var 8)) .nil)) (.bi .int (.cons (.cmp .Lt (.var 14) (.var 8)) .nil))) (.cons (.set 18 (.bin .Sub (.var 4) (.bin .FloorDiv (.idx (.var 16) (.int 1)) (.int 3))))
    (.cons (.set 17 (.cmp .Lt (.idx (.var 16) (.int 0)) (.int 2)))
    .nil)) .nil)
    .nil)) .nil)
    (.cons (.ite (.cmp .Eq (.var 7) (.int 4)) (.cons (.set 18 (.bi .min (.cons (.var 4) (.cons (.bin .Add (.bin .FloorDiv (.bin .Mult (.var 4) (.bi .max (.cons (.var 10) (.cons (.var 14) .nil)))) (.var 6)) (.bin .Mod (.idx (.var 16) (.int 1)) (.int 2))) .nil))))
    .nil) .nil)
    (.cons (.ite (.cmp .Eq (.var 7) (.int 5)) (.cons (.set 18 (.bi .min (.cons (.var 4) (.cons (.bin .Add (.idx (.var 5) (.int 2)) (.bin .FloorDiv (.idx (.var 16) (.int 3)) (.int 6))) .nil))))
    .nil) .nil)
    (.cons (.ite (.ands (.cons (.cmp .Eq (.var 7) (.int 7)) (.cons (.cmp .Lt (.idx (.var 16) (.int 3)) (.int 4)) .nil))) (.cons (.set 18 (.int 0))
    .nil) .nil)
    (.cons (.ite (.cmp .Eq (.var 14) (.bin .Mod (.bin .Add (.var 10) (.int 1)) (.var 6))) (.cons (.set 17 (.bl true))
    .nil) .nil)
    (.cons (.ite (.cmp .Eq (.var 7) (.int 6)) (.cons (.set 17 (.cmp .Eq (.bi .abs (.cons (.bin .Sub (.var 10) (.var 14)) .nil)) (.int 1)))
    .nil) .nil)
    (.cons (.ite (.ands (.cons (.cmp .NotEq (.var 14) (.var 10)) (.cons (.var 17) .nil))) (.cons (.app 12 (.lst (.cons (.var 14) (.cons (.bin .Add (.idx (.var 16) (.int 2)) (.int 1)) (.cons (.var 18) .nil)))))
    (.cons (.set 13 (.bin .Add (.bin .Add (.var 13) (.idx (.var 16) (.int 2))) (.int 1)))
    (.cons (.ite (.ands (.cons (.cmp .Eq (.var 7) (.int 8)) (.cons (.cmp .Lt (.idx (.var 16) (.int 3)) (.int 3)) .nil))) (.cons (.app 12 (.lst (.cons (.var 14) (.cons (.bin .Add (.idx (.var 16) (.int 3)) (.int 1)) (.cons (.bin .Mod (.bi .int (.cons (.bin .Add (.idx (.var 16) (.int 1)) (.idx (.var 16) (.int 3))) .nil)) (.bin .Add (.var 4) (.int 1))) .nil)))))
    (.cons (.set 13 (.bin .Add (.bin .Add (.var 13) (.idx (.var 16) (.int 3))) (.int 1)))
    .nil)) .nil)
    .nil))) .nil)
    .nil)))))))))))
    (.cons (.for_ (.nm 15) (.seq (.var 12)) (.cons (.app 9 (.tup (.cons (.var 10) (.cons (.idx (.var 15) (.int 0)) (.cons (.call "_law_ratio" (.cons (.idx (.var 15) (.int 1)) (.cons (.var 13) .nil))) (.cons (.idx (.var 15) (.int 2)) .nil))))))
    .nil))
    .nil))))))
    (.cons (.set 19 (.bin .Mod (.bi .int (.cons (.idx (.var 5) (.int 3)) .nil)) (.bi .max (.cons (.int 1) (.cons (.bi .len (.cons (.var 9) .nil)) .nil)))))
    (.cons (.ite (.cmp .Eq (.idx (.var 5) (.int 4)) (.int 1)) (.cons (.set 9 (.bin .Add (.slc (.var 9) (.yes (.var 19)) .no) (.slc (.var 9) .no (.yes (.var 19)))))
    .nil) .nil)
    (.cons (.ret (.yes (.lst (.cons (.var 6) (.cons (.var 9) .nil)))))
    .nil)))))))))
theorem l_gcd_ok (T : Tab) {a b : Int} (hb : b.natAbs < T.fu) : runFn T 3 bLGcd [.int a, .int b] = .ok (.int ((Nat.gcd a.natAbs b.natAbs : Nat) : Int)) := by
  obtain ⟨k', ρ', e, ⟨x, y, z, hz, hg, hk⟩, hc⟩ := whl_ind (ps := []) (c := ev T (.cmp .NotEq (.var 1) (.int 0)) .tst) (body := exs T (.cons (.set 2 (.bin .Mod (.bi .int (.cons (.var 0) .nil)) (.var 1))) (.cons (.set 0 (.var 1)) (.cons (.set 1 (.var 2)) .nil)))) rfl
    (fun k ρ => ∃ (x y : Nat) (z : Sl), ρ = [.val (.int (x : Int)), .val (.int (y : Int)), z] ∧ Nat.gcd x y = Nat.gcd a.natAbs b.natAbs ∧ k = y) (fun k ρ ⟨x, y, z, hρ, hg, hk⟩ => by
      subst hρ
      obtain rfl : y = k := hk.symm
      by_cases h : y = 0
      · left
        subst h
        simp -implicitDefEqProofs
      · right
        have h' : ¬ ((y : Int) = 0) := by omega
        have hm : modD (.int (x : Int)) (.int (y : Int)) = some (.int ((x % y : Nat) : Int)) := by
          rw [modD_int h', Int.fmod_eq_emod_of_nonneg _ (by omega)]
          rfl
        refine ⟨by simp -implicitDefEqProofs [h], x % y, [.val (.int (y : Int)), .val (.int ((x % y : Nat) : Int)), .val (.int ((x % y : Nat) : Int))], Nat.mod_lt _ (by omega), ?_, y, x % y, _, rfl, ?_, rfl⟩
        · generalize ((x % y : Nat) : Int) = w at *
          simp -implicitDefEqProofs [hm]
        · rw [← hg, Nat.gcd_comm y (x % y), Nat.gcd_comm x y]
          exact (Nat.gcd_rec y x).symm) T.fu b.natAbs [.val (.int (a.natAbs : Nat)), .val (.int (b.natAbs : Nat)), .no] ⟨_, _, _, rfl, rfl, rfl⟩ hb
  subst hz
  have hy : y = 0 := by
    by_cases h : y = 0
    · exact h
    · have h' : ¬ ((y : Int) = 0) := by omega
      simp -implicitDefEqProofs at hc
      exact hc
  subst hy
  rw [Nat.gcd_zero_right] at hg
  subst hg
  unfold runFn
  simp -implicitDefEqProofs [bLGcd, atWhl] at e ⊢
  rw [e]
  rfl
theorem l_ratio_ok (T : Tab) {F : List D → Res D} (h : T.fn "_law_gcd" 2 = some F) (hF : ∀ (a : Int) (b : Nat), b < 2 ^ 100 → F [.int a, .int (b : Int)] = .ok (.int ((Nat.gcd a.natAbs b : Nat) : Int))) {t : Int} {b : Nat} (hb : b ≠ 0) (h2 : b < 2 ^ 100) :
    runFn T 3 bLRatio [.int t, .int (b : Int)] = .ok (ratD (Rat.normalize t b hb)) := by
  have hn : ¬ ((b : Int) < 0) := by omega
  have hp : 0 < Nat.gcd t.natAbs b := Nat.gcd_pos_of_pos_right _ (Nat.pos_of_ne_zero hb)
  have hc : ((Nat.gcd t.natAbs b : Nat) : Int) ≠ 0 := by omega
  have hz : ((Nat.gcd t.natAbs b : Nat) : Int).natAbs < 2 ^ 9000 := by
    rw [Int.natAbs_natCast]
    exact Nat.lt_of_le_of_lt (Nat.le_of_dvd (Nat.pos_of_ne_zero hb) (Nat.gcd_dvd_right _ _)) (Nat.lt_of_lt_of_le h2 (Nat.pow_le_pow_right (by decide) (by decide)))
  have hf := hF t b h2
  generalize hG : ((Nat.gcd t.natAbs b : Nat) : Int) = g at *
  unfold runFn
  simp -implicitDefEqProofs [bLRatio, h, hf, hn]
  rw [fdivD_lt hc hz, fdivD_lt hc hz]
  simp -implicitDefEqProofs [ratD, norm_num hb, norm_den hb]
  subst hG
  rw [Int.fdiv_eq_ediv_of_nonneg _ (by omega), Int.fdiv_eq_ediv_of_nonneg _ (by omega)]
  exact ⟨rfl, rfl⟩
/-! ### a drawn machine: one goal -/
abbrev bYtail : Ss := (.cons (.ite (.ands (.cons (.cmp .NotEq (.var 14) (.var 10)) (.cons (.var 17) .nil))) (.cons (.app 12 (.lst (.cons (.var 14) (.cons (.bin .Add (.idx (.var 16) (.int 2)) (.int 1)) (.cons (.var 18) .nil))))) (.cons (.set 13 (.bin .Add (.bin .Add (.var 13) (.idx (.var 16) (.int 2))) (.int 1))) (.cons (.ite (.ands (.cons (.cmp .Eq (.var 7) (.int 8)) (.cons (.cmp .Lt (.idx (.var 16) (.int 3)) (.int 3)) .nil))) (.cons (.app 12 (.lst (.cons (.var 14) (.cons (.bin .Add (.idx (.var 16) (.int 3)) (.int 1)) (.cons (.bin .Mod (.bi .int (.cons (.bin .Add (.idx (.var 16) (.int 1)) (.idx (.var 16) (.int 3))) .nil)) (.bin .Add (.var 4) (.int 1))) .nil))))) (.cons (.set 13 (.bin .Add (.bin .Add (.var 13) (.idx (.var 16) (.int 3))) (.int 1))) .nil)) .nil) .nil))) .nil) .nil)
abbrev bY : Ss := (.cons (.set 16 (.slc (.var 11) (.yes (.bin .Mult (.int 4) (.var 14))) (.yes (.bin .Add (.bin .Mult (.int 4) (.var 14)) (.int 4))))) (.cons (.set 17 (.cmp .Lt (.idx (.var 16) (.int 0)) (.int 4))) (.cons (.set 18 (.idx (.var 16) (.int 1))) (.cons (.ite (.ors (.cons (.cmp .Eq (.var 7) (.int 2)) (.cons (.cmp .Eq (.var 7) (.int 3)) .nil))) (.cons (.set 18 (.bin .FloorDiv (.idx (.var 16) (.int 1)) (.int 3))) (.cons (.ite (.cmp .NotEq (.bi .int (.cons (.cmp .Lt (.var 10) (.var 8)) .nil)) (.bi .int (.cons (.cmp .Lt (.var 14) (.var 8)) .nil))) (.cons (.set 18 (.bin .Sub (.var 4) (.bin .FloorDiv (.idx (.var 16) (.int 1)) (.int 3)))) (.cons (.set 17 (.cmp .Lt (.idx (.var 16) (.int 0)) (.int 2))) .nil)) .nil) .nil)) .nil) (.cons (.ite (.cmp .Eq (.var 7) (.int 4)) (.cons (.set 18 (.bi .min (.cons (.var 4) (.cons (.bin .Add (.bin .FloorDiv (.bin .Mult (.var 4) (.bi .max (.cons (.var 10) (.cons (.var 14) .nil)))) (.var 6)) (.bin .Mod (.idx (.var 16) (.int 1)) (.int 2))) .nil)))) .nil) .nil) (.cons (.ite (.cmp .Eq (.var 7) (.int 5)) (.cons (.set 18 (.bi .min (.cons (.var 4) (.cons (.bin .Add (.idx (.var 5) (.int 2)) (.bin .FloorDiv (.idx (.var 16) (.int 3)) (.int 6))) .nil)))) .nil) .nil) (.cons (.ite (.ands (.cons (.cmp .Eq (.var 7) (.int 7)) (.cons (.cmp .Lt (.idx (.var 16) (.int 3)) (.int 4)) .nil))) (.cons (.set 18 (.int 0)) .nil) .nil) (.cons (.ite (.cmp .Eq (.var 14) (.bin .Mod (.bin .Add (.var 10) (.int 1)) (.var 6))) (.cons (.set 17 (.bl true)) .nil) .nil) (.cons (.ite (.cmp .Eq (.var 7) (.int 6)) (.cons (.set 17 (.cmp .Eq (.bi .abs (.cons (.bin .Sub (.var 10) (.var 14)) .nil)) (.int 1))) .nil) .nil) bYtail)))))))))
abbrev bS15 : Ss := (.cons (.app 9 (.tup (.cons (.var 10) (.cons (.idx (.var 15) (.int 0)) (.cons (.call "_law_ratio" (.cons (.idx (.var 15) (.int 1)) (.cons (.var 13) .nil))) (.cons (.idx (.var 15) (.int 2)) .nil)))))) .nil)
def costF (k dear n half s2 x y p1 p3 : Int) : Int :=
  if k = 2 ∨ k = 3 then (if (x < half) = (y < half) then p1.fdiv 3 else dear - p1.fdiv 3)
  else if k = 4 then (if (dear * (if y > x then y else x)).fdiv n + p1.fmod 2 < dear then (dear * (if y > x then y else x)).fdiv n + p1.fmod 2 else dear)
  else if k = 5 then (if s2 + p3.fdiv 6 < dear then s2 + p3.fdiv 6 else dear)
  else if k = 7 ∧ p3 < 4 then 0 else p1
def thF (k half n x y p0 : Int) : Bool :=
  if k = 6 then decide (((x - y).natAbs : Int) = 1) else if y = (x + 1).fmod n then true else if (k = 2 ∨ k = 3) ∧ ¬ ((x < half) = (y < half)) then decide (p0 < 2) else decide (p0 < 4)
theorem lx0 {a b c d : D} : idxD (.lst [a, b, c, d]) (.int 0) = some a := idxD_lst (i := 0) rfl
theorem lx1 {a b c d : D} : idxD (.lst [a, b, c, d]) (.int 1) = some b := idxD_lst (i := 1) rfl
theorem lx2 {a b c d : D} : idxD (.lst [a, b, c, d]) (.int 2) = some c := idxD_lst (i := 2) rfl
theorem lx3 {a b c d : D} : idxD (.lst [a, b, c, d]) (.int 3) = some d := idxD_lst (i := 3) rfl
theorem y_head (T : Tab) {s0 s1 s2' s3 s9 s12 s13 s15 s16 s17 s18 s19 : Sl} {shape row : List D} {k dear n half s2 x y p0 p1 p2 p3 : Int} (hk : 0 ≤ k ∧ k < 9) (hn : 0 < n ∧ n < 1000) (hx : 0 ≤ x ∧ x < 1000) (hy : 0 ≤ y ∧ y < 1000) (hd : 0 ≤ dear ∧ dear < 1000)
    (hs : idxD (.lst shape) (.int 2) = some (.int s2)) (hp : slcD (.lst row) (some (4 * y)) (some (4 * y + 4)) = some (.lst [.int p0, .int p1, .int p2, .int p3])) :
    exs T bY [s0, s1, s2', s3, .val (.int dear), .val (.lst shape), .val (.int n), .val (.int k), .val (.int half), s9, .val (.int x), .val (.lst row), s12, s13, .val (.int y), s15, s16, s17, s18, s19]
      = exs T bYtail [s0, s1, s2', s3, .val (.int dear), .val (.lst shape), .val (.int n), .val (.int k), .val (.int half), s9, .val (.int x), .val (.lst row), s12, s13, .val (.int y), s15, .val (.lst [.int p0, .int p1, .int p2, .int p3]), .val (.bl (thF k half n x y p0)), .val (.int (costF k dear n half s2 x y p1 p3)), s19] := by
  have sm : ∀ z : Int, 0 ≤ z ∧ z < 1000 → z.natAbs < 2 ^ 240 := fun z h => Nat.lt_of_lt_of_le (show z.natAbs < 1024 by omega) (by decide)
  have m1 : mulD (.int 4) (.int y) = some (.int (4 * y)) := mulD_int (by decide) (sm y hy)
  have m2 : mulD (.int dear) (.int (if y > x then y else x)) = some (.int (dear * (if y > x then y else x))) := mulD_int (sm dear hd) (sm _ (by split <;> omega))
  have d3 : ∀ z : Int, fdivD (.int z) (.int 3) = some (.int (z.fdiv 3)) := fun z => fdivD_int (by decide) (by decide)
  have d6 : ∀ z : Int, fdivD (.int z) (.int 6) = some (.int (z.fdiv 6)) := fun z => fdivD_int (by decide) (by decide)
  have dn : ∀ z : Int, fdivD (.int z) (.int n) = some (.int (z.fdiv n)) := fun z => fdivD_int (by omega) (Nat.lt_of_lt_of_le (show n.natAbs < 1024 by omega) (by decide))
  have e2 : ∀ z : Int, modD (.int z) (.int 2) = some (.int (z.fmod 2)) := fun z => modD_int (by decide)
  have en : ∀ z : Int, modD (.int z) (.int n) = some (.int (z.fmod n)) := fun z => modD_int (by omega)
  have ib : ∀ p : Bool, intD (.bl p) = some (.int (if p = true then 1 else 0)) := fun p => by cases p <;> rfl
  generalize hR : bYtail = R
  have hn0 : ¬ n = 0 := by omega
  have hk' : k = 0 ∨ k = 1 ∨ k = 2 ∨ k = 3 ∨ k = 4 ∨ k = 5 ∨ k = 6 ∨ k = 7 ∨ k = 8 := by omega
  by_cases hr : y = (x + 1).fmod n
  · rcases hk' with rfl | rfl | rfl | rfl | rfl | rfl | rfl | rfl | rfl
    · simp -implicitDefEqProofs [bY, hR, hs, hp, m1, m2, lx0, lx1, lx2, lx3, d3, d6, dn, e2, en, ib, ← hr, thF, costF]
    · simp -implicitDefEqProofs [bY, hR, hs, hp, m1, m2, lx0, lx1, lx2, lx3, d3, d6, dn, e2, en, ib, ← hr, thF, costF]
    · by_cases h1 : x < half <;> by_cases h2 : y < half <;> simp -implicitDefEqProofs [bY, hR, hs, hp, m1, m2, lx0, lx1, lx2, lx3, d3, d6, dn, e2, en, ib, ← hr, thF, costF, h1, h2]
    · by_cases h1 : x < half <;> by_cases h2 : y < half <;> simp -implicitDefEqProofs [bY, hR, hs, hp, m1, m2, lx0, lx1, lx2, lx3, d3, d6, dn, e2, en, ib, ← hr, thF, costF, h1, h2]
    · simp -implicitDefEqProofs [bY, hR, hs, hp, m1, m2, lx0, lx1, lx2, lx3, d3, d6, dn, e2, en, ib, ← hr, thF, costF]
    · simp -implicitDefEqProofs [bY, hR, hs, hp, m1, m2, lx0, lx1, lx2, lx3, d3, d6, dn, e2, en, ib, ← hr, thF, costF]
    · simp -implicitDefEqProofs [bY, hR, hs, hp, m1, m2, lx0, lx1, lx2, lx3, d3, d6, dn, e2, en, ib, ← hr, thF, costF]
    · by_cases h1 : p3 < 4 <;> simp -implicitDefEqProofs [bY, hR, hs, hp, m1, m2, lx0, lx1, lx2, lx3, d3, d6, dn, e2, en, ib, ← hr, thF, costF, h1]
    · simp -implicitDefEqProofs [bY, hR, hs, hp, m1, m2, lx0, lx1, lx2, lx3, d3, d6, dn, e2, en, ib, ← hr, thF, costF]
  · rcases hk' with rfl | rfl | rfl | rfl | rfl | rfl | rfl | rfl | rfl
    · simp -implicitDefEqProofs [bY, hR, hs, hp, m1, m2, lx0, lx1, lx2, lx3, d3, d6, dn, e2, en, ib, hr, thF, costF]
    · simp -implicitDefEqProofs [bY, hR, hs, hp, m1, m2, lx0, lx1, lx2, lx3, d3, d6, dn, e2, en, ib, hr, thF, costF]
    · by_cases h1 : x < half <;> by_cases h2 : y < half <;> simp -implicitDefEqProofs [bY, hR, hs, hp, m1, m2, lx0, lx1, lx2, lx3, d3, d6, dn, e2, en, ib, hr, thF, costF, h1, h2]
    · by_cases h1 : x < half <;> by_cases h2 : y < half <;> simp -implicitDefEqProofs [bY, hR, hs, hp, m1, m2, lx0, lx1, lx2, lx3, d3, d6, dn, e2, en, ib, hr, thF, costF, h1, h2]
    · simp -implicitDefEqProofs [bY, hR, hs, hp, m1, m2, lx0, lx1, lx2, lx3, d3, d6, dn, e2, en, ib, hr, thF, costF]
    · simp -implicitDefEqProofs [bY, hR, hs, hp, m1, m2, lx0, lx1, lx2, lx3, d3, d6, dn, e2, en, ib, hr, thF, costF]
    · simp -implicitDefEqProofs [bY, hR, hs, hp, m1, m2, lx0, lx1, lx2, lx3, d3, d6, dn, e2, en, ib, hr, thF, costF]
    · by_cases h1 : p3 < 4 <;> simp -implicitDefEqProofs [bY, hR, hs, hp, m1, m2, lx0, lx1, lx2, lx3, d3, d6, dn, e2, en, ib, hr, thF, costF, h1]
    · simp -implicitDefEqProofs [bY, hR, hs, hp, m1, m2, lx0, lx1, lx2, lx3, d3, d6, dn, e2, en, ib, hr, thF, costF]
theorem cost_bd {k dear n half s2 x y p1 p3 : Int} (hn : 0 < n) (hx : 0 ≤ x) (hy : 0 ≤ y) (hd : 0 ≤ dear) (h1 : 0 ≤ p1 ∧ p1 ≤ dear) (h3 : 0 ≤ p3) (h2 : 0 ≤ s2) : 0 ≤ costF k dear n half s2 x y p1 p3 ∧ costF k dear n half s2 x y p1 p3 ≤ dear := by
  unfold costF
  have e3 : p1.fdiv 3 = p1 / 3 := Int.fdiv_eq_ediv_of_nonneg _ (by decide)
  have e6 : p3.fdiv 6 = p3 / 6 := Int.fdiv_eq_ediv_of_nonneg _ (by decide)
  have em : p1.fmod 2 = p1 % 2 := Int.fmod_eq_emod_of_nonneg _ (by decide)
  have en : 0 ≤ (dear * (if y > x then y else x)).fdiv n := by
    rw [Int.fdiv_eq_ediv_of_nonneg _ (by omega)]
    exact Int.ediv_nonneg (Int.mul_nonneg hd (by split <;> omega)) (by omega)
  rw [e3, e6, em]
  generalize (dear * (if y > x then y else x)).fdiv n = w at *
  split
  · split <;> omega
  · split
    · split <;> omega
    · split
      · split <;> omega
      · split <;> omega
/-- a goal with its part and its cost -/
structure M3 where
  y : Nat
  p : Nat
  c : Nat
def mD (m : M3) : D := .lst [.int (m.y : Nat), .int (m.p : Nat), .int (m.c : Nat)]
def sumP (ms : List M3) : Nat := ms.foldr (fun m a => m.p + a) 0
theorem sumP_app (ms us : List M3) : sumP (ms ++ us) = sumP ms + sumP us := by
  unfold sumP
  induction ms with
  | nil => simp
  | cons m ms ih => simp only [List.cons_append, List.foldr_cons, ih]; omega
theorem y_tail (T : Tab) {s0 s1 s2' s3 s9 s15 s19 : Sl} {shape row : List D} {k half p0 p1 p2 p3 cost : Int} {th : Bool} {dear n x y tot : Nat} {ms : List M3} (h1 : 0 ≤ p1) (h2 : 0 ≤ p2 ∧ p2 < 4) (h3 : 0 ≤ p3 ∧ p3 < 7) (hc : 0 ≤ cost ∧ cost ≤ dear) (hd : dear < 1000) (hl : ms.length ≤ 10000) :
    ∃ us : List M3, exs T bYtail [s0, s1, s2', s3, .val (.int (dear : Nat)), .val (.lst shape), .val (.int (n : Nat)), .val (.int k), .val (.int half), s9, .val (.int (x : Nat)), .val (.lst row), .own (ms.map mD), .val (.int (tot : Nat)), .val (.int (y : Nat)), s15, .val (.lst [.int p0, .int p1, .int p2, .int p3]), .val (.bl th), .val (.int cost), s19]
      = .nx [s0, s1, s2', s3, .val (.int (dear : Nat)), .val (.lst shape), .val (.int (n : Nat)), .val (.int k), .val (.int half), s9, .val (.int (x : Nat)), .val (.lst row), .own ((ms ++ us).map mD), .val (.int ((tot + sumP us : Nat) : Int)), .val (.int (y : Nat)), s15, .val (.lst [.int p0, .int p1, .int p2, .int p3]), .val (.bl th), .val (.int cost), s19]
      ∧ us.length ≤ 2 ∧ (∀ u ∈ us, u.y = y ∧ y ≠ x ∧ 1 ≤ u.p ∧ u.p ≤ 7 ∧ u.c ≤ dear) ∧ (th = true → y ≠ x → ∃ u ∈ us, u.y = y) := by
  by_cases hx : y = x
  · refine ⟨[], ?_, by simp, by simp, fun _ h => absurd hx h⟩
    have hx' : (y : Int) = (x : Int) := by omega
    simp -implicitDefEqProofs [bYtail, hx', sumP]
  · have hx' : ¬ (y : Int) = (x : Int) := by omega
    cases th with
    | false =>
      refine ⟨[], ?_, by simp, by simp, fun h => by cases h⟩
      simp -implicitDefEqProofs [bYtail, hx', sumP]
    | true =>
      have hl1 : (ms.map mD).length < 16777216 := by rw [List.length_map]; omega
      have e1 : mD ⟨y, p2.toNat + 1, cost.toNat⟩ = .lst [.int (y : Nat), .int (p2 + 1), .int cost] := by
        unfold mD
        have a : ((p2.toNat + 1 : Nat) : Int) = p2 + 1 := by omega
        have b : ((cost.toNat : Nat) : Int) = cost := by omega
        dsimp only
        rw [a, b]
      by_cases h8 : k = 8 ∧ p3 < 3
      · obtain ⟨rfl, h33⟩ := h8
        have em : modD (.int (p1 + p3)) (.int ((dear : Int) + 1)) = some (.int ((p1 + p3).fmod ((dear : Int) + 1))) := modD_int (by omega)
        have eb := Int.fmod_nonneg_of_pos (p1 + p3) (show (0 : Int) < (dear : Int) + 1 by omega)
        have eb2 := Int.fmod_lt_of_pos (p1 + p3) (show (0 : Int) < (dear : Int) + 1 by omega)
        generalize hz : (p1 + p3).fmod ((dear : Int) + 1) = z at *
        have e2 : mD ⟨y, p3.toNat + 1, z.toNat⟩ = .lst [.int (y : Nat), .int (p3 + 1), .int z] := by
          unfold mD
          have a : ((p3.toNat + 1 : Nat) : Int) = p3 + 1 := by omega
          have b : ((z.toNat : Nat) : Int) = z := by omega
          dsimp only
          rw [a, b]
        refine ⟨[⟨y, p2.toNat + 1, cost.toNat⟩, ⟨y, p3.toNat + 1, z.toNat⟩], ?_, by simp, ?_, fun _ _ => ⟨_, List.mem_cons_self, rfl⟩⟩
        · rw [List.map_append, List.map_cons, List.map_cons, List.map_nil, e1, e2]
          have hl2 : (ms.map mD ++ [D.lst [.int (y : Nat), .int (p2 + 1), .int cost]]).length < 16777216 := by rw [List.length_append, List.length_map, List.length_singleton]; omega
          have tt : ((tot + sumP [⟨y, p2.toNat + 1, cost.toNat⟩, ⟨y, p3.toNat + 1, z.toNat⟩] : Nat) : Int) = (tot : Int) + p2 + 1 + p3 + 1 := by
            simp only [sumP, List.foldr_cons, List.foldr_nil]
            omega
          rw [tt]
          generalize ms.map mD = G at *
          simp -implicitDefEqProofs [bYtail, hx', lx1, lx2, lx3, h33, em, hl1, appAt_0 hl2]
        · intro u hu
          rcases List.mem_cons.mp hu with rfl | hu
          · exact ⟨rfl, hx, by show 1 ≤ p2.toNat + 1; omega, by show p2.toNat + 1 ≤ 7; omega, by show cost.toNat ≤ dear; omega⟩
          · rw [List.mem_singleton] at hu
            subst hu
            exact ⟨rfl, hx, by show 1 ≤ p3.toNat + 1; omega, by show p3.toNat + 1 ≤ 7; omega, by show z.toNat ≤ dear; omega⟩
      · refine ⟨[⟨y, p2.toNat + 1, cost.toNat⟩], ?_, by simp, ?_, fun _ _ => ⟨_, List.mem_cons_self, rfl⟩⟩
        · rw [List.map_append, List.map_cons, List.map_nil, e1]
          have tt : ((tot + sumP [⟨y, p2.toNat + 1, cost.toNat⟩] : Nat) : Int) = (tot : Int) + p2 + 1 := by
            simp only [sumP, List.foldr_cons, List.foldr_nil]
            omega
          rw [tt]
          generalize ms.map mD = G at *
          by_cases h9 : k = 8
          · have h33 : ¬ p3 < 3 := fun h => h8 ⟨h9, h⟩
            simp -implicitDefEqProofs [bYtail, hx', lx1, lx2, lx3, h33, h9, hl1]
          · simp -implicitDefEqProofs [bYtail, hx', lx1, lx2, lx3, h9, hl1]
        · intro u hu
          rw [List.mem_singleton] at hu
          subst hu
          exact ⟨rfl, hx, by show 1 ≤ p2.toNat + 1; omega, by show p2.toNat + 1 ≤ 7; omega, by show cost.toNat ≤ dear; omega⟩
abbrev bX : Ss := (.cons (.set 11 (.call "_law_digits" (.cons (.call "_law_cell" (.cons (.var 0) (.cons (.bin .Add (.bin .Add (.var 1) (.int 1)) (.var 10)) .nil))) (.cons (.bin .Add (.bin .Mult (.lst (.cons (.int 6) (.cons (.bin .Add (.var 4) (.int 1)) (.cons (.int 4) (.cons (.int 7) .nil))))) (.var 6)) (.lst (.cons (.int 3) .nil))) .nil)))) (.cons (.set 12 (.lst .nil)) (.cons (.set 13 (.idx (.var 11) (.bin .Mult (.int 4) (.var 6)))) (.cons (.for_ (.nm 14) (.rng (.var 6)) (.cons (.set 16 (.slc (.var 11) (.yes (.bin .Mult (.int 4) (.var 14))) (.yes (.bin .Add (.bin .Mult (.int 4) (.var 14)) (.int 4))))) (.cons (.set 17 (.cmp .Lt (.idx (.var 16) (.int 0)) (.int 4))) (.cons (.set 18 (.idx (.var 16) (.int 1))) (.cons (.ite (.ors (.cons (.cmp .Eq (.var 7) (.int 2)) (.cons (.cmp .Eq (.var 7) (.int 3)) .nil))) (.cons (.set 18 (.bin .FloorDiv (.idx (.var 16) (.int 1)) (.int 3))) (.cons (.ite (.cmp .NotEq (.bi .int (.cons (.cmp .Lt (.var 10) (.var 8)) .nil)) (.bi .int (.cons (.cmp .Lt (.var 14) (.var 8)) .nil))) (.cons (.set 18 (.bin .Sub (.var 4) (.bin .FloorDiv (.idx (.var 16) (.int 1)) (.int 3)))) (.cons (.set 17 (.cmp .Lt (.idx (.var 16) (.int 0)) (.int 2))) .nil)) .nil) .nil)) .nil) (.cons (.ite (.cmp .Eq (.var 7) (.int 4)) (.cons (.set 18 (.bi .min (.cons (.var 4) (.cons (.bin .Add (.bin .FloorDiv (.bin .Mult (.var 4) (.bi .max (.cons (.var 10) (.cons (.var 14) .nil)))) (.var 6)) (.bin .Mod (.idx (.var 16) (.int 1)) (.int 2))) .nil)))) .nil) .nil) (.cons (.ite (.cmp .Eq (.var 7) (.int 5)) (.cons (.set 18 (.bi .min (.cons (.var 4) (.cons (.bin .Add (.idx (.var 5) (.int 2)) (.bin .FloorDiv (.idx (.var 16) (.int 3)) (.int 6))) .nil)))) .nil) .nil) (.cons (.ite (.ands (.cons (.cmp .Eq (.var 7) (.int 7)) (.cons (.cmp .Lt (.idx (.var 16) (.int 3)) (.int 4)) .nil))) (.cons (.set 18 (.int 0)) .nil) .nil) (.cons (.ite (.cmp .Eq (.var 14) (.bin .Mod (.bin .Add (.var 10) (.int 1)) (.var 6))) (.cons (.set 17 (.bl true)) .nil) .nil) (.cons (.ite (.cmp .Eq (.var 7) (.int 6)) (.cons (.set 17 (.cmp .Eq (.bi .abs (.cons (.bin .Sub (.var 10) (.var 14)) .nil)) (.int 1))) .nil) .nil) (.cons (.ite (.ands (.cons (.cmp .NotEq (.var 14) (.var 10)) (.cons (.var 17) .nil))) (.cons (.app 12 (.lst (.cons (.var 14) (.cons (.bin .Add (.idx (.var 16) (.int 2)) (.int 1)) (.cons (.var 18) .nil))))) (.cons (.set 13 (.bin .Add (.bin .Add (.var 13) (.idx (.var 16) (.int 2))) (.int 1))) (.cons (.ite (.ands (.cons (.cmp .Eq (.var 7) (.int 8)) (.cons (.cmp .Lt (.idx (.var 16) (.int 3)) (.int 3)) .nil))) (.cons (.app 12 (.lst (.cons (.var 14) (.cons (.bin .Add (.idx (.var 16) (.int 3)) (.int 1)) (.cons (.bin .Mod (.bi .int (.cons (.bin .Add (.idx (.var 16) (.int 1)) (.idx (.var 16) (.int 3))) .nil)) (.bin .Add (.var 4) (.int 1))) .nil))))) (.cons (.set 13 (.bin .Add (.bin .Add (.var 13) (.idx (.var 16) (.int 3))) (.int 1))) .nil)) .nil) .nil))) .nil) .nil))))))))))) (.cons (.for_ (.nm 15) (.seq (.var 12)) (.cons (.app 9 (.tup (.cons (.var 10) (.cons (.idx (.var 15) (.int 0)) (.cons (.call "_law_ratio" (.cons (.idx (.var 15) (.int 1)) (.cons (.var 13) .nil))) (.cons (.idx (.var 15) (.int 2)) .nil)))))) .nil)) .nil)))))
/-- which goals always have a step -/
def Need (six : Bool) (n x y : Nat) : Prop := if six = true then x + 1 = y ∨ y + 1 = x else y = (x + 1) % n
theorem need_th {k half p0 : Int} {n x y : Nat} (hn : 0 < n) (h : Need (decide (k = 6)) n x y) : thF k half n x y p0 = true := by
  unfold thF
  unfold Need at h
  by_cases hk : k = 6
  · rw [if_pos hk]
    rw [if_pos (by simp [hk])] at h
    simp only [decide_eq_true_eq]
    omega
  · rw [if_neg hk]
    rw [if_neg (by simp [hk])] at h
    have : (y : Int) = ((x : Int) + 1).fmod n := by
      rw [Int.fmod_eq_emod_of_nonneg _ (by omega), h]
      rfl
    rw [if_pos this]
def RowOk4 (row : List D) (n dear : Nat) : Prop := ∀ y : Nat, y < n → ∃ p0 p1 p2 p3 : Int, slcD (.lst row) (some (4 * (y : Int))) (some (4 * (y : Int) + 4)) = some (.lst [.int p0, .int p1, .int p2, .int p3]) ∧ (0 ≤ p1 ∧ p1 ≤ dear) ∧ (0 ≤ p2 ∧ p2 < 4) ∧ (0 ≤ p3 ∧ p3 < 7)
theorem y_loop (T : Tab) {s0 s1 s2' s3 s9 z14 z15 z16 z17 z18 z19 : Sl} {shape row : List D} {k half s2 : Int} {dear n x t0 : Nat} (hk : 0 ≤ k ∧ k < 9) (hn : 0 < n ∧ n < 1000) (hx : x < 1000) (hd : dear < 1000)
    (hs : idxD (.lst shape) (.int 2) = some (.int s2)) (hs0 : 0 ≤ s2) (hrow : RowOk4 row n dear) :
    ∃ (ms : List M3) (y14 y16 y17 y18 : Sl), forL (.nm 14) (exs T bY) (nats n) [s0, s1, s2', s3, .val (.int (dear : Nat)), .val (.lst shape), .val (.int (n : Nat)), .val (.int k), .val (.int half), s9, .val (.int (x : Nat)), .val (.lst row), .own [], .val (.int (t0 : Nat)), z14, z15, z16, z17, z18, z19]
      = .nx [s0, s1, s2', s3, .val (.int (dear : Nat)), .val (.lst shape), .val (.int (n : Nat)), .val (.int k), .val (.int half), s9, .val (.int (x : Nat)), .val (.lst row), .own (ms.map mD), .val (.int ((t0 + sumP ms : Nat) : Int)), y14, z15, y16, y17, y18, z19]
      ∧ ms.length ≤ 2 * n ∧ (∀ u ∈ ms, u.y < n ∧ u.y ≠ x ∧ 1 ≤ u.p ∧ u.p ≤ 7 ∧ u.c ≤ dear) ∧ (∀ y, y < n → y ≠ x → Need (decide (k = 6)) n x y → ∃ u ∈ ms, u.y = y) := by
  obtain ⟨ρ', hl, ms, y14, y16, y17, y18, hz, g1, g2, g3⟩ := forL_ind (tg := .nm 14) (body := exs T bY) (ds := nats n)
    (ρ := [s0, s1, s2', s3, .val (.int (dear : Nat)), .val (.lst shape), .val (.int (n : Nat)), .val (.int k), .val (.int half), s9, .val (.int (x : Nat)), .val (.lst row), .own [], .val (.int (t0 : Nat)), z14, z15, z16, z17, z18, z19])
    (fun i ρ => ∃ (ms : List M3) (y14 y16 y17 y18 : Sl), ρ = [s0, s1, s2', s3, .val (.int (dear : Nat)), .val (.lst shape), .val (.int (n : Nat)), .val (.int k), .val (.int half), s9, .val (.int (x : Nat)), .val (.lst row), .own (ms.map mD), .val (.int ((t0 + sumP ms : Nat) : Int)), y14, z15, y16, y17, y18, z19]
      ∧ ms.length ≤ 2 * i ∧ (∀ u ∈ ms, u.y < n ∧ u.y ≠ x ∧ 1 ≤ u.p ∧ u.p ≤ 7 ∧ u.c ≤ dear) ∧ (∀ y, y < i → y ≠ x → Need (decide (k = 6)) n x y → ∃ u ∈ ms, u.y = y))
    ⟨[], z14, z16, z17, z18, rfl, by simp, by simp, fun y h => absurd h (Nat.not_lt_zero _)⟩ (fun i d ρ hd' ⟨ms, y14, y16, y17, y18, hρ, g1, g2, g3⟩ => by
      obtain ⟨hi, rfl⟩ := nats_at hd'
      subst hρ
      obtain ⟨p0, p1, p2, p3, hp, b1, b2, b3⟩ := hrow i hi
      have hh := y_head T (s0 := s0) (s1 := s1) (s2' := s2') (s3 := s3) (s9 := s9) (s12 := .own (ms.map mD)) (s13 := .val (.int ((t0 + sumP ms : Nat) : Int))) (s15 := z15) (s16 := y16) (s17 := y17) (s18 := y18) (s19 := z19) (k := k) (dear := dear) (n := n) (half := half) (x := x) (y := i) hk (by omega) (by omega) (by omega) (by omega) hs hp
      have hc := cost_bd (k := k) (dear := dear) (n := n) (half := half) (s2 := s2) (x := x) (y := i) (p1 := p1) (p3 := p3) (by omega) (by omega) (by omega) (by omega) b1 b3.1 hs0
      obtain ⟨us, ht, c1, c2, c3⟩ := y_tail T (s0 := s0) (s1 := s1) (s2' := s2') (s3 := s3) (s9 := s9) (s15 := z15) (s19 := z19) (shape := shape) (row := row) (k := k) (half := half) (p0 := p0) (n := n) (x := x) (y := i) (tot := t0 + sumP ms) (ms := ms) (th := thF k half n x i p0) b1.1 b2 b3 hc hd (by omega)
      refine ⟨_, _, rfl, .inl (hh.trans ht), ms ++ us, .val (.int (i : Int)), _, _, _, by rw [sumP_app, Nat.add_assoc], by rw [List.length_append]; omega, fun u hu => ?_, fun y hy hyx hne => ?_⟩
      · rcases List.mem_append.mp hu with hu | hu
        · exact g2 u hu
        · obtain ⟨a1, a2, a3, a4, a5⟩ := c2 u hu
          exact ⟨by omega, by omega, a3, a4, a5⟩
      · by_cases hyi : y = i
        · subst hyi
          obtain ⟨u, hu, e⟩ := c3 (need_th hn.1 hne) hyx
          exact ⟨u, List.mem_append_right _ hu, e⟩
        · obtain ⟨u, hu, e⟩ := g3 y (by omega) hyx hne
          exact ⟨u, List.mem_append_left _ hu, e⟩)
  rw [nats_len] at g1 g3
  subst hz
  exact ⟨ms, y14, y16, y17, y18, hl, g1, g2, g3⟩
/-- the step of a part -/
def stM (x M : Nat) (m : M3) : St4 := ⟨x, m.y, mkRat m.p M, m.c⟩
theorem s_loop (T : Tab) {F : List D → Res D} (h : T.fn "_law_ratio" 2 = some F) {s0 s1 s2 s3 s4 s5 s6 s7 s8 s11 s12 s14 s16 s17 s18 s19 z15 : Sl} {x M : Nat} {ms : List M3} {ts : List St4}
    (hF : ∀ p : Nat, ms ≠ [] → F [.int (p : Nat), .int (M : Nat)] = .ok (ratD (mkRat p M))) (hl : ts.length + ms.length ≤ 10000000) :
    ∃ y15, forL (.nm 15) (exs T bS15) (ms.map mD) [s0, s1, s2, s3, s4, s5, s6, s7, s8, .own (ts.map stD), .val (.int (x : Nat)), s11, s12, .val (.int (M : Nat)), s14, z15, s16, s17, s18, s19]
      = .nx [s0, s1, s2, s3, s4, s5, s6, s7, s8, .own ((ts ++ ms.map (stM x M)).map stD), .val (.int (x : Nat)), s11, s12, .val (.int (M : Nat)), s14, y15, s16, s17, s18, s19] := by
  obtain ⟨ρ', hl', y15, hz⟩ := forL_ind (tg := .nm 15) (body := exs T bS15) (ds := ms.map mD)
    (ρ := [s0, s1, s2, s3, s4, s5, s6, s7, s8, .own (ts.map stD), .val (.int (x : Nat)), s11, s12, .val (.int (M : Nat)), s14, z15, s16, s17, s18, s19])
    (fun i ρ => ∃ y15, ρ = [s0, s1, s2, s3, s4, s5, s6, s7, s8, .own ((ts ++ (ms.take i).map (stM x M)).map stD), .val (.int (x : Nat)), s11, s12, .val (.int (M : Nat)), s14, y15, s16, s17, s18, s19]) ⟨z15, by simp⟩ (fun i d ρ hd ⟨y15, hρ⟩ => by
      rw [List.getElem?_map] at hd
      obtain ⟨m, hm, rfl⟩ := Option.map_eq_some_iff.mp hd
      subst hρ
      have i0 : idxD (mD m) (.int 0) = some (.int (m.y : Nat)) := idxD_lst (i := 0) rfl
      have i1 : idxD (mD m) (.int 1) = some (.int (m.p : Nat)) := idxD_lst (i := 1) rfl
      have i2 : idxD (mD m) (.int 2) = some (.int (m.c : Nat)) := idxD_lst (i := 2) rfl
      have hf := hF m.p (fun z => by rw [z] at hm; cases hm)
      have hll : ((ts ++ (ms.take i).map (stM x M)).map stD).length < 16777216 := by
        rw [List.length_map, List.length_append, List.length_map, List.length_take]
        omega
      have e : stD (stM x M m) = .tup [.int (x : Nat), .int (m.y : Nat), ratD (mkRat m.p M), .int (m.c : Nat)] := rfl
      have e2 : (ts ++ (ms.take (i + 1)).map (stM x M)).map stD = (ts ++ (ms.take i).map (stM x M)).map stD ++ [.tup [.int (x : Nat), .int (m.y : Nat), ratD (mkRat m.p M), .int (m.c : Nat)]] := by
        rw [take_succ hm, ← e]
        simp
      refine ⟨_, _, rfl, .inl ?_, .val (mD m), rfl⟩
      rw [e2]
      generalize (ts ++ (ms.take i).map (stM x M)).map stD = G at *
      simp -implicitDefEqProofs [i0, i1, i2, h, hf, hll])
  rw [List.length_map, List.take_length] at hz
  subst hz
  exact ⟨y15, hl'⟩
/-! the rows of figures -/
theorem rep_at {α : Type} (l : List α) (hl : l.length = 4) : ∀ (n y j : Nat), y < n → j < 4 → ((List.replicate n l).flatten)[4 * y + j]? = l[j]?
  | 0, y, j, h, _ => absurd h (Nat.not_lt_zero _)
  | n + 1, y, j, h, hj => by
    rw [List.replicate_succ, List.flatten_cons]
    cases y with
    | zero =>
      rw [List.getElem?_append_left (by omega)]
      congr 1
      omega
    | succ y =>
      rw [List.getElem?_append_right (by omega)]
      have := rep_at l hl n y j (by omega) hj
      rw [← this]
      congr 1
      omega
theorem rep_len {α : Type} (l : List α) (n : Nat) : ((List.replicate n l).flatten).length = n * l.length := by
  induction n with
  | zero => simp
  | succ n ih => rw [List.replicate_succ, List.flatten_cons, List.length_append, ih, Nat.succ_mul]; omega
def sizes (n dear : Nat) : List Int := (List.replicate n [6, (dear : Int) + 1, 4, 7]).flatten ++ [3]
theorem p63 : (2 : Int) ^ 63 = 9223372036854775808 := by decide +kernel
theorem mul_lstI {xs : List D} {k : Int} (h : -(2 ^ 63) ≤ k ∧ k < 2 ^ 63 ∧ xs.length * k.toNat ≤ sizeLine) : mulD (.lst xs) (.int k) = some (.lst (List.replicate k.toNat xs).flatten) := if_pos h
theorem mul_lst {xs : List D} {n : Nat} (h : xs.length * n ≤ 16777216) (hn : n ≤ 16777216) : mulD (.lst xs) (.int (n : Int)) = some (.lst (List.replicate n xs).flatten) := by
  rw [mul_lstI, Int.toNat_natCast]
  rw [Int.toNat_natCast, sizeLine_eq, p63]
  exact ⟨by omega, by omega, h⟩
theorem sizes_D {n dear : Nat} (hn : n ≤ 1000) : mulD (.lst [.int 6, .int ((dear : Int) + 1), .int 4, .int 7]) (.int (n : Nat)) = some (.lst ((List.replicate n [D.int 6, .int ((dear : Int) + 1), .int 4, .int 7]).flatten)) :=
  mul_lst (by show 4 * n ≤ 16777216; omega) (by omega)
theorem sizes_map (n dear : Nat) : (List.replicate n [D.int 6, .int ((dear : Int) + 1), .int 4, .int 7]).flatten ++ [.int 3] = (sizes n dear).map D.int := by
  unfold sizes
  rw [List.map_append]
  congr 1
  induction n with
  | zero => rfl
  | succ n ih => rw [List.replicate_succ, List.flatten_cons, List.replicate_succ, List.flatten_cons, List.map_append, ih]; rfl
theorem below_at2 {ds ss : List Int} (h : Below ds ss) {i : Nat} {s : Int} (hs : ss[i]? = some s) : ∃ d, ds[i]? = some d ∧ 0 ≤ d ∧ d < s := by
  have hi : i < ds.length := by rw [h.1]; exact (List.getElem?_eq_some_iff.mp hs).1
  exact ⟨ds[i], List.getElem?_eq_getElem hi, h.2 i _ s (List.getElem?_eq_getElem hi) hs⟩
theorem cut_mid {xs : List D} {p q : Nat} (h : p ≤ q) (h2 : q ≤ xs.length) : cutD xs (some (p : Int)) (some (q : Int)) = (xs.drop p).take (q - p) := by
  unfold cutD
  rw [HT.sIx_nat, HT.sIx_nat, Nat.min_eq_left h2, Nat.min_eq_left (Nat.le_trans h h2)]
theorem take4 {α : Type} {xs : List α} {i : Nat} {a b c d : α} (h0 : xs[i]? = some a) (h1 : xs[i + 1]? = some b) (h2 : xs[i + 2]? = some c) (h3 : xs[i + 3]? = some d) : (xs.drop i).take 4 = [a, b, c, d] := by
  apply List.ext_getElem?
  intro j
  by_cases hj : j < 4
  · rw [List.getElem?_take_of_lt hj, List.getElem?_drop]
    have : j = 0 ∨ j = 1 ∨ j = 2 ∨ j = 3 := by omega
    rcases this with rfl | rfl | rfl | rfl
    · rw [Nat.add_zero, h0]; rfl
    · rw [h1]; rfl
    · rw [h2]; rfl
    · rw [h3]; rfl
  · rw [List.getElem?_eq_none (by rw [List.length_take]; omega), List.getElem?_eq_none (by simp; omega)]
theorem row_ok {ds : List Int} {n dear : Nat} (h : Below ds (sizes n dear)) : RowOk4 (ds.map D.int) n dear ∧ ∃ t0 : Nat, t0 < 3 ∧ idxD (.lst (ds.map D.int)) (.int (4 * (n : Int))) = some (.int (t0 : Nat)) := by
  have hlen : ((List.replicate n [(6 : Int), (dear : Int) + 1, 4, 7]).flatten).length = 4 * n := by rw [rep_len]; simp; omega
  refine ⟨fun y hy => ?_, ?_⟩
  · have at_ : ∀ j, j < 4 → (sizes n dear)[4 * y + j]? = [(6 : Int), (dear : Int) + 1, 4, 7][j]? := fun j hj => by
      unfold sizes
      rw [List.getElem?_append_left (by rw [hlen]; omega)]
      exact rep_at _ rfl n y j hy hj
    obtain ⟨p0, a0, b0, c0⟩ := below_at2 h (at_ 0 (by decide))
    obtain ⟨p1, a1, b1, c1⟩ := below_at2 h (at_ 1 (by decide))
    obtain ⟨p2, a2, b2, c2⟩ := below_at2 h (at_ 2 (by decide))
    obtain ⟨p3, a3, b3, c3⟩ := below_at2 h (at_ 3 (by decide))
    refine ⟨p0, p1, p2, p3, ?_, ⟨b1, by omega⟩, ⟨b2, c2⟩, b3, c3⟩
    have hl : 4 * y + 4 ≤ (ds.map D.int).length := by
      rw [List.length_map, h.1]
      unfold sizes
      rw [List.length_append, hlen]
      omega
    show some (D.lst (cutD _ _ _)) = _
    have e1 : (4 * (y : Int)) = ((4 * y : Nat) : Int) := by omega
    have e2 : (4 * (y : Int) + 4) = ((4 * y + 4 : Nat) : Int) := by omega
    rw [e2, e1, cut_mid (by omega) hl, show 4 * y + 4 - 4 * y = 4 by omega]
    have g : ∀ {j : Nat} {z : Int}, ds[j]? = some z → (ds.map D.int)[j]? = some (.int z) := fun {j z} hz => by rw [List.getElem?_map, hz]; rfl
    rw [take4 (i := 4 * y) (g a0) (g a1) (g a2) (g a3)]
  · have hs : (sizes n dear)[4 * n]? = some 3 := by
      unfold sizes
      rw [List.getElem?_append_right (by rw [hlen]; exact Nat.le_refl _), hlen, Nat.sub_self]
      rfl
    obtain ⟨d, a, b, c⟩ := below_at2 h hs
    refine ⟨d.toNat, by omega, ?_⟩
    have e1 : (4 * (n : Int)) = ((4 * n : Nat) : Int) := by omega
    rw [e1]
    have : (ds.map D.int)[4 * n]? = some (.int d) := by rw [List.getElem?_map, a]; rfl
    rw [idxD_lst this]
    congr 2
    omega
/-! the steps of all states -/
def uOf (M : Nat) (t : St4) : Nat := (t.f * (M : Rat)).num.toNat
theorem uOf_part {M u : Nat} {t : St4} (h : Part M u t.f) : uOf M t = u := by
  unfold uOf
  rw [show t.f * (M : Rat) = ((u : Int) : Rat) from h, Rat.num_intCast, Int.toNat_natCast]
theorem part_mk {p M : Nat} (hM : M ≠ 0) : Part M p (mkRat p M) := by
  unfold Part
  rw [Rat.mkRat_eq_div]
  have h0 : ((M : Nat) : Rat) ≠ 0 := by
    intro e
    exact hM (Rat.natCast_inj.mp e)
  have key : ∀ a b : Rat, b ≠ 0 → a / b * b = a := by
    intro a b h
    grind
  exact key _ _ h0
theorem part_pos {M u : Nat} {r : Rat} (h : Part M u r) (hM : M ≠ 0) (hu : 0 < u) : 0 < r := by
  have hMr : (0 : Rat) < (M : Rat) := by
    have : ((0 : Nat) : Rat) < (M : Rat) := Rat.natCast_lt_natCast.mpr (Nat.pos_of_ne_zero hM)
    exact this
  have hur : (0 : Rat) < ((u : Int) : Rat) := by
    have : ((0 : Int) : Rat) < ((u : Int) : Rat) := Rat.intCast_lt_intCast.mpr (by omega)
    exact this
  have key : ∀ x m w : Rat, 0 < m → x * m = w → 0 < w → 0 < x := by
    intro x m w a b c
    by_cases hx : 0 < x
    · exact hx
    · have h1 : 0 ≤ -x := by grind
      have h2 := Rat.mul_nonneg h1 (Rat.le_of_lt a)
      grind
  exact key r _ _ hMr h hur
structure DrawnX (n dear : Nat) (six : Bool) (X : Nat) (ts : List St4) : Prop where
  st : ∀ t ∈ ts, t.s < X ∧ t.g < n ∧ t.s ≠ t.g ∧ 0 < t.f ∧ t.c ≤ dear
  out : ∀ s, s < X → ∃ M : Nat, 0 < M ∧ M < 2 ^ 100 ∧ (∀ t ∈ ts, t.s = s → Part M (uOf M t) t.f) ∧ partSum (uOf M) s ts ≤ M
  edge : ∀ s y, s < X → y < n → y ≠ s → Need six n s y → ∃ t ∈ ts, t.s = s ∧ t.g = y
  len : ts.length ≤ 2 * n * X
theorem part_none {u : St4 → Nat} {x : Nat} : ∀ {ts : List St4}, (∀ t ∈ ts, t.s ≠ x) → partSum u x ts = 0
  | [], _ => rfl
  | t :: ts, h => by rw [partSum_cons, if_neg (h t List.mem_cons_self), part_none fun t ht => h t (List.mem_cons_of_mem _ ht)]
theorem part_ms {x M : Nat} (hM : M ≠ 0) : ∀ ms : List M3, partSum (uOf M) x (ms.map (stM x M)) = sumP ms
  | [] => rfl
  | m :: ms => by
    rw [List.map_cons, partSum_cons, part_ms hM ms, if_pos (show (stM x M m).s = x from rfl), uOf_part (u := m.p) (part_mk hM)]
    rfl
theorem sumP_le : ∀ {ms : List M3}, (∀ m ∈ ms, m.p ≤ 7) → sumP ms ≤ 7 * ms.length
  | [], _ => Nat.le_refl _
  | m :: ms, h => by
    have a := sumP_le (ms := ms) fun m hm => h m (List.mem_cons_of_mem _ hm)
    have b := h m List.mem_cons_self
    show m.p + sumP ms ≤ 7 * (ms.length + 1)
    omega
theorem sumP_pos {ms : List M3} (h : ∀ m ∈ ms, 1 ≤ m.p) (hne : ms ≠ []) : 1 ≤ sumP ms := by
  cases ms with
  | nil => exact absurd rfl hne
  | cons m ms =>
    have := h m List.mem_cons_self
    show 1 ≤ m.p + sumP ms
    omega
theorem drawn_step {n dear X t0 : Nat} {six : Bool} {ts : List St4} {ms : List M3} (d : DrawnX n dear six X ts) (hX : X < n) (hn : n < 1000) (ht0 : t0 < 3) (g1 : ms.length ≤ 2 * n) (g2 : ∀ u ∈ ms, u.y < n ∧ u.y ≠ X ∧ 1 ≤ u.p ∧ u.p ≤ 7 ∧ u.c ≤ dear)
    (g3 : ∀ y, y < n → y ≠ X → Need six n X y → ∃ u ∈ ms, u.y = y) : DrawnX n dear six (X + 1) (ts ++ ms.map (stM X (t0 + sumP ms))) := by
  have hM : ms ≠ [] → t0 + sumP ms ≠ 0 := fun h => by
    have := sumP_pos (fun m hm => (g2 m hm).2.2.1) h
    omega
  have hMem : ∀ t ∈ ms.map (stM X (t0 + sumP ms)), ms ≠ [] ∧ ∃ m ∈ ms, t = stM X (t0 + sumP ms) m := fun t ht => by
    obtain ⟨m, hm, rfl⟩ := List.mem_map.mp ht
    exact ⟨(fun z => by rw [z] at hm; cases hm), m, hm, rfl⟩
  refine ⟨fun t ht => ?_, fun s hs => ?_, fun s y hs hy hne hN => ?_, ?_⟩
  · rcases List.mem_append.mp ht with h | h
    · obtain ⟨a, b⟩ := d.st t h
      exact ⟨by omega, b⟩
    · obtain ⟨hne, m, hm, rfl⟩ := hMem t h
      obtain ⟨a1, a2, a3, a4, a5⟩ := g2 m hm
      exact ⟨Nat.lt_succ_self _, a1, fun e => a2 e.symm, part_pos (u := m.p) (part_mk (hM hne)) (hM hne) (by omega), a5⟩
  · by_cases hsX : s = X
    · subst hsX
      by_cases hne : ms = []
      · subst hne
        refine ⟨1, by decide, by decide, fun t ht hx => ?_, ?_⟩
        · rw [List.map_nil, List.append_nil] at ht
          have := (d.st t ht).1
          omega
        · rw [List.map_nil, List.append_nil, part_none fun t ht => by have := (d.st t ht).1; omega]
          exact Nat.zero_le _
      · have sl := sumP_le (fun m hm => (g2 m hm).2.2.2.1)
        refine ⟨t0 + sumP ms, Nat.pos_of_ne_zero (hM hne), Nat.lt_of_lt_of_le (show t0 + sumP ms < 2 ^ 20 by omega) (Nat.pow_le_pow_right (by decide) (by decide)), fun t ht hx => ?_, ?_⟩
        · rcases List.mem_append.mp ht with h | h
          · have := (d.st t h).1
            omega
          · obtain ⟨_, m, hm, rfl⟩ := hMem t h
            have := part_mk (p := m.p) (hM hne)
            rw [uOf_part (t := stM s (t0 + sumP ms) m) this]
            exact this
        · rw [partSum_app, part_none fun t ht => by have := (d.st t ht).1; omega, part_ms (hM hne)]
          omega
    · obtain ⟨M, m1, m2, m3, m4⟩ := d.out s (by omega)
      refine ⟨M, m1, m2, fun t ht hx => ?_, ?_⟩
      · rcases List.mem_append.mp ht with h | h
        · exact m3 t h hx
        · obtain ⟨_, m, hm, rfl⟩ := hMem t h
          exact absurd hx (fun e => hsX e.symm)
      · rw [partSum_app, part_none (ts := ms.map (stM X (t0 + sumP ms))) fun t ht => by
          obtain ⟨_, m, hm, rfl⟩ := hMem t ht
          exact fun e => hsX e.symm]
        exact m4
  · by_cases hsX : s = X
    · subst hsX
      obtain ⟨u, hu, e⟩ := g3 y hy hne hN
      exact ⟨_, List.mem_append_right _ (List.mem_map.mpr ⟨u, hu, rfl⟩), rfl, e⟩
    · obtain ⟨t, ht, e⟩ := d.edge s y (by omega) hy hne hN
      exact ⟨t, List.mem_append_left _ ht, e⟩
  · rw [List.length_append, List.length_map, Nat.mul_succ]
    have := d.len
    omega
/-- a rotated row of steps -/
theorem drawn_rot {n dear X : Nat} {six : Bool} {A B : List St4} (d : DrawnX n dear six X (A ++ B)) : DrawnX n dear six X (B ++ A) := by
  have hm : ∀ t, t ∈ B ++ A ↔ t ∈ A ++ B := fun t => by rw [List.mem_append, List.mem_append, Or.comm]
  refine ⟨fun t ht => d.st t ((hm t).mp ht), fun s hs => ?_, fun s y h1 h2 h3 h4 => ?_, ?_⟩
  · obtain ⟨M, m1, m2, m3, m4⟩ := d.out s hs
    refine ⟨M, m1, m2, fun t ht => m3 t ((hm t).mp ht), ?_⟩
    rw [partSum_app] at m4 ⊢
    omega
  · obtain ⟨t, ht, e⟩ := d.edge s y h1 h2 h3 h4
    exact ⟨t, (hm t).mpr ht, e⟩
  · have := d.len
    rw [List.length_append] at this ⊢
    omega
theorem drawn_nil {n dear : Nat} {six : Bool} : DrawnX n dear six 0 [] where
  st := fun t h => absurd h List.not_mem_nil
  out := fun s h => absurd h (Nat.not_lt_zero _)
  edge := fun s y h => absurd h (Nat.not_lt_zero _)
  len := Nat.le_refl _
/-! every state is reached -/
theorem ring_way {n : Nat} {ts : List St4} (hn : 1 < n) (he : ∀ s y, s < n → y < n → y ≠ s → y = (s + 1) % n → ∃ t ∈ ts, t.s = s ∧ t.g = y) {x : Nat} (hx : x < n) : ∀ k, Way ts k x ((x + k) % n)
  | 0 => by
    rw [Nat.add_zero, Nat.mod_eq_of_lt hx]
    exact .nil x
  | k + 1 => by
    have ih := ring_way hn he hx k
    have h1 : (x + k) % n < n := Nat.mod_lt _ (by omega)
    have h2 : (x + (k + 1)) % n < n := Nat.mod_lt _ (by omega)
    have h3 : (x + (k + 1)) % n = ((x + k) % n + 1) % n := by rw [Nat.mod_add_mod, Nat.add_assoc]
    have h4 : (x + (k + 1)) % n ≠ (x + k) % n := by
      rw [h3]
      intro e
      by_cases h5 : (x + k) % n + 1 < n
      · rw [Nat.mod_eq_of_lt h5] at e
        omega
      · have : (x + k) % n + 1 = n := by omega
        rw [this, Nat.mod_self] at e
        omega
    obtain ⟨t, ht, e1, e2⟩ := he _ _ h1 h2 h4 h3
    rw [← e2]
    exact Way.snoc ih ht e1
theorem row_way {n : Nat} {ts : List St4} (he : ∀ s y, s < n → y < n → y ≠ s → s + 1 = y ∨ y + 1 = s → ∃ t ∈ ts, t.s = s ∧ t.g = y) {x : Nat} (hx : x < n) : ∀ k, (x + k < n → Way ts k x (x + k)) ∧ (k ≤ x → Way ts k x (x - k))
  | 0 => ⟨fun _ => .nil x, fun _ => .nil x⟩
  | k + 1 => by
    obtain ⟨a, b⟩ := row_way he hx k
    refine ⟨fun h => ?_, fun h => ?_⟩
    · obtain ⟨t, ht, e1, e2⟩ := he (x + k) (x + (k + 1)) (by omega) h (by omega) (.inl (by omega))
      rw [← e2]
      exact Way.snoc (a (by omega)) ht e1
    · obtain ⟨t, ht, e1, e2⟩ := he (x - k) (x - (k + 1)) (by omega) (by omega) (by omega) (.inr (by omega))
      rw [← e2]
      exact Way.snoc (b (by omega)) ht e1
theorem need_join {n : Nat} {six : Bool} {ts : List St4} (he : ∀ s y, s < n → y < n → y ≠ s → Need six n s y → ∃ t ∈ ts, t.s = s ∧ t.g = y) : ∀ x y, x < n → y < n → ∃ k, k ≤ n ∧ Way ts k x y := by
  intro x y hx hy
  cases six with
  | true =>
    have w := row_way (ts := ts) (fun s y a b c d => he s y a b c (by unfold Need; rw [if_pos rfl]; exact d)) hx
    by_cases h : x ≤ y
    · have := (w (y - x)).1 (by omega)
      rw [show x + (y - x) = y by omega] at this
      exact ⟨y - x, by omega, this⟩
    · have := (w (x - y)).2 (by omega)
      rw [show x - (x - y) = y by omega] at this
      exact ⟨x - y, by omega, this⟩
  | false =>
    by_cases hn : 1 < n
    · have w := ring_way hn (ts := ts) (fun s y a b c d => he s y a b c (by unfold Need; rw [if_neg Bool.false_ne_true]; exact d)) hx
      by_cases h : x ≤ y
      · have := w (y - x)
        rw [show x + (y - x) = y by omega, Nat.mod_eq_of_lt hy] at this
        exact ⟨y - x, by omega, this⟩
      · have := w (y + n - x)
        rw [show x + (y + n - x) = y + n by omega, Nat.add_mod_right, Nat.mod_eq_of_lt hy] at this
        exact ⟨y + n - x, by omega, this⟩
    · have : x = y := by omega
      subst this
      exact ⟨0, Nat.zero_le _, .nil x⟩
/-! the drawn machine -/
def CellOk (F : List D → Res D) (sc : D) : Prop := ∀ k : Nat, k < 2 ^ 32 → ∃ c : Int, F [sc, .int (k : Int)] = .ok (.int c)
def DigsOk (F : List D → Res D) : Prop := ∀ (c : Int) (ss : List Int), ss.length ≤ 100000 → (∀ s ∈ ss, 0 < s ∧ s < 2 ^ 60) → ∃ ds : List Int, F [.int c, .lst (ss.map D.int)] = .ok (.lst (ds.map D.int)) ∧ Below ds ss
def RatOk (F : List D → Res D) : Prop := ∀ p M : Nat, M ≠ 0 → M < 2 ^ 100 → F [.int (p : Nat), .int (M : Nat)] = .ok (ratD (mkRat p M))
theorem sizes_pos {n dear : Nat} (hd : dear < 1000) : ∀ s ∈ sizes n dear, 0 < s ∧ s < 2 ^ 60 := by
  intro s hs
  have e : (2 : Int) ^ 60 = 1152921504606846976 := by decide +kernel
  rw [e]
  unfold sizes at hs
  rcases List.mem_append.mp hs with h | h
  · obtain ⟨l, hl, h⟩ := List.mem_flatten.mp h
    rw [List.eq_of_mem_replicate hl] at h
    simp only [List.mem_cons, List.not_mem_nil, or_false] at h
    omega
  · rw [List.mem_singleton] at h
    omega
theorem sizes_len (n dear : Nat) : (sizes n dear).length = 4 * n + 1 := by
  unfold sizes
  rw [List.length_append, rep_len]
  simp
  omega
theorem x_loop (T : Tab) {Fc Fd Fr : List D → Res D} {sc : D} (hc : T.fn "_law_cell" 2 = some Fc) (hd : T.fn "_law_digits" 2 = some Fd) (hr : T.fn "_law_ratio" 2 = some Fr) (ec : CellOk Fc sc) (ed : DigsOk Fd) (er : RatOk Fr)
    {s2' s3 z10 z11 z12 z13 z14 z15 z16 z17 z18 z19 : Sl} {shape : List D} {k half s2 : Int} {dear n at_ : Nat} (hk : 0 ≤ k ∧ k < 9) (hn : 0 < n ∧ n < 1000) (hdr : dear < 1000) (hat : at_ < 100000) (hs : idxD (.lst shape) (.int 2) = some (.int s2)) (hs0 : 0 ≤ s2) :
    ∃ (ts : List St4) (y10 y11 y12 y13 y14 y15 y16 y17 y18 : Sl), forL (.nm 10) (exs T bX) (nats n) [.val sc, .val (.int (at_ : Nat)), s2', s3, .val (.int (dear : Nat)), .val (.lst shape), .val (.int (n : Nat)), .val (.int k), .val (.int half), .own [], z10, z11, z12, z13, z14, z15, z16, z17, z18, z19]
      = .nx [.val sc, .val (.int (at_ : Nat)), s2', s3, .val (.int (dear : Nat)), .val (.lst shape), .val (.int (n : Nat)), .val (.int k), .val (.int half), .own (ts.map stD), y10, y11, y12, y13, y14, y15, y16, y17, y18, z19] ∧ DrawnX n dear (decide (k = 6)) n ts := by
  obtain ⟨ρ', hl, ts, y10, y11, y12, y13, y14, y15, y16, y17, y18, hz, g⟩ := forL_ind (tg := .nm 10) (body := exs T bX) (ds := nats n)
    (ρ := [.val sc, .val (.int (at_ : Nat)), s2', s3, .val (.int (dear : Nat)), .val (.lst shape), .val (.int (n : Nat)), .val (.int k), .val (.int half), .own [], z10, z11, z12, z13, z14, z15, z16, z17, z18, z19])
    (fun i ρ => ∃ (ts : List St4) (y10 y11 y12 y13 y14 y15 y16 y17 y18 : Sl), ρ = [.val sc, .val (.int (at_ : Nat)), s2', s3, .val (.int (dear : Nat)), .val (.lst shape), .val (.int (n : Nat)), .val (.int k), .val (.int half), .own (ts.map stD), y10, y11, y12, y13, y14, y15, y16, y17, y18, z19] ∧ DrawnX n dear (decide (k = 6)) i ts)
    ⟨[], z10, z11, z12, z13, z14, z15, z16, z17, z18, rfl, drawn_nil⟩ (fun i d ρ hd' ⟨ts, y10, y11, y12, y13, y14, y15, y16, y17, y18, hρ, g⟩ => by
      obtain ⟨hi, rfl⟩ := nats_at hd'
      subst hρ
      obtain ⟨c, hcc⟩ := ec (at_ + 1 + i) (by omega)
      obtain ⟨ds, hds, hb⟩ := ed c (sizes n dear) (by rw [sizes_len]; omega) (sizes_pos hdr)
      obtain ⟨rok, t0, ht0, it0⟩ := row_ok hb
      obtain ⟨ms, x14, x16, x17, x18, hy, m1, m2, m3⟩ := y_loop T (s0 := .val sc) (s1 := .val (.int (at_ : Nat))) (s2' := s2') (s3 := s3) (s9 := .own (ts.map stD)) (z14 := y14) (z15 := y15) (z16 := y16) (z17 := y17) (z18 := y18) (z19 := z19) (shape := shape) (row := ds.map D.int) (k := k) (half := half) (x := i) (t0 := t0) hk hn (by omega) hdr hs hs0 rok
      have tl := g.len
      have hni : 2 * n * i ≤ 2 * 1000 * 1000 := Nat.mul_le_mul (by omega) (by omega)
      have slt := sumP_le (fun m hm => (m2 m hm).2.2.2.1)
      have tlen : ts.length ≤ 2000000 := by omega
      obtain ⟨x15, hsl⟩ := s_loop T hr (s0 := .val sc) (s1 := .val (.int (at_ : Nat))) (s2 := s2') (s3 := s3) (s4 := .val (.int (dear : Nat))) (s5 := .val (.lst shape)) (s6 := .val (.int (n : Nat))) (s7 := .val (.int k)) (s8 := .val (.int half)) (s11 := .val (.lst (ds.map D.int))) (s12 := .val (.lst (ms.map mD))) (s14 := x14) (s16 := x16) (s17 := x17) (s18 := x18) (s19 := z19) (z15 := y15) (x := i) (M := t0 + sumP ms) (ms := ms) (ts := ts)
        (fun p hne => er p _ (by have := sumP_pos (fun m hm => (m2 m hm).2.2.1) hne; omega) (Nat.lt_of_lt_of_le (show t0 + sumP ms < 2 ^ 20 by omega) (Nat.pow_le_pow_right (by decide) (by decide)))) (by omega)
      have hcc' : Fc [sc, .int ((at_ : Int) + 1 + (i : Int))] = .ok (.int c) := by
        have e : ((at_ + 1 + i : Nat) : Int) = (at_ : Int) + 1 + (i : Int) := by omega
        rw [← e]
        exact hcc
      have md := sizes_D (n := n) (dear := dear) (by omega)
      have ad : addD (.lst ((List.replicate n [D.int 6, .int ((dear : Int) + 1), .int 4, .int 7]).flatten)) (.lst [.int 3]) = some (.lst ((sizes n dear).map D.int)) := by
        rw [addD_lst (by rw [rep_len]; show n * 4 + 1 ≤ 16777216; omega), sizes_map]
      have m4 : mulD (.int 4) (.int (n : Int)) = some (.int (4 * (n : Int))) := mulD_int (by decide) (by rw [Int.natAbs_natCast]; exact Nat.lt_of_lt_of_le (show n < 2 ^ 20 by omega) (by decide))
      refine ⟨_, _, rfl, .inl ?_, _, .val (.int (i : Int)), .val (.lst (ds.map D.int)), .val (.lst (ms.map mD)), .val (.int ((t0 + sumP ms : Nat) : Int)), x14, x15, x16, x17, x18, rfl, drawn_step g hi hn.2 ht0 m1 m2 m3⟩
      have hrn := rngR1_nat (n := n) (by omega)
      generalize (List.replicate n [D.int 6, .int ((dear : Int) + 1), .int 4, .int 7]).flatten = L at *
      generalize (sizes n dear).map D.int = SZ at *
      generalize ds.map D.int = row at *
      generalize (ts ++ ms.map (stM i (t0 + sumP ms))).map stD = G2 at *
      generalize ts.map stD = G1 at *
      generalize ((t0 + sumP ms : Nat) : Int) = tot at *
      generalize ms.map mD = MM at *
      simp -implicitDefEqProofs [bX, hc, hd, hcc', hds, md, ad, m4, it0, hrn, hy, hsl])
  rw [nats_len] at g
  subst hz
  exact ⟨ts, y10, y11, y12, y13, y14, y15, y16, y17, y18, hl, g⟩
theorem cut_toP {xs : List D} {p : Nat} (h : p ≤ xs.length) : cutD xs none (some (p : Int)) = xs.take p := by
  unfold cutD
  rw [HT.sIx_none, HT.sIx_nat, List.drop_zero, Nat.min_eq_left h, Nat.sub_zero]
theorem cut_fromP {xs : List D} {p : Nat} (h : p ≤ xs.length) : cutD xs (some (p : Int)) none = xs.drop p := by
  unfold cutD
  rw [HT.sIx_none, HT.sIx_nat, Nat.min_eq_left h]
  exact List.take_of_length_le (by rw [List.length_drop]; exact Nat.le_refl _)
theorem l_machine_ok (T : Tab) {Fc Fd Fr : List D → Res D} {sc : D} (hc : T.fn "_law_cell" 2 = some Fc) (hd : T.fn "_law_digits" 2 = some Fd) (hr : T.fn "_law_ratio" 2 = some Fr) (ec : CellOk Fc sc) (ed : DigsOk Fd) (er : RatOk Fr)
    {at_ least more dear : Nat} (h1 : 1 ≤ least) (h2 : 1 ≤ more) (h3 : least + more ≤ 500) (h4 : dear < 1000) (hat : at_ < 100000) :
    ∃ (n : Nat) (ts : List St4) (six : Bool), least ≤ n ∧ n < least + more ∧ runFn T 20 bLMachine [sc, .int (at_ : Nat), .int (least : Nat), .int (more : Nat), .int (dear : Nat)] = .ok (.lst [.int (n : Nat), .lst (ts.map stD)]) ∧ DrawnX n dear six n ts := by
  obtain ⟨c, hcc⟩ := ec at_ (by omega)
  have e60 : (2 : Int) ^ 60 = 1152921504606846976 := by decide +kernel
  obtain ⟨ds, hds, hb⟩ := ed c [9, (more : Int), (dear : Int) + 1, 97, 2] (by simp) (fun s hs => by
    rw [e60]
    simp only [List.mem_cons, List.not_mem_nil, or_false] at hs
    omega)
  obtain ⟨d0, a0, b0, c0⟩ := below_at2 hb (i := 0) (s := 9) rfl
  obtain ⟨d1, a1, b1, c1⟩ := below_at2 hb (i := 1) (s := (more : Int)) rfl
  obtain ⟨d2, a2, b2, c2⟩ := below_at2 hb (i := 2) (s := (dear : Int) + 1) rfl
  obtain ⟨d3, a3, b3, c3⟩ := below_at2 hb (i := 3) (s := 97) rfl
  obtain ⟨d4, a4, b4, c4⟩ := below_at2 hb (i := 4) (s := 2) rfl
  have g : ∀ {j : Nat} {z : Int}, ds[j]? = some z → idxD (.lst (ds.map D.int)) (.int (j : Int)) = some (.int z) := fun {j z} hz => idxD_lst (by rw [List.getElem?_map, hz]; rfl)
  have i0 : idxD (.lst (ds.map D.int)) (.int 0) = some (.int d0) := g a0
  have i1 : idxD (.lst (ds.map D.int)) (.int 1) = some (.int d1) := g a1
  have i2 : idxD (.lst (ds.map D.int)) (.int 2) = some (.int d2) := g a2
  have i3 : idxD (.lst (ds.map D.int)) (.int 3) = some (.int d3) := g a3
  have i4 : idxD (.lst (ds.map D.int)) (.int 4) = some (.int d4) := g a4
  have hds' : Fd [.int c, .lst [.int 9, .int (more : Int), .int ((dear : Int) + 1), .int 97, .int 2]] = .ok (.lst (ds.map D.int)) := hds
  have hn1 : (least : Int) + d1 = ((least + d1.toNat : Nat) : Int) := by omega
  have hnb : least + d1.toNat < least + more := by omega
  generalize hnn : least + d1.toNat = n at *
  have hn0 : 0 < n ∧ n < 1000 := by omega
  have fh : fdivD (.int ((n : Int) + 1)) (.int 2) = some (.int (((n : Int) + 1).fdiv 2)) := fdivD_int (by decide) (by decide)
  obtain ⟨ts, y10, y11, y12, y13, y14, y15, y16, y17, y18, hx, hD⟩ := x_loop T hc hd hr ec ed er (s2' := .val (.int (least : Nat))) (s3 := .val (.int (more : Nat))) (z10 := .no) (z11 := .no) (z12 := .no) (z13 := .no) (z14 := .no) (z15 := .no) (z16 := .no) (z17 := .no) (z18 := .no) (z19 := .no) (shape := ds.map D.int) (k := d0) (half := ((n : Int) + 1).fdiv 2) (s2 := d2) (dear := dear) (n := n) ⟨b0, c0⟩ hn0 h4 hat i2 b2
  have hrn := rngR1_nat (n := n) (by omega)
  have hlen : lenD (.lst (ts.map stD)) = some (.int (ts.length : Nat)) := by rw [lenD_lst, List.length_map]
  have tl := hD.len
  have hnn2 : 2 * n * n ≤ 2 * 1000 * 1000 := Nat.mul_le_mul (by omega) (by omega)
  have mxp : (0 : Int) < (if (ts.length : Int) > 1 then (ts.length : Int) else 1) := by split <;> omega
  have md : modD (.int d3) (.int (if (ts.length : Int) > 1 then (ts.length : Int) else 1)) = some (.int (d3.fmod (if (ts.length : Int) > 1 then (ts.length : Int) else 1))) := modD_int (by omega)
  have f0 := Int.fmod_nonneg_of_pos d3 mxp
  have f1 := Int.fmod_lt_of_pos d3 mxp
  have f2 : d3.fmod (if (ts.length : Int) > 1 then (ts.length : Int) else 1) ≤ (ts.length : Int) ∨ ts.length = 0 ∧ d3.fmod (if (ts.length : Int) > 1 then (ts.length : Int) else 1) = 0 := by
    by_cases h : (ts.length : Int) > 1
    · rw [if_pos h] at f1 ⊢
      left; omega
    · rw [if_neg h] at f0 f1 ⊢
      by_cases h5 : ts.length = 0
      · right; exact ⟨h5, by omega⟩
      · left; omega
  generalize hw : (if (ts.length : Int) > 1 then (ts.length : Int) else 1) = w at *
  generalize hq : d3.fmod w = q at *
  obtain ⟨qn, rfl⟩ : ∃ qn : Nat, q = (qn : Int) := ⟨q.toNat, by omega⟩
  have hqn : qn ≤ ts.length := by rcases f2 with h | ⟨h, h'⟩ <;> omega
  have mx : BI.fn .max [.int 1, .int (ts.length : Int)] = some (.int w) := by
    show some (D.int _) = _
    rw [hw]
  have half0 : True := trivial
  generalize ((n : Int) + 1).fdiv 2 = hf at *
  generalize hSH : ds.map D.int = SH at *
  by_cases h4' : d4 = 1
  · have s1 : slcD (.lst (ts.map stD)) (some (qn : Int)) none = some (.lst ((ts.drop qn).map stD)) := by
      show some (D.lst (cutD _ _ _)) = _
      rw [cut_fromP (by rw [List.length_map]; exact hqn), List.map_drop]
    have s2 : slcD (.lst (ts.map stD)) none (some (qn : Int)) = some (.lst ((ts.take qn).map stD)) := by
      show some (D.lst (cutD _ _ _)) = _
      rw [cut_toP (by rw [List.length_map]; exact hqn), List.map_take]
    have ad : addD (.lst ((ts.drop qn).map stD)) (.lst ((ts.take qn).map stD)) = some (.lst ((ts.drop qn ++ ts.take qn).map stD)) := by
      rw [addD_lst (by rw [List.length_map, List.length_map, List.length_drop, List.length_take]; omega), List.map_append]
    refine ⟨n, ts.drop qn ++ ts.take qn, _, by omega, hnb, ?_, drawn_rot (A := ts.take qn) (B := ts.drop qn) (by rw [List.take_append_drop]; exact hD)⟩
    generalize (ts.drop qn ++ ts.take qn).map stD = G3 at *
    generalize (ts.drop qn).map stD = G1 at *
    generalize (ts.take qn).map stD = G2 at *
    generalize ts.map stD = GG at *
    unfold runFn
    simp -implicitDefEqProofs [bLMachine, hc, hd, hcc, hds', i0, i1, i2, i3, i4, hn1, fh, hrn, hx, hlen, mx, md, h4', s1, s2, ad]
  · refine ⟨n, ts, _, by omega, hnb, ?_, hD⟩
    generalize ts.map stD = GG at *
    unfold runFn
    simp -implicitDefEqProofs [bLMachine, hc, hd, hcc, hds', i0, i1, i2, i3, i4, hn1, fh, hrn, hx, hlen, mx, md, h4']
end Pu
/-! PuX: least costs of ways by widening, and the ways that are told. No program here. -/
namespace Pu

theorem nodup_ltP : ∀ (n : Nat) (l : List Nat), l.Nodup → (∀ x ∈ l, x < n) → l.length ≤ n
  | 0, l, _, h => by
    cases l with
    | nil => exact Nat.le_refl _
    | cons x l => exact absurd (h x List.mem_cons_self) (Nat.not_lt_zero _)
  | n + 1, l, nd, h => by
    have h1 := nodup_ltP n (l.erase n) (nd.erase n) fun x hx => by
      have h2 := (List.Nodup.mem_erase_iff nd).mp hx
      have := h x h2.2
      omega
    by_cases hm : n ∈ l
    · have := List.length_erase_of_mem hm
      omega
    · rw [List.erase_of_not_mem hm] at h1
      omega
abbrev Ons := List (Option Nat)
def at_ (c : Ons) (v : Nat) : Option Nat := c.getD v none
theorem at_set_same {c : Ons} {v : Nat} {x : Option Nat} (h : v < c.length) : at_ (c.set v x) v = x := by
  unfold at_
  rw [List.getD_eq_getElem?_getD, List.getElem?_set_self h]
  rfl
theorem at_set_ne {c : Ons} {v w : Nat} {x : Option Nat} (h : v ≠ w) : at_ (c.set v x) w = at_ c w := by
  unfold at_
  rw [List.getD_eq_getElem?_getD, List.getD_eq_getElem?_getD, List.getElem?_set_ne h]
theorem at_lt {c : Ons} {v x : Nat} (h : at_ c v = some x) : v < c.length := by
  unfold at_ at h
  rw [List.getD_eq_getElem?_getD] at h
  by_cases hv : v < c.length
  · exact hv
  · rw [List.getElem?_eq_none (by omega)] at h
    cases h
/-- is the step an improvement -/
def better (t : St4) (c : Ons) : Option Nat := match at_ c t.s with
  | none => none
  | some y => match at_ c t.g with
    | none => some (y + t.c)
    | some z => if y + t.c < z then some (y + t.c) else none
def cStep (t : St4) (c : Ons) : Ons := match better t c with
  | some x => c.set t.g (some x)
  | none => c
def lStep (i : Nat) (t : St4) (c l : Ons) : Ons := match better t c with
  | some _ => l.set t.g (some i)
  | none => l
theorem better_some {t : St4} {c : Ons} {x : Nat} (h : better t c = some x) : ∃ y, at_ c t.s = some y ∧ x = y + t.c ∧ (∀ z, at_ c t.g = some z → x < z) := by
  unfold better at h
  split at h
  · cases h
  · rename_i y hy
    refine ⟨y, hy, ?_⟩
    split at h
    · rename_i hg
      cases h
      exact ⟨rfl, fun z hz => by rw [hg] at hz; cases hz⟩
    · rename_i z hg
      split at h
      · cases h
        exact ⟨rfl, fun w hw => by rw [hg] at hw; cases hw; assumption⟩
      · cases h
theorem better_none {t : St4} {c : Ons} {y : Nat} (h : better t c = none) (hy : at_ c t.s = some y) : ∃ z, at_ c t.g = some z ∧ z ≤ y + t.c := by
  unfold better at h
  rw [hy] at h
  dsimp only at h
  split at h
  · cases h
  · rename_i z hg
    split at h
    · cases h
    · exact ⟨z, hg, by omega⟩
theorem cStep_len {t : St4} {c : Ons} : (cStep t c).length = c.length := by unfold cStep; split <;> simp
theorem lStep_len {i : Nat} {t : St4} {c l : Ons} : (lStep i t c l).length = l.length := by unfold lStep; split <;> simp
/-- at most so much -/
def CLe (c : Ons) (v s : Nat) : Prop := ∃ z, at_ c v = some z ∧ z ≤ s
theorem cle_keep {t : St4} {c : Ons} {v s : Nat} (h : CLe c v s) : CLe (cStep t c) v s := by
  unfold cStep
  split
  · rename_i x hb
    obtain ⟨y, h1, h2, h3⟩ := better_some hb
    obtain ⟨z, hz, hs⟩ := h
    by_cases e : t.g = v
    · subst e
      have := h3 z hz
      exact ⟨x, at_set_same (at_lt hz), by omega⟩
    · exact ⟨z, by rw [at_set_ne e]; exact hz, hs⟩
  · exact h
theorem cle_step {t : St4} {c : Ons} {s : Nat} (hg : t.g < c.length) (h : CLe c t.s s) : CLe (cStep t c) t.g (s + t.c) := by
  obtain ⟨y, hy, hs⟩ := h
  unfold cStep
  split
  · rename_i x hb
    obtain ⟨y', h1, h2, h3⟩ := better_some hb
    rw [hy] at h1
    cases h1
    exact ⟨x, at_set_same hg, by omega⟩
  · rename_i hb
    obtain ⟨z, h1, h2⟩ := better_none hb hy
    exact ⟨z, h1, by omega⟩
/-- the first i steps of a round -/
def upTo (ts : List St4) : Nat → Ons × Ons → Ons × Ons
  | 0, p => p
  | i + 1, p => match ts[i]? with
    | some t => (cStep t (upTo ts i p).1, lStep i t (upTo ts i p).1 (upTo ts i p).2)
    | none => upTo ts i p
def rounds (ts : List St4) : Nat → Ons × Ons → Ons × Ons
  | 0, p => p
  | k + 1, p => upTo ts ts.length (rounds ts k p)
theorem upTo_succ {ts : List St4} {i : Nat} {t : St4} (h : ts[i]? = some t) (p : Ons × Ons) : upTo ts (i + 1) p = (cStep t (upTo ts i p).1, lStep i t (upTo ts i p).1 (upTo ts i p).2) := by
  rw [upTo, h]
theorem upTo_len {ts : List St4} (p : Ons × Ons) : ∀ i, (upTo ts i p).1.length = p.1.length ∧ (upTo ts i p).2.length = p.2.length
  | 0 => ⟨rfl, rfl⟩
  | i + 1 => by
    obtain ⟨a, b⟩ := upTo_len p i
    rw [upTo]
    split
    · exact ⟨by rw [cStep_len, a], by rw [lStep_len, b]⟩
    · exact ⟨a, b⟩
theorem rounds_len {ts : List St4} (p : Ons × Ons) : ∀ k, (rounds ts k p).1.length = p.1.length ∧ (rounds ts k p).2.length = p.2.length
  | 0 => ⟨rfl, rfl⟩
  | k + 1 => by
    obtain ⟨a, b⟩ := rounds_len (ts := ts) p k
    obtain ⟨c, d⟩ := upTo_len (ts := ts) (rounds ts k p) ts.length
    exact ⟨c.trans a, d.trans b⟩
theorem upTo_keep {ts : List St4} {p : Ons × Ons} {v s : Nat} (h : CLe p.1 v s) : ∀ i, CLe (upTo ts i p).1 v s
  | 0 => h
  | i + 1 => by
    rw [upTo]
    split
    · exact cle_keep (upTo_keep h i)
    · exact upTo_keep h i
theorem upTo_from {ts : List St4} {p : Ons × Ons} {v s i : Nat} (h : CLe (upTo ts i p).1 v s) : ∀ j, CLe (upTo ts (i + j) p).1 v s
  | 0 => h
  | j + 1 => by
    rw [← Nat.add_assoc, upTo]
    split
    · exact cle_keep (upTo_from h j)
    · exact upTo_from h j
theorem round_step {ts : List St4} {p : Ons × Ons} {s : Nat} {t : St4} (ht : t ∈ ts) (hg : t.g < p.1.length) (h : CLe p.1 t.s s) : CLe (upTo ts ts.length p).1 t.g (s + t.c) := by
  obtain ⟨i, hi⟩ := List.mem_iff_getElem?.mp ht
  have hil := (List.getElem?_eq_some_iff.mp hi).1
  have := upTo_from (j := ts.length - (i + 1)) (i := i + 1) (ts := ts) (p := p) (v := t.g) (s := s + t.c) (by
    rw [upTo_succ hi]
    exact cle_step (by rw [(upTo_len p i).1]; exact hg) (upTo_keep h i))
  rwa [show i + 1 + (ts.length - (i + 1)) = ts.length by omega] at this
/-- so many steps lead from x to y at this cost -/
inductive WayC (ts : List St4) : Nat → Nat → Nat → Nat → Prop
  | nil (x : Nat) : WayC ts 0 x x 0
  | snoc {k x y s : Nat} {t : St4} (w : WayC ts k x y s) (h : t ∈ ts) (e : t.s = y) : WayC ts (k + 1) x t.g (s + t.c)
theorem way_cost {ts : List St4} {k x y : Nat} (w : Way ts k x y) : ∃ s, WayC ts k x y s := by
  induction w with
  | nil x => exact ⟨0, .nil x⟩
  | snoc w h e ih =>
    obtain ⟨s, ws⟩ := ih
    exact ⟨_, .snoc ws h e⟩
theorem rounds_keep {ts : List St4} {p : Ons × Ons} {v s : Nat} {k : Nat} (h : CLe (rounds ts k p).1 v s) : ∀ j, CLe (rounds ts (k + j) p).1 v s
  | 0 => h
  | j + 1 => upTo_keep (rounds_keep h j) _
theorem rounds_way {ts : List St4} {p : Ons × Ons} {x : Nat} (hg : ∀ t ∈ ts, t.g < p.1.length) (h0 : CLe p.1 x 0) {k y s : Nat} (w : WayC ts k x y s) : CLe (rounds ts k p).1 y s := by
  induction w with
  | nil x => exact h0
  | @snoc k x y s t w h e ih =>
    subst e
    exact round_step h (by rw [(rounds_len p k).1]; exact hg t h) (ih h0)
/-! the tree of last steps -/
structure Tree (ts : List St4) (n x0 : Nat) (p : Ons × Ons) (rank : Nat → Nat) : Prop where
  len1 : p.1.length = n
  len2 : p.2.length = n
  zero : at_ p.1 x0 = some 0
  root : at_ p.2 x0 = none
  par : ∀ v c, at_ p.1 v = some c → v ≠ x0 → ∃ i t y, at_ p.2 v = some i ∧ ts[i]? = some t ∧ t.g = v ∧ at_ p.1 t.s = some y ∧ y + t.c ≤ c ∧ rank t.s < rank v
/-- x hangs below v -/
inductive Below2 (ts : List St4) (l : Ons) (v : Nat) : Nat → Prop
  | self : Below2 ts l v v
  | step {x i : Nat} {t : St4} (h : at_ l x = some i) (ht : ts[i]? = some t) (b : Below2 ts l v t.s) : Below2 ts l v x
theorem below_cost {ts : List St4} {n x0 : Nat} {p : Ons × Ons} {rank : Nat → Nat} (T : Tree ts n x0 p rank) {v x : Nat} (b : Below2 ts p.2 v x) : ∀ c, at_ p.1 x = some c → ∃ z, at_ p.1 v = some z ∧ z ≤ c := by
  induction b with
  | self => exact fun c h => ⟨c, h, Nat.le_refl _⟩
  | @step x i t h ht b ih =>
    intro c hc
    have hx : x ≠ x0 := fun e => by rw [e, T.root] at h; cases h
    obtain ⟨i', t', y, a1, a2, a3, a4, a5, a6⟩ := T.par x c hc hx
    rw [h] at a1
    cases a1
    rw [ht] at a2
    cases a2
    obtain ⟨z, z1, z2⟩ := ih y a4
    exact ⟨z, z1, by omega⟩
theorem tree_step {ts : List St4} {n x0 : Nat} {p : Ons × Ons} {rank : Nat → Nat} (T : Tree ts n x0 p rank) {i : Nat} {t : St4} (hi : ts[i]? = some t) (hg : t.g < n) : ∃ rank', Tree ts n x0 (cStep t p.1, lStep i t p.1 p.2) rank' := by
  cases hb : better t p.1 with
  | none =>
    refine ⟨rank, ?_⟩
    have e1 : cStep t p.1 = p.1 := by unfold cStep; rw [hb]
    have e2 : lStep i t p.1 p.2 = p.2 := by unfold lStep; rw [hb]
    rw [e1, e2]
    exact T
  | some x =>
    have e1 : cStep t p.1 = p.1.set t.g (some x) := by unfold cStep; rw [hb]
    have e2 : lStep i t p.1 p.2 = p.2.set t.g (some i) := by unfold lStep; rw [hb]
    rw [e1, e2]
    obtain ⟨y, h1, h2, h3⟩ := better_some hb
    have hv0 : t.g ≠ x0 := fun e => by
      have := h3 0 (by rw [e]; exact T.zero)
      omega
    have hsv : t.s ≠ t.g := fun e => by
      rw [e] at h1
      have := h3 y h1
      omega
    have hnb : ¬ Below2 ts p.2 t.g t.s := fun b => by
      obtain ⟨z, z1, z2⟩ := below_cost T b y h1
      have := h3 z z1
      omega
    classical
    refine ⟨fun w => if Below2 ts p.2 t.g w then rank w + rank t.s + 1 else rank w, ?_⟩
    refine ⟨by rw [List.length_set]; exact T.len1, by rw [List.length_set]; exact T.len2, by rw [at_set_ne hv0]; exact T.zero, by rw [at_set_ne hv0]; exact T.root, fun w c hw hw0 => ?_⟩
    by_cases e : t.g = w
    · subst e
      rw [at_set_same (by rw [T.len1]; exact hg)] at hw
      cases hw
      refine ⟨i, t, y, at_set_same (by rw [T.len2]; exact hg), hi, rfl, by rw [at_set_ne (fun z => hsv z.symm)]; exact h1, by omega, ?_⟩
      rw [if_neg hnb, if_pos .self]
      omega
    · rw [at_set_ne e] at hw
      obtain ⟨i', t', y', a1, a2, a3, a4, a5, a6⟩ := T.par w c hw hw0
      have hrank : (if Below2 ts p.2 t.g t'.s then rank t'.s + rank t.s + 1 else rank t'.s) < (if Below2 ts p.2 t.g w then rank w + rank t.s + 1 else rank w) := by
        by_cases bw : Below2 ts p.2 t.g w
        · have bp : Below2 ts p.2 t.g t'.s := by
            cases bw with
            | self => exact absurd rfl e
            | step h ht b =>
              rw [a1] at h
              cases h
              rw [a2] at ht
              cases ht
              exact b
          rw [if_pos bw, if_pos bp]
          omega
        · have bp : ¬ Below2 ts p.2 t.g t'.s := fun b => bw (.step a1 a2 b)
          rw [if_neg bw, if_neg bp]
          exact a6
      by_cases ep : t.g = t'.s
      · have hx := h3 y' (by rw [ep]; exact a4)
        exact ⟨i', t', x, by rw [at_set_ne e]; exact a1, a2, a3, by rw [← ep]; exact at_set_same (by rw [T.len1]; exact hg), by omega, hrank⟩
      · exact ⟨i', t', y', by rw [at_set_ne e]; exact a1, a2, a3, by rw [at_set_ne ep]; exact a4, a5, hrank⟩
theorem tree_upTo {ts : List St4} {n x0 : Nat} {p : Ons × Ons} (hg : ∀ t ∈ ts, t.g < n) (T : ∃ rank, Tree ts n x0 p rank) : ∀ i, ∃ rank, Tree ts n x0 (upTo ts i p) rank
  | 0 => T
  | i + 1 => by
    obtain ⟨rank, T'⟩ := tree_upTo hg T i
    rw [upTo]
    split
    · rename_i t ht
      exact tree_step T' ht (hg t (List.mem_of_getElem? ht))
    · exact ⟨rank, T'⟩
theorem tree_rounds {ts : List St4} {n x0 : Nat} {p : Ons × Ons} (hg : ∀ t ∈ ts, t.g < n) (T : ∃ rank, Tree ts n x0 p rank) : ∀ k, ∃ rank, Tree ts n x0 (rounds ts k p) rank
  | 0 => T
  | k + 1 => tree_upTo hg (tree_rounds hg T k) _
def start0 (n x0 : Nat) : Ons × Ons := ((List.replicate n none).set x0 (some 0), List.replicate n none)
theorem at_rep {n v : Nat} : at_ (List.replicate n none) v = none := by
  unfold at_
  rw [List.getD_eq_getElem?_getD, List.getElem?_replicate]
  split <;> rfl
theorem tree0 {ts : List St4} {n x0 : Nat} (hx : x0 < n) : Tree ts n x0 (start0 n x0) (fun _ => 0) where
  len1 := by simp [start0]
  len2 := by simp [start0]
  zero := at_set_same (by simpa using hx)
  root := at_rep
  par := fun v c h hv => by
    have : at_ ((List.replicate n none).set x0 (some 0)) v = none := by rw [at_set_ne (fun e => hv e.symm)]; exact at_rep
    rw [show (start0 n x0).1 = (List.replicate n none).set x0 (some 0) from rfl, this] at h
    cases h
/-- the way told by the last steps, from its end -/
inductive TP (ts : List St4) (l : Ons) (x0 : Nat) : Nat → List Nat → Prop
  | nil : TP ts l x0 x0 []
  | cons {v i : Nat} {t : St4} {is : List Nat} (h0 : v ≠ x0) (h : at_ l v = some i) (ht : ts[i]? = some t) (e : t.g = v) (r : TP ts l x0 t.s is) : TP ts l x0 v (i :: is)
def goalOf (ts : List St4) (i : Nat) : Nat := (ts[i]?.map St4.g).getD 0
def costOf (ts : List St4) (i : Nat) : Nat := (ts[i]?.map St4.c).getD 0
theorem goal_at {ts : List St4} {i : Nat} {t : St4} (h : ts[i]? = some t) : goalOf ts i = t.g := by unfold goalOf; rw [h]; rfl
theorem cost_at {ts : List St4} {i : Nat} {t : St4} (h : ts[i]? = some t) : costOf ts i = t.c := by unfold costOf; rw [h]; rfl
theorem tree_path {ts : List St4} {n x0 : Nat} {p : Ons × Ons} {rank : Nat → Nat} (T : Tree ts n x0 p rank) : ∀ (r v c : Nat), rank v ≤ r → at_ p.1 v = some c →
    ∃ is, TP ts p.2 x0 v is ∧ (v = x0 ∨ rank x0 < rank v) ∧ (∀ w ∈ is.map (goalOf ts), rank x0 < rank w ∧ rank w ≤ rank v ∧ w < n) ∧ (is.map (goalOf ts)).Nodup ∧ ∃ s, WayC ts is.length x0 v s ∧ s ≤ c := by
  intro r
  induction r with
  | zero =>
    intro v c hr hc
    by_cases hv : v = x0
    · subst hv
      refine ⟨[], .nil, .inl rfl, by simp, by simp, 0, .nil v, Nat.zero_le _⟩
    · obtain ⟨i, t, y, a1, a2, a3, a4, a5, a6⟩ := T.par v c hc hv
      omega
  | succ r ih =>
    intro v c hr hc
    by_cases hv : v = x0
    · subst hv
      refine ⟨[], .nil, .inl rfl, by simp, by simp, 0, .nil v, Nat.zero_le _⟩
    · obtain ⟨i, t, y, a1, a2, a3, a4, a5, a6⟩ := T.par v c hc hv
      obtain ⟨is, b1, b2, b3, b4, s, b5, b6⟩ := ih t.s y (by omega) a4
      have hx : rank x0 < rank v := by
        rcases b2 with h | h
        · rw [← h]; exact a6
        · omega
      have hvn : v < n := by rw [← T.len1]; exact at_lt hc
      refine ⟨i :: is, .cons hv a1 a2 a3 b1, .inr hx, fun w hw => ?_, ?_, s + t.c, ?_, by omega⟩
      · rw [List.map_cons, goal_at a2, a3] at hw
        rcases List.mem_cons.mp hw with rfl | hw
        · exact ⟨hx, Nat.le_refl _, hvn⟩
        · obtain ⟨c1, c2, c3⟩ := b3 w hw
          exact ⟨c1, by omega, c3⟩
      · rw [List.map_cons, goal_at a2, a3]
        refine List.nodup_cons.mpr ⟨fun hm => ?_, b4⟩
        have := (b3 v hm).2.1
        omega
      · rw [← a3]
        exact .snoc b5 (List.mem_of_getElem? a2) rfl
theorem path_short {ts : List St4} {n x0 : Nat} {rank : Nat → Nat} {is : List Nat} (hx : x0 < n) (h : ∀ w ∈ is.map (goalOf ts), rank x0 < rank w ∧ w < n) (nd : (is.map (goalOf ts)).Nodup) : (x0 :: is.map (goalOf ts)).Nodup ∧ is.length < n := by
  have h1 : (x0 :: is.map (goalOf ts)).Nodup := List.nodup_cons.mpr ⟨fun hm => by
    have := (h x0 hm).1
    omega, nd⟩
  have := nodup_ltP n _ h1 fun x hm => by
    rcases List.mem_cons.mp hm with rfl | hm
    · exact hx
    · exact (h x hm).2
  rw [List.length_cons, List.length_map] at this
  exact ⟨h1, this⟩
/-- what the rounds come to -/
structure BF (ts : List St4) (n x0 : Nat) (p : Ons × Ons) : Prop where
  len1 : p.1.length = n
  len2 : p.2.length = n
  all : ∀ v, v < n → ∃ c, at_ p.1 v = some c
  path : ∀ v c, at_ p.1 v = some c → ∃ is, TP ts p.2 x0 v is ∧ (x0 :: is.map (goalOf ts)).Nodup ∧ is.length < n ∧ (is.map (costOf ts)).sum = c
theorem bf_ok {ts : List St4} {n x0 : Nat} (hg : ∀ t ∈ ts, t.s < n ∧ t.g < n) (hj : ∀ x y, x < n → y < n → ∃ k, k ≤ n ∧ Way ts k x y) (hx : x0 < n) : BF ts n x0 (rounds ts n (start0 n x0)) := by
  obtain ⟨rank, T⟩ := tree_rounds (ts := ts) (fun t ht => (hg t ht).2) ⟨_, tree0 hx⟩ n
  have hlen0 : (start0 n x0).1.length = n := by simp [start0]
  have reach : ∀ {k y s}, WayC ts k x0 y s → k ≤ n → CLe (rounds ts n (start0 n x0)).1 y s := fun {k y s} w hk => by
    have h := rounds_way (p := start0 n x0) (fun t ht => by rw [hlen0]; exact (hg t ht).2) ⟨0, (tree0 (ts := ts) hx).zero, Nat.le_refl _⟩ w
    have := rounds_keep h (n - k)
    rwa [show k + (n - k) = n by omega] at this
  have all : ∀ v, v < n → ∃ c, at_ (rounds ts n (start0 n x0)).1 v = some c := fun v hv => by
    obtain ⟨k, hk, w⟩ := hj x0 v hx hv
    obtain ⟨s, ws⟩ := way_cost w
    obtain ⟨z, hz, _⟩ := reach ws hk
    exact ⟨z, hz⟩
  generalize rounds ts n (start0 n x0) = p at *
  have stable : ∀ t ∈ ts, ∀ c, at_ p.1 t.s = some c → ∃ z, at_ p.1 t.g = some z ∧ z ≤ c + t.c := fun t ht c hc => by
    obtain ⟨is, b1, b2, b3, b4, s, b5, b6⟩ := tree_path T (rank t.s) t.s c (Nat.le_refl _) hc
    have sh := (path_short hx (fun w hw => ⟨(b3 w hw).1, (b3 w hw).2.2⟩) b4).2
    obtain ⟨z, hz, hs⟩ := reach (.snoc b5 ht rfl) sh
    exact ⟨z, hz, by omega⟩
  refine ⟨T.len1, T.len2, all, fun v c hc => ?_⟩
  obtain ⟨is, b1, b2, b3, b4, s, b5, b6⟩ := tree_path T (rank v) v c (Nat.le_refl _) hc
  obtain ⟨nd, sh⟩ := path_short hx (fun w hw => ⟨(b3 w hw).1, (b3 w hw).2.2⟩) b4
  refine ⟨is, b1, nd, sh, ?_⟩
  clear b2 b3 b4 b5 b6 nd sh
  induction b1 generalizing c with
  | nil =>
    rw [T.zero] at hc
    cases hc
    rfl
  | @cons v i t is h0 h ht e r ih =>
    obtain ⟨i', t', y, a1, a2, a3, a4, a5, a6⟩ := T.par v c hc h0
    rw [h] at a1
    cases a1
    rw [ht] at a2
    cases a2
    have := ih y a4
    obtain ⟨z, hz, hle⟩ := stable t (List.mem_of_getElem? ht) y a4
    rw [e, hc] at hz
    cases hz
    rw [List.map_cons, List.sum_cons, cost_at ht, this]
    omega
end Pu
/-! PuY: ways, as the program and a law tell them. -/
namespace Pu
open PySem PySem.Spec PyProof.Rows L2
def bSpread : Ss :=
  (.cons (.set 2 (.lc [("_", 3)] .non (.nm 3) (.rng (.lenm (.var 0))) .no))
    (.cons (.set 4 (.lc [("_", 3)] .non (.nm 3) (.rng (.lenm (.var 0))) .no))
    (.cons (.setI 2 (.var 1) (.int 0))
    (.cons (.for_ (.nm 3) (.rng (.lenm (.var 0))) (.cons (.for_ (.nm 5) (.rng (.bi .len (.cons (.fld (.var 0) "steps") .nil))) (.cons (.set 6 (.idx (.fld (.var 0) "steps") (.var 5)))
    (.cons (.ite (.cmp .IsNot (.idx (.var 2) (.idx (.var 6) (.int 0))) .non) (.cons (.set 7 (.bin .Add (.idx (.var 2) (.idx (.var 6) (.int 0))) (.idx (.var 6) (.int 3))))
    (.cons (.ite (.ors (.cons (.cmp .Is (.idx (.var 2) (.idx (.var 6) (.int 1))) .non) (.cons (.cmp .Lt (.var 7) (.idx (.var 2) (.idx (.var 6) (.int 1)))) .nil))) (.cons (.setI 2 (.idx (.var 6) (.int 1)) (.var 7))
    (.cons (.setI 4 (.idx (.var 6) (.int 1)) (.var 5))
    .nil)) .nil)
    .nil)) .nil)
    .nil)))
    .nil))
    (.cons (.ret (.yes (.tup (.cons (.var 2) (.cons (.var 4) .nil)))))
    .nil)))))
def bWayCosts : Ss :=
  (.cons (.ret (.yes (.bi .tuple (.cons (.idx (.call "spread" (.cons (.var 0) (.cons (.var 1) .nil))) (.int 0)) .nil))))
    .nil)
def bCheapestWay : Ss :=
  (.cons (.set 3 (.idx (.call "spread" (.cons (.var 0) (.cons (.var 1) .nil))) (.int 1)))
    (.cons (.set 4 (.lst .nil))
    (.cons (.set 5 (.var 2))
    (.cons (.whl (.cmp .NotEq (.var 5) (.var 1)) (.cons (.app 4 (.idx (.var 3) (.var 5)))
    (.cons (.set 5 (.idx (.idx (.fld (.var 0) "steps") (.idx (.var 3) (.var 5))) (.int 0)))
    .nil)))
    (.cons (.ret (.yes (.sqr true (.var 4))))
    .nil)))))
def bIsWay : Ss :=
  (.cons (.set 4 (.var 1))
    (.cons (.for_ (.nm 5) (.seq (.var 3)) (.cons (.ite (.ors (.cons (.not_ (.call "is_state" (.cons (.var 5) (.cons (.bi .len (.cons (.fld (.var 0) "steps") .nil)) .nil)))) (.cons (.cmp .NotEq (.idx (.idx (.fld (.var 0) "steps") (.var 5)) (.int 0)) (.var 4)) .nil))) (.cons (.ret (.yes (.bl false)))
    .nil) .nil)
    (.cons (.set 4 (.idx (.idx (.fld (.var 0) "steps") (.var 5)) (.int 1)))
    .nil)))
    (.cons (.ret (.yes (.cmp .Eq (.var 4) (.var 2))))
    .nil)))
def bLCosts : Ss :=
  (.cons (.set 2 (.lc [("x", 3)] .non (.nm 3) (.rng (.idx (.var 0) (.int 0))) .no))
    (.cons (.setI 2 (.var 1) (.int 0))
    (.cons (.for_ (.nm 4) (.rng (.idx (.var 0) (.int 0))) (.cons (.for_ (.nm 5) (.seq (.idx (.var 0) (.int 1))) (.cons (.ite (.cmp .IsNot (.idx (.var 2) (.idx (.var 5) (.int 0))) .non) (.cons (.set 6 (.bin .Add (.idx (.var 2) (.idx (.var 5) (.int 0))) (.idx (.var 5) (.int 3))))
    (.cons (.ite (.ors (.cons (.cmp .Is (.idx (.var 2) (.idx (.var 5) (.int 1))) .non) (.cons (.cmp .Lt (.var 6) (.idx (.var 2) (.idx (.var 5) (.int 1)))) .nil))) (.cons (.setI 2 (.idx (.var 5) (.int 1)) (.var 6))
    .nil) .nil)
    .nil)) .nil)
    .nil))
    .nil))
    (.cons (.ret (.yes (.var 2)))
    .nil))))
def bMachineLen : Ss :=
  (.cons (.ret (.yes (.bi .len (.cons (.fld (.var 0) "names") .nil))))
    .nil)
abbrev bSp5 : Ss := (.cons (.set 6 (.idx (.fld (.var 0) "steps") (.var 5))) (.cons (.ite (.cmp .IsNot (.idx (.var 2) (.idx (.var 6) (.int 0))) .non) (.cons (.set 7 (.bin .Add (.idx (.var 2) (.idx (.var 6) (.int 0))) (.idx (.var 6) (.int 3)))) (.cons (.ite (.ors (.cons (.cmp .Is (.idx (.var 2) (.idx (.var 6) (.int 1))) .non) (.cons (.cmp .Lt (.var 7) (.idx (.var 2) (.idx (.var 6) (.int 1)))) .nil))) (.cons (.setI 2 (.idx (.var 6) (.int 1)) (.var 7)) (.cons (.setI 4 (.idx (.var 6) (.int 1)) (.var 5)) .nil)) .nil) .nil)) .nil) .nil))
abbrev bSp3 : Ss := (.cons (.for_ (.nm 5) (.rng (.bi .len (.cons (.fld (.var 0) "steps") .nil))) (.cons (.set 6 (.idx (.fld (.var 0) "steps") (.var 5))) (.cons (.ite (.cmp .IsNot (.idx (.var 2) (.idx (.var 6) (.int 0))) .non) (.cons (.set 7 (.bin .Add (.idx (.var 2) (.idx (.var 6) (.int 0))) (.idx (.var 6) (.int 3)))) (.cons (.ite (.ors (.cons (.cmp .Is (.idx (.var 2) (.idx (.var 6) (.int 1))) .non) (.cons (.cmp .Lt (.var 7) (.idx (.var 2) (.idx (.var 6) (.int 1)))) .nil))) (.cons (.setI 2 (.idx (.var 6) (.int 1)) (.var 7)) (.cons (.setI 4 (.idx (.var 6) (.int 1)) (.var 5)) .nil)) .nil) .nil)) .nil) .nil))) .nil)
abbrev bLc5 : Ss := (.cons (.ite (.cmp .IsNot (.idx (.var 2) (.idx (.var 5) (.int 0))) .non) (.cons (.set 6 (.bin .Add (.idx (.var 2) (.idx (.var 5) (.int 0))) (.idx (.var 5) (.int 3)))) (.cons (.ite (.ors (.cons (.cmp .Is (.idx (.var 2) (.idx (.var 5) (.int 1))) .non) (.cons (.cmp .Lt (.var 6) (.idx (.var 2) (.idx (.var 5) (.int 1)))) .nil))) (.cons (.setI 2 (.idx (.var 5) (.int 1)) (.var 6)) .nil) .nil) .nil)) .nil) .nil)
abbrev bLc4 : Ss := (.cons (.for_ (.nm 5) (.seq (.idx (.var 0) (.int 1))) (.cons (.ite (.cmp .IsNot (.idx (.var 2) (.idx (.var 5) (.int 0))) .non) (.cons (.set 6 (.bin .Add (.idx (.var 2) (.idx (.var 5) (.int 0))) (.idx (.var 5) (.int 3)))) (.cons (.ite (.ors (.cons (.cmp .Is (.idx (.var 2) (.idx (.var 5) (.int 1))) .non) (.cons (.cmp .Lt (.var 6) (.idx (.var 2) (.idx (.var 5) (.int 1)))) .nil))) (.cons (.setI 2 (.idx (.var 5) (.int 1)) (.var 6)) .nil) .nil) .nil)) .nil) .nil)) .nil)
abbrev bIw5 : Ss := (.cons (.ite (.ors (.cons (.not_ (.call "is_state" (.cons (.var 5) (.cons (.bi .len (.cons (.fld (.var 0) "steps") .nil)) .nil)))) (.cons (.cmp .NotEq (.idx (.idx (.fld (.var 0) "steps") (.var 5)) (.int 0)) (.var 4)) .nil))) (.cons (.ret (.yes (.bl false))) .nil) .nil) (.cons (.set 4 (.idx (.idx (.fld (.var 0) "steps") (.var 5)) (.int 1))) .nil))
def oD : Option Nat → D
  | none => .non
  | some c => .int (c : Nat)
def onsD (c : Ons) : List D := c.map oD
theorem ons_at {c : Ons} {v : Nat} (h : v < c.length) : idxD (.lst (onsD c)) (.int (v : Nat)) = some (oD (at_ c v)) := by
  refine idxD_lst ?_
  unfold onsD at_
  rw [List.getElem?_map, List.getD_eq_getElem?_getD, List.getElem?_eq_getElem h]
  rfl
theorem ons_set {c : Ons} {v x : Nat} : (onsD c).set v (.int (x : Nat)) = onsD (c.set v (some x)) := by
  unfold onsD
  rw [List.map_set]
  rfl
theorem ons_len {c : Ons} : (onsD c).length = c.length := by unfold onsD; rw [List.length_map]
theorem mcS1 : ¬ (("steps" : Str) = "names") := by decide +kernel
theorem lkP0 {a : D} {l : List (Str × D)} {x : Str} : ((x, a) :: l).lookup x = some a := by simp [List.lookup]
theorem lkPs {a : D} {l : List (Str × D)} {x y : Str} (h : ¬ x = y) : ((y, a) :: l).lookup x = l.lookup x := by
  have : (x == y) = false := beq_eq_false_iff_ne.mpr h
  simp [List.lookup, this]
theorem fmP_names {T : Tab} {names : List D} {ts : List St4} {r : Rat} (h : T.fd "Machine" "names" = true) : fldR T "names" (machD names ts r) = .ok (.tup names) := fldR_at h lkP0
theorem fmP_steps {T : Tab} {names : List D} {ts : List St4} {r : Rat} (h : T.fd "Machine" "steps" = true) : fldR T "steps" (machD names ts r) = .ok (stsD ts) := fldR_at h ((lkPs mcS1).trans lkP0)
theorem machine_len_ok (T : Tab) (h : T.fd "Machine" "names" = true) {names : List D} {ts : List St4} {r : Rat} : runFn T 1 bMachineLen [machD names ts r] = .ok (.int (names.length : Nat)) := by
  have f := fmP_names (names := names) (ts := ts) (r := r) h
  unfold runFn
  simp -implicitDefEqProofs [bMachineLen, f]
theorem sts_at {ts : List St4} {i : Nat} {t : St4} (h : ts[i]? = some t) : idxD (stsD ts) (.int (i : Nat)) = some (stD t) := idxD_tup (by rw [List.getElem?_map, h]; rfl)
theorem isNon_oD {o : Option Nat} : isNonD (oD o) = o.isNone := by cases o <;> rfl
section
variable {ts : List St4} {n : Nat}
theorem sp_in (T : Tab) (hf : T.fd "Machine" "steps" = true) {names : List D} {r : Rat} (hs : ∀ t ∈ ts, t.s < n ∧ t.g < n) (hts : ts.length ≤ 1000000) {p : Ons × Ons} (h1 : p.1.length = n) (h2 : p.2.length = n) (z1 z3 z5 z6 z7 : Sl) :
    ∃ y5 y6 y7, forL (.nm 5) (exs T bSp5) (nats ts.length) [.val (machD names ts r), z1, .own (onsD p.1), z3, .own (onsD p.2), z5, z6, z7]
      = .nx [.val (machD names ts r), z1, .own (onsD (upTo ts ts.length p).1), z3, .own (onsD (upTo ts ts.length p).2), y5, y6, y7] := by
  have f := fmP_steps (names := names) (ts := ts) (r := r) hf
  obtain ⟨ρ', hl, y5, y6, y7, hz⟩ := forL_ind (tg := .nm 5) (body := exs T bSp5) (ds := nats ts.length) (ρ := [.val (machD names ts r), z1, .own (onsD p.1), z3, .own (onsD p.2), z5, z6, z7])
    (fun i ρ => ∃ y5 y6 y7, ρ = [.val (machD names ts r), z1, .own (onsD (upTo ts i p).1), z3, .own (onsD (upTo ts i p).2), y5, y6, y7]) ⟨z5, z6, z7, rfl⟩ (fun i d ρ hd ⟨y5, y6, y7, hρ⟩ => by
      obtain ⟨hi, rfl⟩ := nats_at hd
      subst hρ
      have ht : ts[i]? = some ts[i] := List.getElem?_eq_getElem hi
      obtain ⟨b1, b2⟩ := hs ts[i] (List.getElem_mem hi)
      have s0 := sts_at ht
      rw [upTo_succ ht]
      obtain ⟨l1, l2⟩ := upTo_len (ts := ts) p i
      generalize ts[i] = t at *
      generalize upTo ts i p = q at *
      obtain ⟨c, l⟩ := q
      dsimp only at l1 l2 ⊢
      have i0 : idxD (stD t) (.int 0) = some (.int (t.s : Nat)) := four0
      have i1 : idxD (stD t) (.int 1) = some (.int (t.g : Nat)) := four1
      have i3 : idxD (stD t) (.int 3) = some (.int (t.c : Nat)) := four3
      have cs := ons_at (c := c) (v := t.s) (by omega)
      have cg := ons_at (c := c) (v := t.g) (by omega)
      have x1 : ixN (onsD c).length ((t.g : Nat) : Int) = some t.g := ixN_nat (by rw [ons_len]; omega)
      have x2 : ixN (onsD l).length ((t.g : Nat) : Int) = some t.g := ixN_nat (by rw [ons_len]; omega)
      have ns := isNon_oD (o := at_ c t.s)
      have ng := isNon_oD (o := at_ c t.g)
      have hb : better t c = match at_ c t.s with
        | none => none
        | some y => match at_ c t.g with
          | none => some (y + t.c)
          | some z => if y + t.c < z then some (y + t.c) else none := rfl
      unfold cStep lStep
      cases hs : at_ c t.s with
      | none =>
        rw [hs] at cs ns hb
        dsimp only at hb
        rw [hb]
        refine ⟨_, _, rfl, .inl ?_, .val (.int (i : Int)), .val (stD t), y7, rfl⟩
        simp -implicitDefEqProofs [f, s0, i0, cs, ns]
      | some y =>
        rw [hs] at cs ns hb
        cases hg : at_ c t.g with
        | none =>
          rw [hg] at cg ng hb
          dsimp only at hb
          rw [hb]
          refine ⟨_, _, rfl, .inl ?_, .val (.int (i : Int)), .val (stD t), .val (.int ((y + t.c : Nat) : Int)), rfl⟩
          dsimp only
          rw [← ons_set, ← ons_set]
          have cs' : idxD (.lst (onsD c)) (.int (t.s : Nat)) = some (.int (y : Nat)) := cs
          have ey : (y : Int) + (t.c : Int) = ((y + t.c : Nat) : Int) := by omega
          have cg' : idxD (.lst (onsD c)) (.int (t.g : Nat)) = some .non := cg
          have nn : ∀ z : Int, isNonD (.int z) = false := fun _ => rfl
          have nn2 : isNonD .non = true := rfl
          simp -implicitDefEqProofs [f, s0, i0, i1, i3, cs', cg', nn, nn2, setIAt_0 x1, setIAt_0 x2]
        | some z =>
          rw [hg] at cg ng hb
          dsimp only at hb
          have cs' : idxD (.lst (onsD c)) (.int (t.s : Nat)) = some (.int (y : Nat)) := cs
          have cg' : idxD (.lst (onsD c)) (.int (t.g : Nat)) = some (.int (z : Nat)) := cg
          have nn : ∀ z : Int, isNonD (.int z) = false := fun _ => rfl
          by_cases hlt : y + t.c < z
          · rw [if_pos hlt] at hb
            have hlt' : (y : Int) + (t.c : Int) < (z : Int) := by omega
            rw [hb]
            refine ⟨_, _, rfl, .inl ?_, .val (.int (i : Int)), .val (stD t), .val (.int ((y + t.c : Nat) : Int)), rfl⟩
            dsimp only
            rw [← ons_set, ← ons_set]
            simp -implicitDefEqProofs [f, s0, i0, i1, i3, cs', cg', nn, hlt', setIAt_0 x1, setIAt_0 x2]
          · rw [if_neg hlt] at hb
            have hlt' : ¬ (y : Int) + (t.c : Int) < (z : Int) := by omega
            rw [hb]
            refine ⟨_, _, rfl, .inl ?_, .val (.int (i : Int)), .val (stD t), .val (.int ((y + t.c : Nat) : Int)), rfl⟩
            dsimp only
            simp -implicitDefEqProofs [f, s0, i0, i1, i3, cs', cg', nn, hlt'])
  subst hz
  rw [nats_len] at hl
  exact ⟨y5, y6, y7, hl⟩
theorem rep_non (n : Nat) : (nats n).map (fun _ => D.non) = onsD (List.replicate n none) := by
  unfold onsD nats
  rw [List.map_map, List.map_replicate]
  apply List.ext_getElem?
  intro i
  rw [List.getElem?_map, List.getElem?_replicate]
  by_cases h : i < n
  · rw [List.getElem?_range h, if_pos h]; rfl
  · rw [List.getElem?_eq_none (by rw [List.length_range]; omega), if_neg h]; rfl
theorem lc_non (T : Tab) {ρ : Ro} {j n : Nat} : lcL (asg (.nm j)) (evc T .no) (ev T .non .val) ρ (nats n) = .ok (onsD (List.replicate n none)) := by
  rw [lcL_map (h := fun _ => .non) fun d hd => ?_, rep_non]
  exact ⟨_, rfl, evc_no, by simp⟩
theorem spread_ok (T : Tab) {FL : List D → Res D} (hm : T.mt "Machine" "__len__" 0 = some FL) (hf : T.fd "Machine" "steps" = true) {names : List D} {r : Rat} (eL : FL [machD names ts r] = .ok (.int (names.length : Nat))) (hn : names.length = n) (hn2 : n ≤ 1000000)
    (hs : ∀ t ∈ ts, t.s < n ∧ t.g < n) (hts : ts.length ≤ 1000000) {x0 : Nat} (hx : x0 < n) :
    runFn T 8 bSpread [machD names ts r, .int (x0 : Nat)] = .ok (.tup [.lst (onsD (rounds ts n (start0 n x0)).1), .lst (onsD (rounds ts n (start0 n x0)).2)]) := by
  have f := fmP_steps (names := names) (ts := ts) (r := r) hf
  have hlen : lenD (stsD ts) = some (.int (ts.length : Nat)) := by unfold stsD; rw [lenD_tup, List.length_map]
  have hr := rngR1_nat (n := n) (by omega)
  have hr2 := rngR1_nat (n := ts.length) (by omega)
  have eM : lenmR2 T (.ok (machD names ts r)) = .ok (.int (n : Nat)) := by
    rw [← hn]
    exact lenmR2_ok hm eL ⟨by omega, by omega⟩
  obtain ⟨ρ', hl, y3, y5, y6, y7, hz⟩ := forL_ind (tg := .nm 3) (body := exs T bSp3) (ds := nats n) (ρ := [.val (machD names ts r), .val (.int (x0 : Nat)), .own (onsD (start0 n x0).1), .no, .own (onsD (start0 n x0).2), .no, .no, .no])
    (fun i ρ => ∃ y3 y5 y6 y7, ρ = [.val (machD names ts r), .val (.int (x0 : Nat)), .own (onsD (rounds ts i (start0 n x0)).1), y3, .own (onsD (rounds ts i (start0 n x0)).2), y5, y6, y7]) ⟨.no, .no, .no, .no, rfl⟩ (fun i d ρ hd ⟨y3, y5, y6, y7, hρ⟩ => by
      obtain ⟨hi, rfl⟩ := nats_at hd
      subst hρ
      obtain ⟨l1, l2⟩ := rounds_len (ts := ts) (start0 n x0) i
      obtain ⟨x5, x6, x7, hin⟩ := sp_in (n := n) T hf (names := names) (r := r) hs hts (p := rounds ts i (start0 n x0)) (by rw [l1]; simp [start0]) (by rw [l2]; simp [start0]) (.val (.int (x0 : Nat))) (.val (.int (i : Int))) y5 y6 y7
      refine ⟨_, _, rfl, .inl ?_, .val (.int (i : Int)), x5, x6, x7, rfl⟩
      rw [rounds]
      generalize upTo ts ts.length (rounds ts i (start0 n x0)) = q at *
      simp -implicitDefEqProofs [bSp3, f, hlen, hr2, hin])
  rw [nats_len] at hz
  subst hz
  have hlc : ∀ ρ : Ro, lcL (asg (.nm 3)) (evc T .no) (ev T .non .val) ρ (nats n) = .ok (onsD (List.replicate n none)) := fun ρ => lc_non T
  have e1 : (onsD (List.replicate n none)).set x0 (.int 0) = onsD (start0 n x0).1 := ons_set (x := 0)
  have x1 : ixN (onsD (List.replicate n none)).length ((x0 : Nat) : Int) = some x0 := ixN_nat (by rw [ons_len, List.length_replicate]; exact hx)
  have e2 : onsD (start0 n x0).2 = onsD (List.replicate n none) := rfl
  rw [e2] at hl
  generalize rounds ts n (start0 n x0) = q at *
  generalize onsD (List.replicate n none) = RR at *
  unfold runFn
  simp -implicitDefEqProofs [bSpread, eM, hr, lcR_ok (hlc _), setIAt_0 x1, e1, hl]
theorem way_costs_ok (T : Tab) {F : List D → Res D} (h : T.fn "spread" 2 = some F) {m x0 : D} {c l : List D} (e : F [m, x0] = .ok (.tup [.lst c, .lst l])) : runFn T 2 bWayCosts [m, x0] = .ok (.tup c) := by
  unfold runFn
  simp -implicitDefEqProofs [bWayCosts, h, e, ix0]
theorem lc_in (T : Tab) (hs : ∀ t ∈ ts, t.s < n ∧ t.g < n) {c : Ons} (h1 : c.length = n) (l : Ons) (z0 z1 z3 z4 z5 z6 : Sl) :
    ∃ y5 y6, forL (.nm 5) (exs T bLc5) (ts.map stD) [z0, z1, .own (onsD c), z3, z4, z5, z6] = .nx [z0, z1, .own (onsD (upTo ts ts.length (c, l)).1), z3, z4, y5, y6] := by
  obtain ⟨ρ', hl, y5, y6, hz⟩ := forL_ind (tg := .nm 5) (body := exs T bLc5) (ds := ts.map stD) (ρ := [z0, z1, .own (onsD c), z3, z4, z5, z6])
    (fun i ρ => ∃ y5 y6, ρ = [z0, z1, .own (onsD (upTo ts i (c, l)).1), z3, z4, y5, y6]) ⟨z5, z6, rfl⟩ (fun i d ρ hd ⟨y5, y6, hρ⟩ => by
      rw [List.getElem?_map] at hd
      obtain ⟨t, ht, rfl⟩ := Option.map_eq_some_iff.mp hd
      subst hρ
      obtain ⟨b1, b2⟩ := hs t (List.mem_of_getElem? ht)
      rw [upTo_succ ht]
      obtain ⟨l1, l2⟩ := upTo_len (ts := ts) (c, l) i
      generalize upTo ts i (c, l) = q at *
      obtain ⟨c, l⟩ := q
      dsimp only at l1 l2 ⊢
      have i0 : idxD (stD t) (.int 0) = some (.int (t.s : Nat)) := four0
      have i1 : idxD (stD t) (.int 1) = some (.int (t.g : Nat)) := four1
      have i3 : idxD (stD t) (.int 3) = some (.int (t.c : Nat)) := four3
      have cs := ons_at (c := c) (v := t.s) (by omega)
      have cg := ons_at (c := c) (v := t.g) (by omega)
      have x1 : ixN (onsD c).length ((t.g : Nat) : Int) = some t.g := ixN_nat (by rw [ons_len]; omega)
      have hb : better t c = match at_ c t.s with
        | none => none
        | some y => match at_ c t.g with
          | none => some (y + t.c)
          | some z => if y + t.c < z then some (y + t.c) else none := rfl
      have nn : ∀ z : Int, isNonD (.int z) = false := fun _ => rfl
      have nn2 : isNonD .non = true := rfl
      unfold cStep
      cases hs : at_ c t.s with
      | none =>
        rw [hs] at cs hb
        dsimp only at hb
        rw [hb]
        have cs' : idxD (.lst (onsD c)) (.int (t.s : Nat)) = some .non := cs
        refine ⟨_, _, rfl, .inl ?_, .val (stD t), y6, rfl⟩
        simp -implicitDefEqProofs [i0, cs', nn2]
      | some y =>
        rw [hs] at cs hb
        have cs' : idxD (.lst (onsD c)) (.int (t.s : Nat)) = some (.int (y : Nat)) := cs
        cases hg : at_ c t.g with
        | none =>
          rw [hg] at cg hb
          dsimp only at hb
          rw [hb]
          have cg' : idxD (.lst (onsD c)) (.int (t.g : Nat)) = some .non := cg
          refine ⟨_, _, rfl, .inl ?_, .val (stD t), .val (.int ((y + t.c : Nat) : Int)), rfl⟩
          dsimp only
          rw [← ons_set]
          simp -implicitDefEqProofs [i0, i1, i3, cs', cg', nn, nn2, setIAt_0 x1]
        | some z =>
          rw [hg] at cg hb
          dsimp only at hb
          have cg' : idxD (.lst (onsD c)) (.int (t.g : Nat)) = some (.int (z : Nat)) := cg
          by_cases hlt : y + t.c < z
          · rw [if_pos hlt] at hb
            have hlt' : (y : Int) + (t.c : Int) < (z : Int) := by omega
            rw [hb]
            refine ⟨_, _, rfl, .inl ?_, .val (stD t), .val (.int ((y + t.c : Nat) : Int)), rfl⟩
            dsimp only
            rw [← ons_set]
            simp -implicitDefEqProofs [i0, i1, i3, cs', cg', nn, hlt', setIAt_0 x1]
          · rw [if_neg hlt] at hb
            have hlt' : ¬ (y : Int) + (t.c : Int) < (z : Int) := by omega
            rw [hb]
            refine ⟨_, _, rfl, .inl ?_, .val (stD t), .val (.int ((y + t.c : Nat) : Int)), rfl⟩
            dsimp only
            simp -implicitDefEqProofs [i0, i1, i3, cs', cg', nn, hlt'])
  rw [List.length_map] at hz
  subst hz
  exact ⟨y5, y6, hl⟩
theorem l_costs_ok (T : Tab) (hs : ∀ t ∈ ts, t.s < n ∧ t.g < n) (hn2 : n ≤ 1000000) {x0 : Nat} (hx : x0 < n) :
    runFn T 7 bLCosts [.lst [.int (n : Nat), .lst (ts.map stD)], .int (x0 : Nat)] = .ok (.lst (onsD (rounds ts n (start0 n x0)).1)) := by
  have hr := rngR1_nat (n := n) (by omega)
  have j0 : idxD (.lst [.int (n : Nat), .lst (ts.map stD)]) (.int 0) = some (.int (n : Nat)) := idxD_lst (i := 0) rfl
  have j1 : idxD (.lst [.int (n : Nat), .lst (ts.map stD)]) (.int 1) = some (.lst (ts.map stD)) := idxD_lst (i := 1) rfl
  generalize hmach : D.lst [.int (n : Nat), .lst (ts.map stD)] = mach at *
  obtain ⟨ρ', hl, y4, y5, y6, hz⟩ := forL_ind (tg := .nm 4) (body := exs T bLc4) (ds := nats n) (ρ := [.val mach, .val (.int (x0 : Nat)), .own (onsD (start0 n x0).1), .no, .no, .no, .no])
    (fun i ρ => ∃ y4 y5 y6, ρ = [.val mach, .val (.int (x0 : Nat)), .own (onsD (rounds ts i (start0 n x0)).1), .no, y4, y5, y6]) ⟨.no, .no, .no, rfl⟩ (fun i d ρ hd ⟨y4, y5, y6, hρ⟩ => by
      obtain ⟨hi, rfl⟩ := nats_at hd
      subst hρ
      obtain ⟨l1, l2⟩ := rounds_len (ts := ts) (start0 n x0) i
      obtain ⟨x5, x6, hin⟩ := lc_in T hs (c := (rounds ts i (start0 n x0)).1) (by rw [l1]; simp [start0]) (rounds ts i (start0 n x0)).2 (.val mach) (.val (.int (x0 : Nat))) .no (.val (.int (i : Int))) y5 y6
      refine ⟨_, _, rfl, .inl ?_, .val (.int (i : Int)), x5, x6, rfl⟩
      rw [rounds]
      generalize upTo ts ts.length (rounds ts i (start0 n x0)) = q at *
      simp -implicitDefEqProofs [bLc4, j1, hin])
  rw [nats_len] at hz
  subst hz
  have hlc : ∀ ρ : Ro, lcL (asg (.nm 3)) (evc T .no) (ev T .non .val) ρ (nats n) = .ok (onsD (List.replicate n none)) := fun ρ => lc_non T
  have e1 : (onsD (List.replicate n none)).set x0 (.int 0) = onsD (start0 n x0).1 := ons_set (x := 0)
  have x1 : ixN (onsD (List.replicate n none)).length ((x0 : Nat) : Int) = some x0 := ixN_nat (by rw [ons_len, List.length_replicate]; exact hx)
  generalize rounds ts n (start0 n x0) = q at *
  generalize onsD (List.replicate n none) = RR at *
  unfold runFn
  simp -implicitDefEqProofs [bLCosts, j0, hr, lcR_ok (hlc _), setIAt_0 x1, e1, hl]
end
end Pu
/-! PuZ: the way that is told, and the ways that are judged. -/
namespace Pu
open PySem PySem.Spec PyProof.Rows L2
def bLIsCheapest : Ss :=
  (.cons (.ite (.ors (.cons (.not_ (.isi1 (.var 3) .tuple)) (.cons (.cmp .GtE (.bi .len (.cons (.var 3) .nil)) (.idx (.var 0) (.int 0))) .nil))) (.cons (.ret (.yes (.bl false)))
    .nil) .nil)
    (.cons (.set 5 (.lst (.cons (.var 1) .nil)))
    (.cons (.set 6 (.int 0))
    (.cons (.for_ (.nm 7) (.seq (.var 3)) (.cons (.ite (.ors (.cons (.not_ (.call "_law_whole" (.cons (.var 7) .nil))) (.cons (.cmp .Lt (.var 7) (.int 0)) (.cons (.cmp .GtE (.var 7) (.bi .len (.cons (.idx (.var 0) (.int 1)) .nil))) (.cons (.cmp .NotEq (.idx (.idx (.idx (.var 0) (.int 1)) (.var 7)) (.int 0)) (.idx (.var 5) (.neg (.int 1)))) .nil))))) (.cons (.ret (.yes (.bl false)))
    .nil) .nil)
    (.cons (.ite (.cmp .In (.idx (.idx (.idx (.var 0) (.int 1)) (.var 7)) (.int 1)) (.var 5)) (.cons (.ret (.yes (.bl false)))
    .nil) .nil)
    (.cons (.app 5 (.idx (.idx (.idx (.var 0) (.int 1)) (.var 7)) (.int 1)))
    (.cons (.set 6 (.bin .Add (.var 6) (.idx (.idx (.idx (.var 0) (.int 1)) (.var 7)) (.int 3))))
    .nil)))))
    (.cons (.ret (.yes (.ands (.cons (.cmp .Eq (.idx (.var 5) (.neg (.int 1))) (.var 2)) (.cons (.cmp .Eq (.var 6) (.var 4)) .nil)))))
    .nil)))))
def bLLeads : Ss :=
  (.cons (.set 4 (.var 1))
    (.cons (.for_ (.nm 5) (.seq (.var 3)) (.cons (.ite (.ors (.cons (.cmp .Lt (.var 5) (.int 0)) (.cons (.cmp .GtE (.var 5) (.bi .len (.cons (.idx (.var 0) (.int 1)) .nil))) (.cons (.cmp .NotEq (.idx (.idx (.idx (.var 0) (.int 1)) (.var 5)) (.int 0)) (.var 4)) .nil)))) (.cons (.ret (.yes (.bl false)))
    .nil) .nil)
    (.cons (.set 4 (.idx (.idx (.idx (.var 0) (.int 1)) (.var 5)) (.int 1)))
    .nil)))
    (.cons (.ret (.yes (.cmp .Eq (.var 4) (.var 2))))
    .nil)))
abbrev bIc7 : Ss := (.cons (.ite (.ors (.cons (.not_ (.call "_law_whole" (.cons (.var 7) .nil))) (.cons (.cmp .Lt (.var 7) (.int 0)) (.cons (.cmp .GtE (.var 7) (.bi .len (.cons (.idx (.var 0) (.int 1)) .nil))) (.cons (.cmp .NotEq (.idx (.idx (.idx (.var 0) (.int 1)) (.var 7)) (.int 0)) (.idx (.var 5) (.neg (.int 1)))) .nil))))) (.cons (.ret (.yes (.bl false))) .nil) .nil) (.cons (.ite (.cmp .In (.idx (.idx (.idx (.var 0) (.int 1)) (.var 7)) (.int 1)) (.var 5)) (.cons (.ret (.yes (.bl false))) .nil) .nil) (.cons (.app 5 (.idx (.idx (.idx (.var 0) (.int 1)) (.var 7)) (.int 1))) (.cons (.set 6 (.bin .Add (.var 6) (.idx (.idx (.idx (.var 0) (.int 1)) (.var 7)) (.int 3)))) .nil))))
abbrev bLl5 : Ss := (.cons (.ite (.ors (.cons (.cmp .Lt (.var 5) (.int 0)) (.cons (.cmp .GtE (.var 5) (.bi .len (.cons (.idx (.var 0) (.int 1)) .nil))) (.cons (.cmp .NotEq (.idx (.idx (.idx (.var 0) (.int 1)) (.var 5)) (.int 0)) (.var 4)) .nil)))) (.cons (.ret (.yes (.bl false))) .nil) .nil) (.cons (.set 4 (.idx (.idx (.idx (.var 0) (.int 1)) (.var 5)) (.int 1))) .nil))
def intN (i : Nat) : D := .int (i : Nat)
/-- a way from its beginning -/
inductive Fwd (ts : List St4) (a : Nat) : List Nat → Nat → Prop
  | nil : Fwd ts a [] a
  | snoc {fl : List Nat} {i : Nat} {t : St4} (f : Fwd ts a fl t.s) (h : ts[i]? = some t) : Fwd ts a (fl ++ [i]) t.g
theorem tp_fwd {ts : List St4} {l : Ons} {x0 v : Nat} {is : List Nat} (h : TP ts l x0 v is) : Fwd ts x0 is.reverse v := by
  induction h with
  | nil => exact .nil
  | cons h0 h ht e r ih =>
    subst e
    rw [List.reverse_cons]
    exact .snoc ih ht
theorem fwd_take {ts : List St4} {a : Nat} {fl : List Nat} {b : Nat} (f : Fwd ts a fl b) : ∀ j i, fl[j]? = some i → ∃ t, ts[i]? = some t ∧ Fwd ts a (fl.take j) t.s := by
  induction f with
  | nil => intro j i h; simp at h
  | @snoc fl i' t f h ih =>
    intro j i hj
    by_cases hl : j < fl.length
    · rw [List.getElem?_append_left hl] at hj
      obtain ⟨t', h1, h2⟩ := ih j i hj
      refine ⟨t', h1, ?_⟩
      rw [List.take_append_of_le_length (by omega)]
      exact h2
    · have hj' := (List.getElem?_eq_some_iff.mp hj).1
      rw [List.length_append, List.length_singleton] at hj'
      have e : j = fl.length := by omega
      subst e
      rw [List.getElem?_append_right (Nat.le_refl _), Nat.sub_self] at hj
      cases hj
      refine ⟨t, h, ?_⟩
      rw [List.take_left]
      exact f
theorem fwd_last {ts : List St4} {a : Nat} {fl : List Nat} {b : Nat} (f : Fwd ts a fl b) : ∃ K : List Nat, a :: fl.map (goalOf ts) = K ++ [b] := by
  cases f with
  | nil => exact ⟨[], rfl⟩
  | @snoc fl i t f h =>
    refine ⟨a :: fl.map (goalOf ts), ?_⟩
    rw [List.map_append, List.map_cons, List.map_nil, goal_at h]
    rfl
theorem idx_last {xs : List D} {d : D} : idxD (.lst (xs ++ [d])) (.int (-1)) = some d := by
  show atI (xs ++ [d]) (-1) = some d
  have e : ixN (xs ++ [d]).length (-1) = some xs.length := by
    unfold ixN
    rw [if_neg (by decide), if_pos (by rw [List.length_append, List.length_singleton]; omega)]
    congr 1
    rw [List.length_append, List.length_singleton]
    omega
  unfold atI
  rw [e]
  show (xs ++ [d])[xs.length]? = _
  rw [List.getElem?_append_right (Nat.le_refl _), Nat.sub_self]
  rfl
section
variable {ts : List St4} {n : Nat}
theorem cheapest_ok (T : Tab) {F : List D → Res D} (h : T.fn "spread" 2 = some F) (hf : T.fd "Machine" "steps" = true) {names : List D} {r : Rat} {x0 v0 : Nat} {C L : Ons} {whole : List Nat} (e : F [machD names ts r, .int (x0 : Nat)] = .ok (.tup [.lst (onsD C), .lst (onsD L)]))
    (tp : TP ts L x0 v0 whole) (hw : whole.length < 100000) (hfu : whole.length < T.fu) :
    runFn T 6 bCheapestWay [machD names ts r, .int (x0 : Nat), .int (v0 : Nat)] = .ok (.tup (whole.reverse.map intN)) := by
  have f := fmP_steps (names := names) (ts := ts) (r := r) hf
  obtain ⟨k', ρ', hl, ⟨v, is, done, hz, htp, hdone, hk⟩, hc⟩ := whl_ind (ps := []) (c := ev T (.cmp .NotEq (.var 5) (.var 1)) .tst) (body := exs T (.cons (.app 4 (.idx (.var 3) (.var 5))) (.cons (.set 5 (.idx (.idx (.fld (.var 0) "steps") (.idx (.var 3) (.var 5))) (.int 0))) .nil))) rfl
    (fun k ρ => ∃ (v : Nat) (is done : List Nat), ρ = [.val (machD names ts r), .val (.int (x0 : Nat)), .val (.int (v0 : Nat)), .val (.lst (onsD L)), .own (done.map intN), .val (.int (v : Nat))] ∧ TP ts L x0 v is ∧ done ++ is = whole ∧ k = is.length) (fun k ρ ⟨v, is, done, hρ, htp, hdone, hk⟩ => by
      subst hρ
      cases htp with
      | nil =>
        left
        simp -implicitDefEqProofs
      | @cons v i t is h0 h ht e r =>
        right
        have h0' : ¬ ((v : Int) = (x0 : Int)) := by omega
        have hv : v < L.length := at_lt h
        have cl := ons_at (c := L) (v := v) hv
        rw [h] at cl
        have cl' : idxD (.lst (onsD L)) (.int (v : Nat)) = some (.int (i : Nat)) := cl
        have s0 := sts_at ht
        have i0 : idxD (stD t) (.int 0) = some (.int (t.s : Nat)) := four0
        have hlen : (done.map intN).length < 16777216 := by
          have := congrArg List.length hdone
          rw [List.length_append] at this
          rw [List.length_map]
          omega
        refine ⟨by simp -implicitDefEqProofs [h0'], is.length, [.val (machD names ts _), .val (.int (x0 : Nat)), .val (.int (v0 : Nat)), .val (.lst (onsD L)), .own ((done ++ [i]).map intN), .val (.int (t.s : Nat))], by rw [hk]; exact Nat.lt_succ_self _, ?_, t.s, is, done ++ [i], rfl, r, by rw [List.append_assoc]; exact hdone, rfl⟩
        rw [List.map_append]
        have ei : intN i = .int (i : Nat) := rfl
        generalize done.map intN = G at *
        simp -implicitDefEqProofs [cl', f, s0, i0, hlen, ei]) T.fu whole.length [.val (machD names ts r), .val (.int (x0 : Nat)), .val (.int (v0 : Nat)), .val (.lst (onsD L)), .own [], .val (.int (v0 : Nat))] ⟨v0, whole, [], rfl, tp, rfl, rfl⟩ hfu
  subst hz
  have hv : v = x0 := by
    simp -implicitDefEqProofs at hc
    omega
  subst hv
  have his : is = [] := by
    cases htp with
    | nil => rfl
    | cons h0 => exact absurd rfl h0
  subst his
  rw [List.append_nil] at hdone
  subst hdone
  rw [List.map_reverse]
  generalize done.map intN = G at *
  unfold runFn
  simp -implicitDefEqProofs [bCheapestWay, h, e, ix1, atWhl] at hl ⊢
  rw [hl]
  simp -implicitDefEqProofs
theorem is_cheapest_ok (T : Tab) {Fw : List D → Res D} (h : T.fn "_law_whole" 1 = some Fw) (eW : ∀ i : Int, Fw [.int i] = .ok (.bl true)) {x0 v0 : Nat} {fl : List Nat} (hf : Fwd ts x0 fl v0) (nd : (x0 :: fl.map (goalOf ts)).Nodup) (hl : fl.length < n) (hn : n ≤ 1000000) {c : Nat} (hc : (fl.map (costOf ts)).sum = c) :
    runFn T 8 bLIsCheapest [.lst [.int (n : Nat), .lst (ts.map stD)], .int (x0 : Nat), .int (v0 : Nat), .tup (fl.map intN), .int (c : Nat)] = .ok (.bl true) := by
  have j0 : idxD (.lst [.int (n : Nat), .lst (ts.map stD)]) (.int 0) = some (.int (n : Nat)) := idxD_lst (i := 0) rfl
  have j1 : idxD (.lst [.int (n : Nat), .lst (ts.map stD)]) (.int 1) = some (.lst (ts.map stD)) := idxD_lst (i := 1) rfl
  have hlt : lenD (.lst (ts.map stD)) = some (.int (ts.length : Nat)) := by rw [lenD_lst, List.length_map]
  have hlf : lenD (.tup (fl.map intN)) = some (.int (fl.length : Nat)) := by rw [lenD_tup, List.length_map]
  have hlt2 : ¬ ((n : Int) ≤ (fl.length : Int)) := by omega
  have ty : isTy .tuple (.tup (fl.map intN)) = some true := rfl
  generalize hmach : D.lst [.int (n : Nat), .lst (ts.map stD)] = mach at *
  obtain ⟨ρ', hl', y7, hz⟩ := forL_ind (tg := .nm 7) (body := exs T bIc7) (ds := fl.map intN) (ρ := [.val mach, .val (.int (x0 : Nat)), .val (.int (v0 : Nat)), .val (.tup (fl.map intN)), .val (.int (c : Nat)), .own [.int (x0 : Nat)], .val (.int 0), .no])
    (fun i ρ => ∃ y7, ρ = [.val mach, .val (.int (x0 : Nat)), .val (.int (v0 : Nat)), .val (.tup (fl.map intN)), .val (.int (c : Nat)), .own ((x0 :: (fl.take i).map (goalOf ts)).map intN), .val (.int ((((fl.take i).map (costOf ts)).sum : Nat) : Int)), y7]) ⟨.no, rfl⟩ (fun j d ρ hd ⟨y7, hρ⟩ => by
      rw [List.getElem?_map] at hd
      obtain ⟨i, hi, rfl⟩ := Option.map_eq_some_iff.mp hd
      subst hρ
      obtain ⟨t, ht, hft⟩ := fwd_take hf j i hi
      have hil := (List.getElem?_eq_some_iff.mp ht).1
      have hjl := (List.getElem?_eq_some_iff.mp hi).1
      have st : idxD (.lst (ts.map stD)) (.int (i : Nat)) = some (stD t) := idxD_lst (by rw [List.getElem?_map, ht]; rfl)
      have i0 : idxD (stD t) (.int 0) = some (.int (t.s : Nat)) := four0
      have i1 : idxD (stD t) (.int 1) = some (.int (t.g : Nat)) := four1
      have i3 : idxD (stD t) (.int 3) = some (.int (t.c : Nat)) := four3
      obtain ⟨K, hK⟩ := fwd_last hft
      have il : idxD (.lst ((x0 :: (fl.take j).map (goalOf ts)).map intN)) (.int (-1)) = some (.int (t.s : Nat)) := by
        rw [hK, List.map_append]
        exact idx_last
      have hnm : inD (.int (t.g : Nat)) (.lst ((x0 :: (fl.take j).map (goalOf ts)).map intN)) = some (.bl false) := by
        unfold inD
        rw [memD_fit (by simp only [fitD]) (fitDs_mem.mpr fun d hd => by obtain ⟨y, _, rfl⟩ := List.mem_map.mp hd; simp only [intN, fitD])]
        have : (((x0 :: (fl.take j).map (goalOf ts)).map intN).any fun y => eqvD y (.int (t.g : Nat))) = false := by
          rw [List.any_eq_false]
          intro d hd
          obtain ⟨y, hy, rfl⟩ := List.mem_map.mp hd
          intro he
          have he' : ((y : Int) == (t.g : Int)) = true := by simpa [intN, eqvD] using he
          rw [beq_iff_eq] at he'
          have hyt : y = t.g := by omega
          subst hyt
          have e2 : fl = fl.take j ++ i :: fl.drop (j + 1) := by
            obtain ⟨hi', hh⟩ := List.getElem?_eq_some_iff.mp hi
            rw [← hh, ← List.drop_eq_getElem_cons hi', List.take_append_drop]
          rw [e2, List.map_append, List.map_cons, goal_at ht, ← List.cons_append] at nd
          exact (List.nodup_append.mp nd).2.2 _ hy _ List.mem_cons_self rfl
        rw [this]
        rfl
      have w1 : ¬ ((i : Int) < 0) := by omega
      have w2 : ¬ ((ts.length : Int) ≤ (i : Int)) := by omega
      have hll : ((x0 :: (fl.take j).map (goalOf ts)).map intN).length < 16777216 := by
        rw [List.length_map, List.length_cons, List.length_map, List.length_take]
        omega
      have e3 : (x0 :: (fl.take (j + 1)).map (goalOf ts)).map intN = (x0 :: (fl.take j).map (goalOf ts)).map intN ++ [.int (t.g : Nat)] := by
        rw [take_succ hi, List.map_append]
        simp [goal_at ht, intN]
      have e4 : ((((fl.take (j + 1)).map (costOf ts)).sum : Nat) : Int) = ((((fl.take j).map (costOf ts)).sum : Nat) : Int) + (t.c : Int) := by
        rw [take_succ hi, List.map_append, List.sum_append, List.map_cons, List.map_nil, cost_at ht, List.sum_cons, List.sum_nil]
        omega
      rw [e3, e4]
      refine ⟨_, _, rfl, .inl ?_, .val (.int (i : Int)), rfl⟩
      generalize (x0 :: (fl.take j).map (goalOf ts)).map intN = G at *
      generalize ((((fl.take j).map (costOf ts)).sum : Nat) : Int) = tot at *
      have ew := eW (i : Int)
      have ei : intN i = .int (i : Nat) := rfl
      rw [ei]
      simp -implicitDefEqProofs [h, ew, w1, w2, j1, hlt, st, i0, i1, i3, il, hnm, hll])
  rw [List.length_map, List.take_length, hc] at hz
  subst hz
  obtain ⟨K, hK⟩ := fwd_last hf
  have il : idxD (.lst ((x0 :: fl.map (goalOf ts)).map intN)) (.int (-1)) = some (.int (v0 : Nat)) := by
    rw [hK, List.map_append]
    exact idx_last
  generalize (x0 :: fl.map (goalOf ts)).map intN = G at *
  generalize hFM : D.tup (fl.map intN) = FM at *
  have itm : itR itemsR (.ok FM) = .ok (fl.map intN) := by rw [← hFM]; rfl
  generalize fl.map intN = FMI at *
  unfold runFn
  simp -implicitDefEqProofs [bLIsCheapest, tyR_ok ty, hlf, j0, hlt2, itm, hl', il]
/-! ways that are judged -/
/-- where a row of numbers leads -/
def walkTo (ts : List St4) : Nat → List Int → Option Nat
  | x, [] => some x
  | x, z :: zs => if 0 ≤ z then (match ts[z.toNat]? with
    | some t => if t.s = x then walkTo ts t.g zs else none
    | none => none) else none
def leadB (ts : List St4) (x y : Nat) (zs : List Int) : Bool := match walkTo ts x zs with
  | some e => decide (e = y)
  | none => false
theorem is_state_gen (T : Tab) {F : List D → Res D} (h : T.fn "is_whole" 1 = some F) (hF : ∀ i : Int, F [.int i] = .ok (.bl true)) (i n : Int) : runFn T 2 bIsState [.int i, .int n] = .ok (.bl (decide (0 ≤ i) && decide (i < n))) := by
  unfold runFn
  simp -implicitDefEqProofs [bIsState, h, hF]
theorem leads_loop (T : Tab) {mach z2 z3 : D} {s1 : Sl} (j1 : idxD mach (.int 1) = some (.lst (ts.map stD))) : ∀ (zs : List Int) (x : Nat) (z5 : Sl), match walkTo ts x zs with
    | some e => ∃ y5, forL (.nm 5) (exs T bLl5) (zs.map D.int) [.val mach, s1, .val z2, .val z3, .val (.int (x : Nat)), z5] = .nx [.val mach, s1, .val z2, .val z3, .val (.int (e : Nat)), y5]
    | none => forL (.nm 5) (exs T bLl5) (zs.map D.int) [.val mach, s1, .val z2, .val z3, .val (.int (x : Nat)), z5] = .rt (.bl false)
  | [], x, z5 => ⟨z5, rfl⟩
  | z :: zs, x, z5 => by
    have hlt : lenD (.lst (ts.map stD)) = some (.int (ts.length : Nat)) := by rw [lenD_lst, List.length_map]
    have un : forL (.nm 5) (exs T bLl5) ((z :: zs).map D.int) [.val mach, s1, .val z2, .val z3, .val (.int (x : Nat)), z5] = (match exs T bLl5 [.val mach, s1, .val z2, .val z3, .val (.int (x : Nat)), .val (.int z)] with
      | .nx ρ2 => forL (.nm 5) (exs T bLl5) (zs.map D.int) ρ2
      | .ct ρ2 => forL (.nm 5) (exs T bLl5) (zs.map D.int) ρ2
      | .bk ρ2 => .nx ρ2
      | .rt d => .rt d
      | .ex ρ c ns ds => .ex ρ c ns ds
      | .stuck => .stuck) := rfl
    unfold walkTo
    by_cases h0 : 0 ≤ z
    · rw [if_pos h0]
      obtain ⟨k, rfl⟩ : ∃ k : Nat, z = (k : Int) := ⟨z.toNat, by omega⟩
      rw [Int.toNat_natCast]
      have w1 : ¬ ((k : Int) < 0) := by omega
      by_cases hk : k < ts.length
      · have ht : ts[k]? = some ts[k] := List.getElem?_eq_getElem hk
        have st : idxD (.lst (ts.map stD)) (.int (k : Nat)) = some (stD ts[k]) := idxD_lst (by rw [List.getElem?_map, ht]; rfl)
        rw [ht]
        dsimp only
        generalize ts[k] = t at *
        have w2 : ¬ ((ts.length : Int) ≤ (k : Int)) := by omega
        have i0 : idxD (stD t) (.int 0) = some (.int (t.s : Nat)) := four0
        have i1 : idxD (stD t) (.int 1) = some (.int (t.g : Nat)) := four1
        by_cases hs : t.s = x
        · rw [if_pos hs]
          have hs' : (t.s : Int) = (x : Int) := by omega
          have ih := leads_loop T (mach := mach) (z2 := z2) (z3 := z3) (s1 := s1) j1 zs t.g (.val (.int (k : Int)))
          have b : exs T bLl5 [.val mach, s1, .val z2, .val z3, .val (.int (x : Nat)), .val (.int (k : Int))] = .nx [.val mach, s1, .val z2, .val z3, .val (.int (t.g : Nat)), .val (.int (k : Int))] := by
            simp -implicitDefEqProofs [bLl5, w1, w2, j1, hlt, st, i0, i1, hs']
          rw [un, b]
          exact ih
        · rw [if_neg hs]
          have hs' : ¬ ((t.s : Int) = (x : Int)) := by omega
          have b : exs T bLl5 [.val mach, s1, .val z2, .val z3, .val (.int (x : Nat)), .val (.int (k : Int))] = .rt (.bl false) := by
            simp -implicitDefEqProofs [bLl5, w1, w2, j1, hlt, st, i0, i1, hs']
          rw [un, b]
      · rw [List.getElem?_eq_none (by omega)]
        dsimp only
        have w2 : ((ts.length : Int) ≤ (k : Int)) := by omega
        have b : exs T bLl5 [.val mach, s1, .val z2, .val z3, .val (.int (x : Nat)), .val (.int (k : Int))] = .rt (.bl false) := by
          simp -implicitDefEqProofs [bLl5, w1, w2, j1, hlt]
        rw [un, b]
    · rw [if_neg h0]
      have w1 : z < 0 := by omega
      have b : exs T bLl5 [.val mach, s1, .val z2, .val z3, .val (.int (x : Nat)), .val (.int z)] = .rt (.bl false) := by
        simp -implicitDefEqProofs [bLl5, w1]
      rw [un, b]
theorem leads_ok (T : Tab) {mach row : D} (j1 : idxD mach (.int 1) = some (.lst (ts.map stD))) {zs : List Int} (hrow : itR itemsR (.ok row) = .ok (zs.map D.int)) {x y : Nat} :
    runFn T 6 bLLeads [mach, .int (x : Nat), .int (y : Nat), row] = .ok (.bl (leadB ts x y zs)) := by
  have h := leads_loop T (ts := ts) (mach := mach) (z2 := .int (y : Nat)) (z3 := row) (s1 := .val (.int (x : Nat))) j1 zs x .no
  unfold leadB
  cases hw : walkTo ts x zs with
  | none =>
    rw [hw] at h
    dsimp only at h ⊢
    unfold runFn
    simp -implicitDefEqProofs [bLLeads, hrow, h]
  | some e =>
    rw [hw] at h
    obtain ⟨y5, h⟩ := h
    have hd : decide ((e : Int) = (y : Int)) = decide (e = y) := by rw [decide_eq_decide]; omega
    unfold runFn
    simp -implicitDefEqProofs [bLLeads, hrow, h, hd]
theorem way_loop (T : Tab) {F : List D → Res D} (h : T.fn "is_state" 2 = some F) (hF : ∀ i n : Int, F [.int i, .int n] = .ok (.bl (decide (0 ≤ i) && decide (i < n)))) (hf : T.fd "Machine" "steps" = true) {names : List D} {r : Rat} {z2 z3 : D} {s1 : Sl} : ∀ (zs : List Int) (x : Nat) (z5 : Sl), match walkTo ts x zs with
    | some e => ∃ y5, forL (.nm 5) (exs T bIw5) (zs.map D.int) [.val (machD names ts r), s1, .val z2, .val z3, .val (.int (x : Nat)), z5] = .nx [.val (machD names ts r), s1, .val z2, .val z3, .val (.int (e : Nat)), y5]
    | none => forL (.nm 5) (exs T bIw5) (zs.map D.int) [.val (machD names ts r), s1, .val z2, .val z3, .val (.int (x : Nat)), z5] = .rt (.bl false)
  | [], x, z5 => ⟨z5, rfl⟩
  | z :: zs, x, z5 => by
    have f := fmP_steps (names := names) (ts := ts) (r := r) hf
    have hlt : lenD (stsD ts) = some (.int (ts.length : Nat)) := by unfold stsD; rw [lenD_tup, List.length_map]
    have un : forL (.nm 5) (exs T bIw5) ((z :: zs).map D.int) [.val (machD names ts r), s1, .val z2, .val z3, .val (.int (x : Nat)), z5] = (match exs T bIw5 [.val (machD names ts r), s1, .val z2, .val z3, .val (.int (x : Nat)), .val (.int z)] with
      | .nx ρ2 => forL (.nm 5) (exs T bIw5) (zs.map D.int) ρ2
      | .ct ρ2 => forL (.nm 5) (exs T bIw5) (zs.map D.int) ρ2
      | .bk ρ2 => .nx ρ2
      | .rt d => .rt d
      | .ex ρ c ns ds => .ex ρ c ns ds
      | .stuck => .stuck) := rfl
    have hz := hF z (ts.length : Int)
    unfold walkTo
    by_cases h0 : 0 ≤ z
    · rw [if_pos h0]
      obtain ⟨k, rfl⟩ : ∃ k : Nat, z = (k : Int) := ⟨z.toNat, by omega⟩
      rw [Int.toNat_natCast]
      by_cases hk : k < ts.length
      · have ht : ts[k]? = some ts[k] := List.getElem?_eq_getElem hk
        have st := sts_at ht
        rw [ht]
        dsimp only
        generalize ts[k] = t at *
        have w2 : (k : Int) < (ts.length : Int) := by omega
        have hz' : F [.int (k : Int), .int (ts.length : Int)] = .ok (.bl true) := by rw [hz]; simp [h0, w2]
        have i0 : idxD (stD t) (.int 0) = some (.int (t.s : Nat)) := four0
        have i1 : idxD (stD t) (.int 1) = some (.int (t.g : Nat)) := four1
        by_cases hs : t.s = x
        · rw [if_pos hs]
          have hs' : (t.s : Int) = (x : Int) := by omega
          have ih := way_loop T h hF hf (names := names) (r := r) (z2 := z2) (z3 := z3) (s1 := s1) zs t.g (.val (.int (k : Int)))
          have b : exs T bIw5 [.val (machD names ts r), s1, .val z2, .val z3, .val (.int (x : Nat)), .val (.int (k : Int))] = .nx [.val (machD names ts r), s1, .val z2, .val z3, .val (.int (t.g : Nat)), .val (.int (k : Int))] := by
            simp -implicitDefEqProofs [bIw5, h, hz', f, hlt, st, i0, i1, hs']
          rw [un, b]
          exact ih
        · rw [if_neg hs]
          have hs' : ¬ ((t.s : Int) = (x : Int)) := by omega
          have b : exs T bIw5 [.val (machD names ts r), s1, .val z2, .val z3, .val (.int (x : Nat)), .val (.int (k : Int))] = .rt (.bl false) := by
            simp -implicitDefEqProofs [bIw5, h, hz', f, hlt, st, i0, i1, hs']
          rw [un, b]
      · rw [List.getElem?_eq_none (by omega)]
        dsimp only
        have w2 : ¬ ((k : Int) < (ts.length : Int)) := by omega
        have hz' : F [.int (k : Int), .int (ts.length : Int)] = .ok (.bl false) := by rw [hz]; simp [w2]
        have b : exs T bIw5 [.val (machD names ts r), s1, .val z2, .val z3, .val (.int (x : Nat)), .val (.int (k : Int))] = .rt (.bl false) := by
          simp -implicitDefEqProofs [bIw5, h, hz', f, hlt]
        rw [un, b]
    · rw [if_neg h0]
      have hz' : F [.int z, .int (ts.length : Int)] = .ok (.bl false) := by rw [hz]; simp [h0]
      have b : exs T bIw5 [.val (machD names ts r), s1, .val z2, .val z3, .val (.int (x : Nat)), .val (.int z)] = .rt (.bl false) := by
        simp -implicitDefEqProofs [bIw5, h, hz', f, hlt]
      rw [un, b]
theorem is_way_ok (T : Tab) {F : List D → Res D} (h : T.fn "is_state" 2 = some F) (hF : ∀ i n : Int, F [.int i, .int n] = .ok (.bl (decide (0 ≤ i) && decide (i < n)))) (hf : T.fd "Machine" "steps" = true) {names : List D} {r : Rat} {row : D} {zs : List Int} (hrow : itR itemsR (.ok row) = .ok (zs.map D.int)) {x y : Nat} :
    runFn T 6 bIsWay [machD names ts r, .int (x : Nat), .int (y : Nat), row] = .ok (.bl (leadB ts x y zs)) := by
  have h := way_loop T h hF hf (ts := ts) (names := names) (r := r) (z2 := .int (y : Nat)) (z3 := row) (s1 := .val (.int (x : Nat))) zs x .no
  unfold leadB
  cases hw : walkTo ts x zs with
  | none =>
    rw [hw] at h
    dsimp only at h ⊢
    unfold runFn
    simp -implicitDefEqProofs [bIsWay, hrow, h]
  | some e =>
    rw [hw] at h
    obtain ⟨y5, h⟩ := h
    have hd : decide ((e : Int) = (y : Int)) = decide (e = y) := by rw [decide_eq_decide]; omega
    unfold runFn
    simp -implicitDefEqProofs [bIsWay, hrow, h, hd]
end
end Pu
/-! IR and checks of rareslips_k08_cheapest_ways, as gen.py has printed them -/
namespace L08
open PySem L2 Pu
def top (i : Nat) : Stmt := PySem.Challenge.pw_rareslips_k08_cheapest_ways.main.body.getD i (.Pass ⟨0, 0, 0, 0⟩)
abbrev s_l_put : Stmt := top 65
abbrev N_l_put : List Str := ["row", "k", "item"]
def b_l_put : Ss :=
  (.cons (.ret (.yes (.bin .Add (.bin .Add (.slc (.var 0) .no (.yes (.var 1))) (.lst (.cons (.var 2) .nil))) (.slc (.var 0) (.yes (.bin .Add (.var 1) (.int 1))) .no))))
    .nil)
theorem sc_l_put : FnScope N_l_put ["row", "k", "item"] (defScope s_l_put) := ⟨rfl, rfl, rfl, by decide +kernel, rfl, by decide +kernel, by decide +kernel⟩
theorem c_l_put : chSs N_l_put (defScope s_l_put) b_l_put (defBody s_l_put) = true := by decide +kernel
abbrev s_l_near : Stmt := top 66
abbrev N_l_near : List Str := ["machine", "row", "parts", "many", "told", "k", "item", "j", "other"]
def b_l_near : Ss :=
  (.cons (.set 3 (.bi .len (.cons (.idx (.var 0) (.int 1)) .nil)))
    (.cons (.set 4 (.lst (.cons (.bin .Add (.var 1) (.lst (.cons (.var 3) .nil))) (.cons (.bin .Add (.lst (.cons (.neg (.int 1)) .nil)) (.var 1)) (.cons (.bin .Add (.var 1) (.lst (.cons (.idx (.var 2) (.int 1)) .nil))) (.cons (.lst .nil) (.cons (.bin .Add (.var 1) (.var 1)) .nil)))))))
    (.cons (.ite (.cmp .Gt (.bi .len (.cons (.var 1) .nil)) (.int 0)) (.cons (.set 5 (.bin .Mod (.bi .int (.cons (.idx (.var 2) (.int 0)) .nil)) (.bi .len (.cons (.var 1) .nil))))
    (.cons (.set 6 (.idx (.var 1) (.var 5)))
    (.cons (.set 4 (.bin .Add (.var 4) (.lst (.cons (.bin .Add (.slc (.var 1) .no (.yes (.var 5))) (.slc (.var 1) (.yes (.bin .Add (.var 5) (.int 1))) .no)) (.cons (.slc (.var 1) .no (.yes (.neg (.int 1)))) (.cons (.slc (.var 1) (.yes (.int 1)) .no) (.cons (.bin .Add (.var 1) (.slc (.var 1) (.yes (.neg (.int 1))) .no)) (.cons (.bin .Add (.slc (.var 1) .no (.yes (.int 1))) (.var 1)) (.cons (.sqr false (.var 1)) .nil)))))))))
    (.cons (.app 4 (.bin .Add (.bin .Add (.slc (.var 1) .no (.yes (.var 5))) (.lst (.cons (.var 6) .nil))) (.slc (.var 1) (.yes (.var 5)) .no)))
    (.cons (.set 7 (.bin .Mod (.bi .int (.cons (.bin .Add (.var 5) (.int 1)) .nil)) (.bi .len (.cons (.var 1) .nil))))
    (.cons (.app 4 (.call "_law_put" (.cons (.call "_law_put" (.cons (.var 1) (.cons (.var 5) (.cons (.idx (.var 1) (.var 7)) .nil)))) (.cons (.var 7) (.cons (.var 6) .nil)))))
    (.cons (.for_ (.nm 8) (.seq (.lst (.cons (.bin .Sub (.var 6) (.var 3)) (.cons (.bin .Add (.var 6) (.var 3)) (.cons (.neg (.int 1)) (.cons (.var 3) (.cons (.bin .Add (.bin .Pow (.int 10) (.int 30)) (.var 6)) (.cons (.bin .Sub (.neg (.var 6)) (.int 1)) (.cons (.bin .Add (.var 3) (.idx (.var 2) (.int 1))) (.cons (.bin .Mod (.bi .int (.cons (.idx (.var 2) (.int 1)) .nil)) (.var 3)) (.cons (.bin .Mod (.bi .int (.cons (.idx (.var 2) (.int 2)) .nil)) (.var 3)) .nil))))))))))) (.cons (.app 4 (.call "_law_put" (.cons (.var 1) (.cons (.var 5) (.cons (.var 8) .nil)))))
    .nil))
    (.cons (.for_ (.nm 7) (.rng (.var 3)) (.cons (.ite (.ands (.cons (.cmp .Eq (.idx (.idx (.idx (.var 0) (.int 1)) (.var 7)) (.int 0)) (.idx (.idx (.idx (.var 0) (.int 1)) (.var 6)) (.int 0))) (.cons (.cmp .NotEq (.var 7) (.var 6)) .nil))) (.cons (.app 4 (.call "_law_put" (.cons (.var 1) (.cons (.var 5) (.cons (.var 7) .nil)))))
    .nil) .nil)
    .nil))
    .nil)))))))) .nil)
    (.cons (.ret (.yes (.var 4)))
    .nil))))
theorem sc_l_near : FnScope N_l_near ["machine", "row", "parts"] (defScope s_l_near) := ⟨rfl, rfl, rfl, by decide +kernel, rfl, by decide +kernel, by decide +kernel⟩
theorem c_l_near : chSs N_l_near (defScope s_l_near) b_l_near (defBody s_l_near) = true := by decide +kernel
abbrev s_is_whole : Stmt := top 15
abbrev N_is_whole : List Str := ["value"]
def b_is_whole : Ss :=
  (.cons (.ret (.yes (.ands (.cons (.isi1 (.var 0) .int) (.cons (.not_ (.isi1 (.var 0) .bool)) .nil)))))
    .nil)
theorem sc_is_whole : FnScope N_is_whole ["value"] (defScope s_is_whole) := ⟨rfl, rfl, rfl, by decide +kernel, rfl, by decide +kernel, by decide +kernel⟩
theorem c_is_whole : chSs N_is_whole (defScope s_is_whole) b_is_whole (defBody s_is_whole) = true := by decide +kernel
abbrev s_is_state : Stmt := top 33
abbrev N_is_state : List Str := ["value", "size"]
def b_is_state : Ss :=
  (.cons (.ret (.yes (.ands (.cons (.call "is_whole" (.cons (.var 0) .nil)) (.cons (.cmp2 .LtE .Lt (.int 0) (.var 0) (.var 1)) .nil)))))
    .nil)
theorem sc_is_state : FnScope N_is_state ["value", "size"] (defScope s_is_state) := ⟨rfl, rfl, rfl, by decide +kernel, rfl, by decide +kernel, by decide +kernel⟩
theorem c_is_state : chSs N_is_state (defScope s_is_state) b_is_state (defBody s_is_state) = true := by decide +kernel
abbrev s_is_way : Stmt := top 45
abbrev N_is_way : List Str := ["machine", "start", "goal", "row", "at", "item"]
def b_is_way : Ss :=
  (.cons (.set 4 (.var 1))
    (.cons (.for_ (.nm 5) (.seq (.var 3)) (.cons (.ite (.ors (.cons (.not_ (.call "is_state" (.cons (.var 5) (.cons (.bi .len (.cons (.fld (.var 0) "steps") .nil)) .nil)))) (.cons (.cmp .NotEq (.idx (.idx (.fld (.var 0) "steps") (.var 5)) (.int 0)) (.var 4)) .nil))) (.cons (.ret (.yes (.bl false)))
    .nil) .nil)
    (.cons (.set 4 (.idx (.idx (.fld (.var 0) "steps") (.var 5)) (.int 1)))
    .nil)))
    (.cons (.ret (.yes (.cmp .Eq (.var 4) (.var 2))))
    .nil)))
theorem sc_is_way : FnScope N_is_way ["machine", "start", "goal", "row"] (defScope s_is_way) := ⟨rfl, rfl, rfl, by decide +kernel, rfl, by decide +kernel, by decide +kernel⟩
theorem c_is_way : chSs N_is_way (defScope s_is_way) b_is_way (defBody s_is_way) = true := by decide +kernel
abbrev s_l_leads : Stmt := top 60
abbrev N_l_leads : List Str := ["machine", "start", "goal", "row", "at", "item"]
def b_l_leads : Ss :=
  (.cons (.set 4 (.var 1))
    (.cons (.for_ (.nm 5) (.seq (.var 3)) (.cons (.ite (.ors (.cons (.cmp .Lt (.var 5) (.int 0)) (.cons (.cmp .GtE (.var 5) (.bi .len (.cons (.idx (.var 0) (.int 1)) .nil))) (.cons (.cmp .NotEq (.idx (.idx (.idx (.var 0) (.int 1)) (.var 5)) (.int 0)) (.var 4)) .nil)))) (.cons (.ret (.yes (.bl false)))
    .nil) .nil)
    (.cons (.set 4 (.idx (.idx (.idx (.var 0) (.int 1)) (.var 5)) (.int 1)))
    .nil)))
    (.cons (.ret (.yes (.cmp .Eq (.var 4) (.var 2))))
    .nil)))
theorem sc_l_leads : FnScope N_l_leads ["machine", "start", "goal", "row"] (defScope s_l_leads) := ⟨rfl, rfl, rfl, by decide +kernel, rfl, by decide +kernel, by decide +kernel⟩
theorem c_l_leads : chSs N_l_leads (defScope s_l_leads) b_l_leads (defBody s_l_leads) = true := by decide +kernel
abbrev s_l_says : Stmt := top 62
abbrev N_l_says : List Str := ["built", "machine", "start", "goal", "row", "due", "mine", "answer"]
def b_l_says : Ss :=
  (.cons (.set 5 (.call "_law_leads" (.cons (.var 1) (.cons (.var 2) (.cons (.var 3) (.cons (.var 4) .nil))))))
    (.cons (.set 6 (.bi .list (.cons (.var 4) .nil)))
    (.cons (.set 7 (.call "is_way" (.cons (.var 0) (.cons (.var 2) (.cons (.var 3) (.cons (.var 6) .nil))))))
    (.cons (.ite (.ors (.cons (.not_ (.isi1 (.var 7) .bool)) (.cons (.cmp .NotEq (.var 7) (.var 5)) (.cons (.cmp .NotEq (.var 6) (.var 4)) .nil)))) (.cons (.ret (.yes (.bl false)))
    .nil) .nil)
    (.cons (.set 7 (.call "is_way" (.cons (.var 0) (.cons (.var 2) (.cons (.var 3) (.cons (.bi .tuple (.cons (.var 4) .nil)) .nil))))))
    (.cons (.ret (.yes (.ands (.cons (.isi1 (.var 7) .bool) (.cons (.cmp .Eq (.var 7) (.var 5)) .nil)))))
    .nil))))))
theorem sc_l_says : FnScope N_l_says ["built", "machine", "start", "goal", "row"] (defScope s_l_says) := ⟨rfl, rfl, rfl, by decide +kernel, rfl, by decide +kernel, by decide +kernel⟩
theorem c_l_says : chSs N_l_says (defScope s_l_says) b_l_says (defBody s_l_says) = true := by decide +kernel
abbrev s_l_walk : Stmt := top 64
abbrev N_l_walk : List Str := ["machine", "start", "many", "parts", "row", "at", "k", "mine", "j"]
def b_l_walk : Ss :=
  (.cons (.set 4 (.lst .nil))
    (.cons (.set 5 (.var 1))
    (.cons (.for_ (.nm 6) (.rng (.var 2)) (.cons (.set 7 (.lc [("j", 8)] (.var 8) (.nm 8) (.rng (.bi .len (.cons (.idx (.var 0) (.int 1)) .nil))) (.yes (.cmp .Eq (.idx (.idx (.idx (.var 0) (.int 1)) (.var 8)) (.int 0)) (.var 5)))))
    (.cons (.ite (.cmp .Gt (.bi .len (.cons (.var 7) .nil)) (.int 0)) (.cons (.app 4 (.idx (.var 7) (.bin .Mod (.bi .int (.cons (.idx (.var 3) (.var 6)) .nil)) (.bi .len (.cons (.var 7) .nil)))))
    (.cons (.set 5 (.idx (.idx (.idx (.var 0) (.int 1)) (.idx (.var 4) (.neg (.int 1)))) (.int 1)))
    .nil)) .nil)
    .nil)))
    (.cons (.ret (.yes (.lst (.cons (.var 4) (.cons (.var 5) .nil)))))
    .nil))))
theorem sc_l_walk : FnScope N_l_walk ["machine", "start", "many", "parts"] (defScope s_l_walk) := ⟨rfl, rfl, rfl, by decide +kernel, rfl, by decide +kernel, by decide +kernel⟩
theorem c_l_walk : chSs N_l_walk (defScope s_l_walk) b_l_walk (defBody s_l_walk) = true := by decide +kernel
abbrev s_l_digits : Stmt := top 49
abbrev N_l_digits : List Str := ["cell", "sizes", "row", "rest", "size", "seed", "k", "twice"]
def b_l_digits : Ss :=
  (.cons (.set 2 (.lst .nil))
    (.cons (.set 3 (.bi .int (.cons (.var 0) .nil)))
    (.cons (.ite (.cmp .GtE (.var 3) (.bin .Pow (.int 10) (.int 18))) (.cons (.set 3 (.bin .Sub (.var 3) (.bin .Pow (.int 10) (.int 18))))
    (.cons (.for_ (.nm 4) (.seq (.var 1)) (.cons (.app 2 (.bin .Mod (.bi .int (.cons (.var 3) .nil)) (.var 4)))
    (.cons (.set 3 (.bin .FloorDiv (.bi .int (.cons (.var 3) .nil)) (.var 4)))
    .nil)))
    (.cons (.ret (.yes (.var 2)))
    .nil))) .nil)
    (.cons (.set 5 (.bin .Mod (.bi .int (.cons (.var 3) .nil)) (.int 2147483629)))
    (.cons (.for_ (.nm 6) (.rng (.bi .len (.cons (.var 1) .nil))) (.cons (.set 5 (.bin .Mod (.bi .int (.cons (.bin .Add (.bin .Add (.bin .Mult (.var 5) (.int 48271)) (.bin .Mult (.int 974711) (.var 6))) (.int 12345)) .nil)) (.int 2147483647)))
    (.cons (.set 7 (.bin .Mod (.bi .int (.cons (.bin .Mult (.var 5) (.bin .Add (.bin .FloorDiv (.var 5) (.int 65537)) (.int 3))) .nil)) (.int 2147483629)))
    (.cons (.app 2 (.bin .Mod (.bin .FloorDiv (.var 7) (.int 19)) (.idx (.var 1) (.var 6))))
    .nil))))
    (.cons (.ret (.yes (.var 2)))
    .nil))))))
theorem sc_l_digits : FnScope N_l_digits ["cell", "sizes"] (defScope s_l_digits) := ⟨rfl, rfl, rfl, by decide +kernel, rfl, by decide +kernel, by decide +kernel⟩
theorem c_l_digits : chSs N_l_digits (defScope s_l_digits) b_l_digits (defBody s_l_digits) = true := by decide +kernel
abbrev s_l_rows : Stmt := top 67
abbrev N_l_rows : List Str := ["built", "machine", "cell", "parts", "start", "walk", "goal", "others", "row"]
def b_l_rows : Ss :=
  (.cons (.set 3 (.call "_law_digits" (.cons (.var 2) (.cons (.bin .Add (.lst (.cons (.int 16) (.cons (.int 41) (.cons (.int 16) (.cons (.int 16) (.cons (.int 64) (.cons (.int 240) (.cons (.int 240) .nil)))))))) (.bin .Mult (.lst (.cons (.int 16) .nil)) (.int 40))) .nil))))
    (.cons (.set 4 (.bin .Mod (.bi .int (.cons (.idx (.var 3) (.int 0)) .nil)) (.idx (.var 1) (.int 0))))
    (.cons (.set 5 (.call "_law_walk" (.cons (.var 1) (.cons (.var 4) (.cons (.idx (.var 3) (.int 1)) (.cons (.slc (.var 3) (.yes (.int 7)) .no) .nil))))))
    (.cons (.ite (.ors (.cons (.not_ (.call "_law_says" (.cons (.var 0) (.cons (.var 1) (.cons (.var 4) (.cons (.idx (.var 5) (.int 1)) (.cons (.idx (.var 5) (.int 0)) .nil))))))) (.cons (.not_ (.call "_law_says" (.cons (.var 0) (.cons (.var 1) (.cons (.var 4) (.cons (.var 4) (.cons (.lst .nil) .nil))))))) .nil))) (.cons (.ret (.yes (.bl false)))
    .nil) .nil)
    (.cons (.for_ (.nm 6) (.rng (.idx (.var 1) (.int 0))) (.cons (.ite (.ors (.cons (.not_ (.call "_law_says" (.cons (.var 0) (.cons (.var 1) (.cons (.var 4) (.cons (.var 6) (.cons (.idx (.var 5) (.int 0)) .nil))))))) (.cons (.not_ (.call "_law_says" (.cons (.var 0) (.cons (.var 1) (.cons (.var 6) (.cons (.idx (.var 5) (.int 1)) (.cons (.idx (.var 5) (.int 0)) .nil))))))) .nil))) (.cons (.ret (.yes (.bl false)))
    .nil) .nil)
    .nil))
    (.cons (.set 7 (.lst (.cons (.idx (.var 5) (.int 1)) (.cons (.var 4) (.cons (.bin .Mod (.bi .int (.cons (.idx (.var 3) (.int 2)) .nil)) (.idx (.var 1) (.int 0))) .nil)))))
    (.cons (.for_ (.nm 8) (.seq (.call "_law_near" (.cons (.var 1) (.cons (.idx (.var 5) (.int 0)) (.cons (.slc (.var 3) (.yes (.int 4)) (.yes (.int 7))) .nil))))) (.cons (.for_ (.nm 6) (.seq (.var 7)) (.cons (.ite (.not_ (.call "_law_says" (.cons (.var 0) (.cons (.var 1) (.cons (.var 4) (.cons (.var 6) (.cons (.var 8) .nil))))))) (.cons (.ret (.yes (.bl false)))
    .nil) .nil)
    .nil))
    (.cons (.ite (.not_ (.call "_law_says" (.cons (.var 0) (.cons (.var 1) (.cons (.bin .Mod (.bi .int (.cons (.idx (.var 3) (.int 3)) .nil)) (.idx (.var 1) (.int 0))) (.cons (.idx (.var 5) (.int 1)) (.cons (.var 8) .nil))))))) (.cons (.ret (.yes (.bl false)))
    .nil) .nil)
    .nil)))
    (.cons (.ret (.yes (.bl true)))
    .nil))))))))
theorem sc_l_rows : FnScope N_l_rows ["built", "machine", "cell"] (defScope s_l_rows) := ⟨rfl, rfl, rfl, by decide +kernel, rfl, by decide +kernel, by decide +kernel⟩
theorem c_l_rows : chSs N_l_rows (defScope s_l_rows) b_l_rows (defBody s_l_rows) = true := by decide +kernel
abbrev s_l_cell : Stmt := top 48
abbrev N_l_cell : List Str := ["script", "k", "seed", "cell"]
def b_l_cell : Ss :=
  (.cons (.ite (.cmp .Lt (.var 1) (.bi .len (.cons (.var 0) .nil))) (.cons (.ret (.yes (.idx (.var 0) (.var 1))))
    .nil) .nil)
    (.cons (.set 2 (.int 17))
    (.cons (.for_ (.nm 3) (.seq (.var 0)) (.cons (.set 2 (.bin .Mod (.bi .int (.cons (.bin .Add (.bin .Mult (.var 2) (.int 31)) (.bin .Mod (.bi .int (.cons (.var 3) .nil)) (.int 1000003))) .nil)) (.int 1000003)))
    .nil))
    (.cons (.ret (.yes (.bin .Mod (.bi .int (.cons (.bin .Mult (.bin .Mult (.bin .Add (.var 2) (.int 7)) (.bin .Add (.var 1) (.int 3))) (.int 69621)) .nil)) (.int 2147483647))))
    .nil))))
theorem sc_l_cell : FnScope N_l_cell ["script", "k"] (defScope s_l_cell) := ⟨rfl, rfl, rfl, by decide +kernel, rfl, by decide +kernel, by decide +kernel⟩
theorem c_l_cell : chSs N_l_cell (defScope s_l_cell) b_l_cell (defBody s_l_cell) = true := by decide +kernel
abbrev s_l_whole : Stmt := top 47
abbrev N_l_whole : List Str := ["value"]
def b_l_whole : Ss :=
  (.cons (.ret (.yes (.ands (.cons (.isi1 (.var 0) .int) (.cons (.not_ (.isi1 (.var 0) .bool)) .nil)))))
    .nil)
theorem sc_l_whole : FnScope N_l_whole ["value"] (defScope s_l_whole) := ⟨rfl, rfl, rfl, by decide +kernel, rfl, by decide +kernel, by decide +kernel⟩
theorem c_l_whole : chSs N_l_whole (defScope s_l_whole) b_l_whole (defBody s_l_whole) = true := by decide +kernel
abbrev s_l_is_cheapest : Stmt := top 61
abbrev N_l_is_cheapest : List Str := ["machine", "start", "goal", "row", "cost", "known", "whole", "item"]
def b_l_is_cheapest : Ss :=
  (.cons (.ite (.ors (.cons (.not_ (.isi1 (.var 3) .tuple)) (.cons (.cmp .GtE (.bi .len (.cons (.var 3) .nil)) (.idx (.var 0) (.int 0))) .nil))) (.cons (.ret (.yes (.bl false)))
    .nil) .nil)
    (.cons (.set 5 (.lst (.cons (.var 1) .nil)))
    (.cons (.set 6 (.int 0))
    (.cons (.for_ (.nm 7) (.seq (.var 3)) (.cons (.ite (.ors (.cons (.not_ (.call "_law_whole" (.cons (.var 7) .nil))) (.cons (.cmp .Lt (.var 7) (.int 0)) (.cons (.cmp .GtE (.var 7) (.bi .len (.cons (.idx (.var 0) (.int 1)) .nil))) (.cons (.cmp .NotEq (.idx (.idx (.idx (.var 0) (.int 1)) (.var 7)) (.int 0)) (.idx (.var 5) (.neg (.int 1)))) .nil))))) (.cons (.ret (.yes (.bl false)))
    .nil) .nil)
    (.cons (.ite (.cmp .In (.idx (.idx (.idx (.var 0) (.int 1)) (.var 7)) (.int 1)) (.var 5)) (.cons (.ret (.yes (.bl false)))
    .nil) .nil)
    (.cons (.app 5 (.idx (.idx (.idx (.var 0) (.int 1)) (.var 7)) (.int 1)))
    (.cons (.set 6 (.bin .Add (.var 6) (.idx (.idx (.idx (.var 0) (.int 1)) (.var 7)) (.int 3))))
    .nil)))))
    (.cons (.ret (.yes (.ands (.cons (.cmp .Eq (.idx (.var 5) (.neg (.int 1))) (.var 2)) (.cons (.cmp .Eq (.var 6) (.var 4)) .nil)))))
    .nil)))))
theorem sc_l_is_cheapest : FnScope N_l_is_cheapest ["machine", "start", "goal", "row", "cost"] (defScope s_l_is_cheapest) := ⟨rfl, rfl, rfl, by decide +kernel, rfl, by decide +kernel, by decide +kernel⟩
theorem c_l_is_cheapest : chSs N_l_is_cheapest (defScope s_l_is_cheapest) b_l_is_cheapest (defBody s_l_is_cheapest) = true := by decide +kernel
abbrev s_leaving_rows : Stmt := top 40
abbrev N_leaving_rows : List Str := ["steps", "size", "state", "index"]
def b_leaving_rows : Ss :=
  (.cons (.ret (.yes (.bi .tuple (.cons (.lc [("state", 2)] (.bi .tuple (.cons (.lc [("index", 3)] (.var 3) (.nm 3) (.rng (.bi .len (.cons (.var 0) .nil))) (.yes (.cmp .Eq (.idx (.idx (.var 0) (.var 3)) (.int 0)) (.var 2)))) .nil)) (.nm 2) (.rng (.var 1)) .no) .nil))))
    .nil)
theorem sc_leaving_rows : FnScope N_leaving_rows ["steps", "size"] (defScope s_leaving_rows) := ⟨rfl, rfl, rfl, by decide +kernel, rfl, by decide +kernel, by decide +kernel⟩
theorem c_leaving_rows : chSs N_leaving_rows (defScope s_leaving_rows) b_leaving_rows (defBody s_leaving_rows) = true := by decide +kernel
abbrev s_reached_from : Stmt := top 38
abbrev N_reached_from : List Str := ["steps", "size", "start", "told", "state", "_", "step"]
def b_reached_from : Ss :=
  (.cons (.set 3 (.lc [("state", 4)] (.cmp .Eq (.var 4) (.var 2)) (.nm 4) (.rng (.var 1)) .no))
    (.cons (.for_ (.nm 5) (.rng (.var 1)) (.cons (.for_ (.nm 6) (.seq (.var 0)) (.cons (.ite (.idx (.var 3) (.idx (.var 6) (.int 0))) (.cons (.setI 3 (.idx (.var 6) (.int 1)) (.bl true))
    .nil) .nil)
    .nil))
    .nil))
    (.cons (.ret (.yes (.var 3)))
    .nil)))
theorem sc_reached_from : FnScope N_reached_from ["steps", "size", "start"] (defScope s_reached_from) := ⟨rfl, rfl, rfl, by decide +kernel, rfl, by decide +kernel, by decide +kernel⟩
theorem c_reached_from : chSs N_reached_from (defScope s_reached_from) b_reached_from (defBody s_reached_from) = true := by decide +kernel
abbrev s_check_ways : Stmt := top 39
abbrev N_check_ways : List Str := ["steps", "size", "start", "reached", "goal"]
def b_check_ways : Ss :=
  (.cons (.for_ (.nm 2) (.rng (.var 1)) (.cons (.set 3 (.call "reached_from" (.cons (.var 0) (.cons (.var 1) (.cons (.var 2) .nil)))))
    (.cons (.for_ (.nm 4) (.rng (.var 1)) (.cons (.ite (.not_ (.idx (.var 3) (.var 4))) (.cons .bad
    .nil) .nil)
    .nil))
    .nil)))
    .nil)
theorem sc_check_ways : FnScope N_check_ways ["steps", "size"] (defScope s_check_ways) := ⟨rfl, rfl, rfl, by decide +kernel, rfl, by decide +kernel, by decide +kernel⟩
theorem c_check_ways : chSs N_check_ways (defScope s_check_ways) b_check_ways (defBody s_check_ways) = true := by decide +kernel
abbrev s_compare : Stmt := top 26
abbrev N_compare : List Str := ["a", "b", "left", "right"]
def b_compare : Ss :=
  (.cons (.set 2 (.bin .Mult (.idx (.var 0) (.int 0)) (.idx (.var 1) (.int 1))))
    (.cons (.set 3 (.bin .Mult (.idx (.var 1) (.int 0)) (.idx (.var 0) (.int 1))))
    (.cons (.ite (.cmp .Lt (.var 2) (.var 3)) (.cons (.ret (.yes (.neg (.int 1))))
    .nil) .nil)
    (.cons (.ite (.cmp .Gt (.var 2) (.var 3)) (.cons (.ret (.yes (.int 1)))
    .nil) .nil)
    (.cons (.ret (.yes (.int 0)))
    .nil)))))
theorem sc_compare : FnScope N_compare ["a", "b"] (defScope s_compare) := ⟨rfl, rfl, rfl, by decide +kernel, rfl, by decide +kernel, by decide +kernel⟩
theorem c_compare : chSs N_compare (defScope s_compare) b_compare (defBody s_compare) = true := by decide +kernel
abbrev s_lowest : Stmt := top 22
abbrev N_lowest : List Str := ["top", "bottom", "common"]
def b_lowest : Ss :=
  (.cons (.set 2 (.gcd (.cons (.var 0) (.cons (.var 1) .nil))))
    (.cons (.ite (.cmp .Lt (.var 1) (.int 0)) (.cons (.set 2 (.neg (.var 2)))
    .nil) .nil)
    (.cons (.ret (.yes (.tup (.cons (.bin .FloorDiv (.var 0) (.var 2)) (.cons (.bin .FloorDiv (.var 1) (.var 2)) .nil)))))
    .nil)))
theorem sc_lowest : FnScope N_lowest ["top", "bottom"] (defScope s_lowest) := ⟨rfl, rfl, rfl, by decide +kernel, rfl, by decide +kernel, by decide +kernel⟩
theorem c_lowest : chSs N_lowest (defScope s_lowest) b_lowest (defBody s_lowest) = true := by decide +kernel
abbrev s_plus : Stmt := top 23
abbrev N_plus : List Str := ["a", "b"]
def b_plus : Ss :=
  (.cons (.ret (.yes (.call "lowest" (.cons (.bin .Add (.bin .Mult (.idx (.var 0) (.int 0)) (.idx (.var 1) (.int 1))) (.bin .Mult (.idx (.var 1) (.int 0)) (.idx (.var 0) (.int 1)))) (.cons (.bin .Mult (.idx (.var 0) (.int 1)) (.idx (.var 1) (.int 1))) .nil)))))
    .nil)
theorem sc_plus : FnScope N_plus ["a", "b"] (defScope s_plus) := ⟨rfl, rfl, rfl, by decide +kernel, rfl, by decide +kernel, by decide +kernel⟩
theorem c_plus : chSs N_plus (defScope s_plus) b_plus (defBody s_plus) = true := by decide +kernel
abbrev s_times : Stmt := top 24
abbrev N_times : List Str := ["a", "b"]
def b_times : Ss :=
  (.cons (.ret (.yes (.call "lowest" (.cons (.bin .Mult (.idx (.var 0) (.int 0)) (.idx (.var 1) (.int 0))) (.cons (.bin .Mult (.idx (.var 0) (.int 1)) (.idx (.var 1) (.int 1))) .nil)))))
    .nil)
theorem sc_times : FnScope N_times ["a", "b"] (defScope s_times) := ⟨rfl, rfl, rfl, by decide +kernel, rfl, by decide +kernel, by decide +kernel⟩
theorem c_times : chSs N_times (defScope s_times) b_times (defBody s_times) = true := by decide +kernel
abbrev s_raised : Stmt := top 25
abbrev N_raised : List Str := ["a", "exponent", "top", "bottom", "_"]
def b_raised : Ss :=
  (.cons (.ite (.cmp .Lt (.var 1) (.int 0)) (.cons (.ite (.cmp .Eq (.idx (.var 0) (.int 0)) (.int 0)) (.cons .bad
    .nil) .nil)
    (.cons (.ret (.yes (.call "raised" (.cons (.call "lowest" (.cons (.idx (.var 0) (.int 1)) (.cons (.idx (.var 0) (.int 0)) .nil))) (.cons (.neg (.var 1)) .nil)))))
    .nil)) .nil)
    (.cons (.set 2 (.int 1))
    (.cons (.set 3 (.int 1))
    (.cons (.for_ (.nm 4) (.rng (.var 1)) (.cons (.set 2 (.bin .Mult (.var 2) (.idx (.var 0) (.int 0))))
    (.cons (.set 3 (.bin .Mult (.var 3) (.idx (.var 0) (.int 1))))
    .nil)))
    (.cons (.ret (.yes (.tup (.cons (.var 2) (.cons (.var 3) .nil)))))
    .nil)))))
theorem sc_raised : FnScope N_raised ["a", "exponent"] (defScope s_raised) := ⟨rfl, rfl, rfl, by decide +kernel, rfl, by decide +kernel, by decide +kernel⟩
theorem c_raised : chSs N_raised (defScope s_raised) b_raised (defBody s_raised) = true := by decide +kernel
abbrev s_step_chance : Stmt := top 36
abbrev N_step_chance : List Str := ["step", "e"]
def b_step_chance : Ss :=
  (.cons (.ret (.yes (.call "times" (.cons (.idx (.var 0) (.int 2)) (.cons (.call "raised" (.cons (.var 1) (.cons (.idx (.var 0) (.int 3)) .nil))) .nil)))))
    .nil)
theorem sc_step_chance : FnScope N_step_chance ["step", "e"] (defScope s_step_chance) := ⟨rfl, rfl, rfl, by decide +kernel, rfl, by decide +kernel, by decide +kernel⟩
theorem c_step_chance : chSs N_step_chance (defScope s_step_chance) b_step_chance (defBody s_step_chance) = true := by decide +kernel
abbrev s_chance_out : Stmt := top 37
abbrev N_chance_out : List Str := ["steps", "state", "e", "told", "step"]
def b_chance_out : Ss :=
  (.cons (.set 3 (.glob "ZERO"))
    (.cons (.for_ (.nm 4) (.seq (.var 0)) (.cons (.ite (.cmp .Eq (.idx (.var 4) (.int 0)) (.var 1)) (.cons (.set 3 (.call "plus" (.cons (.var 3) (.cons (.call "step_chance" (.cons (.var 4) (.cons (.var 2) .nil))) .nil))))
    .nil) .nil)
    .nil))
    (.cons (.ret (.yes (.var 3)))
    .nil)))
theorem sc_chance_out : FnScope N_chance_out ["steps", "state", "e"] (defScope s_chance_out) := ⟨rfl, rfl, rfl, by decide +kernel, rfl, by decide +kernel, by decide +kernel⟩
theorem c_chance_out : chSs N_chance_out (defScope s_chance_out) b_chance_out (defBody s_chance_out) = true := by decide +kernel
abbrev s_is_ratio : Stmt := top 27
abbrev N_is_ratio : List Str := ["value"]
def b_is_ratio : Ss :=
  (.cons (.ite (.ors (.cons (.not_ (.isi1 (.var 0) .tuple)) (.cons (.cmp .NotEq (.bi .len (.cons (.var 0) .nil)) (.int 2)) .nil))) (.cons (.ret (.yes (.bl false)))
    .nil) .nil)
    (.cons (.ite (.ors (.cons (.not_ (.call "is_whole" (.cons (.idx (.var 0) (.int 0)) .nil))) (.cons (.not_ (.call "is_whole" (.cons (.idx (.var 0) (.int 1)) .nil))) (.cons (.cmp .Lt (.idx (.var 0) (.int 1)) (.int 1)) .nil)))) (.cons (.ret (.yes (.bl false)))
    .nil) .nil)
    (.cons (.ret (.yes (.cmp .Eq (.gcd (.cons (.idx (.var 0) (.int 0)) (.cons (.idx (.var 0) (.int 1)) .nil))) (.int 1))))
    .nil)))
theorem sc_is_ratio : FnScope N_is_ratio ["value"] (defScope s_is_ratio) := ⟨rfl, rfl, rfl, by decide +kernel, rfl, by decide +kernel, by decide +kernel⟩
theorem c_is_ratio : chSs N_is_ratio (defScope s_is_ratio) b_is_ratio (defBody s_is_ratio) = true := by decide +kernel
abbrev s_is_positive : Stmt := top 28
abbrev N_is_positive : List Str := ["value"]
def b_is_positive : Ss :=
  (.cons (.ret (.yes (.ands (.cons (.call "is_ratio" (.cons (.var 0) .nil)) (.cons (.cmp .Gt (.idx (.var 0) (.int 0)) (.int 0)) .nil)))))
    .nil)
theorem sc_is_positive : FnScope N_is_positive ["value"] (defScope s_is_positive) := ⟨rfl, rfl, rfl, by decide +kernel, rfl, by decide +kernel, by decide +kernel⟩
theorem c_is_positive : chSs N_is_positive (defScope s_is_positive) b_is_positive (defBody s_is_positive) = true := by decide +kernel
abbrev s_is_row : Stmt := top 18
abbrev N_is_row : List Str := ["value", "size"]
def b_is_row : Ss :=
  (.cons (.ret (.yes (.ands (.cons (.isi (.var 0) [.list, .tuple]) (.cons (.cmp .Eq (.bi .len (.cons (.var 0) .nil)) (.var 1)) .nil)))))
    .nil)
theorem sc_is_row : FnScope N_is_row ["value", "size"] (defScope s_is_row) := ⟨rfl, rfl, rfl, by decide +kernel, rfl, by decide +kernel, by decide +kernel⟩
theorem c_is_row : chSs N_is_row (defScope s_is_row) b_is_row (defBody s_is_row) = true := by decide +kernel
abbrev s_is_step : Stmt := top 34
abbrev N_is_step : List Str := ["step", "size"]
def b_is_step : Ss :=
  (.cons (.ite (.ors (.cons (.not_ (.call "is_row" (.cons (.var 0) (.cons (.int 4) .nil)))) (.cons (.not_ (.call "is_state" (.cons (.idx (.var 0) (.int 0)) (.cons (.var 1) .nil)))) (.cons (.not_ (.call "is_state" (.cons (.idx (.var 0) (.int 1)) (.cons (.var 1) .nil)))) (.cons (.cmp .Eq (.idx (.var 0) (.int 0)) (.idx (.var 0) (.int 1))) .nil))))) (.cons (.ret (.yes (.bl false)))
    .nil) .nil)
    (.cons (.ret (.yes (.ands (.cons (.call "is_positive" (.cons (.idx (.var 0) (.int 2)) .nil)) (.cons (.call "is_whole" (.cons (.idx (.var 0) (.int 3)) .nil)) (.cons (.cmp2 .LtE .LtE (.int 0) (.idx (.var 0) (.int 3)) (.glob "MOST_COST")) .nil))))))
    .nil))
theorem sc_is_step : FnScope N_is_step ["step", "size"] (defScope s_is_step) := ⟨rfl, rfl, rfl, by decide +kernel, rfl, by decide +kernel, by decide +kernel⟩
theorem c_is_step : chSs N_is_step (defScope s_is_step) b_is_step (defBody s_is_step) = true := by decide +kernel
abbrev s_checked_steps : Stmt := top 35
abbrev N_checked_steps : List Str := ["steps", "size", "index"]
def b_checked_steps : Ss :=
  (.cons (.for_ (.nm 2) (.rng (.bi .len (.cons (.var 0) .nil))) (.cons (.ite (.not_ (.call "is_step" (.cons (.idx (.var 0) (.var 2)) (.cons (.var 1) .nil)))) (.cons .bad
    .nil) .nil)
    .nil))
    (.cons (.ret (.yes (.var 0)))
    .nil))
theorem sc_checked_steps : FnScope N_checked_steps ["steps", "size"] (defScope s_checked_steps) := ⟨rfl, rfl, rfl, by decide +kernel, rfl, by decide +kernel, by decide +kernel⟩
theorem c_checked_steps : chSs N_checked_steps (defScope s_checked_steps) b_checked_steps (defBody s_checked_steps) = true := by decide +kernel
abbrev s_frozen : Stmt := top 16
abbrev N_frozen : List Str := ["value", "item"]
def b_frozen : Ss :=
  (.cons (.ite (.isi (.var 0) [.list, .tuple]) (.cons (.ret (.yes (.bi .tuple (.cons (.lc [("item", 1)] (.call "frozen" (.cons (.var 1) .nil)) (.nm 1) (.seq (.var 0)) .no) .nil))))
    .nil) .nil)
    (.cons (.ret (.yes (.var 0)))
    .nil))
theorem sc_frozen : FnScope N_frozen ["value"] (defScope s_frozen) := ⟨rfl, rfl, rfl, by decide +kernel, rfl, by decide +kernel, by decide +kernel⟩
theorem c_frozen : chSs N_frozen (defScope s_frozen) b_frozen (defBody s_frozen) = true := by decide +kernel
abbrev s_is_name : Stmt := top 17
abbrev N_is_name : List Str := ["value", "char"]
def b_is_name : Ss :=
  (.cons (.ite (.ors (.cons (.not_ (.isi1 (.var 0) .str)) (.cons (.not_ (.cmp2 .LtE .LtE (.int 1) (.bi .len (.cons (.var 0) .nil)) (.int 12))) (.cons (.cmp .NotIn (.idx (.var 0) (.int 0)) (.glob "LETTERS")) .nil)))) (.cons (.ret (.yes (.bl false)))
    .nil) .nil)
    (.cons (.for_ (.nm 1) (.seq (.var 0)) (.cons (.ite (.ands (.cons (.cmp .NotIn (.var 1) (.glob "LETTERS")) (.cons (.cmp .NotIn (.var 1) (.glob "DIGITS")) (.cons (.cmp .NotEq (.var 1) (.str "-")) .nil)))) (.cons (.ret (.yes (.bl false)))
    .nil) .nil)
    .nil))
    (.cons (.ret (.yes (.bl true)))
    .nil)))
theorem sc_is_name : FnScope N_is_name ["value"] (defScope s_is_name) := ⟨rfl, rfl, rfl, by decide +kernel, rfl, by decide +kernel, by decide +kernel⟩
theorem c_is_name : chSs N_is_name (defScope s_is_name) b_is_name (defBody s_is_name) = true := by decide +kernel
abbrev s_checked_names : Stmt := top 32
abbrev N_checked_names : List Str := ["names", "index"]
def b_checked_names : Ss :=
  (.cons (.ite (.cmp .Eq (.bi .len (.cons (.var 0) .nil)) (.int 0)) (.cons .bad
    .nil) .nil)
    (.cons (.for_ (.nm 1) (.rng (.bi .len (.cons (.var 0) .nil))) (.cons (.ite (.ors (.cons (.not_ (.call "is_name" (.cons (.idx (.var 0) (.var 1)) .nil))) (.cons (.cmp .In (.idx (.var 0) (.var 1)) (.slc (.var 0) .no (.yes (.var 1)))) .nil))) (.cons .bad
    .nil) .nil)
    .nil))
    (.cons (.ret (.yes (.var 0)))
    .nil)))
theorem sc_checked_names : FnScope N_checked_names ["names"] (defScope s_checked_names) := ⟨rfl, rfl, rfl, by decide +kernel, rfl, by decide +kernel, by decide +kernel⟩
theorem c_checked_names : chSs N_checked_names (defScope s_checked_names) b_checked_names (defBody s_checked_names) = true := by decide +kernel
abbrev s_Machine : Stmt := inClass (top 31) 0
abbrev N_Machine : List Str := ["self", "names", "steps", "first", "state"]
def b_Machine : Ss :=
  (.cons (.setF 0 "names" (.call "checked_names" (.cons (.call "frozen" (.cons (.var 1) .nil)) .nil)))
    (.cons (.setF 0 "steps" (.call "checked_steps" (.cons (.call "frozen" (.cons (.var 2) .nil)) (.cons (.bi .len (.cons (.fld (.var 0) "names") .nil)) .nil))))
    (.cons (.ite (.ors (.cons (.not_ (.call "is_positive" (.cons (.var 3) .nil))) (.cons (.cmp .Gt (.call "compare" (.cons (.var 3) (.cons (.glob "ONE") .nil))) (.int 0)) .nil))) (.cons .bad
    .nil) .nil)
    (.cons (.setF 0 "first" (.var 3))
    (.cons (.for_ (.nm 4) (.rng (.bi .len (.cons (.fld (.var 0) "names") .nil))) (.cons (.ite (.cmp .Gt (.call "compare" (.cons (.call "chance_out" (.cons (.fld (.var 0) "steps") (.cons (.var 4) (.cons (.var 3) .nil)))) (.cons (.glob "ONE") .nil))) (.int 0)) (.cons .bad
    .nil) .nil)
    .nil))
    (.cons (.exp (.call "check_ways" (.cons (.fld (.var 0) "steps") (.cons (.bi .len (.cons (.fld (.var 0) "names") .nil)) .nil))))
    (.cons (.setF 0 "leaving" (.call "leaving_rows" (.cons (.fld (.var 0) "steps") (.cons (.bi .len (.cons (.fld (.var 0) "names") .nil)) .nil))))
    .nil)))))))
theorem sc_Machine : FnScope N_Machine ["self", "names", "steps", "first"] (defScope s_Machine) := ⟨rfl, rfl, rfl, by decide +kernel, rfl, by decide +kernel, by decide +kernel⟩
theorem c_Machine : chSs N_Machine (defScope s_Machine) b_Machine (defBody s_Machine) = true := by decide +kernel
abbrev s_Machine_len : Stmt := inClass (top 31) 2
abbrev N_Machine_len : List Str := ["self"]
def b_Machine_len : Ss :=
  (.cons (.ret (.yes (.bi .len (.cons (.fld (.var 0) "names") .nil))))
    .nil)
theorem sc_Machine_len : FnScope N_Machine_len ["self"] (defScope s_Machine_len) := ⟨rfl, rfl, rfl, by decide +kernel, rfl, by decide +kernel, by decide +kernel⟩
theorem c_Machine_len : chSs N_Machine_len (defScope s_Machine_len) b_Machine_len (defBody s_Machine_len) = true := by decide +kernel
abbrev s_spread : Stmt := top 42
abbrev N_spread : List Str := ["machine", "start", "costs", "_", "last", "index", "step", "cost"]
def b_spread : Ss :=
  (.cons (.set 2 (.lc [("_", 3)] .non (.nm 3) (.rng (.lenm (.var 0))) .no))
    (.cons (.set 4 (.lc [("_", 3)] .non (.nm 3) (.rng (.lenm (.var 0))) .no))
    (.cons (.setI 2 (.var 1) (.int 0))
    (.cons (.for_ (.nm 3) (.rng (.lenm (.var 0))) (.cons (.for_ (.nm 5) (.rng (.bi .len (.cons (.fld (.var 0) "steps") .nil))) (.cons (.set 6 (.idx (.fld (.var 0) "steps") (.var 5)))
    (.cons (.ite (.cmp .IsNot (.idx (.var 2) (.idx (.var 6) (.int 0))) .non) (.cons (.set 7 (.bin .Add (.idx (.var 2) (.idx (.var 6) (.int 0))) (.idx (.var 6) (.int 3))))
    (.cons (.ite (.ors (.cons (.cmp .Is (.idx (.var 2) (.idx (.var 6) (.int 1))) .non) (.cons (.cmp .Lt (.var 7) (.idx (.var 2) (.idx (.var 6) (.int 1)))) .nil))) (.cons (.setI 2 (.idx (.var 6) (.int 1)) (.var 7))
    (.cons (.setI 4 (.idx (.var 6) (.int 1)) (.var 5))
    .nil)) .nil)
    .nil)) .nil)
    .nil)))
    .nil))
    (.cons (.ret (.yes (.tup (.cons (.var 2) (.cons (.var 4) .nil)))))
    .nil)))))
theorem sc_spread : FnScope N_spread ["machine", "start"] (defScope s_spread) := ⟨rfl, rfl, rfl, by decide +kernel, rfl, by decide +kernel, by decide +kernel⟩
theorem c_spread : chSs N_spread (defScope s_spread) b_spread (defBody s_spread) = true := by decide +kernel
abbrev s_cheapest_way : Stmt := top 44
abbrev N_cheapest_way : List Str := ["machine", "start", "goal", "last", "row", "at"]
def b_cheapest_way : Ss :=
  (.cons (.set 3 (.idx (.call "spread" (.cons (.var 0) (.cons (.var 1) .nil))) (.int 1)))
    (.cons (.set 4 (.lst .nil))
    (.cons (.set 5 (.var 2))
    (.cons (.whl (.cmp .NotEq (.var 5) (.var 1)) (.cons (.app 4 (.idx (.var 3) (.var 5)))
    (.cons (.set 5 (.idx (.idx (.fld (.var 0) "steps") (.idx (.var 3) (.var 5))) (.int 0)))
    .nil)))
    (.cons (.ret (.yes (.sqr true (.var 4))))
    .nil)))))
theorem sc_cheapest_way : FnScope N_cheapest_way ["machine", "start", "goal"] (defScope s_cheapest_way) := ⟨rfl, rfl, rfl, by decide +kernel, rfl, by decide +kernel, by decide +kernel⟩
theorem c_cheapest_way : chSs N_cheapest_way (defScope s_cheapest_way) b_cheapest_way (defBody s_cheapest_way) = true := by decide +kernel
abbrev s_way_costs : Stmt := top 43
abbrev N_way_costs : List Str := ["machine", "start"]
def b_way_costs : Ss :=
  (.cons (.ret (.yes (.bi .tuple (.cons (.idx (.call "spread" (.cons (.var 0) (.cons (.var 1) .nil))) (.int 0)) .nil))))
    .nil)
theorem sc_way_costs : FnScope N_way_costs ["machine", "start"] (defScope s_way_costs) := ⟨rfl, rfl, rfl, by decide +kernel, rfl, by decide +kernel, by decide +kernel⟩
theorem c_way_costs : chSs N_way_costs (defScope s_way_costs) b_way_costs (defBody s_way_costs) = true := by decide +kernel
abbrev s_l_costs : Stmt := top 59
abbrev N_l_costs : List Str := ["machine", "start", "told", "x", "turn", "step", "cost"]
def b_l_costs : Ss :=
  (.cons (.set 2 (.lc [("x", 3)] .non (.nm 3) (.rng (.idx (.var 0) (.int 0))) .no))
    (.cons (.setI 2 (.var 1) (.int 0))
    (.cons (.for_ (.nm 4) (.rng (.idx (.var 0) (.int 0))) (.cons (.for_ (.nm 5) (.seq (.idx (.var 0) (.int 1))) (.cons (.ite (.cmp .IsNot (.idx (.var 2) (.idx (.var 5) (.int 0))) .non) (.cons (.set 6 (.bin .Add (.idx (.var 2) (.idx (.var 5) (.int 0))) (.idx (.var 5) (.int 3))))
    (.cons (.ite (.ors (.cons (.cmp .Is (.idx (.var 2) (.idx (.var 5) (.int 1))) .non) (.cons (.cmp .Lt (.var 6) (.idx (.var 2) (.idx (.var 5) (.int 1)))) .nil))) (.cons (.setI 2 (.idx (.var 5) (.int 1)) (.var 6))
    .nil) .nil)
    .nil)) .nil)
    .nil))
    .nil))
    (.cons (.ret (.yes (.var 2)))
    .nil))))
theorem sc_l_costs : FnScope N_l_costs ["machine", "start"] (defScope s_l_costs) := ⟨rfl, rfl, rfl, by decide +kernel, rfl, by decide +kernel, by decide +kernel⟩
theorem c_l_costs : chSs N_l_costs (defScope s_l_costs) b_l_costs (defBody s_l_costs) = true := by decide +kernel
abbrev s_l_from : Stmt := top 63
abbrev N_l_from : List Str := ["built", "machine", "start", "costs", "told", "goal", "row", "other"]
def b_l_from : Ss :=
  (.cons (.set 3 (.call "_law_costs" (.cons (.var 1) (.cons (.var 2) .nil))))
    (.cons (.set 4 (.call "way_costs" (.cons (.var 0) (.cons (.var 2) .nil))))
    (.cons (.ite (.ors (.cons (.not_ (.isi1 (.var 4) .tuple)) (.cons (.cmp .NotEq (.bi .len (.cons (.var 4) .nil)) (.idx (.var 1) (.int 0))) .nil))) (.cons (.ret (.yes (.bl false)))
    .nil) .nil)
    (.cons (.for_ (.nm 5) (.rng (.idx (.var 1) (.int 0))) (.cons (.ite (.ors (.cons (.not_ (.call "_law_whole" (.cons (.idx (.var 4) (.var 5)) .nil))) (.cons (.cmp .NotEq (.idx (.var 4) (.var 5)) (.idx (.var 3) (.var 5))) .nil))) (.cons (.ret (.yes (.bl false)))
    .nil) .nil)
    .nil))
    (.cons (.for_ (.nm 5) (.rng (.idx (.var 1) (.int 0))) (.cons (.set 6 (.call "cheapest_way" (.cons (.var 0) (.cons (.var 2) (.cons (.var 5) .nil)))))
    (.cons (.ite (.not_ (.call "_law_is_cheapest" (.cons (.var 1) (.cons (.var 2) (.cons (.var 5) (.cons (.var 6) (.cons (.idx (.var 3) (.var 5)) .nil))))))) (.cons (.ret (.yes (.bl false)))
    .nil) .nil)
    (.cons (.for_ (.nm 7) (.rng (.idx (.var 1) (.int 0))) (.cons (.ite (.not_ (.call "_law_says" (.cons (.var 0) (.cons (.var 1) (.cons (.var 2) (.cons (.var 7) (.cons (.bi .list (.cons (.var 6) .nil)) .nil))))))) (.cons (.ret (.yes (.bl false)))
    .nil) .nil)
    .nil))
    .nil))))
    (.cons (.ret (.yes (.bl true)))
    .nil))))))
theorem sc_l_from : FnScope N_l_from ["built", "machine", "start"] (defScope s_l_from) := ⟨rfl, rfl, rfl, by decide +kernel, rfl, by decide +kernel, by decide +kernel⟩
theorem c_l_from : chSs N_l_from (defScope s_l_from) b_l_from (defBody s_l_from) = true := by decide +kernel
abbrev s_l_names : Stmt := top 53
abbrev N_l_names : List Str := ["many", "menu", "k"]
def b_l_names : Ss :=
  (.cons (.set 1 (.lst (.cons (.str "a") (.cons (.str "b2") (.cons (.str "c-3") (.cons (.str "dee") (.cons (.str "e") (.cons (.str "f") (.cons (.str "g") (.cons (.str "h") (.cons (.str "i") (.cons (.str "j") (.cons (.str "k") (.cons (.str "l") (.cons (.str "m") (.cons (.str "n") (.cons (.str "o") (.cons (.str "p") .nil))))))))))))))))))
    (.cons (.ret (.yes (.lc [("k", 2)] (.idx (.var 1) (.var 2)) (.nm 2) (.rng (.var 0)) .no)))
    .nil))
theorem sc_l_names : FnScope N_l_names ["many"] (defScope s_l_names) := ⟨rfl, rfl, rfl, by decide +kernel, rfl, by decide +kernel, by decide +kernel⟩
theorem c_l_names : chSs N_l_names (defScope s_l_names) b_l_names (defBody s_l_names) = true := by decide +kernel
abbrev s_l_build : Stmt := top 54
abbrev N_l_build : List Str := ["machine", "step"]
def b_l_build : Ss :=
  (.cons (.ret (.yes (.callk "Machine" (.cons (.call "_law_names" (.cons (.idx (.var 0) (.int 0)) .nil)) (.cons (.lc [("step", 1)] (.bi .list (.cons (.var 1) .nil)) (.nm 1) (.seq (.idx (.var 0) (.int 1))) .no) .nil)) ["first"] (.cons (.tup (.cons (.int 1) (.cons (.int 1) .nil))) .nil))))
    .nil)
theorem sc_l_build : FnScope N_l_build ["machine"] (defScope s_l_build) := ⟨rfl, rfl, rfl, by decide +kernel, rfl, by decide +kernel, by decide +kernel⟩
theorem c_l_build : chSs N_l_build (defScope s_l_build) b_l_build (defBody s_l_build) = true := by decide +kernel
abbrev s_l_twin : Stmt := top 58
abbrev N_l_twin : List Str := ["machine", "cell", "parts", "dear", "steps", "k"]
def b_l_twin : Ss :=
  (.cons (.set 2 (.call "_law_digits" (.cons (.var 1) (.cons (.bin .Add (.lst (.cons (.int 4) .nil)) (.bin .Mult (.lst (.cons (.int 61) .nil)) (.bi .len (.cons (.idx (.var 0) (.int 1)) .nil)))) .nil))))
    (.cons (.set 3 (.idx (.lst (.cons (.int 2) (.cons (.int 6) (.cons (.int 20) (.cons (.int 61) .nil))))) (.idx (.var 2) (.int 0))))
    (.cons (.set 4 (.idx (.var 0) (.int 1)))
    (.cons (.ret (.yes (.lst (.cons (.idx (.var 0) (.int 0)) (.cons (.lc [("k", 5)] (.tup (.cons (.idx (.idx (.var 4) (.var 5)) (.int 0)) (.cons (.idx (.idx (.var 4) (.var 5)) (.int 1)) (.cons (.idx (.idx (.var 4) (.var 5)) (.int 2)) (.cons (.bin .Mod (.bi .int (.cons (.idx (.var 2) (.bin .Add (.int 1) (.var 5))) .nil)) (.var 3)) .nil))))) (.nm 5) (.rng (.bi .len (.cons (.var 4) .nil))) .no) .nil)))))
    .nil))))
theorem sc_l_twin : FnScope N_l_twin ["machine", "cell"] (defScope s_l_twin) := ⟨rfl, rfl, rfl, by decide +kernel, rfl, by decide +kernel, by decide +kernel⟩
theorem c_l_twin : chSs N_l_twin (defScope s_l_twin) b_l_twin (defBody s_l_twin) = true := by decide +kernel
abbrev s_l_gcd : Stmt := top 50
abbrev N_l_gcd : List Str := ["one", "two", "rest"]
def b_l_gcd : Ss :=
  (.cons (.set 0 (.bi .abs (.cons (.var 0) .nil)))
    (.cons (.set 1 (.bi .abs (.cons (.var 1) .nil)))
    (.cons (.whl (.cmp .NotEq (.var 1) (.int 0)) (.cons (.set 2 (.bin .Mod (.bi .int (.cons (.var 0) .nil)) (.var 1)))
    (.cons (.set 0 (.var 1))
    (.cons (.set 1 (.var 2))
    .nil))))
    (.cons (.ret (.yes (.var 0)))
    .nil))))
theorem sc_l_gcd : FnScope N_l_gcd ["one", "two"] (defScope s_l_gcd) := ⟨rfl, rfl, rfl, by decide +kernel, rfl, by decide +kernel, by decide +kernel⟩
theorem c_l_gcd : chSs N_l_gcd (defScope s_l_gcd) b_l_gcd (defBody s_l_gcd) = true := by decide +kernel
abbrev s_l_ratio : Stmt := top 51
abbrev N_l_ratio : List Str := ["top", "bottom", "common"]
def b_l_ratio : Ss :=
  (.cons (.set 2 (.call "_law_gcd" (.cons (.var 0) (.cons (.var 1) .nil))))
    (.cons (.ite (.cmp .Lt (.var 1) (.int 0)) (.cons (.set 2 (.neg (.var 2)))
    .nil) .nil)
    (.cons (.ret (.yes (.tup (.cons (.bin .FloorDiv (.var 0) (.var 2)) (.cons (.bin .FloorDiv (.var 1) (.var 2)) .nil)))))
    .nil)))
theorem sc_l_ratio : FnScope N_l_ratio ["top", "bottom"] (defScope s_l_ratio) := ⟨rfl, rfl, rfl, by decide +kernel, rfl, by decide +kernel, by decide +kernel⟩
theorem c_l_ratio : chSs N_l_ratio (defScope s_l_ratio) b_l_ratio (defBody s_l_ratio) = true := by decide +kernel
abbrev s_l_machine : Stmt := top 52
abbrev N_l_machine : List Str := ["script", "at", "least", "more", "dear", "shape", "n", "kind", "half", "steps", "x", "row", "mine", "total", "y", "step", "part", "there", "cost", "turned"]
def b_l_machine : Ss :=
  (.cons (.set 5 (.call "_law_digits" (.cons (.call "_law_cell" (.cons (.var 0) (.cons (.var 1) .nil))) (.cons (.lst (.cons (.int 9) (.cons (.var 3) (.cons (.bin .Add (.var 4) (.int 1)) (.cons (.int 97) (.cons (.int 2) .nil)))))) .nil))))
    (.cons (.set 6 (.bin .Add (.var 2) (.idx (.var 5) (.int 1))))
    (.cons (.set 7 (.idx (.var 5) (.int 0)))
    (.cons (.set 8 (.bin .FloorDiv (.bin .Add (.var 6) (.int 1)) (.int 2)))
    (.cons (.set 9 (.lst .nil))
    (.cons (.for_ (.nm 10) (.rng (.var 6)) (.cons (.set 11 (.call "_law_digits" (.cons (.call "_law_cell" (.cons (.var 0) (.cons (.bin .Add (.bin .Add (.var 1) (.int 1)) (.var 10)) .nil))) (.cons (.bin .Add (.bin .Mult (.lst (.cons (.int 6) (.cons (.bin .Add (.var 4) (.int 1)) (.cons (.int 4) (.cons (.int 7) .nil))))) (.var 6)) (.lst (.cons (.int 3) .nil))) .nil))))
    (.cons (.set 12 (.lst .nil))
    (.cons (.set 13 (.idx (.var 11) (.bin .Mult (.int 4) (.var 6))))
    (.cons (.for_ (.nm 14) (.rng (.var 6)) (.cons (.set 16 (.slc (.var 11) (.yes (.bin .Mult (.int 4) (.var 14))) (.yes (.bin .Add (.bin .Mult (.int 4) (.var 14)) (.int 4)))))
    (.cons (.set 17 (.cmp .Lt (.idx (.var 16) (.int 0)) (.int 4)))
    (.cons (.set 18 (.idx (.var 16) (.int 1)))
    (.cons (.ite (.ors (.cons (.cmp .Eq (.var 7) (.int 2)) (.cons (.cmp .Eq (.var 7) (.int 3)) .nil))) (.cons (.set 18 (.bin .FloorDiv (.idx (.var 16) (.int 1)) (.int 3)))
    (.cons (.ite (.cmp .NotEq (.bi .int (.cons (.cmp .Lt (.var 10) (.var 8)) .nil)) (.bi .int (.cons (.cmp .Lt (.var 14) (.var 8)) .nil))) (.cons (.set 18 (.bin .Sub (.var 4) (.bin .FloorDiv (.idx (.var 16) (.int 1)) (.int 3))))
    (.cons (.set 17 (.cmp .Lt (.idx (.var 16) (.int 0)) (.int 2)))
    .nil)) .nil)
    .nil)) .nil)
    (.cons (.ite (.cmp .Eq (.var 7) (.int 4)) (.cons (.set 18 (.bi .min (.cons (.var 4) (.cons (.bin .Add (.bin .FloorDiv (.bin .Mult (.var 4) (.bi .max (.cons (.var 10) (.cons (.var 14) .nil)))) (.var 6)) (.bin .Mod (.idx (.var 16) (.int 1)) (.int 2))) .nil))))
    .nil) .nil)
    (.cons (.ite (.cmp .Eq (.var 7) (.int 5)) (.cons (.set 18 (.bi .min (.cons (.var 4) (.cons (.bin .Add (.idx (.var 5) (.int 2)) (.bin .FloorDiv (.idx (.var 16) (.int 3)) (.int 6))) .nil))))
    .nil) .nil)
    (.cons (.ite (.ands (.cons (.cmp .Eq (.var 7) (.int 7)) (.cons (.cmp .Lt (.idx (.var 16) (.int 3)) (.int 4)) .nil))) (.cons (.set 18 (.int 0))
    .nil) .nil)
    (.cons (.ite (.cmp .Eq (.var 14) (.bin .Mod (.bin .Add (.var 10) (.int 1)) (.var 6))) (.cons (.set 17 (.bl true))
    .nil) .nil)
    (.cons (.ite (.cmp .Eq (.var 7) (.int 6)) (.cons (.set 17 (.cmp .Eq (.bi .abs (.cons (.bin .Sub (.var 10) (.var 14)) .nil)) (.int 1)))
    .nil) .nil)
    (.cons (.ite (.ands (.cons (.cmp .NotEq (.var 14) (.var 10)) (.cons (.var 17) .nil))) (.cons (.app 12 (.lst (.cons (.var 14) (.cons (.bin .Add (.idx (.var 16) (.int 2)) (.int 1)) (.cons (.var 18) .nil)))))
    (.cons (.set 13 (.bin .Add (.bin .Add (.var 13) (.idx (.var 16) (.int 2))) (.int 1)))
    (.cons (.ite (.ands (.cons (.cmp .Eq (.var 7) (.int 8)) (.cons (.cmp .Lt (.idx (.var 16) (.int 3)) (.int 3)) .nil))) (.cons (.app 12 (.lst (.cons (.var 14) (.cons (.bin .Add (.idx (.var 16) (.int 3)) (.int 1)) (.cons (.bin .Mod (.bi .int (.cons (.bin .Add (.idx (.var 16) (.int 1)) (.idx (.var 16) (.int 3))) .nil)) (.bin .Add (.var 4) (.int 1))) .nil)))))
    (.cons (.set 13 (.bin .Add (.bin .Add (.var 13) (.idx (.var 16) (.int 3))) (.int 1)))
    .nil)) .nil)
    .nil))) .nil)
    .nil)))))))))))
    (.cons (.for_ (.nm 15) (.seq (.var 12)) (.cons (.app 9 (.tup (.cons (.var 10) (.cons (.idx (.var 15) (.int 0)) (.cons (.call "_law_ratio" (.cons (.idx (.var 15) (.int 1)) (.cons (.var 13) .nil))) (.cons (.idx (.var 15) (.int 2)) .nil))))))
    .nil))
    .nil))))))
    (.cons (.set 19 (.bin .Mod (.bi .int (.cons (.idx (.var 5) (.int 3)) .nil)) (.bi .max (.cons (.int 1) (.cons (.bi .len (.cons (.var 9) .nil)) .nil)))))
    (.cons (.ite (.cmp .Eq (.idx (.var 5) (.int 4)) (.int 1)) (.cons (.set 9 (.bin .Add (.slc (.var 9) (.yes (.var 19)) .no) (.slc (.var 9) .no (.yes (.var 19)))))
    .nil) .nil)
    (.cons (.ret (.yes (.lst (.cons (.var 6) (.cons (.var 9) .nil)))))
    .nil)))))))))
theorem sc_l_machine : FnScope N_l_machine ["script", "at", "least", "more", "dear"] (defScope s_l_machine) := ⟨rfl, rfl, rfl, by decide +kernel, rfl, by decide +kernel, by decide +kernel⟩
theorem c_l_machine : chSs N_l_machine (defScope s_l_machine) b_l_machine (defBody s_l_machine) = true := by decide +kernel
abbrev s_l_road : Stmt := top 56
abbrev N_l_road : List Str := ["n", "cell", "parts", "wide", "steps", "x", "goals", "y", "cost"]
def b_l_road : Ss :=
  (.cons (.set 2 (.call "_law_digits" (.cons (.var 1) (.cons (.bin .Add (.bin .Mult (.lst (.cons (.int 3) (.cons (.int 4) .nil))) (.bin .Mult (.var 0) (.var 0))) (.lst (.cons (.int 3) (.cons (.int 3) .nil)))) .nil))))
    (.cons (.set 3 (.bin .Add (.int 1) (.idx (.var 2) (.bin .Mult (.bin .Mult (.int 2) (.var 0)) (.var 0)))))
    (.cons (.set 4 (.lst .nil))
    (.cons (.for_ (.nm 5) (.rng (.var 0)) (.cons (.set 6 (.lc [("y", 7)] (.var 7) (.nm 7) (.rng (.var 0)) (.yes (.ands (.cons (.cmp .NotEq (.var 7) (.var 5)) (.cons (.ors (.cons (.cmp .Eq (.bin .Mod (.bi .int (.cons (.bin .Sub (.var 7) (.var 5)) .nil)) (.var 0)) (.int 1)) (.cons (.cmp .Eq (.idx (.var 2) (.bin .Mult (.int 2) (.bin .Add (.bin .Mult (.var 5) (.var 0)) (.var 7)))) (.int 0)) .nil))) .nil))))))
    (.cons (.for_ (.nm 7) (.seq (.var 6)) (.cons (.set 8 (.bin .Mult (.var 3) (.bin .Mod (.bi .int (.cons (.bin .Sub (.var 7) (.var 5)) .nil)) (.var 0))))
    (.cons (.ite (.cmp .Gt (.bin .Mod (.bi .int (.cons (.bin .Sub (.var 7) (.var 5)) .nil)) (.var 0)) (.int 1)) (.cons (.set 8 (.bi .max (.cons (.int 0) (.cons (.bin .Sub (.bin .Add (.var 8) (.idx (.var 2) (.bin .Add (.bin .Mult (.int 2) (.bin .Add (.bin .Mult (.var 5) (.var 0)) (.var 7))) (.int 1)))) (.int 2)) .nil))))
    .nil) .nil)
    (.cons (.app 4 (.tup (.cons (.var 5) (.cons (.var 7) (.cons (.tup (.cons (.int 1) (.cons (.bi .len (.cons (.var 6) .nil)) .nil))) (.cons (.var 8) .nil))))))
    .nil))))
    .nil)))
    (.cons (.ite (.cmp .Gt (.idx (.var 2) (.bin .Add (.bin .Mult (.bin .Mult (.int 2) (.var 0)) (.var 0)) (.int 1))) (.int 0)) (.cons (.set 4 (.sqr false (.var 4)))
    .nil) .nil)
    (.cons (.ret (.yes (.lst (.cons (.var 0) (.cons (.var 4) .nil)))))
    .nil))))))
theorem sc_l_road : FnScope N_l_road ["n", "cell"] (defScope s_l_road) := ⟨rfl, rfl, rfl, by decide +kernel, rfl, by decide +kernel, by decide +kernel⟩
theorem c_l_road : chSs N_l_road (defScope s_l_road) b_l_road (defBody s_l_road) = true := by decide +kernel
abbrev s_l_fitting : Stmt := top 55
abbrev N_l_fitting : List Str := ["machine", "steps", "known", "surplus", "step"]
def b_l_fitting : Ss :=
  (.cons (.set 1 (.lst .nil))
    (.cons (.set 2 (.lst .nil))
    (.cons (.set 3 (.bin .Sub (.bi .len (.cons (.idx (.var 0) (.int 1)) .nil)) (.int 240)))
    (.cons (.for_ (.nm 4) (.seq (.idx (.var 0) (.int 1))) (.cons (.ite (.ands (.cons (.cmp .In (.tup (.cons (.idx (.var 4) (.int 0)) (.cons (.idx (.var 4) (.int 1)) .nil))) (.var 2)) (.cons (.cmp .Gt (.var 3) (.int 0)) .nil))) (.cons (.set 3 (.bin .Sub (.var 3) (.int 1)))
    .nil) (.cons (.app 2 (.tup (.cons (.idx (.var 4) (.int 0)) (.cons (.idx (.var 4) (.int 1)) .nil))))
    (.cons (.app 1 (.var 4))
    .nil)))
    .nil))
    (.cons (.ret (.yes (.lst (.cons (.idx (.var 0) (.int 0)) (.cons (.var 1) .nil)))))
    .nil)))))
theorem sc_l_fitting : FnScope N_l_fitting ["machine"] (defScope s_l_fitting) := ⟨rfl, rfl, rfl, by decide +kernel, rfl, by decide +kernel, by decide +kernel⟩
theorem c_l_fitting : chSs N_l_fitting (defScope s_l_fitting) b_l_fitting (defBody s_l_fitting) = true := by decide +kernel
abbrev s_l_drawn : Stmt := top 57
abbrev N_l_drawn : List Str := ["script", "shape", "dear"]
def b_l_drawn : Ss :=
  (.cons (.set 1 (.call "_law_digits" (.cons (.call "_law_cell" (.cons (.var 0) (.cons (.int 0) .nil))) (.cons (.lst (.cons (.int 18) (.cons (.int 12) (.cons (.int 15) .nil)))) .nil))))
    (.cons (.set 2 (.idx (.lst (.cons (.int 5) (.cons (.int 5) (.cons (.int 3) (.cons (.int 60) (.cons (.int 9) (.cons (.int 2) (.cons (.int 20) (.cons (.int 60) (.cons (.int 0) (.cons (.int 1) (.cons (.int 12) (.cons (.int 33) .nil))))))))))))) (.idx (.var 1) (.int 1))))
    (.cons (.ite (.cmp .Lt (.idx (.var 1) (.int 0)) (.int 3)) (.cons (.ret (.yes (.call "_law_fitting" (.cons (.call "_law_machine" (.cons (.var 0) (.cons (.int 10) (.cons (.int 6) (.cons (.int 11) (.cons (.var 2) .nil)))))) .nil))))
    .nil) .nil)
    (.cons (.ite (.cmp .Lt (.idx (.var 1) (.int 0)) (.int 6)) (.cons (.ret (.yes (.call "_law_road" (.cons (.bin .Add (.int 2) (.idx (.var 1) (.int 2))) (.cons (.call "_law_cell" (.cons (.var 0) (.cons (.int 10) .nil))) .nil)))))
    .nil) .nil)
    (.cons (.ite (.cmp .Eq (.idx (.var 1) (.int 0)) (.int 6)) (.cons (.ret (.yes (.lst (.cons (.int 1) (.cons (.lst .nil) .nil)))))
    .nil) .nil)
    (.cons (.ret (.yes (.call "_law_machine" (.cons (.var 0) (.cons (.int 10) (.cons (.int 2) (.cons (.int 5) (.cons (.var 2) .nil))))))))
    .nil))))))
theorem sc_l_drawn : FnScope N_l_drawn ["script"] (defScope s_l_drawn) := ⟨rfl, rfl, rfl, by decide +kernel, rfl, by decide +kernel, by decide +kernel⟩
theorem c_l_drawn : chSs N_l_drawn (defScope s_l_drawn) b_l_drawn (defBody s_l_drawn) = true := by decide +kernel
abbrev s_law : Stmt := top 68
abbrev N_law : List Str := ["script", "machine", "twin", "built", "other", "parts", "starts", "part", "x", "start", "k"]
def b_law : Ss :=
  (.cons (.set 1 (.call "_law_drawn" (.cons (.var 0) .nil)))
    (.cons (.set 2 (.call "_law_twin" (.cons (.var 1) (.cons (.call "_law_cell" (.cons (.var 0) (.cons (.int 1) .nil))) .nil))))
    (.cons (.set 3 (.call "_law_build" (.cons (.var 1) .nil)))
    (.cons (.set 4 (.call "_law_build" (.cons (.var 2) .nil)))
    (.cons (.set 5 (.call "_law_digits" (.cons (.call "_law_cell" (.cons (.var 0) (.cons (.int 2) .nil))) (.cons (.bin .Mult (.lst (.cons (.int 16) .nil)) (.int 4)) .nil))))
    (.cons (.set 6 (.lc [("part", 7)] (.bin .Mod (.bi .int (.cons (.var 7) .nil)) (.idx (.var 1) (.int 0))) (.nm 7) (.seq (.var 5)) .no))
    (.cons (.ite (.cmp .LtE (.idx (.var 1) (.int 0)) (.int 6)) (.cons (.set 6 (.lc [("x", 8)] (.var 8) (.nm 8) (.rng (.idx (.var 1) (.int 0))) .no))
    .nil) .nil)
    (.cons (.for_ (.nm 9) (.seq (.var 6)) (.cons (.ite (.ors (.cons (.not_ (.call "_law_from" (.cons (.var 3) (.cons (.var 1) (.cons (.var 9) .nil))))) (.cons (.not_ (.call "_law_from" (.cons (.var 4) (.cons (.var 2) (.cons (.var 9) .nil))))) .nil))) (.cons (.ret (.yes (.bl false)))
    .nil) .nil)
    .nil))
    (.cons (.for_ (.nm 10) (.rng (.int 3)) (.cons (.ite (.not_ (.call "_law_rows" (.cons (.var 3) (.cons (.var 1) (.cons (.call "_law_cell" (.cons (.var 0) (.cons (.bin .Add (.int 3) (.var 10)) .nil))) .nil))))) (.cons (.ret (.yes (.bl false)))
    .nil) .nil)
    .nil))
    (.cons (.ret (.yes (.ands (.cons (.call "_law_from" (.cons (.var 3) (.cons (.var 1) (.cons (.idx (.var 6) (.int 0)) .nil)))) (.cons (.call "_law_rows" (.cons (.var 4) (.cons (.var 2) (.cons (.call "_law_cell" (.cons (.var 0) (.cons (.int 6) .nil))) .nil)))) .nil)))))
    .nil))))))))))
theorem sc_law : FnScope N_law ["script"] (defScope s_law) := ⟨rfl, rfl, rfl, by decide +kernel, rfl, by decide +kernel, by decide +kernel⟩
theorem c_law : chSs N_law (defScope s_law) b_law (defBody s_law) = true := by decide +kernel
def gs : List (Str × D) := [("ZERO", .tup [.int (0), .int (1)]), ("MOST_COST", .int (60)), ("DIGITS", .str "0123456789"), ("LETTERS", .str "abcdefghijklmnopqrstuvwxyz"), ("ONE", .tup [.int (1), .int (1)])]
def cs : List (Str × List Str) := [("Machine", ["names", "steps", "first", "leaving"])]
def T_0 : Tab := tab0 (2 ^ 200) gs cs true
def F_l_put : List D → Res D := runFn T_0 3 b_l_put
abbrev TP_l_put : Tab := T_0
def T_l_put : Tab := T_0.add "_law_put" 3 F_l_put
def F_l_near : List D → Res D := runFn T_l_put 9 b_l_near
abbrev TP_l_near : Tab := T_l_put
def T_l_near : Tab := T_l_put.add "_law_near" 3 F_l_near
def F_is_whole : List D → Res D := runFn T_l_near 1 b_is_whole
abbrev TP_is_whole : Tab := T_l_near
def T_is_whole : Tab := T_l_near.add "is_whole" 1 F_is_whole
def F_is_state : List D → Res D := runFn T_is_whole 2 b_is_state
abbrev TP_is_state : Tab := T_is_whole
def T_is_state : Tab := T_is_whole.add "is_state" 2 F_is_state
def F_is_way : List D → Res D := runFn T_is_state 6 b_is_way
abbrev TP_is_way : Tab := T_is_state
def T_is_way : Tab := T_is_state.add "is_way" 4 F_is_way
def F_l_leads : List D → Res D := runFn T_is_way 6 b_l_leads
abbrev TP_l_leads : Tab := T_is_way
def T_l_leads : Tab := T_is_way.add "_law_leads" 4 F_l_leads
def F_l_says : List D → Res D := runFn T_l_leads 8 b_l_says
abbrev TP_l_says : Tab := T_l_leads
def T_l_says : Tab := T_l_leads.add "_law_says" 5 F_l_says
def F_l_walk : List D → Res D := runFn T_l_says 9 b_l_walk
abbrev TP_l_walk : Tab := T_l_says
def T_l_walk : Tab := T_l_says.add "_law_walk" 4 F_l_walk
def F_l_digits : List D → Res D := runFn T_l_walk 8 b_l_digits
abbrev TP_l_digits : Tab := T_l_walk
def T_l_digits : Tab := T_l_walk.add "_law_digits" 2 F_l_digits
def F_l_rows : List D → Res D := runFn T_l_digits 9 b_l_rows
abbrev TP_l_rows : Tab := T_l_digits
def T_l_rows : Tab := T_l_digits.add "_law_rows" 3 F_l_rows
def F_l_cell : List D → Res D := runFn T_l_rows 4 b_l_cell
abbrev TP_l_cell : Tab := T_l_rows
def T_l_cell : Tab := T_l_rows.add "_law_cell" 2 F_l_cell
def F_l_whole : List D → Res D := runFn T_l_cell 1 b_l_whole
abbrev TP_l_whole : Tab := T_l_cell
def T_l_whole : Tab := T_l_cell.add "_law_whole" 1 F_l_whole
def F_l_is_cheapest : List D → Res D := runFn T_l_whole 8 b_l_is_cheapest
abbrev TP_l_is_cheapest : Tab := T_l_whole
def T_l_is_cheapest : Tab := T_l_whole.add "_law_is_cheapest" 5 F_l_is_cheapest
def F_leaving_rows : List D → Res D := runFn T_l_is_cheapest 4 b_leaving_rows
abbrev TP_leaving_rows : Tab := T_l_is_cheapest
def T_leaving_rows : Tab := T_l_is_cheapest.add "leaving_rows" 2 F_leaving_rows
def F_reached_from : List D → Res D := runFn T_leaving_rows 7 b_reached_from
abbrev TP_reached_from : Tab := T_leaving_rows
def T_reached_from : Tab := T_leaving_rows.add "reached_from" 3 F_reached_from
def F_check_ways : List D → Res D := runFn T_reached_from 5 b_check_ways
abbrev TP_check_ways : Tab := T_reached_from
def T_check_ways : Tab := T_reached_from.add "check_ways" 2 F_check_ways
def F_compare : List D → Res D := runFn T_check_ways 4 b_compare
abbrev TP_compare : Tab := T_check_ways
def T_compare : Tab := T_check_ways.add "compare" 2 F_compare
def F_lowest : List D → Res D := runFn T_compare 3 b_lowest
abbrev TP_lowest : Tab := T_compare
def T_lowest : Tab := T_compare.add "lowest" 2 F_lowest
def F_plus : List D → Res D := runFn T_lowest 2 b_plus
abbrev TP_plus : Tab := T_lowest
def T_plus : Tab := T_lowest.add "plus" 2 F_plus
def F_times : List D → Res D := runFn T_plus 2 b_times
abbrev TP_times : Tab := T_plus
def T_times : Tab := T_plus.add "times" 2 F_times
def F_raised : List D → Res D := runRec T_times "raised" 2 5 b_raised 6
abbrev TP_raised : Tab := T_times
def T_raised : Tab := T_times.add "raised" 2 F_raised
def F_step_chance : List D → Res D := runFn T_raised 2 b_step_chance
abbrev TP_step_chance : Tab := T_raised
def T_step_chance : Tab := T_raised.add "step_chance" 2 F_step_chance
def F_chance_out : List D → Res D := runFn T_step_chance 5 b_chance_out
abbrev TP_chance_out : Tab := T_step_chance
def T_chance_out : Tab := T_step_chance.add "chance_out" 3 F_chance_out
def F_is_ratio : List D → Res D := runFn T_chance_out 1 b_is_ratio
abbrev TP_is_ratio : Tab := T_chance_out
def T_is_ratio : Tab := T_chance_out.add "is_ratio" 1 F_is_ratio
def F_is_positive : List D → Res D := runFn T_is_ratio 1 b_is_positive
abbrev TP_is_positive : Tab := T_is_ratio
def T_is_positive : Tab := T_is_ratio.add "is_positive" 1 F_is_positive
def F_is_row : List D → Res D := runFn T_is_positive 2 b_is_row
abbrev TP_is_row : Tab := T_is_positive
def T_is_row : Tab := T_is_positive.add "is_row" 2 F_is_row
def F_is_step : List D → Res D := runFn T_is_row 2 b_is_step
abbrev TP_is_step : Tab := T_is_row
def T_is_step : Tab := T_is_row.add "is_step" 2 F_is_step
def F_checked_steps : List D → Res D := runFn T_is_step 3 b_checked_steps
abbrev TP_checked_steps : Tab := T_is_step
def T_checked_steps : Tab := T_is_step.add "checked_steps" 2 F_checked_steps
def F_frozen : List D → Res D := runRec T_checked_steps "frozen" 1 2 b_frozen 6
abbrev TP_frozen : Tab := T_checked_steps
def T_frozen : Tab := T_checked_steps.add "frozen" 1 F_frozen
def F_is_name : List D → Res D := runFn T_frozen 2 b_is_name
abbrev TP_is_name : Tab := T_frozen
def T_is_name : Tab := T_frozen.add "is_name" 1 F_is_name
def F_checked_names : List D → Res D := runFn T_is_name 2 b_checked_names
abbrev TP_checked_names : Tab := T_is_name
def T_checked_names : Tab := T_is_name.add "checked_names" 1 F_checked_names
abbrev TP_Machine : Tab := T_checked_names
def F_Machine : List D → Res D := runInit T_checked_names "Machine" 5 b_Machine
def T_Machine : Tab := T_checked_names.addk "Machine" 2 ["first"] F_Machine
def F_Machine_len : List D → Res D := runFn T_Machine 1 b_Machine_len
abbrev TP_Machine_len : Tab := T_Machine
def T_Machine_len : Tab := T_Machine.addm "Machine" "__len__" 0 F_Machine_len
def F_spread : List D → Res D := runFn T_Machine_len 8 b_spread
abbrev TP_spread : Tab := T_Machine_len
def T_spread : Tab := T_Machine_len.add "spread" 2 F_spread
def F_cheapest_way : List D → Res D := runFn T_spread 6 b_cheapest_way
abbrev TP_cheapest_way : Tab := T_spread
def T_cheapest_way : Tab := T_spread.add "cheapest_way" 3 F_cheapest_way
def F_way_costs : List D → Res D := runFn T_cheapest_way 2 b_way_costs
abbrev TP_way_costs : Tab := T_cheapest_way
def T_way_costs : Tab := T_cheapest_way.add "way_costs" 2 F_way_costs
def F_l_costs : List D → Res D := runFn T_way_costs 7 b_l_costs
abbrev TP_l_costs : Tab := T_way_costs
def T_l_costs : Tab := T_way_costs.add "_law_costs" 2 F_l_costs
def F_l_from : List D → Res D := runFn T_l_costs 8 b_l_from
abbrev TP_l_from : Tab := T_l_costs
def T_l_from : Tab := T_l_costs.add "_law_from" 3 F_l_from
def F_l_names : List D → Res D := runFn T_l_from 3 b_l_names
abbrev TP_l_names : Tab := T_l_from
def T_l_names : Tab := T_l_from.add "_law_names" 1 F_l_names
def F_l_build : List D → Res D := runFn T_l_names 2 b_l_build
abbrev TP_l_build : Tab := T_l_names
def T_l_build : Tab := T_l_names.add "_law_build" 1 F_l_build
def F_l_twin : List D → Res D := runFn T_l_build 6 b_l_twin
abbrev TP_l_twin : Tab := T_l_build
def T_l_twin : Tab := T_l_build.add "_law_twin" 2 F_l_twin
def F_l_gcd : List D → Res D := runFn T_l_twin 3 b_l_gcd
abbrev TP_l_gcd : Tab := T_l_twin
def T_l_gcd : Tab := T_l_twin.add "_law_gcd" 2 F_l_gcd
def F_l_ratio : List D → Res D := runFn T_l_gcd 3 b_l_ratio
abbrev TP_l_ratio : Tab := T_l_gcd
def T_l_ratio : Tab := T_l_gcd.add "_law_ratio" 2 F_l_ratio
def F_l_machine : List D → Res D := runFn T_l_ratio 20 b_l_machine
abbrev TP_l_machine : Tab := T_l_ratio
def T_l_machine : Tab := T_l_ratio.add "_law_machine" 5 F_l_machine
def F_l_road : List D → Res D := runFn T_l_machine 9 b_l_road
abbrev TP_l_road : Tab := T_l_machine
def T_l_road : Tab := T_l_machine.add "_law_road" 2 F_l_road
def F_l_fitting : List D → Res D := runFn T_l_road 5 b_l_fitting
abbrev TP_l_fitting : Tab := T_l_road
def T_l_fitting : Tab := T_l_road.add "_law_fitting" 1 F_l_fitting
def F_l_drawn : List D → Res D := runFn T_l_fitting 3 b_l_drawn
abbrev TP_l_drawn : Tab := T_l_fitting
def T_l_drawn : Tab := T_l_fitting.add "_law_drawn" 1 F_l_drawn
def F_law : List D → Res D := runFn T_l_drawn 11 b_law
abbrev TP_law : Tab := T_l_drawn
theorem t_l_near_l_put : T_l_put.fn "_law_put" 3 = some F_l_put := Tab.add_same
theorem t_is_state_is_whole : T_is_whole.fn "is_whole" 1 = some F_is_whole := Tab.add_same
theorem t_is_way_is_state : T_is_state.fn "is_state" 2 = some F_is_state := Tab.add_same
theorem t_l_says_is_way : T_l_leads.fn "is_way" 4 = some F_is_way := (Tab.add_ne (by decide +kernel)).trans (Tab.add_same)
theorem t_l_says_l_leads : T_l_leads.fn "_law_leads" 4 = some F_l_leads := Tab.add_same
theorem t_l_rows_l_near : T_l_digits.fn "_law_near" 3 = some F_l_near := (Tab.add_ne (by decide +kernel)).trans ((Tab.add_ne (by decide +kernel)).trans ((Tab.add_ne (by decide +kernel)).trans ((Tab.add_ne (by decide +kernel)).trans ((Tab.add_ne (by decide +kernel)).trans ((Tab.add_ne (by decide +kernel)).trans ((Tab.add_ne (by decide +kernel)).trans (Tab.add_same)))))))
theorem t_l_rows_l_says : T_l_digits.fn "_law_says" 5 = some F_l_says := (Tab.add_ne (by decide +kernel)).trans ((Tab.add_ne (by decide +kernel)).trans (Tab.add_same))
theorem t_l_rows_l_walk : T_l_digits.fn "_law_walk" 4 = some F_l_walk := (Tab.add_ne (by decide +kernel)).trans (Tab.add_same)
theorem t_l_rows_l_digits : T_l_digits.fn "_law_digits" 2 = some F_l_digits := Tab.add_same
theorem t_l_is_cheapest_l_whole : T_l_whole.fn "_law_whole" 1 = some F_l_whole := Tab.add_same
theorem t_check_ways_reached_from : T_reached_from.fn "reached_from" 3 = some F_reached_from := Tab.add_same
theorem t_plus_lowest : T_lowest.fn "lowest" 2 = some F_lowest := Tab.add_same
theorem t_times_lowest : T_plus.fn "lowest" 2 = some F_lowest := (Tab.add_ne (by decide +kernel)).trans (Tab.add_same)
theorem t_raised_lowest : T_times.fn "lowest" 2 = some F_lowest := (Tab.add_ne (by decide +kernel)).trans ((Tab.add_ne (by decide +kernel)).trans (Tab.add_same))
theorem t_step_chance_times : T_raised.fn "times" 2 = some F_times := (Tab.add_ne (by decide +kernel)).trans (Tab.add_same)
theorem t_step_chance_raised : T_raised.fn "raised" 2 = some F_raised := Tab.add_same
theorem t_chance_out_plus : T_step_chance.fn "plus" 2 = some F_plus := (Tab.add_ne (by decide +kernel)).trans ((Tab.add_ne (by decide +kernel)).trans ((Tab.add_ne (by decide +kernel)).trans (Tab.add_same)))
theorem t_chance_out_step_chance : T_step_chance.fn "step_chance" 2 = some F_step_chance := Tab.add_same
theorem t_is_ratio_is_whole : T_chance_out.fn "is_whole" 1 = some F_is_whole := (Tab.add_ne (by decide +kernel)).trans ((Tab.add_ne (by decide +kernel)).trans ((Tab.add_ne (by decide +kernel)).trans ((Tab.add_ne (by decide +kernel)).trans ((Tab.add_ne (by decide +kernel)).trans ((Tab.add_ne (by decide +kernel)).trans ((Tab.add_ne (by decide +kernel)).trans ((Tab.add_ne (by decide +kernel)).trans ((Tab.add_ne (by decide +kernel)).trans ((Tab.add_ne (by decide +kernel)).trans ((Tab.add_ne (by decide +kernel)).trans ((Tab.add_ne (by decide +kernel)).trans ((Tab.add_ne (by decide +kernel)).trans ((Tab.add_ne (by decide +kernel)).trans ((Tab.add_ne (by decide +kernel)).trans ((Tab.add_ne (by decide +kernel)).trans ((Tab.add_ne (by decide +kernel)).trans ((Tab.add_ne (by decide +kernel)).trans ((Tab.add_ne (by decide +kernel)).trans ((Tab.add_ne (by decide +kernel)).trans (Tab.add_same))))))))))))))))))))
theorem t_is_positive_is_ratio : T_is_ratio.fn "is_ratio" 1 = some F_is_ratio := Tab.add_same
theorem t_is_step_is_whole : T_is_row.fn "is_whole" 1 = some F_is_whole := (Tab.add_ne (by decide +kernel)).trans ((Tab.add_ne (by decide +kernel)).trans ((Tab.add_ne (by decide +kernel)).trans ((Tab.add_ne (by decide +kernel)).trans ((Tab.add_ne (by decide +kernel)).trans ((Tab.add_ne (by decide +kernel)).trans ((Tab.add_ne (by decide +kernel)).trans ((Tab.add_ne (by decide +kernel)).trans ((Tab.add_ne (by decide +kernel)).trans ((Tab.add_ne (by decide +kernel)).trans ((Tab.add_ne (by decide +kernel)).trans ((Tab.add_ne (by decide +kernel)).trans ((Tab.add_ne (by decide +kernel)).trans ((Tab.add_ne (by decide +kernel)).trans ((Tab.add_ne (by decide +kernel)).trans ((Tab.add_ne (by decide +kernel)).trans ((Tab.add_ne (by decide +kernel)).trans ((Tab.add_ne (by decide +kernel)).trans ((Tab.add_ne (by decide +kernel)).trans ((Tab.add_ne (by decide +kernel)).trans ((Tab.add_ne (by decide +kernel)).trans ((Tab.add_ne (by decide +kernel)).trans ((Tab.add_ne (by decide +kernel)).trans (Tab.add_same)))))))))))))))))))))))
theorem t_is_step_is_positive : T_is_row.fn "is_positive" 1 = some F_is_positive := (Tab.add_ne (by decide +kernel)).trans (Tab.add_same)
theorem t_is_step_is_state : T_is_row.fn "is_state" 2 = some F_is_state := (Tab.add_ne (by decide +kernel)).trans ((Tab.add_ne (by decide +kernel)).trans ((Tab.add_ne (by decide +kernel)).trans ((Tab.add_ne (by decide +kernel)).trans ((Tab.add_ne (by decide +kernel)).trans ((Tab.add_ne (by decide +kernel)).trans ((Tab.add_ne (by decide +kernel)).trans ((Tab.add_ne (by decide +kernel)).trans ((Tab.add_ne (by decide +kernel)).trans ((Tab.add_ne (by decide +kernel)).trans ((Tab.add_ne (by decide +kernel)).trans ((Tab.add_ne (by decide +kernel)).trans ((Tab.add_ne (by decide +kernel)).trans ((Tab.add_ne (by decide +kernel)).trans ((Tab.add_ne (by decide +kernel)).trans ((Tab.add_ne (by decide +kernel)).trans ((Tab.add_ne (by decide +kernel)).trans ((Tab.add_ne (by decide +kernel)).trans ((Tab.add_ne (by decide +kernel)).trans ((Tab.add_ne (by decide +kernel)).trans ((Tab.add_ne (by decide +kernel)).trans ((Tab.add_ne (by decide +kernel)).trans (Tab.add_same))))))))))))))))))))))
theorem t_is_step_is_row : T_is_row.fn "is_row" 2 = some F_is_row := Tab.add_same
theorem t_checked_steps_is_step : T_is_step.fn "is_step" 2 = some F_is_step := Tab.add_same
theorem t_checked_names_is_name : T_is_name.fn "is_name" 1 = some F_is_name := Tab.add_same
theorem t_Machine_leaving_rows : T_checked_names.fn "leaving_rows" 2 = some F_leaving_rows := (Tab.add_ne (by decide +kernel)).trans ((Tab.add_ne (by decide +kernel)).trans ((Tab.add_ne (by decide +kernel)).trans ((Tab.add_ne (by decide +kernel)).trans ((Tab.add_ne (by decide +kernel)).trans ((Tab.add_ne (by decide +kernel)).trans ((Tab.add_ne (by decide +kernel)).trans ((Tab.add_ne (by decide +kernel)).trans ((Tab.add_ne (by decide +kernel)).trans ((Tab.add_ne (by decide +kernel)).trans ((Tab.add_ne (by decide +kernel)).trans ((Tab.add_ne (by decide +kernel)).trans ((Tab.add_ne (by decide +kernel)).trans ((Tab.add_ne (by decide +kernel)).trans ((Tab.add_ne (by decide +kernel)).trans ((Tab.add_ne (by decide +kernel)).trans ((Tab.add_ne (by decide +kernel)).trans (Tab.add_same)))))))))))))))))
theorem t_Machine_check_ways : T_checked_names.fn "check_ways" 2 = some F_check_ways := (Tab.add_ne (by decide +kernel)).trans ((Tab.add_ne (by decide +kernel)).trans ((Tab.add_ne (by decide +kernel)).trans ((Tab.add_ne (by decide +kernel)).trans ((Tab.add_ne (by decide +kernel)).trans ((Tab.add_ne (by decide +kernel)).trans ((Tab.add_ne (by decide +kernel)).trans ((Tab.add_ne (by decide +kernel)).trans ((Tab.add_ne (by decide +kernel)).trans ((Tab.add_ne (by decide +kernel)).trans ((Tab.add_ne (by decide +kernel)).trans ((Tab.add_ne (by decide +kernel)).trans ((Tab.add_ne (by decide +kernel)).trans ((Tab.add_ne (by decide +kernel)).trans ((Tab.add_ne (by decide +kernel)).trans (Tab.add_same)))))))))))))))
theorem t_Machine_compare : T_checked_names.fn "compare" 2 = some F_compare := (Tab.add_ne (by decide +kernel)).trans ((Tab.add_ne (by decide +kernel)).trans ((Tab.add_ne (by decide +kernel)).trans ((Tab.add_ne (by decide +kernel)).trans ((Tab.add_ne (by decide +kernel)).trans ((Tab.add_ne (by decide +kernel)).trans ((Tab.add_ne (by decide +kernel)).trans ((Tab.add_ne (by decide +kernel)).trans ((Tab.add_ne (by decide +kernel)).trans ((Tab.add_ne (by decide +kernel)).trans ((Tab.add_ne (by decide +kernel)).trans ((Tab.add_ne (by decide +kernel)).trans ((Tab.add_ne (by decide +kernel)).trans ((Tab.add_ne (by decide +kernel)).trans (Tab.add_same))))))))))))))
theorem t_Machine_chance_out : T_checked_names.fn "chance_out" 3 = some F_chance_out := (Tab.add_ne (by decide +kernel)).trans ((Tab.add_ne (by decide +kernel)).trans ((Tab.add_ne (by decide +kernel)).trans ((Tab.add_ne (by decide +kernel)).trans ((Tab.add_ne (by decide +kernel)).trans ((Tab.add_ne (by decide +kernel)).trans ((Tab.add_ne (by decide +kernel)).trans ((Tab.add_ne (by decide +kernel)).trans (Tab.add_same))))))))
theorem t_Machine_is_positive : T_checked_names.fn "is_positive" 1 = some F_is_positive := (Tab.add_ne (by decide +kernel)).trans ((Tab.add_ne (by decide +kernel)).trans ((Tab.add_ne (by decide +kernel)).trans ((Tab.add_ne (by decide +kernel)).trans ((Tab.add_ne (by decide +kernel)).trans ((Tab.add_ne (by decide +kernel)).trans (Tab.add_same))))))
theorem t_Machine_checked_steps : T_checked_names.fn "checked_steps" 2 = some F_checked_steps := (Tab.add_ne (by decide +kernel)).trans ((Tab.add_ne (by decide +kernel)).trans ((Tab.add_ne (by decide +kernel)).trans (Tab.add_same)))
theorem t_Machine_frozen : T_checked_names.fn "frozen" 1 = some F_frozen := (Tab.add_ne (by decide +kernel)).trans ((Tab.add_ne (by decide +kernel)).trans (Tab.add_same))
theorem t_Machine_checked_names : T_checked_names.fn "checked_names" 1 = some F_checked_names := Tab.add_same
theorem t_spread_Machine_len : T_Machine_len.mt "Machine" "__len__" 0 = some F_Machine_len := Tab.addm_same
theorem t_cheapest_way_spread : T_spread.fn "spread" 2 = some F_spread := Tab.add_same
theorem t_way_costs_spread : T_cheapest_way.fn "spread" 2 = some F_spread := (Tab.add_ne (by decide +kernel)).trans (Tab.add_same)
theorem t_l_from_l_says : T_l_costs.fn "_law_says" 5 = some F_l_says := (Tab.add_ne (by decide +kernel)).trans ((Tab.add_ne (by decide +kernel)).trans ((Tab.add_ne (by decide +kernel)).trans ((Tab.add_ne (by decide +kernel)).trans (Tab.addm_fn.trans (Tab.addk_fn.trans ((Tab.add_ne (by decide +kernel)).trans ((Tab.add_ne (by decide +kernel)).trans ((Tab.add_ne (by decide +kernel)).trans ((Tab.add_ne (by decide +kernel)).trans ((Tab.add_ne (by decide +kernel)).trans ((Tab.add_ne (by decide +kernel)).trans ((Tab.add_ne (by decide +kernel)).trans ((Tab.add_ne (by decide +kernel)).trans ((Tab.add_ne (by decide +kernel)).trans ((Tab.add_ne (by decide +kernel)).trans ((Tab.add_ne (by decide +kernel)).trans ((Tab.add_ne (by decide +kernel)).trans ((Tab.add_ne (by decide +kernel)).trans ((Tab.add_ne (by decide +kernel)).trans ((Tab.add_ne (by decide +kernel)).trans ((Tab.add_ne (by decide +kernel)).trans ((Tab.add_ne (by decide +kernel)).trans ((Tab.add_ne (by decide +kernel)).trans ((Tab.add_ne (by decide +kernel)).trans ((Tab.add_ne (by decide +kernel)).trans ((Tab.add_ne (by decide +kernel)).trans ((Tab.add_ne (by decide +kernel)).trans ((Tab.add_ne (by decide +kernel)).trans ((Tab.add_ne (by decide +kernel)).trans (Tab.add_same))))))))))))))))))))))))))))))
theorem t_l_from_l_is_cheapest : T_l_costs.fn "_law_is_cheapest" 5 = some F_l_is_cheapest := (Tab.add_ne (by decide +kernel)).trans ((Tab.add_ne (by decide +kernel)).trans ((Tab.add_ne (by decide +kernel)).trans ((Tab.add_ne (by decide +kernel)).trans (Tab.addm_fn.trans (Tab.addk_fn.trans ((Tab.add_ne (by decide +kernel)).trans ((Tab.add_ne (by decide +kernel)).trans ((Tab.add_ne (by decide +kernel)).trans ((Tab.add_ne (by decide +kernel)).trans ((Tab.add_ne (by decide +kernel)).trans ((Tab.add_ne (by decide +kernel)).trans ((Tab.add_ne (by decide +kernel)).trans ((Tab.add_ne (by decide +kernel)).trans ((Tab.add_ne (by decide +kernel)).trans ((Tab.add_ne (by decide +kernel)).trans ((Tab.add_ne (by decide +kernel)).trans ((Tab.add_ne (by decide +kernel)).trans ((Tab.add_ne (by decide +kernel)).trans ((Tab.add_ne (by decide +kernel)).trans ((Tab.add_ne (by decide +kernel)).trans ((Tab.add_ne (by decide +kernel)).trans ((Tab.add_ne (by decide +kernel)).trans ((Tab.add_ne (by decide +kernel)).trans (Tab.add_same))))))))))))))))))))))))
theorem t_l_from_cheapest_way : T_l_costs.fn "cheapest_way" 3 = some F_cheapest_way := (Tab.add_ne (by decide +kernel)).trans ((Tab.add_ne (by decide +kernel)).trans (Tab.add_same))
theorem t_l_from_l_whole : T_l_costs.fn "_law_whole" 1 = some F_l_whole := (Tab.add_ne (by decide +kernel)).trans ((Tab.add_ne (by decide +kernel)).trans ((Tab.add_ne (by decide +kernel)).trans ((Tab.add_ne (by decide +kernel)).trans (Tab.addm_fn.trans (Tab.addk_fn.trans ((Tab.add_ne (by decide +kernel)).trans ((Tab.add_ne (by decide +kernel)).trans ((Tab.add_ne (by decide +kernel)).trans ((Tab.add_ne (by decide +kernel)).trans ((Tab.add_ne (by decide +kernel)).trans ((Tab.add_ne (by decide +kernel)).trans ((Tab.add_ne (by decide +kernel)).trans ((Tab.add_ne (by decide +kernel)).trans ((Tab.add_ne (by decide +kernel)).trans ((Tab.add_ne (by decide +kernel)).trans ((Tab.add_ne (by decide +kernel)).trans ((Tab.add_ne (by decide +kernel)).trans ((Tab.add_ne (by decide +kernel)).trans ((Tab.add_ne (by decide +kernel)).trans ((Tab.add_ne (by decide +kernel)).trans ((Tab.add_ne (by decide +kernel)).trans ((Tab.add_ne (by decide +kernel)).trans ((Tab.add_ne (by decide +kernel)).trans ((Tab.add_ne (by decide +kernel)).trans (Tab.add_same)))))))))))))))))))))))))
theorem t_l_from_way_costs : T_l_costs.fn "way_costs" 2 = some F_way_costs := (Tab.add_ne (by decide +kernel)).trans (Tab.add_same)
theorem t_l_from_l_costs : T_l_costs.fn "_law_costs" 2 = some F_l_costs := Tab.add_same
theorem t_l_build_Machine : T_l_names.fk "Machine" 2 ["first"] = some F_Machine := Tab.add_fk.trans (Tab.add_fk.trans (Tab.add_fk.trans (Tab.add_fk.trans (Tab.add_fk.trans (Tab.add_fk.trans (Tab.addm_fk.trans (Tab.addk_same)))))))
theorem t_l_build_l_names : T_l_names.fn "_law_names" 1 = some F_l_names := Tab.add_same
theorem t_l_twin_l_digits : T_l_build.fn "_law_digits" 2 = some F_l_digits := (Tab.add_ne (by decide +kernel)).trans ((Tab.add_ne (by decide +kernel)).trans ((Tab.add_ne (by decide +kernel)).trans ((Tab.add_ne (by decide +kernel)).trans ((Tab.add_ne (by decide +kernel)).trans ((Tab.add_ne (by decide +kernel)).trans ((Tab.add_ne (by decide +kernel)).trans (Tab.addm_fn.trans (Tab.addk_fn.trans ((Tab.add_ne (by decide +kernel)).trans ((Tab.add_ne (by decide +kernel)).trans ((Tab.add_ne (by decide +kernel)).trans ((Tab.add_ne (by decide +kernel)).trans ((Tab.add_ne (by decide +kernel)).trans ((Tab.add_ne (by decide +kernel)).trans ((Tab.add_ne (by decide +kernel)).trans ((Tab.add_ne (by decide +kernel)).trans ((Tab.add_ne (by decide +kernel)).trans ((Tab.add_ne (by decide +kernel)).trans ((Tab.add_ne (by decide +kernel)).trans ((Tab.add_ne (by decide +kernel)).trans ((Tab.add_ne (by decide +kernel)).trans ((Tab.add_ne (by decide +kernel)).trans ((Tab.add_ne (by decide +kernel)).trans ((Tab.add_ne (by decide +kernel)).trans ((Tab.add_ne (by decide +kernel)).trans ((Tab.add_ne (by decide +kernel)).trans ((Tab.add_ne (by decide +kernel)).trans ((Tab.add_ne (by decide +kernel)).trans ((Tab.add_ne (by decide +kernel)).trans ((Tab.add_ne (by decide +kernel)).trans (Tab.add_same)))))))))))))))))))))))))))))))
theorem t_l_ratio_l_gcd : T_l_gcd.fn "_law_gcd" 2 = some F_l_gcd := Tab.add_same
theorem t_l_machine_l_ratio : T_l_ratio.fn "_law_ratio" 2 = some F_l_ratio := Tab.add_same
theorem t_l_machine_l_digits : T_l_ratio.fn "_law_digits" 2 = some F_l_digits := (Tab.add_ne (by decide +kernel)).trans ((Tab.add_ne (by decide +kernel)).trans ((Tab.add_ne (by decide +kernel)).trans ((Tab.add_ne (by decide +kernel)).trans ((Tab.add_ne (by decide +kernel)).trans ((Tab.add_ne (by decide +kernel)).trans ((Tab.add_ne (by decide +kernel)).trans ((Tab.add_ne (by decide +kernel)).trans ((Tab.add_ne (by decide +kernel)).trans ((Tab.add_ne (by decide +kernel)).trans (Tab.addm_fn.trans (Tab.addk_fn.trans ((Tab.add_ne (by decide +kernel)).trans ((Tab.add_ne (by decide +kernel)).trans ((Tab.add_ne (by decide +kernel)).trans ((Tab.add_ne (by decide +kernel)).trans ((Tab.add_ne (by decide +kernel)).trans ((Tab.add_ne (by decide +kernel)).trans ((Tab.add_ne (by decide +kernel)).trans ((Tab.add_ne (by decide +kernel)).trans ((Tab.add_ne (by decide +kernel)).trans ((Tab.add_ne (by decide +kernel)).trans ((Tab.add_ne (by decide +kernel)).trans ((Tab.add_ne (by decide +kernel)).trans ((Tab.add_ne (by decide +kernel)).trans ((Tab.add_ne (by decide +kernel)).trans ((Tab.add_ne (by decide +kernel)).trans ((Tab.add_ne (by decide +kernel)).trans ((Tab.add_ne (by decide +kernel)).trans ((Tab.add_ne (by decide +kernel)).trans ((Tab.add_ne (by decide +kernel)).trans ((Tab.add_ne (by decide +kernel)).trans ((Tab.add_ne (by decide +kernel)).trans ((Tab.add_ne (by decide +kernel)).trans (Tab.add_same))))))))))))))))))))))))))))))))))
theorem t_l_machine_l_cell : T_l_ratio.fn "_law_cell" 2 = some F_l_cell := (Tab.add_ne (by decide +kernel)).trans ((Tab.add_ne (by decide +kernel)).trans ((Tab.add_ne (by decide +kernel)).trans ((Tab.add_ne (by decide +kernel)).trans ((Tab.add_ne (by decide +kernel)).trans ((Tab.add_ne (by decide +kernel)).trans ((Tab.add_ne (by decide +kernel)).trans ((Tab.add_ne (by decide +kernel)).trans ((Tab.add_ne (by decide +kernel)).trans ((Tab.add_ne (by decide +kernel)).trans (Tab.addm_fn.trans (Tab.addk_fn.trans ((Tab.add_ne (by decide +kernel)).trans ((Tab.add_ne (by decide +kernel)).trans ((Tab.add_ne (by decide +kernel)).trans ((Tab.add_ne (by decide +kernel)).trans ((Tab.add_ne (by decide +kernel)).trans ((Tab.add_ne (by decide +kernel)).trans ((Tab.add_ne (by decide +kernel)).trans ((Tab.add_ne (by decide +kernel)).trans ((Tab.add_ne (by decide +kernel)).trans ((Tab.add_ne (by decide +kernel)).trans ((Tab.add_ne (by decide +kernel)).trans ((Tab.add_ne (by decide +kernel)).trans ((Tab.add_ne (by decide +kernel)).trans ((Tab.add_ne (by decide +kernel)).trans ((Tab.add_ne (by decide +kernel)).trans ((Tab.add_ne (by decide +kernel)).trans ((Tab.add_ne (by decide +kernel)).trans ((Tab.add_ne (by decide +kernel)).trans ((Tab.add_ne (by decide +kernel)).trans ((Tab.add_ne (by decide +kernel)).trans (Tab.add_same))))))))))))))))))))))))))))))))
theorem t_l_road_l_digits : T_l_machine.fn "_law_digits" 2 = some F_l_digits := (Tab.add_ne (by decide +kernel)).trans ((Tab.add_ne (by decide +kernel)).trans ((Tab.add_ne (by decide +kernel)).trans ((Tab.add_ne (by decide +kernel)).trans ((Tab.add_ne (by decide +kernel)).trans ((Tab.add_ne (by decide +kernel)).trans ((Tab.add_ne (by decide +kernel)).trans ((Tab.add_ne (by decide +kernel)).trans ((Tab.add_ne (by decide +kernel)).trans ((Tab.add_ne (by decide +kernel)).trans ((Tab.add_ne (by decide +kernel)).trans (Tab.addm_fn.trans (Tab.addk_fn.trans ((Tab.add_ne (by decide +kernel)).trans ((Tab.add_ne (by decide +kernel)).trans ((Tab.add_ne (by decide +kernel)).trans ((Tab.add_ne (by decide +kernel)).trans ((Tab.add_ne (by decide +kernel)).trans ((Tab.add_ne (by decide +kernel)).trans ((Tab.add_ne (by decide +kernel)).trans ((Tab.add_ne (by decide +kernel)).trans ((Tab.add_ne (by decide +kernel)).trans ((Tab.add_ne (by decide +kernel)).trans ((Tab.add_ne (by decide +kernel)).trans ((Tab.add_ne (by decide +kernel)).trans ((Tab.add_ne (by decide +kernel)).trans ((Tab.add_ne (by decide +kernel)).trans ((Tab.add_ne (by decide +kernel)).trans ((Tab.add_ne (by decide +kernel)).trans ((Tab.add_ne (by decide +kernel)).trans ((Tab.add_ne (by decide +kernel)).trans ((Tab.add_ne (by decide +kernel)).trans ((Tab.add_ne (by decide +kernel)).trans ((Tab.add_ne (by decide +kernel)).trans ((Tab.add_ne (by decide +kernel)).trans (Tab.add_same)))))))))))))))))))))))))))))))))))
theorem t_l_drawn_l_machine : T_l_fitting.fn "_law_machine" 5 = some F_l_machine := (Tab.add_ne (by decide +kernel)).trans ((Tab.add_ne (by decide +kernel)).trans (Tab.add_same))
theorem t_l_drawn_l_road : T_l_fitting.fn "_law_road" 2 = some F_l_road := (Tab.add_ne (by decide +kernel)).trans (Tab.add_same)
theorem t_l_drawn_l_cell : T_l_fitting.fn "_law_cell" 2 = some F_l_cell := (Tab.add_ne (by decide +kernel)).trans ((Tab.add_ne (by decide +kernel)).trans ((Tab.add_ne (by decide +kernel)).trans ((Tab.add_ne (by decide +kernel)).trans ((Tab.add_ne (by decide +kernel)).trans ((Tab.add_ne (by decide +kernel)).trans ((Tab.add_ne (by decide +kernel)).trans ((Tab.add_ne (by decide +kernel)).trans ((Tab.add_ne (by decide +kernel)).trans ((Tab.add_ne (by decide +kernel)).trans ((Tab.add_ne (by decide +kernel)).trans ((Tab.add_ne (by decide +kernel)).trans ((Tab.add_ne (by decide +kernel)).trans (Tab.addm_fn.trans (Tab.addk_fn.trans ((Tab.add_ne (by decide +kernel)).trans ((Tab.add_ne (by decide +kernel)).trans ((Tab.add_ne (by decide +kernel)).trans ((Tab.add_ne (by decide +kernel)).trans ((Tab.add_ne (by decide +kernel)).trans ((Tab.add_ne (by decide +kernel)).trans ((Tab.add_ne (by decide +kernel)).trans ((Tab.add_ne (by decide +kernel)).trans ((Tab.add_ne (by decide +kernel)).trans ((Tab.add_ne (by decide +kernel)).trans ((Tab.add_ne (by decide +kernel)).trans ((Tab.add_ne (by decide +kernel)).trans ((Tab.add_ne (by decide +kernel)).trans ((Tab.add_ne (by decide +kernel)).trans ((Tab.add_ne (by decide +kernel)).trans ((Tab.add_ne (by decide +kernel)).trans ((Tab.add_ne (by decide +kernel)).trans ((Tab.add_ne (by decide +kernel)).trans ((Tab.add_ne (by decide +kernel)).trans ((Tab.add_ne (by decide +kernel)).trans (Tab.add_same)))))))))))))))))))))))))))))))))))
theorem t_l_drawn_l_fitting : T_l_fitting.fn "_law_fitting" 1 = some F_l_fitting := Tab.add_same
theorem t_l_drawn_l_digits : T_l_fitting.fn "_law_digits" 2 = some F_l_digits := (Tab.add_ne (by decide +kernel)).trans ((Tab.add_ne (by decide +kernel)).trans ((Tab.add_ne (by decide +kernel)).trans ((Tab.add_ne (by decide +kernel)).trans ((Tab.add_ne (by decide +kernel)).trans ((Tab.add_ne (by decide +kernel)).trans ((Tab.add_ne (by decide +kernel)).trans ((Tab.add_ne (by decide +kernel)).trans ((Tab.add_ne (by decide +kernel)).trans ((Tab.add_ne (by decide +kernel)).trans ((Tab.add_ne (by decide +kernel)).trans ((Tab.add_ne (by decide +kernel)).trans ((Tab.add_ne (by decide +kernel)).trans (Tab.addm_fn.trans (Tab.addk_fn.trans ((Tab.add_ne (by decide +kernel)).trans ((Tab.add_ne (by decide +kernel)).trans ((Tab.add_ne (by decide +kernel)).trans ((Tab.add_ne (by decide +kernel)).trans ((Tab.add_ne (by decide +kernel)).trans ((Tab.add_ne (by decide +kernel)).trans ((Tab.add_ne (by decide +kernel)).trans ((Tab.add_ne (by decide +kernel)).trans ((Tab.add_ne (by decide +kernel)).trans ((Tab.add_ne (by decide +kernel)).trans ((Tab.add_ne (by decide +kernel)).trans ((Tab.add_ne (by decide +kernel)).trans ((Tab.add_ne (by decide +kernel)).trans ((Tab.add_ne (by decide +kernel)).trans ((Tab.add_ne (by decide +kernel)).trans ((Tab.add_ne (by decide +kernel)).trans ((Tab.add_ne (by decide +kernel)).trans ((Tab.add_ne (by decide +kernel)).trans ((Tab.add_ne (by decide +kernel)).trans ((Tab.add_ne (by decide +kernel)).trans ((Tab.add_ne (by decide +kernel)).trans ((Tab.add_ne (by decide +kernel)).trans (Tab.add_same)))))))))))))))))))))))))))))))))))))
theorem t_law_l_rows : T_l_drawn.fn "_law_rows" 3 = some F_l_rows := (Tab.add_ne (by decide +kernel)).trans ((Tab.add_ne (by decide +kernel)).trans ((Tab.add_ne (by decide +kernel)).trans ((Tab.add_ne (by decide +kernel)).trans ((Tab.add_ne (by decide +kernel)).trans ((Tab.add_ne (by decide +kernel)).trans ((Tab.add_ne (by decide +kernel)).trans ((Tab.add_ne (by decide +kernel)).trans ((Tab.add_ne (by decide +kernel)).trans ((Tab.add_ne (by decide +kernel)).trans ((Tab.add_ne (by decide +kernel)).trans ((Tab.add_ne (by decide +kernel)).trans ((Tab.add_ne (by decide +kernel)).trans ((Tab.add_ne (by decide +kernel)).trans (Tab.addm_fn.trans (Tab.addk_fn.trans ((Tab.add_ne (by decide +kernel)).trans ((Tab.add_ne (by decide +kernel)).trans ((Tab.add_ne (by decide +kernel)).trans ((Tab.add_ne (by decide +kernel)).trans ((Tab.add_ne (by decide +kernel)).trans ((Tab.add_ne (by decide +kernel)).trans ((Tab.add_ne (by decide +kernel)).trans ((Tab.add_ne (by decide +kernel)).trans ((Tab.add_ne (by decide +kernel)).trans ((Tab.add_ne (by decide +kernel)).trans ((Tab.add_ne (by decide +kernel)).trans ((Tab.add_ne (by decide +kernel)).trans ((Tab.add_ne (by decide +kernel)).trans ((Tab.add_ne (by decide +kernel)).trans ((Tab.add_ne (by decide +kernel)).trans ((Tab.add_ne (by decide +kernel)).trans ((Tab.add_ne (by decide +kernel)).trans ((Tab.add_ne (by decide +kernel)).trans ((Tab.add_ne (by decide +kernel)).trans ((Tab.add_ne (by decide +kernel)).trans ((Tab.add_ne (by decide +kernel)).trans (Tab.add_same)))))))))))))))))))))))))))))))))))))
theorem t_law_l_cell : T_l_drawn.fn "_law_cell" 2 = some F_l_cell := (Tab.add_ne (by decide +kernel)).trans ((Tab.add_ne (by decide +kernel)).trans ((Tab.add_ne (by decide +kernel)).trans ((Tab.add_ne (by decide +kernel)).trans ((Tab.add_ne (by decide +kernel)).trans ((Tab.add_ne (by decide +kernel)).trans ((Tab.add_ne (by decide +kernel)).trans ((Tab.add_ne (by decide +kernel)).trans ((Tab.add_ne (by decide +kernel)).trans ((Tab.add_ne (by decide +kernel)).trans ((Tab.add_ne (by decide +kernel)).trans ((Tab.add_ne (by decide +kernel)).trans ((Tab.add_ne (by decide +kernel)).trans ((Tab.add_ne (by decide +kernel)).trans (Tab.addm_fn.trans (Tab.addk_fn.trans ((Tab.add_ne (by decide +kernel)).trans ((Tab.add_ne (by decide +kernel)).trans ((Tab.add_ne (by decide +kernel)).trans ((Tab.add_ne (by decide +kernel)).trans ((Tab.add_ne (by decide +kernel)).trans ((Tab.add_ne (by decide +kernel)).trans ((Tab.add_ne (by decide +kernel)).trans ((Tab.add_ne (by decide +kernel)).trans ((Tab.add_ne (by decide +kernel)).trans ((Tab.add_ne (by decide +kernel)).trans ((Tab.add_ne (by decide +kernel)).trans ((Tab.add_ne (by decide +kernel)).trans ((Tab.add_ne (by decide +kernel)).trans ((Tab.add_ne (by decide +kernel)).trans ((Tab.add_ne (by decide +kernel)).trans ((Tab.add_ne (by decide +kernel)).trans ((Tab.add_ne (by decide +kernel)).trans ((Tab.add_ne (by decide +kernel)).trans ((Tab.add_ne (by decide +kernel)).trans ((Tab.add_ne (by decide +kernel)).trans (Tab.add_same))))))))))))))))))))))))))))))))))))
theorem t_law_l_from : T_l_drawn.fn "_law_from" 3 = some F_l_from := (Tab.add_ne (by decide +kernel)).trans ((Tab.add_ne (by decide +kernel)).trans ((Tab.add_ne (by decide +kernel)).trans ((Tab.add_ne (by decide +kernel)).trans ((Tab.add_ne (by decide +kernel)).trans ((Tab.add_ne (by decide +kernel)).trans ((Tab.add_ne (by decide +kernel)).trans ((Tab.add_ne (by decide +kernel)).trans ((Tab.add_ne (by decide +kernel)).trans (Tab.add_same)))))))))
theorem t_law_l_digits : T_l_drawn.fn "_law_digits" 2 = some F_l_digits := (Tab.add_ne (by decide +kernel)).trans ((Tab.add_ne (by decide +kernel)).trans ((Tab.add_ne (by decide +kernel)).trans ((Tab.add_ne (by decide +kernel)).trans ((Tab.add_ne (by decide +kernel)).trans ((Tab.add_ne (by decide +kernel)).trans ((Tab.add_ne (by decide +kernel)).trans ((Tab.add_ne (by decide +kernel)).trans ((Tab.add_ne (by decide +kernel)).trans ((Tab.add_ne (by decide +kernel)).trans ((Tab.add_ne (by decide +kernel)).trans ((Tab.add_ne (by decide +kernel)).trans ((Tab.add_ne (by decide +kernel)).trans ((Tab.add_ne (by decide +kernel)).trans (Tab.addm_fn.trans (Tab.addk_fn.trans ((Tab.add_ne (by decide +kernel)).trans ((Tab.add_ne (by decide +kernel)).trans ((Tab.add_ne (by decide +kernel)).trans ((Tab.add_ne (by decide +kernel)).trans ((Tab.add_ne (by decide +kernel)).trans ((Tab.add_ne (by decide +kernel)).trans ((Tab.add_ne (by decide +kernel)).trans ((Tab.add_ne (by decide +kernel)).trans ((Tab.add_ne (by decide +kernel)).trans ((Tab.add_ne (by decide +kernel)).trans ((Tab.add_ne (by decide +kernel)).trans ((Tab.add_ne (by decide +kernel)).trans ((Tab.add_ne (by decide +kernel)).trans ((Tab.add_ne (by decide +kernel)).trans ((Tab.add_ne (by decide +kernel)).trans ((Tab.add_ne (by decide +kernel)).trans ((Tab.add_ne (by decide +kernel)).trans ((Tab.add_ne (by decide +kernel)).trans ((Tab.add_ne (by decide +kernel)).trans ((Tab.add_ne (by decide +kernel)).trans ((Tab.add_ne (by decide +kernel)).trans ((Tab.add_ne (by decide +kernel)).trans (Tab.add_same))))))))))))))))))))))))))))))))))))))
theorem t_law_l_build : T_l_drawn.fn "_law_build" 1 = some F_l_build := (Tab.add_ne (by decide +kernel)).trans ((Tab.add_ne (by decide +kernel)).trans ((Tab.add_ne (by decide +kernel)).trans ((Tab.add_ne (by decide +kernel)).trans ((Tab.add_ne (by decide +kernel)).trans ((Tab.add_ne (by decide +kernel)).trans ((Tab.add_ne (by decide +kernel)).trans (Tab.add_same)))))))
theorem t_law_l_twin : T_l_drawn.fn "_law_twin" 2 = some F_l_twin := (Tab.add_ne (by decide +kernel)).trans ((Tab.add_ne (by decide +kernel)).trans ((Tab.add_ne (by decide +kernel)).trans ((Tab.add_ne (by decide +kernel)).trans ((Tab.add_ne (by decide +kernel)).trans ((Tab.add_ne (by decide +kernel)).trans (Tab.add_same))))))
theorem t_law_l_drawn : T_l_drawn.fn "_law_drawn" 1 = some F_l_drawn := Tab.add_same
section
variable {P : Program} {w : World} {K : PySem.W.Frag} {mg : Str → Option Value} {base : Heap} {Cl : ClT}
theorem fx_l_put (h : Facts T_0 P w K mg base Cl 0) (hd : DefAt K mg "_law_put" s_l_put) : Facts T_l_put P w K mg base Cl 1 := h.def_ hd sc_l_put c_l_put (fun _ _ _ _ _ _ us hl => match us, hl with | [_, _, _], _ => rfl)
theorem fx_l_near (h : Facts T_l_put P w K mg base Cl 1) (hd : DefAt K mg "_law_near" s_l_near) : Facts T_l_near P w K mg base Cl 2 := h.def_ hd sc_l_near c_l_near (fun _ _ _ _ _ _ us hl => match us, hl with | [_, _, _], _ => rfl)
theorem fx_is_whole (h : Facts T_l_near P w K mg base Cl 2) (hd : DefAt K mg "is_whole" s_is_whole) : Facts T_is_whole P w K mg base Cl 3 := h.def_ hd sc_is_whole c_is_whole (fun _ _ _ _ _ _ us hl => match us, hl with | [_], _ => rfl)
theorem fx_is_state (h : Facts T_is_whole P w K mg base Cl 3) (hd : DefAt K mg "is_state" s_is_state) : Facts T_is_state P w K mg base Cl 4 := h.def_ hd sc_is_state c_is_state (fun _ _ _ _ _ _ us hl => match us, hl with | [_, _], _ => rfl)
theorem fx_is_way (h : Facts T_is_state P w K mg base Cl 4) (hd : DefAt K mg "is_way" s_is_way) : Facts T_is_way P w K mg base Cl 5 := h.def_ hd sc_is_way c_is_way (fun _ _ _ _ _ _ us hl => match us, hl with | [_, _, _, _], _ => rfl)
theorem fx_l_leads (h : Facts T_is_way P w K mg base Cl 5) (hd : DefAt K mg "_law_leads" s_l_leads) : Facts T_l_leads P w K mg base Cl 6 := h.def_ hd sc_l_leads c_l_leads (fun _ _ _ _ _ _ us hl => match us, hl with | [_, _, _, _], _ => rfl)
theorem fx_l_says (h : Facts T_l_leads P w K mg base Cl 6) (hd : DefAt K mg "_law_says" s_l_says) : Facts T_l_says P w K mg base Cl 7 := h.def_ hd sc_l_says c_l_says (fun _ _ _ _ _ _ us hl => match us, hl with | [_, _, _, _, _], _ => rfl)
theorem fx_l_walk (h : Facts T_l_says P w K mg base Cl 7) (hd : DefAt K mg "_law_walk" s_l_walk) : Facts T_l_walk P w K mg base Cl 8 := h.def_ hd sc_l_walk c_l_walk (fun _ _ _ _ _ _ us hl => match us, hl with | [_, _, _, _], _ => rfl)
theorem fx_l_digits (h : Facts T_l_walk P w K mg base Cl 8) (hd : DefAt K mg "_law_digits" s_l_digits) : Facts T_l_digits P w K mg base Cl 9 := h.def_ hd sc_l_digits c_l_digits (fun _ _ _ _ _ _ us hl => match us, hl with | [_, _], _ => rfl)
theorem fx_l_rows (h : Facts T_l_digits P w K mg base Cl 9) (hd : DefAt K mg "_law_rows" s_l_rows) : Facts T_l_rows P w K mg base Cl 10 := h.def_ hd sc_l_rows c_l_rows (fun _ _ _ _ _ _ us hl => match us, hl with | [_, _, _], _ => rfl)
theorem fx_l_cell (h : Facts T_l_rows P w K mg base Cl 10) (hd : DefAt K mg "_law_cell" s_l_cell) : Facts T_l_cell P w K mg base Cl 11 := h.def_ hd sc_l_cell c_l_cell (fun _ _ _ _ _ _ us hl => match us, hl with | [_, _], _ => rfl)
theorem fx_l_whole (h : Facts T_l_cell P w K mg base Cl 11) (hd : DefAt K mg "_law_whole" s_l_whole) : Facts T_l_whole P w K mg base Cl 12 := h.def_ hd sc_l_whole c_l_whole (fun _ _ _ _ _ _ us hl => match us, hl with | [_], _ => rfl)
theorem fx_l_is_cheapest (h : Facts T_l_whole P w K mg base Cl 12) (hd : DefAt K mg "_law_is_cheapest" s_l_is_cheapest) : Facts T_l_is_cheapest P w K mg base Cl 13 := h.def_ hd sc_l_is_cheapest c_l_is_cheapest (fun _ _ _ _ _ _ us hl => match us, hl with | [_, _, _, _, _], _ => rfl)
theorem fx_leaving_rows (h : Facts T_l_is_cheapest P w K mg base Cl 13) (hd : DefAt K mg "leaving_rows" s_leaving_rows) : Facts T_leaving_rows P w K mg base Cl 14 := h.def_ hd sc_leaving_rows c_leaving_rows (fun _ _ _ _ _ _ us hl => match us, hl with | [_, _], _ => rfl)
theorem fx_reached_from (h : Facts T_leaving_rows P w K mg base Cl 14) (hd : DefAt K mg "reached_from" s_reached_from) : Facts T_reached_from P w K mg base Cl 15 := h.def_ hd sc_reached_from c_reached_from (fun _ _ _ _ _ _ us hl => match us, hl with | [_, _, _], _ => rfl)
theorem fx_check_ways (h : Facts T_reached_from P w K mg base Cl 15) (hd : DefAt K mg "check_ways" s_check_ways) : Facts T_check_ways P w K mg base Cl 16 := h.def_ hd sc_check_ways c_check_ways (fun _ _ _ _ _ _ us hl => match us, hl with | [_, _], _ => rfl)
theorem fx_compare (h : Facts T_check_ways P w K mg base Cl 16) (hd : DefAt K mg "compare" s_compare) : Facts T_compare P w K mg base Cl 17 := h.def_ hd sc_compare c_compare (fun _ _ _ _ _ _ us hl => match us, hl with | [_, _], _ => rfl)
theorem fx_lowest (h : Facts T_compare P w K mg base Cl 17) (hd : DefAt K mg "lowest" s_lowest) : Facts T_lowest P w K mg base Cl 18 := h.def_ hd sc_lowest c_lowest (fun _ _ _ _ _ _ us hl => match us, hl with | [_, _], _ => rfl)
theorem fx_plus (h : Facts T_lowest P w K mg base Cl 18) (hd : DefAt K mg "plus" s_plus) : Facts T_plus P w K mg base Cl 19 := h.def_ hd sc_plus c_plus (fun _ _ _ _ _ _ us hl => match us, hl with | [_, _], _ => rfl)
theorem fx_times (h : Facts T_plus P w K mg base Cl 19) (hd : DefAt K mg "times" s_times) : Facts T_times P w K mg base Cl 20 := h.def_ hd sc_times c_times (fun _ _ _ _ _ _ us hl => match us, hl with | [_, _], _ => rfl)
theorem fx_raised (h : Facts T_times P w K mg base Cl 20) (hd : DefAt K mg "raised" s_raised) : Facts T_raised P w K mg base Cl 26 := h.rec_ hd sc_raised c_raised (fun _ _ _ _ _ _ us hl => match us, hl with | [_, _], _ => rfl) 6
theorem fx_step_chance (h : Facts T_raised P w K mg base Cl 26) (hd : DefAt K mg "step_chance" s_step_chance) : Facts T_step_chance P w K mg base Cl 27 := h.def_ hd sc_step_chance c_step_chance (fun _ _ _ _ _ _ us hl => match us, hl with | [_, _], _ => rfl)
theorem fx_chance_out (h : Facts T_step_chance P w K mg base Cl 27) (hd : DefAt K mg "chance_out" s_chance_out) : Facts T_chance_out P w K mg base Cl 28 := h.def_ hd sc_chance_out c_chance_out (fun _ _ _ _ _ _ us hl => match us, hl with | [_, _, _], _ => rfl)
theorem fx_is_ratio (h : Facts T_chance_out P w K mg base Cl 28) (hd : DefAt K mg "is_ratio" s_is_ratio) : Facts T_is_ratio P w K mg base Cl 29 := h.def_ hd sc_is_ratio c_is_ratio (fun _ _ _ _ _ _ us hl => match us, hl with | [_], _ => rfl)
theorem fx_is_positive (h : Facts T_is_ratio P w K mg base Cl 29) (hd : DefAt K mg "is_positive" s_is_positive) : Facts T_is_positive P w K mg base Cl 30 := h.def_ hd sc_is_positive c_is_positive (fun _ _ _ _ _ _ us hl => match us, hl with | [_], _ => rfl)
theorem fx_is_row (h : Facts T_is_positive P w K mg base Cl 30) (hd : DefAt K mg "is_row" s_is_row) : Facts T_is_row P w K mg base Cl 31 := h.def_ hd sc_is_row c_is_row (fun _ _ _ _ _ _ us hl => match us, hl with | [_, _], _ => rfl)
theorem fx_is_step (h : Facts T_is_row P w K mg base Cl 31) (hd : DefAt K mg "is_step" s_is_step) : Facts T_is_step P w K mg base Cl 32 := h.def_ hd sc_is_step c_is_step (fun _ _ _ _ _ _ us hl => match us, hl with | [_, _], _ => rfl)
theorem fx_checked_steps (h : Facts T_is_step P w K mg base Cl 32) (hd : DefAt K mg "checked_steps" s_checked_steps) : Facts T_checked_steps P w K mg base Cl 33 := h.def_ hd sc_checked_steps c_checked_steps (fun _ _ _ _ _ _ us hl => match us, hl with | [_, _], _ => rfl)
theorem fx_frozen (h : Facts T_checked_steps P w K mg base Cl 33) (hd : DefAt K mg "frozen" s_frozen) : Facts T_frozen P w K mg base Cl 39 := h.rec_ hd sc_frozen c_frozen (fun _ _ _ _ _ _ us hl => match us, hl with | [_], _ => rfl) 6
theorem fx_is_name (h : Facts T_frozen P w K mg base Cl 39) (hd : DefAt K mg "is_name" s_is_name) : Facts T_is_name P w K mg base Cl 40 := h.def_ hd sc_is_name c_is_name (fun _ _ _ _ _ _ us hl => match us, hl with | [_], _ => rfl)
theorem fx_checked_names (h : Facts T_is_name P w K mg base Cl 40) (hd : DefAt K mg "checked_names" s_checked_names) : Facts T_checked_names P w K mg base Cl 41 := h.def_ hd sc_checked_names c_checked_names (fun _ _ _ _ _ _ us hl => match us, hl with | [_], _ => rfl)
theorem fx_Machine {C : Addr} {kws : List (Str × V)} (h : Facts T_checked_names P w K mg base Cl 41) (hC : Cl "Machine" = some C) (hd : ClassAt K mg "Machine" "Machine.__init__" s_Machine kws C) : Facts T_Machine P w K mg base Cl 43 :=
  h.classK (ps := ["names", "steps", "first"]) hC hd sc_Machine c_Machine rfl (fun _ _ _ _ _ _ us ws hl hl2 => match us, ws, hl, hl2 with | [_, _, _], [_], _, _ => rfl)
theorem fx_Machine_len {C : Addr} (h : Facts T_Machine P w K mg base Cl 43) (hC : Cl "Machine" = some C) (hCl : Cls K C) (hd : MethAt K "__len__" "Machine.__len__" s_Machine_len C) : Facts T_Machine_len P w K mg base Cl 45 :=
  h.meth_ (ps := []) hC hCl hd sc_Machine_len c_Machine_len (fun _ _ _ _ _ _ us hl => match us, hl with | [_], _ => rfl)
theorem fx_spread (h : Facts T_Machine_len P w K mg base Cl 45) (hd : DefAt K mg "spread" s_spread) : Facts T_spread P w K mg base Cl 46 := h.def_ hd sc_spread c_spread (fun _ _ _ _ _ _ us hl => match us, hl with | [_, _], _ => rfl)
theorem fx_cheapest_way (h : Facts T_spread P w K mg base Cl 46) (hd : DefAt K mg "cheapest_way" s_cheapest_way) : Facts T_cheapest_way P w K mg base Cl 47 := h.def_ hd sc_cheapest_way c_cheapest_way (fun _ _ _ _ _ _ us hl => match us, hl with | [_, _, _], _ => rfl)
theorem fx_way_costs (h : Facts T_cheapest_way P w K mg base Cl 47) (hd : DefAt K mg "way_costs" s_way_costs) : Facts T_way_costs P w K mg base Cl 48 := h.def_ hd sc_way_costs c_way_costs (fun _ _ _ _ _ _ us hl => match us, hl with | [_, _], _ => rfl)
theorem fx_l_costs (h : Facts T_way_costs P w K mg base Cl 48) (hd : DefAt K mg "_law_costs" s_l_costs) : Facts T_l_costs P w K mg base Cl 49 := h.def_ hd sc_l_costs c_l_costs (fun _ _ _ _ _ _ us hl => match us, hl with | [_, _], _ => rfl)
theorem fx_l_from (h : Facts T_l_costs P w K mg base Cl 49) (hd : DefAt K mg "_law_from" s_l_from) : Facts T_l_from P w K mg base Cl 50 := h.def_ hd sc_l_from c_l_from (fun _ _ _ _ _ _ us hl => match us, hl with | [_, _, _], _ => rfl)
theorem fx_l_names (h : Facts T_l_from P w K mg base Cl 50) (hd : DefAt K mg "_law_names" s_l_names) : Facts T_l_names P w K mg base Cl 51 := h.def_ hd sc_l_names c_l_names (fun _ _ _ _ _ _ us hl => match us, hl with | [_], _ => rfl)
theorem fx_l_build (h : Facts T_l_names P w K mg base Cl 51) (hd : DefAt K mg "_law_build" s_l_build) : Facts T_l_build P w K mg base Cl 52 := h.def_ hd sc_l_build c_l_build (fun _ _ _ _ _ _ us hl => match us, hl with | [_], _ => rfl)
theorem fx_l_twin (h : Facts T_l_build P w K mg base Cl 52) (hd : DefAt K mg "_law_twin" s_l_twin) : Facts T_l_twin P w K mg base Cl 53 := h.def_ hd sc_l_twin c_l_twin (fun _ _ _ _ _ _ us hl => match us, hl with | [_, _], _ => rfl)
theorem fx_l_gcd (h : Facts T_l_twin P w K mg base Cl 53) (hd : DefAt K mg "_law_gcd" s_l_gcd) : Facts T_l_gcd P w K mg base Cl 54 := h.def_ hd sc_l_gcd c_l_gcd (fun _ _ _ _ _ _ us hl => match us, hl with | [_, _], _ => rfl)
theorem fx_l_ratio (h : Facts T_l_gcd P w K mg base Cl 54) (hd : DefAt K mg "_law_ratio" s_l_ratio) : Facts T_l_ratio P w K mg base Cl 55 := h.def_ hd sc_l_ratio c_l_ratio (fun _ _ _ _ _ _ us hl => match us, hl with | [_, _], _ => rfl)
theorem fx_l_machine (h : Facts T_l_ratio P w K mg base Cl 55) (hd : DefAt K mg "_law_machine" s_l_machine) : Facts T_l_machine P w K mg base Cl 56 := h.def_ hd sc_l_machine c_l_machine (fun _ _ _ _ _ _ us hl => match us, hl with | [_, _, _, _, _], _ => rfl)
theorem fx_l_road (h : Facts T_l_machine P w K mg base Cl 56) (hd : DefAt K mg "_law_road" s_l_road) : Facts T_l_road P w K mg base Cl 57 := h.def_ hd sc_l_road c_l_road (fun _ _ _ _ _ _ us hl => match us, hl with | [_, _], _ => rfl)
theorem fx_l_fitting (h : Facts T_l_road P w K mg base Cl 57) (hd : DefAt K mg "_law_fitting" s_l_fitting) : Facts T_l_fitting P w K mg base Cl 58 := h.def_ hd sc_l_fitting c_l_fitting (fun _ _ _ _ _ _ us hl => match us, hl with | [_], _ => rfl)
theorem fx_l_drawn (h : Facts T_l_fitting P w K mg base Cl 58) (hd : DefAt K mg "_law_drawn" s_l_drawn) : Facts T_l_drawn P w K mg base Cl 59 := h.def_ hd sc_l_drawn c_l_drawn (fun _ _ _ _ _ _ us hl => match us, hl with | [_], _ => rfl)
end
end L08

namespace L08
open PySem L2 Pu
/-! a machine whose steps take parts of a whole number, first 1 -/
theorem m_low : LowOk F_lowest := fun t b hb h => lowest_ok _ rfl hb h
theorem m_plus {r s : Rat} {k l : Nat} (h1 : Bits k r) (h2 : Bits l s) (hk : 0 < k) (hl : 0 < l) (h3 : k + l ≤ 9000) : F_plus [ratD r, ratD s] = .ok (ratD (r + s)) := plus_ok _ t_plus_lowest m_low h1 h2 hk hl h3
theorem m_times {r s : Rat} {k l : Nat} (h1 : Bits k r) (h2 : Bits l s) (hk : 0 < k) (hl : 0 < l) (h3 : k + l ≤ 9000) : F_times [ratD r, ratD s] = .ok (ratD (r * s)) := times_ok _ t_times_lowest m_low h1 h2 hk hl h3
theorem m_compare {r s : Rat} {k l : Nat} (h1 : Bits k r) (h2 : Bits l s) (hk : 0 < k) (hl : 0 < l) (h3 : k + l ≤ 9000) : F_compare [ratD r, ratD s] = .ok (.int (cmpR r s)) := compare_ok _ h1 h2 hk hl h3
theorem m_raised {r : Rat} {k n : Nat} (h : Bits k r) (hk : 0 < k) (hn : n ≤ 10000) (hb : k * (n + 1) ≤ 900000) : F_raised [ratD r, .int (n : Nat)] = .ok (ratD (r ^ n)) := by
  unfold F_raised
  rw [runRec_6]
  exact raised_ok _ h hk hn hb
theorem m_whole (i : Int) : F_is_whole [.int i] = .ok (.bl true) := is_whole_int _
theorem m_ratio (r : Rat) : F_is_ratio [ratD r] = .ok (.bl true) := is_ratio_ok _ t_is_ratio_is_whole m_whole rfl r
theorem m_positive {r : Rat} (h : 0 < r) : F_is_positive [ratD r] = .ok (.bl true) := is_positive_ok _ t_is_positive_is_ratio m_ratio h
theorem m_state {i n : Nat} (h : i < n) : F_is_state [.int (i : Nat), .int (n : Nat)] = .ok (.bl true) := is_state_ok _ t_is_state_is_whole m_whole h
theorem m_row (xs : List D) (h : xs.length = 4) : F_is_row [.tup xs, .int 4] = .ok (.bl true) := is_row_tup (n := 4) _ h
theorem m_step {t : St4} {n : Nat} (a1 : t.s < n) (a2 : t.g < n) (a3 : t.s ≠ t.g) (a4 : 0 < t.f) (a5 : t.c ≤ 60) : F_is_step [stD t, .int (n : Nat)] = .ok (.bl true) :=
  is_step_ok _ t_is_step_is_row t_is_step_is_state t_is_step_is_positive t_is_step_is_whole (isSome_eq (by decide +kernel)) m_row (fun i n h => m_state h) (fun r h => m_positive h) m_whole a1 a2 a3 a4 a5
/-- a machine's steps are right -/
structure StOk (n : Nat) (t : St4) : Prop where
  s : t.s < n
  g : t.g < n
  ne : t.s ≠ t.g
  f : 0 < t.f
  c : t.c ≤ 60
theorem m_steps {ts : List St4} {n : Nat} (hl : ts.length ≤ 1000000) (h : ∀ t ∈ ts, StOk n t) : F_checked_steps [stsD ts, .int (n : Nat)] = .ok (stsD ts) :=
  checked_steps_ok _ t_checked_steps_is_step hl fun t ht => m_step (h t ht).s (h t ht).g (h t ht).ne (h t ht).f (h t ht).c
theorem bits_one : Bits 1 1 := ⟨by decide, by decide⟩
theorem m_out {ts : List St4} {n x : Nat} (h : ∀ t ∈ ts, StOk n t) {M : Nat} {u : St4 → Nat} (hM : 0 < M) (hM2 : M < 2 ^ 100) (hu : ∀ t ∈ ts, t.s = x → Part M (u t) t.f) (hs : partSum u x ts ≤ M) :
    ∃ z : Int, F_chance_out [stsD ts, .int (x : Nat), ratD 1] = .ok (ratD (outSum 1 x ts 0)) ∧ F_compare [ratD (outSum 1 x ts 0), ratD 1] = .ok (.int z) ∧ z ≤ 0 := by
  have tot := outSum_prt (M := M) (u := u) (x := x) ts 0 0 hu prt_zero
  rw [Nat.zero_add] at tot
  have bt := prt_bits tot hM hM2 hs
  refine ⟨cmpR (outSum 1 x ts 0) 1, ?_, m_compare bt bits_one (by decide) (by decide) (by decide), ?_⟩
  · have fb : ∀ t ∈ ts, t.s = x → Bits 100 t.f := fun t ht hx => by
      refine prt_bits (hu t ht hx) hM hM2 (Nat.le_trans ?_ hs)
      obtain ⟨us, vs, rfl⟩ := List.append_of_mem ht
      rw [partSum_app, partSum_cons, if_pos hx]
      omega
    refine chance_out_ok _ t_chance_out_plus t_chance_out_step_chance (isSome_eq (by decide +kernel)) (fun t ht hx => ?_) fun us t vs e hx => ?_
    · have hc := (h t ht).c
      have r1 := m_raised (r := 1) (k := 1) (n := t.c) bits_one (by decide) (by omega) (by omega)
      refine step_chance_ok _ t_step_chance_times t_step_chance_raised r1 ?_
      rw [one_powR]
      exact m_times (fb t ht hx) bits_one (by decide) (by decide) (by decide)
    · have p1 := outSum_prt (M := M) (u := u) (x := x) us 0 0 (fun t' ht' => hu t' (by rw [e]; exact List.mem_append_left _ ht')) prt_zero
      rw [Nat.zero_add] at p1
      have hle : partSum u x us ≤ M := by
        refine Nat.le_trans ?_ hs
        rw [e, partSum_app]
        omega
      rw [one_powR, Rat.mul_one]
      exact m_plus (prt_bits p1 hM hM2 hle) (fb t (by rw [e]; exact List.mem_append_right _ List.mem_cons_self) hx) (by decide) (by decide) (by decide)
  · unfold cmpR
    have := prt_le tot hM hs
    by_cases c : outSum 1 x ts 0 < 1
    · rw [if_pos c]; omega
    · rw [if_neg c, if_neg this]; omega
/-- every state is reached from every other one -/
def Joined (n : Nat) (ts : List St4) : Prop := ∀ x y, x < n → y < n → ∃ k, k ≤ n ∧ Way ts k x y
theorem m_ways {ts : List St4} {n : Nat} (hn : n ≤ 1000000) (h : ∀ t ∈ ts, StOk n t) (hj : Joined n ts) : F_check_ways [stsD ts, .int (n : Nat)] = .ok .non := by
  refine check_ways_ok _ t_check_ways_reached_from hn (fun x hx => reached_from_ok _ hn fun t ht => ⟨(h t ht).s, (h t ht).g⟩) fun x y hx hy => ?_
  obtain ⟨k, hk, w⟩ := hj x y hx hy
  have := relaxN_keep (way_true hx (fun t ht => (h t ht).g) w) (n - k)
  rwa [show k + (n - k) = n by omega] at this
/-- the steps of a right machine with first 1 -/
structure MachOk (n : Nat) (ts : List St4) : Prop where
  small : n ≤ 1000000
  len : ts.length ≤ 1000000
  st : ∀ t ∈ ts, StOk n t
  out : ∀ x, x < n → ∃ (M : Nat) (u : St4 → Nat), 0 < M ∧ M < 2 ^ 100 ∧ (∀ t ∈ ts, t.s = x → Part M (u t) t.f) ∧ partSum u x ts ≤ M
  joined : Joined n ts
theorem m_make {ts : List St4} {names : List D} {names0 steps0 : D} (ok : MachOk names.length ts) (a1 : F_frozen [names0] = .ok (.tup names)) (a2 : F_frozen [steps0] = .ok (stsD ts)) (a3 : F_checked_names [.tup names] = .ok (.tup names)) :
    runInit TP_Machine "Machine" 5 b_Machine [names0, steps0, ratD 1] = .ok (machD names ts 1) := by
  have one : F_compare [ratD 1, ratD 1] = .ok (.int (cmpR 1 1)) := m_compare bits_one bits_one (by decide) (by decide) (by decide)
  have z1 : cmpR 1 1 ≤ 0 := by decide +kernel
  refine machine_ok _ t_Machine_frozen t_Machine_checked_names t_Machine_checked_steps t_Machine_is_positive t_Machine_compare t_Machine_chance_out t_Machine_check_ways t_Machine_leaving_rows (isSome_eq (by decide +kernel)) (by decide +kernel) (by decide +kernel) (by decide +kernel) (by decide +kernel) ok.small a1 a2 a3 (m_steps ok.len ok.st) (m_positive (by decide +kernel)) ⟨_, one, z1⟩ (c := fun x => ratD (outSum 1 x ts 0)) (fun x hx => ?_) (m_ways ok.small ok.st ok.joined) (leaving_rows_ok _ ok.small ok.len)
  obtain ⟨M, u, h1, h2, h3, h4⟩ := ok.out x hx
  obtain ⟨z, q1, q2, q3⟩ := m_out ok.st h1 h2 h3 h4
  exact ⟨z, q1, q2, q3⟩
/-! a drawn machine, and the machine that the program makes of it (behind mach_a) -/
theorem d_cell (ns : List Int) : CellOk F_l_cell (.frl (ns.map D.int)) := fun k hk => cell_ok _ ns k hk
theorem d_digs : DigsOk F_l_digits := fun c ss h1 h2 => digits_ok _ c ss h1 h2
theorem d_gcd {a : Int} {b : Nat} (hb : b < 2 ^ 100) : F_l_gcd [.int a, .int (b : Int)] = .ok (.int ((Nat.gcd a.natAbs b : Nat) : Int)) := by
  have h : ((b : Nat) : Int).natAbs < TP_l_gcd.fu := by
    rw [Int.natAbs_natCast]
    exact Nat.lt_of_lt_of_le hb (show 2 ^ 100 ≤ 2 ^ 200 from Nat.pow_le_pow_right (by decide) (by decide))
  have := l_gcd_ok TP_l_gcd (a := a) h
  rw [Int.natAbs_natCast] at this
  exact this
theorem d_ratN {t : Int} {b : Nat} (hb : b ≠ 0) (h2 : b < 2 ^ 100) : F_l_ratio [.int t, .int (b : Int)] = .ok (ratD (Rat.normalize t b hb)) := l_ratio_ok _ t_l_ratio_l_gcd (fun a b h => d_gcd h) hb h2
theorem d_ratio : RatOk F_l_ratio := fun p M hM h => by
  rw [d_ratN hM h, Rat.normalize_eq_mkRat]
theorem d_machine (ns : List Int) {at_ least more dear : Nat} (h1 : 1 ≤ least) (h2 : 1 ≤ more) (h3 : least + more ≤ 500) (h4 : dear < 1000) (hat : at_ < 100000) :
    ∃ (n : Nat) (ts : List St4) (six : Bool), least ≤ n ∧ n < least + more ∧ F_l_machine [.frl (ns.map D.int), .int (at_ : Nat), .int (least : Nat), .int (more : Nat), .int (dear : Nat)] = .ok (.lst [.int (n : Nat), .lst (ts.map stD)]) ∧ DrawnX n dear six n ts :=
  l_machine_ok _ t_l_machine_l_cell t_l_machine_l_digits t_l_machine_l_ratio (d_cell ns) d_digs d_ratio h1 h2 h3 h4 hat
theorem mach_drawn {n dear : Nat} {six : Bool} {ts : List St4} (hn : n ≤ 500) (hd : dear ≤ 60) (d : DrawnX n dear six n ts) : MachOk n ts where
  small := by omega
  len := by
    have := d.len
    have : 2 * n * n ≤ 2 * 500 * 500 := Nat.mul_le_mul (by omega) hn
    omega
  st := fun t ht => by
    obtain ⟨a, b, c, e, f⟩ := d.st t ht
    exact ⟨a, b, c, e, by omega⟩
  out := fun x hx => by
    obtain ⟨M, a, b, c, e⟩ := d.out x hx
    exact ⟨M, uOf M, a, b, c, e⟩
  joined := need_join d.edge
def menuN : List D := [.str "a", .str "b2", .str "c-3", .str "dee", .str "e", .str "f", .str "g", .str "h", .str "i", .str "j", .str "k", .str "l", .str "m", .str "n", .str "o", .str "p"]
theorem k_lnames : ∀ n : Nat, n < 17 → isOk (F_l_names [.int (n : Int)]) (.lst (menuN.take n)) = true ∧ isOk (F_frozen [.lst (menuN.take n)]) (.tup (menuN.take n)) = true ∧ (n ≠ 0 → isOk (F_checked_names [.tup (menuN.take n)]) (.tup (menuN.take n)) = true) := by decide +kernel
theorem menuN_len {n : Nat} (h : n < 17) : (menuN.take n).length = n := by
  rw [List.length_take]
  exact Nat.min_eq_left (show n ≤ 16 by omega)
theorem d_frozen {d : D} (h : flatTo d 5 = true) : F_frozen [d] = .ok (frz d) := frozen_ok _ 5 d h
def stL (t : St4) : D := .lst [.int (t.s : Nat), .int (t.g : Nat), ratD t.f, .int (t.c : Nat)]
theorem frz_stL (ts : List St4) : F_frozen [.lst (ts.map stL)] = .ok (stsD ts) := by
  have h : flatTo (.lst (ts.map stL)) 5 = true := by
    simp only [flatTo]
    rw [flatsTo_mem]
    intro d hd
    obtain ⟨x, _, rfl⟩ := List.mem_map.mp hd
    rfl
  rw [d_frozen h]
  congr 1
  simp only [frz, frzs_map, List.map_map]
  rfl
theorem dm_one : D.tup [.int 1, .int 1] = ratD 1 := rfl
theorem d_build {n : Nat} {ts : List St4} (h0 : 0 < n) (hn : n < 17) (ok : MachOk n ts) : F_l_build [.lst [.int (n : Nat), .lst (ts.map stD)]] = .ok (machD (menuN.take n) ts 1) := by
  obtain ⟨k1, k2, k3⟩ := k_lnames n hn
  have k1 := isOk_eq k1
  have j0 : idxD (.lst [.int (n : Nat), .lst (ts.map stD)]) (.int 0) = some (.int (n : Nat)) := idxD_lst (i := 0) rfl
  have j1 : idxD (.lst [.int (n : Nat), .lst (ts.map stD)]) (.int 1) = some (.lst (ts.map stD)) := idxD_lst (i := 1) rfl
  rw [show n = (menuN.take n).length from (menuN_len hn).symm] at ok
  have hM : F_Machine [.lst (menuN.take n), .lst (ts.map stL), ratD 1] = .ok (machD (menuN.take n) ts 1) := m_make ok (isOk_eq k2) (frz_stL ts) (isOk_eq (k3 (by omega)))
  have hlc : ∀ ρ : Ro, (∀ x, getB (ρ.set 1 (.val x)) 1 = .ok x) → lcL (asg (.nm 1)) (evc TP_l_build .no) (ev TP_l_build (.bi .list (.cons (.var 1) .nil)) .val) ρ (ts.map stD) = .ok (ts.map stL) := fun ρ h1 => by
    rw [lcL_map (h := fun d => match d with | .tup xs => .lst xs | _ => .non) fun d hd => ?_]
    · rw [List.map_map]
      rfl
    · obtain ⟨t, _, rfl⟩ := List.mem_map.mp hd
      have e : listD (stD t) = some (stL t) := rfl
      exact ⟨_, rfl, evc_no, by simp -implicitDefEqProofs [h1, e]; rfl⟩
  generalize hmach : D.lst [.int (n : Nat), .lst (ts.map stD)] = mach at *
  have hl := hlc [.val mach, .no] (fun _ => rfl)
  generalize ts.map stL = GL at *
  generalize ts.map stD = GD at *
  generalize machD (menuN.take n) ts 1 = MM at *
  generalize menuN.take n = NN at *
  unfold F_l_build runFn
  simp -implicitDefEqProofs [b_l_build, t_l_build_l_names, t_l_build_Machine, j0, j1, k1, lcR_ok hl, dm_one, hM]
/-! k08: at most 240 steps -/
def prD (t : St4) : D := .tup [.int (t.s : Nat), .int (t.g : Nat)]
theorem prD_eqv (u t : St4) : eqvD (prD u) (prD t) = (decide (u.s = t.s) && decide (u.g = t.g)) := by
  simp only [prD, eqvD, eqvDs, Bool.and_true]
  by_cases h1 : u.s = t.s
  · by_cases h2 : u.g = t.g
    · simp [h1, h2]
    · have : ¬ ((u.g : Int) = (t.g : Int)) := by omega
      simp [h1, h2, this]
  · have : ¬ ((u.s : Int) = (t.s : Int)) := by omega
    simp [h1, this]
theorem prD_fit (u : St4) (n : Nat) : fitD (prD u) (n + 2) = true := by simp only [prD, fitD, fitDs, Bool.and_self]
def hasPr (us : List St4) (t : St4) : Bool := us.any fun u => decide (u.s = t.s) && decide (u.g = t.g)
theorem prD_in (us : List St4) (t : St4) : inD (prD t) (.lst (us.map prD)) = some (.bl (hasPr us t)) := by
  unfold inD
  rw [memD_fit (prD_fit t 62) (fitDs_mem.mpr fun d hd => by obtain ⟨y, _, rfl⟩ := List.mem_map.mp hd; exact prD_fit y 61)]
  have : ((us.map prD).any fun y => eqvD y (prD t)) = hasPr us t := by
    unfold hasPr
    rw [List.any_map]
    congr 1
    funext u
    exact prD_eqv u t
  rw [this]
  rfl
theorem way_sub {ts us : List St4} (h : ∀ t ∈ ts, ∃ u ∈ us, u.s = t.s ∧ u.g = t.g) {k x y : Nat} (w : Way ts k x y) : Way us k x y := by
  induction w with
  | nil x => exact .nil x
  | snoc w ht e ih =>
    obtain ⟨u, hu, e1, e2⟩ := h _ ht
    rw [← e2]
    exact .snoc ih hu (e1.trans e)
theorem part_sublist {u : St4 → Nat} {x : Nat} {us ts : List St4} (h : us.Sublist ts) : partSum u x us ≤ partSum u x ts := by
  induction h with
  | slnil => exact Nat.le_refl _
  | cons a h ih => rw [partSum_cons]; omega
  | cons_cons a h ih => rw [partSum_cons, partSum_cons]; omega
theorem mach_sub {n : Nat} {ts us : List St4} (ok : MachOk n ts) (h : us.Sublist ts) (h2 : ∀ t ∈ ts, ∃ u ∈ us, u.s = t.s ∧ u.g = t.g) : MachOk n us where
  small := ok.small
  len := Nat.le_trans h.length_le ok.len
  st := fun t ht => ok.st t (h.subset ht)
  out := fun x hx => by
    obtain ⟨M, u, a, b, c, d⟩ := ok.out x hx
    exact ⟨M, u, a, b, fun t ht hxt => c t (h.subset ht) hxt, Nat.le_trans (part_sublist h) d⟩
  joined := fun x y hx hy => by
    obtain ⟨k, hk, w⟩ := ok.joined x y hx hy
    exact ⟨k, hk, way_sub h2 w⟩
abbrev bFit : Ss := (.cons (.ite (.ands (.cons (.cmp .In (.tup (.cons (.idx (.var 4) (.int 0)) (.cons (.idx (.var 4) (.int 1)) .nil))) (.var 2)) (.cons (.cmp .Gt (.var 3) (.int 0)) .nil))) (.cons (.set 3 (.bin .Sub (.var 3) (.int 1))) .nil) (.cons (.app 2 (.tup (.cons (.idx (.var 4) (.int 0)) (.cons (.idx (.var 4) (.int 1)) .nil)))) (.cons (.app 1 (.var 4)) .nil))) .nil)
theorem e_fitting {n : Nat} {ts : List St4} (ok : MachOk n ts) (hl : ts.length ≤ 100000) : ∃ us, F_l_fitting [.lst [.int (n : Nat), .lst (ts.map stD)]] = .ok (.lst [.int (n : Nat), .lst (us.map stD)]) ∧ MachOk n us ∧ us.length ≤ ts.length := by
  have j0 : idxD (.lst [.int (n : Nat), .lst (ts.map stD)]) (.int 0) = some (.int (n : Nat)) := idxD_lst (i := 0) rfl
  have j1 : idxD (.lst [.int (n : Nat), .lst (ts.map stD)]) (.int 1) = some (.lst (ts.map stD)) := idxD_lst (i := 1) rfl
  have hlen : lenD (.lst (ts.map stD)) = some (.int (ts.length : Nat)) := by rw [lenD_lst, List.length_map]
  generalize hmach : D.lst [.int (n : Nat), .lst (ts.map stD)] = mach at *
  obtain ⟨ρ', e, us, sp, z, hz, g1, g2⟩ := forL_ind (tg := .nm 4) (body := exs TP_l_fitting bFit) (ds := ts.map stD) (ρ := [.val mach, .own [], .own [], .val (.int ((ts.length : Int) - 240)), .no])
    (fun i ρ => ∃ (us : List St4) (sp : Int) (z : Sl), ρ = [.val mach, .own (us.map stD), .own (us.map prD), .val (.int sp), z] ∧ us.Sublist (ts.take i) ∧ (∀ t ∈ ts.take i, ∃ u ∈ us, u.s = t.s ∧ u.g = t.g)) ⟨[], _, _, rfl, List.nil_sublist _, by simp⟩ (fun i d ρ hd ⟨us, sp, z, hρ, g1, g2⟩ => by
      rw [List.getElem?_map] at hd
      obtain ⟨t, ht, rfl⟩ := Option.map_eq_some_iff.mp hd
      subst hρ
      have i0 : idxD (stD t) (.int 0) = some (.int (t.s : Nat)) := four0
      have i1 : idxD (stD t) (.int 1) = some (.int (t.g : Nat)) := four1
      have hin := prD_in us t
      have pe : D.tup [.int (t.s : Nat), .int (t.g : Nat)] = prD t := rfl
      have ul : us.length ≤ 100000 := by
        have := g1.length_le
        rw [List.length_take] at this
        omega
      by_cases hb : hasPr us t = true ∧ 0 < sp
      · obtain ⟨hb1, hb2⟩ := hb
        rw [hb1] at hin
        refine ⟨_, _, rfl, .inl ?_, us, sp - 1, .val (stD t), rfl, ?_, ?_⟩
        · generalize us.map stD = G1 at *
          generalize us.map prD = G2 at *
          simp -implicitDefEqProofs [bFit, i0, i1, pe, hin, hb2]
        · rw [take_succ ht]
          exact g1.trans (List.sublist_append_left _ _)
        · intro t' ht'
          rw [take_succ ht] at ht'
          rcases List.mem_append.mp ht' with h | h
          · exact g2 t' h
          · rw [List.mem_singleton] at h
            subst h
            unfold hasPr at hb1
            obtain ⟨u, hu, e⟩ := List.any_eq_true.mp hb1
            simp only [Bool.and_eq_true, decide_eq_true_eq] at e
            exact ⟨u, hu, e⟩
      · refine ⟨_, _, rfl, .inl ?_, us ++ [t], sp, .val (stD t), rfl, ?_, ?_⟩
        · have l1 : (us.map stD).length < 16777216 := by rw [List.length_map]; omega
          have l2 : (us.map prD).length < 16777216 := by rw [List.length_map]; omega
          rw [List.map_append, List.map_append, List.map_cons, List.map_nil, List.map_cons, List.map_nil]
          generalize us.map stD = G1 at *
          generalize us.map prD = G2 at *
          by_cases hb1 : hasPr us t = true
          · have hb2 : ¬ (0 < sp) := fun h => hb ⟨hb1, h⟩
            rw [hb1] at hin
            simp -implicitDefEqProofs [bFit, i0, i1, pe, hin, hb2, l1, l2]
          · rw [Bool.not_eq_true] at hb1
            rw [hb1] at hin
            simp -implicitDefEqProofs [bFit, i0, i1, pe, hin, l1, l2]
        · rw [take_succ ht]
          exact List.Sublist.append g1 (List.Sublist.refl _)
        · intro t' ht'
          rw [take_succ ht] at ht'
          rcases List.mem_append.mp ht' with h | h
          · obtain ⟨u, hu, e⟩ := g2 t' h
            exact ⟨u, List.mem_append_left _ hu, e⟩
          · rw [List.mem_singleton] at h
            subst h
            exact ⟨_, List.mem_append_right _ List.mem_cons_self, rfl, rfl⟩)
  rw [List.length_map, List.take_length] at g1 g2
  subst hz
  refine ⟨us, ?_, mach_sub ok g1 g2, g1.length_le⟩
  generalize us.map stD = G1 at *
  generalize us.map prD = G2 at *
  unfold F_l_fitting runFn
  simp -implicitDefEqProofs [b_l_fitting, j0, j1, hlen, e]
/-! k08: a round road -/
abbrev bR7 : Ss := (.cons (.set 8 (.bin .Mult (.var 3) (.bin .Mod (.bi .int (.cons (.bin .Sub (.var 7) (.var 5)) .nil)) (.var 0)))) (.cons (.ite (.cmp .Gt (.bin .Mod (.bi .int (.cons (.bin .Sub (.var 7) (.var 5)) .nil)) (.var 0)) (.int 1)) (.cons (.set 8 (.bi .max (.cons (.int 0) (.cons (.bin .Sub (.bin .Add (.var 8) (.idx (.var 2) (.bin .Add (.bin .Mult (.int 2) (.bin .Add (.bin .Mult (.var 5) (.var 0)) (.var 7))) (.int 1)))) (.int 2)) .nil)))) .nil) .nil) (.cons (.app 4 (.tup (.cons (.var 5) (.cons (.var 7) (.cons (.tup (.cons (.int 1) (.cons (.bi .len (.cons (.var 6) .nil)) .nil))) (.cons (.var 8) .nil)))))) .nil)))
abbrev bR5 : Ss := (.cons (.set 6 (.lc [("y", 7)] (.var 7) (.nm 7) (.rng (.var 0)) (.yes (.ands (.cons (.cmp .NotEq (.var 7) (.var 5)) (.cons (.ors (.cons (.cmp .Eq (.bin .Mod (.bi .int (.cons (.bin .Sub (.var 7) (.var 5)) .nil)) (.var 0)) (.int 1)) (.cons (.cmp .Eq (.idx (.var 2) (.bin .Mult (.int 2) (.bin .Add (.bin .Mult (.var 5) (.var 0)) (.var 7)))) (.int 0)) .nil))) .nil)))))) (.cons (.for_ (.nm 7) (.seq (.var 6)) (.cons (.set 8 (.bin .Mult (.var 3) (.bin .Mod (.bi .int (.cons (.bin .Sub (.var 7) (.var 5)) .nil)) (.var 0)))) (.cons (.ite (.cmp .Gt (.bin .Mod (.bi .int (.cons (.bin .Sub (.var 7) (.var 5)) .nil)) (.var 0)) (.int 1)) (.cons (.set 8 (.bi .max (.cons (.int 0) (.cons (.bin .Sub (.bin .Add (.var 8) (.idx (.var 2) (.bin .Add (.bin .Mult (.int 2) (.bin .Add (.bin .Mult (.var 5) (.var 0)) (.var 7))) (.int 1)))) (.int 2)) .nil)))) .nil) .nil) (.cons (.app 4 (.tup (.cons (.var 5) (.cons (.var 7) (.cons (.tup (.cons (.int 1) (.cons (.bi .len (.cons (.var 6) .nil)) .nil))) (.cons (.var 8) .nil)))))) .nil)))) .nil))
def qv (ds : List Int) (k : Nat) : Int := ds.getD k 0
theorem qv_at {ds : List Int} {k : Nat} (h : k < ds.length) : idxD (.lst (ds.map D.int)) (.int (k : Nat)) = some (.int (qv ds k)) := by
  refine idxD_lst ?_
  unfold qv
  rw [List.getElem?_map, List.getD_eq_getElem?_getD, List.getElem?_eq_getElem h]
  rfl
def stepM (n x y : Nat) : Int := ((y : Int) - (x : Int)).fmod n
def gB (ds : List Int) (n x y : Nat) : Bool := decide (stepM n x y = 1) || decide (qv ds (2 * (x * n + y)) = 0)
def goalsR (ds : List Int) (n x : Nat) : List Nat := (List.range n).filter fun y => decide (y ≠ x) && gB ds n x y
def costR (ds : List Int) (wide : Int) (n x y : Nat) : Int := if 1 < stepM n x y then (if wide * stepM n x y + qv ds (2 * (x * n + y) + 1) - 2 > 0 then wide * stepM n x y + qv ds (2 * (x * n + y) + 1) - 2 else 0) else wide * stepM n x y
def m3R (ds : List Int) (wide : Int) (n x y : Nat) : M3 := ⟨y, 1, (costR ds wide n x y).toNat⟩
structure RoadOk (ds : List Int) (n : Nat) (wide : Int) : Prop where
  n2 : 2 ≤ n
  n16 : n ≤ 16
  len : ds.length = 2 * n * n + 2
  w : 1 ≤ wide ∧ wide ≤ 3
  q : ∀ k, 0 ≤ qv ds k ∧ qv ds k < 4
theorem stepM_bd {n : Nat} (h : 2 ≤ n) (x y : Nat) : 0 ≤ stepM n x y ∧ stepM n x y < n := ⟨Int.fmod_nonneg_of_pos _ (by omega), Int.fmod_lt_of_pos _ (by omega)⟩
theorem costR_bd {ds : List Int} {n : Nat} {wide : Int} (ok : RoadOk ds n wide) (x y : Nat) : 0 ≤ costR ds wide n x y ∧ costR ds wide n x y ≤ 60 := by
  obtain ⟨a, b⟩ := stepM_bd ok.n2 x y
  obtain ⟨c, d⟩ := ok.q (2 * (x * n + y) + 1)
  have w := ok.w
  have h16 := ok.n16
  unfold costR
  generalize stepM n x y = m at *
  generalize qv ds (2 * (x * n + y) + 1) = q at *
  have e : 0 ≤ wide * m := Int.mul_nonneg (by omega) a
  have e2 : wide * m ≤ 3 * m := Int.mul_le_mul_of_nonneg_right w.2 a
  generalize wide * m = v at *
  split
  · split <;> omega
  · omega
theorem pos_lt {n x y : Nat} (hx : x < n) (hy : y < n) : x * n + y < n * n := by
  have : x * n + n ≤ n * n := by
    rw [← Nat.succ_mul]
    exact Nat.mul_le_mul hx (Nat.le_refl n)
  omega
section
variable {ds : List Int} {n : Nat} {wide : Int}
theorem r_in (T : Tab) (ok : RoadOk ds n wide) {x : Nat} (hx : x < n) {gl : List Nat} (hg : ∀ y ∈ gl, y < n) (hgl : gl ≠ []) {ts : List St4} (hl : ts.length + gl.length ≤ 100000) (s1 z7 z8 : Sl) :
    ∃ y7 y8, forL (.nm 7) (exs T bR7) (gl.map intN) [.val (.int (n : Nat)), s1, .val (.lst (ds.map D.int)), .val (.int wide), .own (ts.map stD), .val (.int (x : Nat)), .val (.lst (gl.map intN)), z7, z8]
      = .nx [.val (.int (n : Nat)), s1, .val (.lst (ds.map D.int)), .val (.int wide), .own ((ts ++ (gl.map (m3R ds wide n x)).map (stM x gl.length)).map stD), .val (.int (x : Nat)), .val (.lst (gl.map intN)), y7, y8] ∧ (y7 = z7 ∨ ∃ d, y7 = .val d) := by
  have hlen : lenD (.lst (gl.map intN)) = some (.int (gl.length : Nat)) := by rw [lenD_lst, List.length_map]
  obtain ⟨ρ', e, y7, y8, hz, h7⟩ := forL_ind (tg := .nm 7) (body := exs T bR7) (ds := gl.map intN) (ρ := [.val (.int (n : Nat)), s1, .val (.lst (ds.map D.int)), .val (.int wide), .own (ts.map stD), .val (.int (x : Nat)), .val (.lst (gl.map intN)), z7, z8])
    (fun i ρ => ∃ y7 y8, ρ = [.val (.int (n : Nat)), s1, .val (.lst (ds.map D.int)), .val (.int wide), .own ((ts ++ ((gl.take i).map (m3R ds wide n x)).map (stM x gl.length)).map stD), .val (.int (x : Nat)), .val (.lst (gl.map intN)), y7, y8] ∧ (y7 = z7 ∨ ∃ d, y7 = .val d)) ⟨z7, z8, by simp, .inl rfl⟩ (fun i d ρ hd ⟨y7, y8, hρ, _⟩ => by
      rw [List.getElem?_map] at hd
      obtain ⟨y, hy, rfl⟩ := Option.map_eq_some_iff.mp hd
      subst hρ
      have hyn := hg y (List.mem_of_getElem? hy)
      have hpl := pos_lt hx hyn
      have h16 := ok.n16
      have hnn : n * n ≤ 16 * 16 := Nat.mul_le_mul h16 h16
      have hM : gl.length ≠ 0 := fun z => hgl (List.eq_nil_of_length_eq_zero z)
      have cb := costR_bd ok x y
      have eS : stD (stM x gl.length (m3R ds wide n x y)) = .tup [.int (x : Nat), .int (y : Nat), .tup [.int 1, .int (gl.length : Nat)], .int (costR ds wide n x y)] := by
        unfold stD Pu.stM m3R
        dsimp only
        rw [Int.toNat_of_nonneg cb.1]
        have : ratD (mkRat ((1 : Nat) : Int) gl.length) = .tup [.int 1, .int (gl.length : Nat)] := by
          unfold ratD
          rw [← Rat.normalize_eq_mkRat hM, Rat.num_normalize, Rat.den_normalize]
          simp
        rw [this]
      have e2 : (ts ++ ((gl.take (i + 1)).map (m3R ds wide n x)).map (stM x gl.length)).map stD = (ts ++ ((gl.take i).map (m3R ds wide n x)).map (stM x gl.length)).map stD ++ [.tup [.int (x : Nat), .int (y : Nat), .tup [.int 1, .int (gl.length : Nat)], .int (costR ds wide n x y)]] := by
        rw [take_succ hy, ← eS]
        simp
      rw [e2]
      have md : modD (.int ((y : Int) - (x : Int))) (.int (n : Int)) = some (.int (stepM n x y)) := modD_int (by have := ok.n2; omega)
      have sb := stepM_bd ok.n2 x y
      have m1 : mulD (.int wide) (.int (stepM n x y)) = some (.int (wide * stepM n x y)) := mulD_int (Nat.lt_of_lt_of_le (show wide.natAbs < 1024 by have := ok.w; omega) (by decide)) (Nat.lt_of_lt_of_le (show (stepM n x y).natAbs < 1024 by omega) (by decide))
      have m2 : mulD (.int (x : Int)) (.int (n : Int)) = some (.int ((x * n : Nat) : Int)) := by
        rw [mulD_int (Nat.lt_of_lt_of_le (show (x : Int).natAbs < 1024 by omega) (by decide)) (Nat.lt_of_lt_of_le (show (n : Int).natAbs < 1024 by omega) (by decide)), Int.natCast_mul]
      have m3 : mulD (.int 2) (.int (((x * n : Nat) : Int) + (y : Int))) = some (.int (2 * (((x * n : Nat) : Int) + (y : Int)))) := mulD_int (by decide) (Nat.lt_of_lt_of_le (show (((x * n : Nat) : Int) + (y : Int)).natAbs < 1024 by omega) (by decide))
      have hq : idxD (.lst (ds.map D.int)) (.int (2 * (((x * n : Nat) : Int) + (y : Int)) + 1)) = some (.int (qv ds (2 * (x * n + y) + 1))) := by
        have ec : 2 * (((x * n : Nat) : Int) + (y : Int)) + 1 = ((2 * (x * n + y) + 1 : Nat) : Int) := by omega
        rw [ec]
        refine qv_at ?_
        rw [ok.len, Nat.mul_assoc]
        omega
      have mx : ∀ v : Int, BI.fn .max [.int 0, .int v] = some (.int (if v > 0 then v else 0)) := fun v => rfl
      have hll : ((ts ++ ((gl.take i).map (m3R ds wide n x)).map (stM x gl.length)).map stD).length < 16777216 := by
        rw [List.length_map, List.length_append, List.length_map, List.length_map, List.length_take]
        omega
      have ei : intN y = .int (y : Nat) := rfl
      rw [ei]
      unfold costR
      by_cases h1 : 1 < stepM n x y
      · rw [if_pos h1]
        refine ⟨_, _, rfl, .inl ?_, .val (.int (y : Nat)), .val (.int (if wide * stepM n x y + qv ds (2 * (x * n + y) + 1) - 2 > 0 then wide * stepM n x y + qv ds (2 * (x * n + y) + 1) - 2 else 0)), rfl, .inr ⟨_, rfl⟩⟩
        generalize (ts ++ ((gl.take i).map (m3R ds wide n x)).map (stM x gl.length)).map stD = G at *
        generalize gl.map intN = GL at *
        generalize ds.map D.int = DS at *
        generalize qv ds (2 * (x * n + y) + 1) = q at *
        generalize wide * stepM n x y = v at *
        generalize stepM n x y = m at *
        generalize ((x * n : Nat) : Int) = xn at *
        simp -implicitDefEqProofs [bR7, md, m1, m2, m3, hq, mx, h1, hlen, hll]
      · rw [if_neg h1]
        refine ⟨_, _, rfl, .inl ?_, .val (.int (y : Nat)), .val (.int (wide * stepM n x y)), rfl, .inr ⟨_, rfl⟩⟩
        generalize (ts ++ ((gl.take i).map (m3R ds wide n x)).map (stM x gl.length)).map stD = G at *
        generalize gl.map intN = GL at *
        generalize ds.map D.int = DS at *
        generalize wide * stepM n x y = v at *
        generalize stepM n x y = m at *
        simp -implicitDefEqProofs [bR7, md, m1, h1, hlen, hll])
  rw [List.length_map, List.take_length] at hz
  subst hz
  exact ⟨y7, y8, e, h7⟩
def isG (ds : List Int) (n x : Nat) : D → Bool
  | .int y => decide (y.toNat ≠ x) && gB ds n x y.toNat
  | _ => false
theorem goals_D {x : Nat} : (nats n).filter (isG ds n x) = (goalsR ds n x).map intN := by
  unfold nats goalsR
  rw [List.filter_map]
  rfl
theorem goals_lc (T : Tab) (ok : RoadOk ds n wide) {x : Nat} (hx : x < n) {s1 s3 s4 s6 s8 : Sl} :
    lcL (asg (.nm 7)) (evc T (.yes (.ands (.cons (.cmp .NotEq (.var 7) (.var 5)) (.cons (.ors (.cons (.cmp .Eq (.bin .Mod (.bi .int (.cons (.bin .Sub (.var 7) (.var 5)) .nil)) (.var 0)) (.int 1)) (.cons (.cmp .Eq (.idx (.var 2) (.bin .Mult (.int 2) (.bin .Add (.bin .Mult (.var 5) (.var 0)) (.var 7)))) (.int 0)) .nil))) .nil))))) (ev T (.var 7) .val)
      [.val (.int (n : Nat)), s1, .val (.lst (ds.map D.int)), s3, s4, .val (.int (x : Nat)), s6, .no, s8] (nats n) = .ok ((goalsR ds n x).map intN) := by
  rw [lcL_filter (h := id) (p := isG ds n x) fun d hd => ?_, List.map_id, goals_D]
  obtain ⟨y, hy⟩ := List.mem_iff_getElem?.mp hd
  obtain ⟨hyn, rfl⟩ := nats_at hy
  have h16 := ok.n16
  have hpl := pos_lt hx hyn
  have hnn : n * n ≤ 16 * 16 := Nat.mul_le_mul h16 h16
  have md : modD (.int ((y : Int) - (x : Int))) (.int (n : Int)) = some (.int (stepM n x y)) := modD_int (by have := ok.n2; omega)
  have m2 : mulD (.int (x : Int)) (.int (n : Int)) = some (.int ((x * n : Nat) : Int)) := by
    rw [mulD_int (Nat.lt_of_lt_of_le (show (x : Int).natAbs < 1024 by omega) (by decide)) (Nat.lt_of_lt_of_le (show (n : Int).natAbs < 1024 by omega) (by decide)), Int.natCast_mul]
  have m3 : mulD (.int 2) (.int (((x * n : Nat) : Int) + (y : Int))) = some (.int (2 * (((x * n : Nat) : Int) + (y : Int)))) := mulD_int (by decide) (Nat.lt_of_lt_of_le (show (((x * n : Nat) : Int) + (y : Int)).natAbs < 1024 by omega) (by decide))
  have hq : idxD (.lst (ds.map D.int)) (.int (2 * (((x * n : Nat) : Int) + (y : Int)))) = some (.int (qv ds (2 * (x * n + y)))) := by
    have ec : 2 * (((x * n : Nat) : Int) + (y : Int)) = ((2 * (x * n + y) : Nat) : Int) := by omega
    rw [ec]
    refine qv_at ?_
    rw [ok.len, Nat.mul_assoc]
    omega
  refine ⟨_, rfl, ?_, fun _ => by simp -implicitDefEqProofs⟩
  have eG : isG ds n x (.int (y : Int)) = (decide (y ≠ x) && gB ds n x y) := rfl
  rw [eG]
  unfold gB
  generalize ds.map D.int = DS at *
  generalize qv ds (2 * (x * n + y)) = q at *
  generalize stepM n x y = m at *
  generalize ((x * n : Nat) : Int) = xn at *
  by_cases hyx : y = x
  · have hyx' : (y : Int) = (x : Int) := by omega
    simp -implicitDefEqProofs [evc, hyx']
    simp [hyx]
  · have hyx' : ¬ ((y : Int) = (x : Int)) := by omega
    by_cases hm : m = 1
    · simp -implicitDefEqProofs [evc, hyx', md, hm]
      simp [hyx]
    · simp -implicitDefEqProofs [evc, hyx', md, hm, m2, m3, hq]
      simp [hyx]
theorem goals_mem {x y : Nat} : y ∈ goalsR ds n x ↔ y < n ∧ y ≠ x ∧ gB ds n x y = true := by
  unfold goalsR
  rw [List.mem_filter, List.mem_range, Bool.and_eq_true, decide_eq_true_eq]
theorem goals_ring (ok : RoadOk ds n wide) {x y : Nat} (hx : x < n) (hy : y < n) (hyx : y ≠ x) (h : y = (x + 1) % n) : y ∈ goalsR ds n x := by
  rw [goals_mem]
  refine ⟨hy, hyx, ?_⟩
  have hn := ok.n2
  have : stepM n x y = 1 := by
    unfold stepM
    rw [Int.fmod_eq_emod_of_nonneg _ (by omega)]
    by_cases h1 : x + 1 < n
    · rw [Nat.mod_eq_of_lt h1] at h
      have : (y : Int) - (x : Int) = 1 := by omega
      rw [this]
      exact Int.emod_eq_of_lt (by decide) (by omega)
    · have h2 : x + 1 = n := by omega
      rw [h2, Nat.mod_self] at h
      have : (y : Int) - (x : Int) = 1 - n := by omega
      rw [this, Int.sub_emod, Int.emod_self, Int.sub_zero, Int.emod_emod]
      exact Int.emod_eq_of_lt (by decide) (by omega)
  unfold gB
  rw [this]
  simp
theorem m3_sum (wide : Int) (x : Nat) (gl : List Nat) : sumP (gl.map (m3R ds wide n x)) = gl.length := by
  unfold sumP
  induction gl with
  | nil => rfl
  | cons y gl ih =>
    rw [List.map_cons, List.foldr_cons, ih, List.length_cons]
    show 1 + gl.length = gl.length + 1
    omega
theorem r_x (ok : RoadOk ds n wide) (s1 : Sl) : ∃ (ts : List St4) (y5 y6 y7 y8 : Sl), forL (.nm 5) (exs TP_l_road bR5) (nats n) [.val (.int (n : Nat)), s1, .val (.lst (ds.map D.int)), .val (.int wide), .own [], .no, .no, .no, .no]
    = .nx [.val (.int (n : Nat)), s1, .val (.lst (ds.map D.int)), .val (.int wide), .own (ts.map stD), y5, y6, y7, y8] ∧ DrawnX n 60 false n ts := by
  have h16 := ok.n16
  have h2 := ok.n2
  obtain ⟨ρ', e, ts, y5, y6, y7, y8, hz, _, g⟩ := forL_ind (tg := .nm 5) (body := exs TP_l_road bR5) (ds := nats n) (ρ := [.val (.int (n : Nat)), s1, .val (.lst (ds.map D.int)), .val (.int wide), .own [], .no, .no, .no, .no])
    (fun i ρ => ∃ (ts : List St4) (y5 y6 y7 y8 : Sl), ρ = [.val (.int (n : Nat)), s1, .val (.lst (ds.map D.int)), .val (.int wide), .own (ts.map stD), y5, y6, y7, y8] ∧ (y7 = .no ∨ ∃ d, y7 = .val d) ∧ DrawnX n 60 false i ts) ⟨[], .no, .no, .no, .no, rfl, .inl rfl, drawn_nil⟩ (fun i d ρ hd ⟨ts, y5, y6, y7, y8, hρ, h7, g⟩ => by
      obtain ⟨hi, rfl⟩ := nats_at hd
      subst hρ
      have hne : goalsR ds n i ≠ [] := fun z => by
        have hmem := goals_ring ok hi (Nat.mod_lt _ (by omega)) (show (i + 1) % n ≠ i from fun e => by
          by_cases h1 : i + 1 < n
          · rw [Nat.mod_eq_of_lt h1] at e; omega
          · have : i + 1 = n := by omega
            rw [this, Nat.mod_self] at e; omega) rfl
        rw [z] at hmem
        cases hmem
      have gl : (goalsR ds n i).length ≤ n := by
        unfold goalsR
        exact Nat.le_trans (List.length_filter_le _ _) (by rw [List.length_range]; exact Nat.le_refl _)
      have tl := g.len
      have hnn : 2 * n * i ≤ 2 * 16 * 16 := Nat.mul_le_mul (by omega) (by omega)
      obtain ⟨x7, x8, hin, hx7⟩ := r_in TP_l_road ok hi (gl := goalsR ds n i) (fun y hy => (goals_mem.mp hy).1) hne (ts := ts) (by omega) s1 y7 y8
      have hlc := goals_lc TP_l_road ok hi (s1 := s1) (s3 := .val (.int wide)) (s4 := .own (ts.map stD)) (s6 := y6) (s8 := y8)
      have hr := rngR1_nat (n := n) (by omega)
      have ds' := drawn_step (t0 := 0) (ms := (goalsR ds n i).map (m3R ds wide n i)) g hi (by omega) (by decide) (by rw [List.length_map]; omega) (fun u hu => by
        obtain ⟨y, hy, rfl⟩ := List.mem_map.mp hu
        obtain ⟨a, b, _⟩ := goals_mem.mp hy
        have cb := costR_bd ok i y
        exact ⟨a, b, Nat.le_refl _, by show 1 ≤ 7; decide, by show (costR ds wide n i y).toNat ≤ 60; omega⟩) (fun y hy hyx hN => by
        unfold Need at hN
        rw [if_neg Bool.false_ne_true] at hN
        exact ⟨_, List.mem_map.mpr ⟨y, goals_ring ok hi hy hyx hN, rfl⟩, rfl⟩)
      rw [m3_sum, Nat.zero_add] at ds'
      refine ⟨_, _, rfl, .inl ?_, _, .val (.int (i : Int)), .val (.lst ((goalsR ds n i).map intN)), x7, x8, rfl, (by rcases hx7 with rfl | h; exact h7; exact .inr h), ds'⟩
      generalize (ts ++ ((goalsR ds n i).map (m3R ds wide n i)).map (stM i (goalsR ds n i).length)).map stD = G2 at *
      generalize ts.map stD = G1 at *
      generalize (goalsR ds n i).map intN = GL at *
      generalize ds.map D.int = DS at *
      have hp7 : pub1 [y7, y8] 0 = [y7, y8] := by rcases h7 with rfl | ⟨d, rfl⟩ <;> rfl
      simp -implicitDefEqProofs [bR5, hp7, hr, lcR_ok hlc, hin])
  rw [nats_len] at g
  subst hz
  exact ⟨ts, y5, y6, y7, y8, e, g⟩
theorem drawn_rev {n dear X : Nat} {six : Bool} {ts : List St4} (d : DrawnX n dear six X ts) : DrawnX n dear six X ts.reverse := by
  have prev : ∀ (u : St4 → Nat) (x : Nat) (l : List St4), partSum u x l.reverse = partSum u x l := fun u x l => by
    induction l with
    | nil => rfl
    | cons t l ih => rw [List.reverse_cons, partSum_app, ih, partSum_cons, partSum_cons]; show _ + (_ + 0) = _; omega
  refine ⟨fun t ht => d.st t (List.mem_reverse.mp ht), fun s hs => ?_, fun s y h1 h2 h3 h4 => ?_, by rw [List.length_reverse]; exact d.len⟩
  · obtain ⟨M, a, b, c, e⟩ := d.out s hs
    exact ⟨M, a, b, fun t ht => c t (List.mem_reverse.mp ht), by rw [prev]; exact e⟩
  · obtain ⟨t, ht, e⟩ := d.edge s y h1 h2 h3 h4
    exact ⟨t, List.mem_reverse.mpr ht, e⟩
end
/-! k08: the drawn machine and its twin -/
theorem e60 : (2 : Int) ^ 60 = 1152921504606846976 := by decide +kernel
theorem rep_all {α : Type} {l : List α} {n : Nat} {x : α} (h : x ∈ (List.replicate n l).flatten) : x ∈ l := by
  obtain ⟨m, hm, h⟩ := List.mem_flatten.mp h
  rw [List.eq_of_mem_replicate hm] at h
  exact h
theorem rep_map (l : List Int) (n : Nat) : (List.replicate n (l.map D.int)).flatten = ((List.replicate n l).flatten).map D.int := by
  induction n with
  | zero => rfl
  | succ n ih => rw [List.replicate_succ, List.flatten_cons, List.replicate_succ, List.flatten_cons, List.map_append, ih]
theorem qv_bd {ds ss : List Int} (h : Below ds ss) (hs : ∀ s ∈ ss, s ≤ 4) (k : Nat) : 0 ≤ qv ds k ∧ qv ds k < 4 := by
  unfold qv
  rw [List.getD_eq_getElem?_getD]
  by_cases hk : k < ds.length
  · have hk2 : k < ss.length := by rw [← h.1]; exact hk
    obtain ⟨a, b⟩ := h.2 k _ _ (List.getElem?_eq_getElem hk) (List.getElem?_eq_getElem hk2)
    rw [List.getElem?_eq_getElem hk]
    have := hs _ (List.getElem_mem hk2)
    exact ⟨a, by simp only [Option.getD_some]; omega⟩
  · rw [List.getElem?_eq_none (by omega)]
    exact ⟨by simp, by simp⟩
def roadS (n : Nat) : List Int := (List.replicate (n * n) [(3 : Int), 4]).flatten ++ [3, 3]
theorem roadS_len (n : Nat) : (roadS n).length = 2 * n * n + 2 := by
  unfold roadS
  rw [List.length_append, rep_len]
  show n * n * 2 + 2 = 2 * n * n + 2
  rw [Nat.mul_comm (n * n) 2, Nat.mul_assoc]
theorem roadS_mem {n : Nat} : ∀ s ∈ roadS n, 0 < s ∧ s ≤ 4 := by
  intro s hs
  unfold roadS at hs
  rcases List.mem_append.mp hs with h | h
  · have := rep_all h
    simp only [List.mem_cons, List.not_mem_nil, or_false] at this
    omega
  · simp only [List.mem_cons, List.not_mem_nil, or_false] at h
    omega
theorem e_road {n : Nat} (h2 : 2 ≤ n) (h16 : n ≤ 16) (c : Int) : ∃ ts, F_l_road [.int (n : Nat), .int c] = .ok (.lst [.int (n : Nat), .lst (ts.map stD)]) ∧ DrawnX n 60 false n ts := by
  have hnn : n * n ≤ 16 * 16 := Nat.mul_le_mul h16 h16
  obtain ⟨ds, hds, hb⟩ := d_digs c (roadS n) (by rw [roadS_len, Nat.mul_assoc]; omega) (fun s hs => by
    rw [e60]
    have := roadS_mem s hs
    omega)
  have hlen : ds.length = 2 * n * n + 2 := by rw [hb.1, roadS_len]
  have hq := qv_bd hb (fun s hs => (roadS_mem s hs).2)
  have w3 : qv ds (2 * n * n) < 3 := by
    have hs : (roadS n)[2 * n * n]? = some 3 := by
      unfold roadS
      have hl : ((List.replicate (n * n) [(3 : Int), 4]).flatten).length = 2 * n * n := by
        rw [rep_len]
        show n * n * 2 = _
        rw [Nat.mul_comm (n * n) 2, Nat.mul_assoc]
      rw [List.getElem?_append_right (by rw [hl]; exact Nat.le_refl _), hl, Nat.sub_self]
      rfl
    obtain ⟨d, a, b, c⟩ := below_at2 hb hs
    unfold qv
    rw [List.getD_eq_getElem?_getD, a]
    exact c
  have ok : RoadOk ds n (1 + qv ds (2 * n * n)) := ⟨h2, h16, hlen, by have := (hq (2 * n * n)).1; omega, hq⟩
  obtain ⟨ts, y5, y6, y7, y8, e, g⟩ := r_x ok (.val (.int c))
  have mn : mulD (.int (n : Int)) (.int (n : Int)) = some (.int ((n * n : Nat) : Int)) := by
    rw [mulD_int (Nat.lt_of_lt_of_le (show (n : Int).natAbs < 1024 by omega) (by decide)) (Nat.lt_of_lt_of_le (show (n : Int).natAbs < 1024 by omega) (by decide)), Int.natCast_mul]
  have m2 : mulD (.int 2) (.int (n : Int)) = some (.int ((2 * n : Nat) : Int)) := by
    rw [mulD_int (by decide) (Nat.lt_of_lt_of_le (show (n : Int).natAbs < 1024 by omega) (by decide)), Int.natCast_mul]
    rfl
  have m3 : mulD (.int ((2 * n : Nat) : Int)) (.int (n : Int)) = some (.int ((2 * n * n : Nat) : Int)) := by
    rw [mulD_int (Nat.lt_of_lt_of_le (show ((2 * n : Nat) : Int).natAbs < 1024 by omega) (by decide)) (Nat.lt_of_lt_of_le (show (n : Int).natAbs < 1024 by omega) (by decide)), Int.natCast_mul (2 * n) n]
  have ml : mulD (.lst [.int 3, .int 4]) (.int ((n * n : Nat) : Int)) = some (.lst (List.replicate (n * n) [D.int 3, .int 4]).flatten) := mul_lst (by show 2 * (n * n) ≤ 16777216; omega) (by omega)
  have ad : addD (.lst (List.replicate (n * n) [D.int 3, .int 4]).flatten) (.lst [.int 3, .int 3]) = some (.lst ((roadS n).map D.int)) := by
    rw [addD_lst (by rw [rep_len]; show n * n * 2 + 2 ≤ 16777216; omega)]
    unfold roadS
    rw [List.map_append, ← rep_map]
    rfl
  have q0 := qv_at (ds := ds) (k := 2 * n * n) (by rw [hlen]; omega)
  have q1 : idxD (.lst (ds.map D.int)) (.int (((2 * n * n : Nat) : Int) + 1)) = some (.int (qv ds (2 * n * n + 1))) := qv_at (ds := ds) (k := 2 * n * n + 1) (by rw [hlen]; omega)
  have hr := rngR1_nat (n := n) (by omega)
  by_cases hp : 0 < qv ds (2 * n * n + 1)
  · refine ⟨ts.reverse, ?_, drawn_rev g⟩
    rw [List.map_reverse]
    generalize ts.map stD = G at *
    generalize (List.replicate (n * n) [D.int 3, .int 4]).flatten = L at *
    generalize (roadS n).map D.int = RS at *
    generalize ds.map D.int = DS at *
    generalize qv ds (2 * n * n) = w0 at *
    generalize qv ds (2 * n * n + 1) = w1 at *
    generalize ((2 * n * n : Nat) : Int) = v3 at *
    generalize ((2 * n : Nat) : Int) = v2 at *
    generalize ((n * n : Nat) : Int) = v1 at *
    unfold F_l_road runFn
    simp -implicitDefEqProofs [b_l_road, t_l_road_l_digits, mn, m2, m3, ml, ad, hds, q0, q1, hr, e, hp]
  · refine ⟨ts, ?_, g⟩
    generalize ts.map stD = G at *
    generalize (List.replicate (n * n) [D.int 3, .int 4]).flatten = L at *
    generalize (roadS n).map D.int = RS at *
    generalize ds.map D.int = DS at *
    generalize qv ds (2 * n * n) = w0 at *
    generalize qv ds (2 * n * n + 1) = w1 at *
    generalize ((2 * n * n : Nat) : Int) = v3 at *
    generalize ((2 * n : Nat) : Int) = v2 at *
    generalize ((n * n : Nat) : Int) = v1 at *
    unfold F_l_road runFn
    simp -implicitDefEqProofs [b_l_road, t_l_road_l_digits, mn, m2, m3, ml, ad, hds, q0, q1, hr, e, hp]
theorem mach_one : MachOk 1 [] where
  small := by decide
  len := by decide
  st := fun t h => absurd h List.not_mem_nil
  out := fun x hx => ⟨1, fun _ => 0, by decide, by decide, fun t h => absurd h List.not_mem_nil, Nat.zero_le _⟩
  joined := fun x y hx hy => ⟨0, by decide, by
    have : x = y := by omega
    subst this
    exact .nil x⟩
def dears : List Int := [5, 5, 3, 60, 9, 2, 20, 60, 0, 1, 12, 33]
theorem dears_bd : ∀ z ∈ dears, 0 ≤ z ∧ z ≤ 60 := by decide
theorem e_drawn (ns : List Int) : ∃ (n : Nat) (ts : List St4), 0 < n ∧ n < 17 ∧ ts.length ≤ 1000 ∧ F_l_drawn [.frl (ns.map D.int)] = .ok (.lst [.int (n : Nat), .lst (ts.map stD)]) ∧ MachOk n ts := by
  obtain ⟨c, hc⟩ := d_cell ns 0 (by decide)
  obtain ⟨c2, hc2⟩ := d_cell ns 10 (by decide)
  obtain ⟨ds, hds, hb⟩ := d_digs c [18, 12, 15] (by simp) (fun s hs => by
    rw [e60]
    simp only [List.mem_cons, List.not_mem_nil, or_false] at hs
    omega)
  obtain ⟨d0, a0, b0, c0⟩ := below_at2 hb (i := 0) (s := 18) rfl
  obtain ⟨d1, a1, b1, c1⟩ := below_at2 hb (i := 1) (s := 12) rfl
  obtain ⟨d2, a2, b2, c2'⟩ := below_at2 hb (i := 2) (s := 15) rfl
  have g : ∀ {j : Nat} {z : Int}, ds[j]? = some z → idxD (.lst (ds.map D.int)) (.int (j : Int)) = some (.int z) := fun {j z} hz => idxD_lst (by rw [List.getElem?_map, hz]; rfl)
  have i0 : idxD (.lst (ds.map D.int)) (.int 0) = some (.int d0) := g a0
  have i1 : idxD (.lst (ds.map D.int)) (.int 1) = some (.int d1) := g a1
  have i2 : idxD (.lst (ds.map D.int)) (.int 2) = some (.int d2) := g a2
  have hds' : F_l_digits [.int c, .lst [.int 18, .int 12, .int 15]] = .ok (.lst (ds.map D.int)) := hds
  have hc' : F_l_cell [.frl (ns.map D.int), .int 0] = .ok (.int c) := hc
  have hc2' : F_l_cell [.frl (ns.map D.int), .int 10] = .ok (.int c2) := hc2
  obtain ⟨dear, hdear, hd60⟩ : ∃ dear : Nat, idxD (.lst [.int 5, .int 5, .int 3, .int 60, .int 9, .int 2, .int 20, .int 60, .int 0, .int 1, .int 12, .int 33]) (.int d1) = some (.int (dear : Nat)) ∧ dear ≤ 60 := by
    obtain ⟨k, rfl⟩ : ∃ k : Nat, d1 = (k : Int) := ⟨d1.toNat, by omega⟩
    have hk : k < dears.length := by show k < 12; omega
    have hm := dears_bd _ (List.getElem_mem hk)
    refine ⟨(dears[k]).toNat, ?_, by omega⟩
    have : idxD (.lst (dears.map D.int)) (.int (k : Nat)) = some (.int dears[k]) := idxD_lst (by rw [List.getElem?_map, List.getElem?_eq_getElem hk]; rfl)
    rw [Int.toNat_of_nonneg hm.1]
    exact this
  have out : ∀ {n : Nat} {ts : List St4} {dr : Nat} {six : Bool}, n < 17 → DrawnX n dr six n ts → ts.length ≤ 1000 := fun {n ts dr six} hn d => by
    have := d.len
    have : 2 * n * n ≤ 2 * 16 * 16 := Nat.mul_le_mul (by omega) (by omega)
    omega
  by_cases h3 : d0 < 3
  · obtain ⟨n, ts, six, n1, n2, hm, hD⟩ := d_machine ns (at_ := 10) (least := 6) (more := 11) (dear := dear) (by decide) (by decide) (by decide) (by omega) (by decide)
    have hts := out (by omega) hD
    obtain ⟨us, hf, hok, hl⟩ := e_fitting (mach_drawn (by omega) hd60 hD) (by omega)
    refine ⟨n, us, by omega, by omega, by omega, ?_, hok⟩
    replace hm : F_l_machine [.frl (ns.map D.int), .int 10, .int 6, .int 11, .int (dear : Nat)] = .ok (.lst [.int (n : Nat), .lst (ts.map stD)]) := hm
    generalize D.lst [.int (n : Nat), .lst (ts.map stD)] = M1 at *
    generalize D.lst [.int (n : Nat), .lst (us.map stD)] = M2 at *
    generalize ds.map D.int = DS at *
    generalize ns.map D.int = NS at *
    unfold F_l_drawn runFn
    simp -implicitDefEqProofs [b_l_drawn, t_l_drawn_l_digits, t_l_drawn_l_cell, t_l_drawn_l_machine, t_l_drawn_l_fitting, hc', hds', i0, i1, hdear, h3, hm, hf]
  · by_cases h6 : d0 < 6
    · obtain ⟨k, rfl⟩ : ∃ k : Nat, d2 = (k : Int) := ⟨d2.toNat, by omega⟩
      obtain ⟨ts, hm, hD⟩ := e_road (n := 2 + k) (by omega) (by omega) c2
      refine ⟨2 + k, ts, by omega, by omega, out (by omega) hD, ?_, mach_drawn (by omega) (by decide) hD⟩
      replace hm : F_l_road [.int (2 + (k : Int)), .int c2] = .ok (.lst [.int ((2 + k : Nat) : Int), .lst (ts.map stD)]) := hm
      generalize D.lst [.int ((2 + k : Nat) : Int), .lst (ts.map stD)] = M1 at *
      generalize ds.map D.int = DS at *
      generalize ns.map D.int = NS at *
      unfold F_l_drawn runFn
      simp -implicitDefEqProofs [b_l_drawn, t_l_drawn_l_digits, t_l_drawn_l_cell, t_l_drawn_l_road, hc', hds', i0, i1, i2, hdear, h3, h6, hc2', hm]
    · by_cases h66 : d0 = 6
      · refine ⟨1, [], by decide, by decide, by decide, ?_, mach_one⟩
        generalize ds.map D.int = DS at *
        generalize ns.map D.int = NS at *
        unfold F_l_drawn runFn
        simp -implicitDefEqProofs [b_l_drawn, t_l_drawn_l_digits, t_l_drawn_l_cell, hc', hds', i0, i1, hdear, h66]
      · obtain ⟨n, ts, six, n1, n2, hm, hD⟩ := d_machine ns (at_ := 10) (least := 2) (more := 5) (dear := dear) (by decide) (by decide) (by decide) (by omega) (by decide)
        refine ⟨n, ts, by omega, by omega, out (by omega) hD, ?_, mach_drawn (by omega) hd60 hD⟩
        replace hm : F_l_machine [.frl (ns.map D.int), .int 10, .int 2, .int 5, .int (dear : Nat)] = .ok (.lst [.int (n : Nat), .lst (ts.map stD)]) := hm
        generalize D.lst [.int (n : Nat), .lst (ts.map stD)] = M1 at *
        generalize ds.map D.int = DS at *
        generalize ns.map D.int = NS at *
        unfold F_l_drawn runFn
        simp -implicitDefEqProofs [b_l_drawn, t_l_drawn_l_digits, t_l_drawn_l_cell, t_l_drawn_l_machine, hc', hds', i0, i1, hdear, h3, h6, h66, hm]
/-! k08: the twin; what is asked from one state -/
def withC (t : St4) (c : Nat) : St4 := ⟨t.s, t.g, t.f, c⟩
def withCs (ts : List St4) (cs : List Nat) : List St4 := List.zipWith withC ts cs
theorem uOf_of {M : Nat} {u : St4 → Nat} {x : Nat} : ∀ {ts : List St4}, (∀ t ∈ ts, t.s = x → Part M (u t) t.f) → partSum (uOf M) x ts = partSum u x ts
  | [], _ => rfl
  | t :: ts, h => by
    rw [partSum_cons, partSum_cons, uOf_of fun t ht => h t (List.mem_cons_of_mem _ ht)]
    by_cases e : t.s = x
    · rw [if_pos e, if_pos e, uOf_part (h t List.mem_cons_self e)]
    · rw [if_neg e, if_neg e]
theorem part_with {M x : Nat} : ∀ {ts : List St4} {cs : List Nat}, cs.length = ts.length → partSum (uOf M) x (withCs ts cs) = partSum (uOf M) x ts
  | [], [], _ => rfl
  | [], _ :: _, h => by cases h
  | _ :: _, [], h => by cases h
  | t :: ts, c :: cs, h => by
    show partSum (uOf M) x (withC t c :: withCs ts cs) = _
    rw [partSum_cons, partSum_cons, part_with (by simpa using h)]
    rfl
theorem with_mem {ts : List St4} {cs : List Nat} (hl : cs.length = ts.length) {s : St4} (h : s ∈ withCs ts cs) : ∃ t ∈ ts, ∃ c ∈ cs, s = withC t c := by
  obtain ⟨i, hi⟩ := List.mem_iff_getElem?.mp h
  unfold withCs at hi
  rw [List.getElem?_zipWith] at hi
  cases h1 : ts[i]? with
  | none => rw [h1] at hi; cases hi
  | some t =>
    cases h2 : cs[i]? with
    | none => rw [h1, h2] at hi; cases hi
    | some c =>
      rw [h1, h2] at hi
      cases hi
      exact ⟨t, List.mem_of_getElem? h1, c, List.mem_of_getElem? h2, rfl⟩
theorem mem_with {ts : List St4} {cs : List Nat} (hl : cs.length = ts.length) {t : St4} (h : t ∈ ts) : ∃ c, withC t c ∈ withCs ts cs := by
  obtain ⟨i, hi⟩ := List.mem_iff_getElem?.mp h
  have hi' := (List.getElem?_eq_some_iff.mp hi).1
  refine ⟨cs[i]'(by omega), ?_⟩
  unfold withCs
  refine List.mem_of_getElem? (i := i) ?_
  rw [List.getElem?_zipWith, hi, List.getElem?_eq_getElem (by omega)]
theorem mach_with {n : Nat} {ts : List St4} {cs : List Nat} (ok : MachOk n ts) (hl : cs.length = ts.length) (hc : ∀ c ∈ cs, c ≤ 60) : MachOk n (withCs ts cs) where
  small := ok.small
  len := by
    unfold withCs
    rw [List.length_zipWith]
    have := ok.len
    omega
  st := fun s hs => by
    obtain ⟨t, ht, c, hcm, rfl⟩ := with_mem hl hs
    obtain ⟨a, b, d, e, f⟩ := ok.st t ht
    exact ⟨a, b, d, e, hc c hcm⟩
  out := fun x hx => by
    obtain ⟨M, u, a, b, c, d⟩ := ok.out x hx
    refine ⟨M, uOf M, a, b, fun s hs hsx => ?_, ?_⟩
    · obtain ⟨t, ht, c', hcm, rfl⟩ := with_mem hl hs
      have h := c t ht hsx
      rw [uOf_part (t := withC t c') (u := u t) h]
      exact h
    · rw [part_with hl, uOf_of c]
      exact d
  joined := fun x y hx hy => by
    obtain ⟨k, hk, w⟩ := ok.joined x y hx hy
    refine ⟨k, hk, way_sub (fun t ht => ?_) w⟩
    obtain ⟨c, hm⟩ := mem_with hl ht
    exact ⟨_, hm, rfl, rfl⟩
def twS (m : Nat) : List Int := 4 :: List.replicate m 61
theorem twS_D (m : Nat) (h : m ≤ 100000) : mulD (.lst [.int 61]) (.int (m : Int)) = some (.lst (List.replicate m (.int 61))) ∧ addD (.lst [.int 4]) (.lst (List.replicate m (.int 61))) = some (.lst ((twS m).map D.int)) := by
  constructor
  · rw [mul_lst (by show 1 * m ≤ 16777216; omega) (by omega)]
    congr 2
    induction m with
    | zero => rfl
    | succ m ih => rw [List.replicate_succ, List.flatten_cons, List.replicate_succ, ih (by omega)]; rfl
  · rw [addD_lst (by rw [List.length_replicate]; show 1 + m ≤ 16777216; omega)]
    unfold twS
    rw [List.map_cons, List.map_replicate]
    rfl
def twK (ts : List St4) (cs : List Nat) : D → D
  | .int k => match (withCs ts cs)[k.toNat]? with
    | some t => stD t
    | none => .non
  | _ => .non
theorem e_twin {n : Nat} {ts : List St4} (hl : ts.length ≤ 1000) (c : Int) : ∃ cs : List Nat, cs.length = ts.length ∧ (∀ c ∈ cs, c ≤ 60) ∧ F_l_twin [.lst [.int (n : Nat), .lst (ts.map stD)], .int c] = .ok (.lst [.int (n : Nat), .lst ((withCs ts cs).map stD)]) := by
  obtain ⟨ds, hds, hb⟩ := d_digs c (twS ts.length) (by unfold twS; rw [List.length_cons, List.length_replicate]; omega) (fun s hs => by
    rw [e60]
    unfold twS at hs
    rcases List.mem_cons.mp hs with rfl | h
    · omega
    · rw [List.eq_of_mem_replicate h]; omega)
  obtain ⟨d0, a0, b0, c0⟩ := below_at2 hb (i := 0) (s := 4) rfl
  have i0 : idxD (.lst (ds.map D.int)) (.int 0) = some (.int d0) := idxD_lst (i := 0) (by rw [List.getElem?_map, a0]; rfl)
  obtain ⟨dear, hdear, hd1, hd60⟩ : ∃ dear : Int, idxD (.lst [.int 2, .int 6, .int 20, .int 61]) (.int d0) = some (.int dear) ∧ 0 < dear ∧ dear ≤ 61 := by
    have : d0 = 0 ∨ d0 = 1 ∨ d0 = 2 ∨ d0 = 3 := by omega
    rcases this with rfl | rfl | rfl | rfl
    · exact ⟨2, lx0, by decide, by decide⟩
    · exact ⟨6, lx1, by decide, by decide⟩
    · exact ⟨20, lx2, by decide, by decide⟩
    · exact ⟨61, lx3, by decide, by decide⟩
  have fm : ∀ z : Int, 0 ≤ z.fmod dear ∧ z.fmod dear < dear := fun z => ⟨Int.fmod_nonneg_of_pos _ hd1, Int.fmod_lt_of_pos _ hd1⟩
  have hcl : ((List.range ts.length).map fun k => ((qv ds (1 + k)).fmod dear).toNat).length = ts.length := by rw [List.length_map, List.length_range]
  refine ⟨(List.range ts.length).map fun k => ((qv ds (1 + k)).fmod dear).toNat, hcl, fun c hc => ?_, ?_⟩
  · obtain ⟨k, _, rfl⟩ := List.mem_map.mp hc
    have := fm (qv ds (1 + k))
    omega
  · have j0 : idxD (.lst [.int (n : Nat), .lst (ts.map stD)]) (.int 0) = some (.int (n : Nat)) := idxD_lst (i := 0) rfl
    have j1 : idxD (.lst [.int (n : Nat), .lst (ts.map stD)]) (.int 1) = some (.lst (ts.map stD)) := idxD_lst (i := 1) rfl
    have hlen : lenD (.lst (ts.map stD)) = some (.int (ts.length : Nat)) := by rw [lenD_lst, List.length_map]
    have hr := rngR1_nat (n := ts.length) (by omega)
    obtain ⟨t1, t2⟩ := twS_D ts.length (by omega)
    have hdl : ds.length = ts.length + 1 := by rw [hb.1]; unfold twS; rw [List.length_cons, List.length_replicate]
    generalize hcs : ((List.range ts.length).map fun k => ((qv ds (1 + k)).fmod dear).toNat) = cs at *
    have hat : ∀ i, i < ts.length → (withCs ts cs)[i]? = some (withC (ts.getD i ⟨0, 0, 0, 0⟩) ((qv ds (1 + i)).fmod dear).toNat) := fun i hi => by
      unfold withCs
      rw [List.getElem?_zipWith, List.getElem?_eq_getElem hi, ← hcs, List.getElem?_map, List.getElem?_range hi, List.getD_eq_getElem?_getD, List.getElem?_eq_getElem hi]
      rfl
    have hlc : ∀ ρ : Ro, (∀ x, getB (ρ.set 5 (.val x)) 4 = .ok (.lst (ts.map stD))) → (∀ x, getB (ρ.set 5 (.val x)) 5 = .ok x) → (∀ x, getB (ρ.set 5 (.val x)) 2 = .ok (.lst (ds.map D.int))) → (∀ x, getB (ρ.set 5 (.val x)) 3 = .ok (.int dear)) →
        lcL (asg (.nm 5)) (evc TP_l_twin .no) (ev TP_l_twin (.tup (.cons (.idx (.idx (.var 4) (.var 5)) (.int 0)) (.cons (.idx (.idx (.var 4) (.var 5)) (.int 1)) (.cons (.idx (.idx (.var 4) (.var 5)) (.int 2)) (.cons (.bin .Mod (.bi .int (.cons (.idx (.var 2) (.bin .Add (.int 1) (.var 5))) .nil)) (.var 3)) .nil))))) .val) ρ (nats ts.length) = .ok ((withCs ts cs).map stD) := fun ρ h4 h5 h2 h3 => by
      rw [lcL_map (h := twK ts cs) fun d hd => ?_]
      · refine congrArg Res.ok (List.ext_getElem? fun i => ?_)
        rw [List.getElem?_map, List.getElem?_map]
        by_cases hi : i < ts.length
        · have : (nats ts.length)[i]? = some (.int (i : Int)) := by unfold nats; rw [List.getElem?_map, List.getElem?_range hi]; rfl
          rw [this, hat i hi]
          show some (twK ts cs (.int (i : Int))) = _
          unfold twK
          dsimp only
          rw [Int.toNat_natCast, hat i hi]
          rfl
        · rw [List.getElem?_eq_none (by rw [nats_len]; omega), List.getElem?_eq_none (by unfold withCs; rw [List.length_zipWith]; omega)]
          rfl
      · obtain ⟨i, hi⟩ := List.mem_iff_getElem?.mp hd
        obtain ⟨hi', rfl⟩ := nats_at hi
        have st : idxD (.lst (ts.map stD)) (.int (i : Nat)) = some (stD (ts.getD i ⟨0, 0, 0, 0⟩)) := idxD_lst (by
          rw [List.getElem?_map, List.getD_eq_getElem?_getD, List.getElem?_eq_getElem hi']
          rfl)
        have hq : idxD (.lst (ds.map D.int)) (.int (1 + (i : Int))) = some (.int (qv ds (1 + i))) := by
          have e : 1 + (i : Int) = ((1 + i : Nat) : Int) := by omega
          rw [e]
          exact qv_at (by omega)
        have e : twK ts cs (.int (i : Int)) = .tup [.int ((ts.getD i ⟨0, 0, 0, 0⟩).s : Nat), .int ((ts.getD i ⟨0, 0, 0, 0⟩).g : Nat), ratD (ts.getD i ⟨0, 0, 0, 0⟩).f, .int ((qv ds (1 + i)).fmod dear)] := by
          unfold twK
          dsimp only
          rw [Int.toNat_natCast, hat i hi']
          show D.tup [_, _, _, .int ((((qv ds (1 + i)).fmod dear).toNat : Nat) : Int)] = _
          rw [Int.toNat_of_nonneg (fm (qv ds (1 + i))).1]
          rfl
        rw [e]
        generalize ts.getD i ⟨0, 0, 0, 0⟩ = t at *
        have k0 : idxD (stD t) (.int 0) = some (.int (t.s : Nat)) := four0
        have k1 : idxD (stD t) (.int 1) = some (.int (t.g : Nat)) := four1
        have k2 : idxD (stD t) (.int 2) = some (ratD t.f) := four2
        have md : ∀ z : Int, modD (.int z) (.int dear) = some (.int (z.fmod dear)) := fun z => modD_int (by omega)
        exact ⟨_, rfl, evc_no, by simp -implicitDefEqProofs [h4, h5, h2, h3, st, k0, k1, k2, hq, md]⟩
    generalize hmach : D.lst [.int (n : Nat), .lst (ts.map stD)] = mach at *
    have hl := hlc [.val mach, .val (.int c), .val (.lst (ds.map D.int)), .val (.int dear), .val (.lst (ts.map stD)), .no] (fun _ => rfl) (fun _ => rfl) (fun _ => rfl) (fun _ => rfl)
    generalize (withCs ts cs).map stD = G2 at *
    generalize ts.map stD = G1 at *
    generalize List.replicate ts.length (D.int 61) = R61 at *
    generalize (twS ts.length).map D.int = TW at *
    generalize ds.map D.int = DS at *
    unfold F_l_twin runFn
    simp -implicitDefEqProofs [b_l_twin, t_l_twin_l_digits, j0, j1, hlen, t1, t2, hds, i0, hdear, hr, lcR_ok hl]
/-! k08: what is asked from one state -/
abbrev bF1 : Ss := (.cons (.ite (.ors (.cons (.not_ (.call "_law_whole" (.cons (.idx (.var 4) (.var 5)) .nil))) (.cons (.cmp .NotEq (.idx (.var 4) (.var 5)) (.idx (.var 3) (.var 5))) .nil))) (.cons (.ret (.yes (.bl false))) .nil) .nil) .nil)
abbrev bF3 : Ss := (.cons (.ite (.not_ (.call "_law_says" (.cons (.var 0) (.cons (.var 1) (.cons (.var 2) (.cons (.var 7) (.cons (.bi .list (.cons (.var 6) .nil)) .nil))))))) (.cons (.ret (.yes (.bl false))) .nil) .nil) .nil)
abbrev bF2 : Ss := (.cons (.set 6 (.call "cheapest_way" (.cons (.var 0) (.cons (.var 2) (.cons (.var 5) .nil))))) (.cons (.ite (.not_ (.call "_law_is_cheapest" (.cons (.var 1) (.cons (.var 2) (.cons (.var 5) (.cons (.var 6) (.cons (.idx (.var 3) (.var 5)) .nil))))))) (.cons (.ret (.yes (.bl false))) .nil) .nil) (.cons (.for_ (.nm 7) (.rng (.idx (.var 1) (.int 0))) bF3) .nil)))
def machL (n : Nat) (ts : List St4) : D := .lst [.int (n : Nat), .lst (ts.map stD)]
def intsL (zs : List Int) : D := .lst (zs.map D.int)
theorem ne_ints (zs : List Int) : neD (intsL zs) (intsL zs) = some (.bl false) := by
  have hf : fitD (intsL zs) 64 = true := by
    unfold intsL
    simp only [fitD]
    exact fitDs_mem.mpr fun d hd => by obtain ⟨z, _, rfl⟩ := List.mem_map.mp hd; simp only [fitD]
  rw [neD_fit hf hf, eqvD_refl _ 64 hf]
  rfl
theorem e_stg (i n : Int) : F_is_state [.int i, .int n] = .ok (.bl (decide (0 ≤ i) && decide (i < n))) := is_state_gen _ t_is_state_is_whole m_whole i n
theorem e_lwhole (i : Int) : F_l_whole [.int i] = .ok (.bl true) := rfl
section
variable {n : Nat} {ts : List St4}
theorem e_leads {row : D} {zs : List Int} (hrow : itR itemsR (.ok row) = .ok (zs.map D.int)) {x y : Nat} : F_l_leads [machL n ts, .int (x : Nat), .int (y : Nat), row] = .ok (.bl (leadB ts x y zs)) := leads_ok _ (idxD_lst (i := 1) rfl) hrow
theorem e_isway {names : List D} {row : D} {zs : List Int} (hrow : itR itemsR (.ok row) = .ok (zs.map D.int)) {x y : Nat} : F_is_way [machD names ts 1, .int (x : Nat), .int (y : Nat), row] = .ok (.bl (leadB ts x y zs)) := is_way_ok _ t_is_way_is_state e_stg (by decide +kernel) hrow
theorem e_says {names : List D} {zs : List Int} {x y : Nat} : F_l_says [machD names ts 1, machL n ts, .int (x : Nat), .int (y : Nat), intsL zs] = .ok (.bl true) := by
  have a1 := e_leads (n := n) (ts := ts) (row := intsL zs) (zs := zs) rfl (x := x) (y := y)
  have a2 := e_isway (names := names) (ts := ts) (row := intsL zs) (zs := zs) rfl (x := x) (y := y)
  have a3 := e_isway (names := names) (ts := ts) (row := .tup (zs.map D.int)) (zs := zs) rfl (x := x) (y := y)
  have l1 : listD (intsL zs) = some (intsL zs) := rfl
  have l2 : tupleD (intsL zs) = some (.tup (zs.map D.int)) := rfl
  have ne := ne_ints zs
  generalize leadB ts x y zs = b at *
  have nb : neD (.bl b) (.bl b) = some (.bl false) := by cases b <;> rfl
  have ty : isTy .bool (.bl b) = some true := rfl
  generalize machL n ts = ML at *
  generalize machD names ts 1 = MD at *
  unfold intsL at *
  generalize zs.map D.int = ZS at *
  unfold F_l_says runFn
  simp -implicitDefEqProofs [b_l_says, t_l_says_l_leads, t_l_says_is_way, a1, a2, a3, l1, l2, ne, nb, tyR_ok ty]
theorem e_mlen {names : List D} : F_Machine_len [machD names ts 1] = .ok (.int (names.length : Nat)) := machine_len_ok _ (by decide +kernel)
theorem e_bf (ok : MachOk n ts) {x : Nat} (hx : x < n) : BF ts n x (rounds ts n (start0 n x)) := bf_ok (fun t ht => ⟨(ok.st t ht).s, (ok.st t ht).g⟩) ok.joined hx
theorem e_spread (ok : MachOk n ts) {names : List D} (hn : names.length = n) {x : Nat} (hx : x < n) : F_spread [machD names ts 1, .int (x : Nat)] = .ok (.tup [.lst (onsD (rounds ts n (start0 n x)).1), .lst (onsD (rounds ts n (start0 n x)).2)]) :=
  spread_ok _ t_spread_Machine_len (by decide +kernel) e_mlen hn ok.small (fun t ht => ⟨(ok.st t ht).s, (ok.st t ht).g⟩) ok.len hx
theorem e_costs (ok : MachOk n ts) {x : Nat} (hx : x < n) : F_l_costs [machL n ts, .int (x : Nat)] = .ok (.lst (onsD (rounds ts n (start0 n x)).1)) := l_costs_ok _ (fun t ht => ⟨(ok.st t ht).s, (ok.st t ht).g⟩) ok.small hx
theorem nat_ints (fl : List Nat) : fl.map intN = (fl.map fun i : Nat => (i : Int)).map D.int := by rw [List.map_map]; rfl
theorem e_from (ok : MachOk n ts) (h17 : n < 17) {names : List D} (hn : names.length = n) {x : Nat} (hx : x < n) : F_l_from [machD names ts 1, machL n ts, .int (x : Nat)] = .ok (.bl true) := by
  have bf := e_bf ok hx
  have s1 := e_costs ok hx
  have s2 : F_way_costs [machD names ts 1, .int (x : Nat)] = .ok (.tup (onsD (rounds ts n (start0 n x)).1)) := way_costs_ok _ t_way_costs_spread (e_spread ok hn hx)
  have s3 : ∀ v, v < n → ∃ (fl : List Nat) (c : Nat), at_ (rounds ts n (start0 n x)).1 v = some c ∧ F_cheapest_way [machD names ts 1, .int (x : Nat), .int (v : Nat)] = .ok (.tup (fl.map intN)) ∧ F_l_is_cheapest [machL n ts, .int (x : Nat), .int (v : Nat), .tup (fl.map intN), .int (c : Nat)] = .ok (.bl true) := fun v hv => by
    obtain ⟨c, hc⟩ := bf.all v hv
    obtain ⟨is, tp, nd, hl, hs⟩ := bf.path v c hc
    have hfu : is.length < TP_cheapest_way.fu := Nat.lt_of_lt_of_le (show is.length < 2 ^ 5 by omega) (show 2 ^ 5 ≤ 2 ^ 200 from Nat.pow_le_pow_right (by decide) (by decide))
    have h1 := cheapest_ok TP_cheapest_way t_cheapest_way_spread (by decide +kernel) (e_spread ok hn hx) tp (by omega) hfu
    have nd' : (x :: is.reverse.map (goalOf ts)).Nodup := by
      rw [List.nodup_cons] at nd ⊢
      rw [List.map_reverse]
      exact ⟨fun h => nd.1 (List.mem_reverse.mp h), (List.reverse_perm _).symm.nodup nd.2⟩
    have h2 := is_cheapest_ok TP_l_is_cheapest t_l_is_cheapest_l_whole e_lwhole (tp_fwd tp) nd' (by rw [List.length_reverse]; exact hl) ok.small (c := c) (by rw [List.map_reverse, List.sum_reverse]; exact hs)
    exact ⟨is.reverse, c, hc, h1, h2⟩
  have cl : (rounds ts n (start0 n x)).1.length = n := bf.len1
  generalize (rounds ts n (start0 n x)).1 = C at *
  have j0 : idxD (machL n ts) (.int 0) = some (.int (n : Nat)) := idxD_lst (i := 0) rfl
  have hlen : lenD (.tup (onsD C)) = some (.int (n : Nat)) := by rw [lenD_tup, ons_len, cl]
  have hr := rngR1_nat (n := n) (by omega)
  have ty : isTy .tuple (.tup (onsD C)) = some true := rfl
  have at1 : ∀ v, v < n → ∃ c : Nat, at_ C v = some c ∧ idxD (.lst (onsD C)) (.int (v : Nat)) = some (.int (c : Nat)) ∧ idxD (.tup (onsD C)) (.int (v : Nat)) = some (.int (c : Nat)) := fun v hv => by
    obtain ⟨fl, c, hc, _⟩ := s3 v hv
    have h := ons_at (c := C) (v := v) (by omega)
    rw [hc] at h
    refine ⟨c, hc, h, ?_⟩
    have : (onsD C)[v]? = some (.int (c : Nat)) := by
      unfold onsD
      have hv' : v < C.length := by omega
      have hcc : C[v] = some c := by
        unfold at_ at hc
        rw [List.getD_eq_getElem?_getD, List.getElem?_eq_getElem hv'] at hc
        exact hc
      rw [List.getElem?_map, List.getElem?_eq_getElem hv', hcc]
      rfl
    exact idxD_tup this
  obtain ⟨ρ1, e1, y5, hz1⟩ := forL_ind (tg := .nm 5) (body := exs TP_l_from bF1) (ds := nats n) (ρ := [.val (machD names ts 1), .val (machL n ts), .val (.int (x : Nat)), .val (.lst (onsD C)), .val (.tup (onsD C)), .no, .no, .no])
    (fun i ρ => ∃ y5, ρ = [.val (machD names ts 1), .val (machL n ts), .val (.int (x : Nat)), .val (.lst (onsD C)), .val (.tup (onsD C)), y5, .no, .no]) ⟨.no, rfl⟩ (fun i d ρ hd ⟨y5, hρ⟩ => by
      obtain ⟨hi, rfl⟩ := nats_at hd
      subst hρ
      obtain ⟨c, _, h1, h2⟩ := at1 i hi
      have ew := e_lwhole (c : Int)
      refine ⟨_, _, rfl, .inl ?_, .val (.int (i : Int)), rfl⟩
      generalize machL n ts = ML at *
      generalize machD names ts 1 = MD at *
      generalize onsD C = OC at *
      simp -implicitDefEqProofs [bF1, t_l_from_l_whole, ew, h1, h2])
  subst hz1
  have in3 : ∀ (v : Nat) (fl : List Nat) (z7 : Sl), ∃ y7, forL (.nm 7) (exs TP_l_from bF3) (nats n) [.val (machD names ts 1), .val (machL n ts), .val (.int (x : Nat)), .val (.lst (onsD C)), .val (.tup (onsD C)), .val (.int (v : Nat)), .val (.tup (fl.map intN)), z7]
      = .nx [.val (machD names ts 1), .val (machL n ts), .val (.int (x : Nat)), .val (.lst (onsD C)), .val (.tup (onsD C)), .val (.int (v : Nat)), .val (.tup (fl.map intN)), y7] := fun v fl z7 => by
    obtain ⟨ρ3, e3, y7, hz3⟩ := forL_ind (tg := .nm 7) (body := exs TP_l_from bF3) (ds := nats n) (ρ := [.val (machD names ts 1), .val (machL n ts), .val (.int (x : Nat)), .val (.lst (onsD C)), .val (.tup (onsD C)), .val (.int (v : Nat)), .val (.tup (fl.map intN)), z7])
      (fun i ρ => ∃ y7, ρ = [.val (machD names ts 1), .val (machL n ts), .val (.int (x : Nat)), .val (.lst (onsD C)), .val (.tup (onsD C)), .val (.int (v : Nat)), .val (.tup (fl.map intN)), y7]) ⟨z7, rfl⟩ (fun i d ρ hd ⟨y7, hρ⟩ => by
        obtain ⟨hi, rfl⟩ := nats_at hd
        subst hρ
        have sy := e_says (n := n) (ts := ts) (names := names) (zs := fl.map fun i : Nat => (i : Int)) (x := x) (y := i)
        have l1 : listD (.tup (fl.map intN)) = some (intsL (fl.map fun i : Nat => (i : Int))) := by
          unfold intsL
          rw [← nat_ints]
          rfl
        refine ⟨_, _, rfl, .inl ?_, .val (.int (i : Int)), rfl⟩
        generalize machL n ts = ML at *
        generalize machD names ts 1 = MD at *
        generalize onsD C = OC at *
        generalize intsL (fl.map fun i : Nat => (i : Int)) = IL at *
        generalize fl.map intN = FL at *
        simp -implicitDefEqProofs [bF3, t_l_from_l_says, l1, sy])
    subst hz3
    exact ⟨y7, e3⟩
  obtain ⟨ρ2, e2, z5, z6, z7, hz2⟩ := forL_ind (tg := .nm 5) (body := exs TP_l_from bF2) (ds := nats n) (ρ := [.val (machD names ts 1), .val (machL n ts), .val (.int (x : Nat)), .val (.lst (onsD C)), .val (.tup (onsD C)), y5, .no, .no])
    (fun i ρ => ∃ y5 y6 y7, ρ = [.val (machD names ts 1), .val (machL n ts), .val (.int (x : Nat)), .val (.lst (onsD C)), .val (.tup (onsD C)), y5, y6, y7]) ⟨y5, .no, .no, rfl⟩ (fun i d ρ hd ⟨y5, y6, y7, hρ⟩ => by
      obtain ⟨hi, rfl⟩ := nats_at hd
      subst hρ
      obtain ⟨fl, c, hc, h1, h2⟩ := s3 i hi
      obtain ⟨c', hc', h3, _⟩ := at1 i hi
      rw [hc] at hc'
      cases hc'
      obtain ⟨x7, hin⟩ := in3 i fl y7
      refine ⟨_, _, rfl, .inl ?_, .val (.int (i : Int)), .val (.tup (fl.map intN)), x7, rfl⟩
      generalize machL n ts = ML at *
      generalize machD names ts 1 = MD at *
      generalize onsD C = OC at *
      generalize fl.map intN = FL at *
      simp -implicitDefEqProofs [bF2, t_l_from_cheapest_way, t_l_from_l_is_cheapest, h1, h2, h3, j0, hr, hin])
  subst hz2
  generalize machL n ts = ML at *
  generalize machD names ts 1 = MD at *
  generalize onsD C = OC at *
  unfold F_l_from runFn
  simp -implicitDefEqProofs [b_l_from, t_l_from_l_costs, t_l_from_way_costs, s1, s2, tyR_ok ty, hlen, j0, hr, e1, e2]
end
/-! k08: rows of whole numbers -/
def cutZ (zs : List Int) (lo hi : Option Int) : List Int := (zs.drop (HT.sIx zs.length 0 lo)).take (HT.sIx zs.length zs.length hi - HT.sIx zs.length 0 lo)
theorem cut_ints (zs : List Int) (lo hi : Option Int) : slcD (intsL zs) lo hi = some (intsL (cutZ zs lo hi)) := by
  show some (D.lst (cutD _ lo hi)) = _
  unfold cutD cutZ intsL
  rw [List.length_map, ← List.map_drop, ← List.map_take]
theorem cutZ_len {zs : List Int} {lo hi : Option Int} : (cutZ zs lo hi).length ≤ zs.length := by
  unfold cutZ
  rw [List.length_take, List.length_drop]
  omega
theorem add_ints {a b : List Int} (h : a.length + b.length ≤ 16777216) : addD (intsL a) (intsL b) = some (intsL (a ++ b)) := by
  unfold intsL
  rw [addD_lst (by rw [List.length_map, List.length_map]; exact h), List.map_append]
theorem e_put {zs : List Int} (h : zs.length ≤ 1000) (k item : Int) : ∃ ws : List Int, F_l_put [intsL zs, .int k, .int item] = .ok (intsL ws) ∧ ws.length ≤ 2 * zs.length + 1 := by
  have s1 := cut_ints zs none (some k)
  have s2 := cut_ints zs (some (k + 1)) none
  have l1 := cutZ_len (zs := zs) (lo := none) (hi := some k)
  have l2 := cutZ_len (zs := zs) (lo := some (k + 1)) (hi := none)
  have a1 : addD (intsL (cutZ zs none (some k))) (.lst [.int item]) = some (intsL (cutZ zs none (some k) ++ [item])) := add_ints (b := [item]) (by rw [List.length_singleton]; omega)
  have a2 := add_ints (a := cutZ zs none (some k) ++ [item]) (b := cutZ zs (some (k + 1)) none) (by rw [List.length_append, List.length_singleton]; omega)
  refine ⟨cutZ zs none (some k) ++ [item] ++ cutZ zs (some (k + 1)) none, ?_, by rw [List.length_append, List.length_append, List.length_singleton]; omega⟩
  unfold F_l_put runFn
  simp -implicitDefEqProofs [b_l_put, s1, s2, a1, a2]
abbrev bWk : Ss := (.cons (.set 7 (.lc [("j", 8)] (.var 8) (.nm 8) (.rng (.bi .len (.cons (.idx (.var 0) (.int 1)) .nil))) (.yes (.cmp .Eq (.idx (.idx (.idx (.var 0) (.int 1)) (.var 8)) (.int 0)) (.var 5))))) (.cons (.ite (.cmp .Gt (.bi .len (.cons (.var 7) .nil)) (.int 0)) (.cons (.app 4 (.idx (.var 7) (.bin .Mod (.bi .int (.cons (.idx (.var 3) (.var 6)) .nil)) (.bi .len (.cons (.var 7) .nil))))) (.cons (.set 5 (.idx (.idx (.idx (.var 0) (.int 1)) (.idx (.var 4) (.neg (.int 1)))) (.int 1))) .nil)) .nil) .nil))
theorem mlen_lst {ts : List St4} : lenD (.lst (ts.map stD)) = some (.int (ts.length : Nat)) := by rw [lenD_lst, List.length_map]
theorem mst_at {ts : List St4} {j : Nat} (hj : j < ts.length) : ∃ t ∈ ts, ts[j]? = some t ∧ idxD (.lst (ts.map stD)) (.int (j : Nat)) = some (stD t) :=
  ⟨ts[j], List.getElem_mem hj, List.getElem?_eq_getElem hj, idxD_lst (by rw [List.getElem?_map, List.getElem?_eq_getElem hj]; rfl)⟩
theorem fmod_nat {z : Int} {k : Nat} (h : 0 < k) : ∃ j : Nat, j < k ∧ z.fmod (k : Int) = (j : Int) := by
  have := fmod_range (i := z) (j := (k : Int)) (by omega)
  exact ⟨(z.fmod (k : Int)).toNat, by omega, by omega⟩
theorem idxs_lst {fl : List Nat} : D.lst (fl.map intN) = intsL (fl.map fun i : Nat => (i : Int)) := by
  unfold intsL
  rw [nat_ints]
theorem e_walk {n : Nat} {ts : List St4} (ok : MachOk n ts) {x many : Nat} {ps : List Int} (hx : x < n) (hm : many ≤ ps.length) (h4 : many ≤ 1000) :
    ∃ (fl : List Nat) (y : Nat), y < n ∧ fl.length ≤ many ∧ (∀ i ∈ fl, i < ts.length) ∧ F_l_walk [machL n ts, .int (x : Nat), .int (many : Nat), .lst (ps.map D.int)] = .ok (.lst [intsL (fl.map fun i : Nat => (i : Int)), .int (y : Nat)]) := by
  have j1 : idxD (machL n ts) (.int 1) = some (.lst (ts.map stD)) := idxD_lst (i := 1) rfl
  have hlen := mlen_lst (ts := ts)
  have hr := rngR1_nat (n := ts.length) (by have := ok.len; omega)
  have hr2 := rngR1_nat (n := many) (by omega)
  obtain ⟨ρ', e, fl, y, z6, z7, hz, hy, g1, g2⟩ := forL_ind (tg := .nm 6) (body := exs TP_l_walk bWk) (ds := nats many) (ρ := [.val (machL n ts), .val (.int (x : Nat)), .val (.int (many : Nat)), .val (.lst (ps.map D.int)), .own [], .val (.int (x : Nat)), .no, .no, .no])
    (fun i ρ => ∃ (fl : List Nat) (y : Nat) (z6 z7 : Sl), ρ = [.val (machL n ts), .val (.int (x : Nat)), .val (.int (many : Nat)), .val (.lst (ps.map D.int)), .own (fl.map intN), .val (.int (y : Nat)), z6, z7, .no] ∧ y < n ∧ fl.length ≤ i ∧ ∀ i ∈ fl, i < ts.length) ⟨[], x, _, _, rfl, hx, Nat.le_refl _, by simp⟩ (fun i d ρ hd ⟨fl, y, z6, z7, hρ, hy, g1, g2⟩ => by
      obtain ⟨hi, rfl⟩ := nats_at hd
      subst hρ
      have hl : lcL (asg (.nm 8)) (evc TP_l_walk (.yes (.cmp .Eq (.idx (.idx (.idx (.var 0) (.int 1)) (.var 8)) (.int 0)) (.var 5)))) (ev TP_l_walk (.var 8) .val) [.val (machL n ts), .val (.int (x : Nat)), .val (.int (many : Nat)), .val (.lst (ps.map D.int)), .own (fl.map intN), .val (.int (y : Nat)), .val (.int (i : Int)), z7, .no] (nats ts.length)
          = .ok (((nats ts.length).filter fun d => match d with | .int z => decide (((ts.getD z.toNat ⟨0, 0, 0, 0⟩).s : Int) = (y : Int)) | _ => false).map id) := by
        refine lcL_filter fun d hd => ?_
        obtain ⟨j, hj⟩ := List.mem_iff_getElem?.mp hd
        obtain ⟨hj', rfl⟩ := nats_at hj
        have st : idxD (.lst (ts.map stD)) (.int (j : Nat)) = some (stD (ts.getD j ⟨0, 0, 0, 0⟩)) := idxD_lst (by
          rw [List.getElem?_map, List.getD_eq_getElem?_getD, List.getElem?_eq_getElem hj']
          rfl)
        show ∃ ρ1, _ ∧ evc _ _ ρ1 = .ok (.bl (decide (((ts.getD (j : Int).toNat ⟨0, 0, 0, 0⟩).s : Int) = (y : Int)))) ∧ _
        rw [Int.toNat_natCast]
        generalize ts.getD j ⟨0, 0, 0, 0⟩ = t at *
        have i0 : idxD (stD t) (.int 0) = some (.int (t.s : Nat)) := four0
        generalize machL n ts = ML at *
        generalize ts.map stD = G1 at *
        generalize ps.map D.int = PS at *
        exact ⟨_, rfl, by simp -implicitDefEqProofs [j1, st, i0], fun _ => by simp -implicitDefEqProofs⟩
      rw [List.map_id] at hl
      obtain ⟨MN, hMN, hl⟩ : ∃ MN : List D, (∀ d ∈ MN, ∃ j : Nat, j < ts.length ∧ d = .int (j : Nat)) ∧ lcL (asg (.nm 8)) (evc TP_l_walk (.yes (.cmp .Eq (.idx (.idx (.idx (.var 0) (.int 1)) (.var 8)) (.int 0)) (.var 5)))) (ev TP_l_walk (.var 8) .val) [.val (machL n ts), .val (.int (x : Nat)), .val (.int (many : Nat)), .val (.lst (ps.map D.int)), .own (fl.map intN), .val (.int (y : Nat)), .val (.int (i : Int)), z7, .no] (nats ts.length) = .ok MN :=
        ⟨_, fun d hd => by
          obtain ⟨j, hj⟩ := List.mem_iff_getElem?.mp (List.mem_filter.mp hd).1
          obtain ⟨hj', rfl⟩ := nats_at hj
          exact ⟨j, hj', rfl⟩, hl⟩
      have hlm : lenD (.lst MN) = some (.int (MN.length : Nat)) := lenD_lst
      by_cases h0 : MN = []
      · refine ⟨_, _, rfl, .inl ?_, fl, y, .val (.int (i : Int)), .own MN, rfl, hy, by omega, g2⟩
        have h00 : ¬ ((0 : Int) < (MN.length : Nat)) := by rw [h0]; decide
        generalize machL n ts = ML at *
        generalize ts.map stD = G1 at *
        generalize ps.map D.int = PS at *
        generalize fl.map intN = FL at *
        generalize ((MN.length : Nat) : Int) = ml at *
        simp -implicitDefEqProofs [bWk, j1, hlen, hr, lcR_ok hl, hlm, h00]
      · have hp : 0 < MN.length := List.length_pos_iff.mpr h0
        have hpi : i < ps.length := by omega
        have q1 : idxD (.lst (ps.map D.int)) (.int (i : Nat)) = some (.int ps[i]) := idxD_lst (by rw [List.getElem?_map, List.getElem?_eq_getElem hpi]; rfl)
        obtain ⟨k, hk, hfm⟩ := fmod_nat (z := ps[i]) hp
        obtain ⟨j, hj, hdj⟩ := hMN _ (List.getElem_mem hk)
        have q2 : idxD (.lst MN) (.int (k : Nat)) = some (.int (j : Nat)) := idxD_lst (by rw [List.getElem?_eq_getElem hk, hdj])
        have md : modD (.int ps[i]) (.int (MN.length : Nat)) = some (.int (k : Nat)) := by rw [modD_int (by omega), hfm]
        obtain ⟨t, ht, _, st⟩ := mst_at hj
        have i1 : idxD (stD t) (.int 1) = some (.int (t.g : Nat)) := four1
        have il : idxD (.lst (fl.map intN ++ [.int (j : Nat)])) (.int (-1)) = some (.int (j : Nat)) := idx_last
        refine ⟨_, _, rfl, .inl ?_, fl ++ [j], t.g, .val (.int (i : Int)), .own MN, rfl, (ok.st t ht).g, by rw [List.length_append, List.length_singleton]; omega, fun i hi => by
          rcases List.mem_append.mp hi with hi | hi
          · exact g2 i hi
          · rw [List.mem_singleton.mp hi]; exact hj⟩
        have h00 : (0 : Int) < (MN.length : Nat) := by omega
        have hfl : (fl.map intN).length < 16777216 := by rw [List.length_map]; omega
        rw [List.map_append, show [j].map intN = [.int (j : Nat)] from rfl]
        generalize ps[i] = pz at *
        generalize machL n ts = ML at *
        generalize ts.map stD = G1 at *
        generalize ps.map D.int = PS at *
        generalize fl.map intN = FL at *
        generalize ((MN.length : Nat) : Int) = ml at *
        simp -implicitDefEqProofs [bWk, j1, hlen, hr, lcR_ok hl, hlm, h00, q1, q2, md, il, st, i1, hfl])
  subst hz
  rw [nats_len] at g1
  refine ⟨fl, y, hy, g1, g2, ?_⟩
  rw [← idxs_lst]
  generalize machL n ts = ML at *
  generalize ps.map D.int = PS at *
  generalize fl.map intN = FL at *
  unfold F_l_walk runFn
  simp -implicitDefEqProofs [b_l_walk, hr2, e]
/-! k08: rows near to a row -/
def Rows (l : List D) : Prop := ∀ d ∈ l, ∃ zs : List Int, d = intsL zs
theorem rows_snoc {l : List D} {zs : List Int} (h : Rows l) : Rows (l ++ [intsL zs]) := fun d hd => by
  rcases List.mem_append.mp hd with hd | hd
  · exact h d hd
  · exact ⟨zs, List.mem_singleton.mp hd⟩
abbrev bNr1 : Ss := (.cons (.app 4 (.call "_law_put" (.cons (.var 1) (.cons (.var 5) (.cons (.var 8) .nil))))) .nil)
abbrev bNr2 : Ss := (.cons (.ite (.ands (.cons (.cmp .Eq (.idx (.idx (.idx (.var 0) (.int 1)) (.var 7)) (.int 0)) (.idx (.idx (.idx (.var 0) (.int 1)) (.var 6)) (.int 0))) (.cons (.cmp .NotEq (.var 7) (.var 6)) .nil))) (.cons (.app 4 (.call "_law_put" (.cons (.var 1) (.cons (.var 5) (.cons (.var 7) .nil))))) .nil) .nil) .nil)
section
variable {n : Nat} {ts : List St4}
theorem near_a {zs : List Int} (h : zs.length ≤ 40) (P k it j : D) (l : List D) (hl : Rows l) (hll : l.length ≤ 20) (os : List Int) (ho : os.length ≤ 20) (kz : Int) (hk : k = .int kz) : ∃ (l2 : List D) (y : Sl), Rows l2 ∧ l2.length ≤ l.length + os.length ∧
    forL (.nm 8) (exs TP_l_near bNr1) (os.map D.int) [.val (machL n ts), .val (intsL zs), .val P, .val (.int (ts.length : Nat)), .own l, .val k, .val it, .val j, .no] = .nx [.val (machL n ts), .val (intsL zs), .val P, .val (.int (ts.length : Nat)), .own l2, .val k, .val it, .val j, y] := by
  obtain ⟨ρ', e, l2, y, hz, g1, g2⟩ := forL_ind (tg := .nm 8) (body := exs TP_l_near bNr1) (ds := os.map D.int) (ρ := [.val (machL n ts), .val (intsL zs), .val P, .val (.int (ts.length : Nat)), .own l, .val k, .val it, .val j, .no])
    (fun i ρ => ∃ (l2 : List D) (y : Sl), ρ = [.val (machL n ts), .val (intsL zs), .val P, .val (.int (ts.length : Nat)), .own l2, .val k, .val it, .val j, y] ∧ Rows l2 ∧ l2.length ≤ l.length + i) ⟨l, _, rfl, hl, Nat.le_refl _⟩ (fun i d ρ hd ⟨l2, y, hρ, g1, g2⟩ => by
      have hi : i < os.length := by rw [← List.length_map (f := D.int)]; exact (List.getElem?_eq_some_iff.mp hd).1
      obtain ⟨z, _, rfl⟩ := map_at hd
      subst hρ
      obtain ⟨ws, ep, _⟩ := e_put (zs := zs) (by omega) kz z
      subst hk
      refine ⟨_, _, rfl, .inl ?_, l2 ++ [intsL ws], .val (.int z), rfl, rows_snoc g1, by rw [List.length_append, List.length_singleton]; omega⟩
      have hll : l2.length < 16777216 := by omega
      generalize machL n ts = ML at *
      generalize intsL ws = W1 at *
      generalize intsL zs = Z1 at *
      simp -implicitDefEqProofs [bNr1, t_l_near_l_put, ep, hll])
  subst hz
  rw [List.length_map] at g2
  exact ⟨l2, y, g1, g2, e⟩
theorem near_b {zs : List Int} (h : zs.length ≤ 40) (h6 : ts.length ≤ 1000000) (P : D) (kz : Int) (it : Nat) (hit : it < ts.length) (l : List D) (hl : Rows l) (hll : l.length ≤ 100) (y7 y8 : Sl) : ∃ (l2 : List D) (y : Sl), Rows l2 ∧
    forL (.nm 7) (exs TP_l_near bNr2) (nats ts.length) [.val (machL n ts), .val (intsL zs), .val P, .val (.int (ts.length : Nat)), .own l, .val (.int kz), .val (.int (it : Nat)), y7, y8] = .nx [.val (machL n ts), .val (intsL zs), .val P, .val (.int (ts.length : Nat)), .own l2, .val (.int kz), .val (.int (it : Nat)), y, y8] := by
  have j1 : idxD (machL n ts) (.int 1) = some (.lst (ts.map stD)) := idxD_lst (i := 1) rfl
  obtain ⟨u, hu, _, su⟩ := mst_at hit
  have u0 : idxD (stD u) (.int 0) = some (.int (u.s : Nat)) := four0
  obtain ⟨ρ', e, l2, y, hz, g1, g2⟩ := forL_ind (tg := .nm 7) (body := exs TP_l_near bNr2) (ds := nats ts.length) (ρ := [.val (machL n ts), .val (intsL zs), .val P, .val (.int (ts.length : Nat)), .own l, .val (.int kz), .val (.int (it : Nat)), y7, y8])
    (fun i ρ => ∃ (l2 : List D) (y : Sl), ρ = [.val (machL n ts), .val (intsL zs), .val P, .val (.int (ts.length : Nat)), .own l2, .val (.int kz), .val (.int (it : Nat)), y, y8] ∧ Rows l2 ∧ l2.length ≤ l.length + i) ⟨l, _, rfl, hl, Nat.le_refl _⟩ (fun i d ρ hd ⟨l2, y, hρ, g1, g2⟩ => by
      obtain ⟨hi, rfl⟩ := nats_at hd
      subst hρ
      obtain ⟨ws, ep, _⟩ := e_put (zs := zs) (by omega) kz (i : Int)
      obtain ⟨t, ht, _, st⟩ := mst_at hi
      have i0 : idxD (stD t) (.int 0) = some (.int (t.s : Nat)) := four0
      have hl2 : l2.length < 16777216 := by omega
      by_cases c : ((t.s : Int) = (u.s : Int)) ∧ ¬ (i : Int) = (it : Int)
      · refine ⟨_, _, rfl, .inl ?_, l2 ++ [intsL ws], .val (.int (i : Int)), rfl, rows_snoc g1, by rw [List.length_append, List.length_singleton]; omega⟩
        obtain ⟨c1, c2⟩ := c
        generalize machL n ts = ML at *
        generalize ts.map stD = G1 at *
        generalize intsL ws = W1 at *
        generalize intsL zs = Z1 at *
        generalize ((t.s : Nat) : Int) = a1 at *
        generalize ((u.s : Nat) : Int) = a2 at *
        generalize ((i : Nat) : Int) = a3 at *
        generalize ((it : Nat) : Int) = a4 at *
        simp -implicitDefEqProofs [bNr2, t_l_near_l_put, ep, hl2, j1, st, i0, su, u0, c1, c2]
      · refine ⟨_, _, rfl, .inl ?_, l2, .val (.int (i : Int)), rfl, g1, by omega⟩
        generalize machL n ts = ML at *
        generalize ts.map stD = G1 at *
        generalize intsL ws = W1 at *
        generalize intsL zs = Z1 at *
        generalize ((t.s : Nat) : Int) = a1 at *
        generalize ((u.s : Nat) : Int) = a2 at *
        generalize ((i : Nat) : Int) = a3 at *
        generalize ((it : Nat) : Int) = a4 at *
        by_cases c1 : a1 = a2
        · have c2 : a3 = a4 := by
            by_cases c2 : a3 = a4
            · exact c2
            · exact absurd ⟨c1, c2⟩ c
          simp -implicitDefEqProofs [bNr2, j1, st, i0, su, u0, c1, c2]
        · simp -implicitDefEqProofs [bNr2, j1, st, i0, su, u0, c1])
  subst hz
  exact ⟨l2, y, g1, e⟩
theorem powPW : powD (.int 10) (.int 30) = some (.int 1000000000000000000000000000000) := by
  rw [powD_int ⟨by decide, by decide, by decide⟩]
  rfl
theorem rev_ints (zs : List Int) : revLR (intsL zs) = .ok (zs.reverse.map D.int) := by
  unfold intsL
  show Res.ok _ = _
  rw [List.map_reverse]
theorem e_near (ok : MachOk n ts) {fl : List Nat} (hf : fl.length ≤ 40) (hfl : ∀ i ∈ fl, i < ts.length) {P : D} {q0 q1 q2 : Int} (p0 : idxD P (.int 0) = some (.int q0)) (p1 : idxD P (.int 1) = some (.int q1)) (p2 : idxD P (.int 2) = some (.int q2)) :
    ∃ l, Rows l ∧ F_l_near [machL n ts, intsL (fl.map fun i : Nat => (i : Int)), P] = .ok (.lst l) := by
  have j1 : idxD (machL n ts) (.int 1) = some (.lst (ts.map stD)) := idxD_lst (i := 1) rfl
  have hlen := mlen_lst (ts := ts)
  have hm := ok.len
  have hr := rngR1_nat (n := ts.length) (by omega)
  obtain ⟨zs, hzs⟩ : ∃ zs : List Int, zs = fl.map fun i : Nat => (i : Int) := ⟨_, rfl⟩
  rw [← hzs]
  have hz : zs.length ≤ 40 := by rw [hzs, List.length_map]; exact hf
  have hlz : lenD (intsL zs) = some (.int (zs.length : Nat)) := by unfold intsL; rw [lenD_lst, List.length_map]
  have ad : ∀ z : Int, addD (intsL zs) (.lst [.int z]) = some (intsL (zs ++ [z])) := fun z => add_ints (b := [z]) (by rw [List.length_singleton]; omega)
  have ad2 : addD (.lst [.int (-1)]) (intsL zs) = some (intsL ([-1] ++ zs)) := add_ints (a := [-1]) (by rw [List.length_singleton]; omega)
  have ad3 : addD (intsL zs) (intsL zs) = some (intsL (zs ++ zs)) := add_ints (by omega)
  have nl : D.lst [] = intsL [] := rfl
  obtain ⟨l0, hl0⟩ : ∃ l0, l0 = [intsL (zs ++ [(ts.length : Int)]), intsL ([-1] ++ zs), intsL (zs ++ [q1]), intsL [], intsL (zs ++ zs)] := ⟨_, rfl⟩
  have r0 : Rows l0 := by
    intro d hd
    rw [hl0] at hd
    simp only [List.mem_cons, List.not_mem_nil, or_false] at hd
    rcases hd with rfl | rfl | rfl | rfl | rfl <;> exact ⟨_, rfl⟩
  have n0 : l0.length = 5 := by rw [hl0]; rfl
  by_cases h0 : zs = []
  · refine ⟨l0, r0, ?_⟩
    have h00 : ¬ ((0 : Int) < (zs.length : Nat)) := by rw [h0]; decide
    have nl2 : D.lst [] = intsL [] := rfl
    rw [hl0]
    have adq := ad q1
    have ad1 := ad ((ts.length : Nat) : Int)
    clear ad hl0 r0 n0
    generalize intsL (zs ++ [q1]) = W1 at *
    generalize intsL ([-1] ++ zs) = W2 at *
    generalize intsL (zs ++ zs) = W4 at *
    generalize machL n ts = ML at *
    generalize ts.map stD = G1 at *
    generalize ((ts.length : Nat) : Int) = m at *
    generalize intsL (zs ++ [m]) = W3 at *
    generalize ((zs.length : Nat) : Int) = zl at *
    rw [← nl]
    generalize intsL zs = Z1 at *
    unfold F_l_near runFn
    simp -implicitDefEqProofs [b_l_near, j1, hlen, hlz, p1, ad1, ad2, ad3, adq, h00]
  · have hp : 0 < zs.length := List.length_pos_iff.mpr h0
    have h00 : (0 : Int) < (zs.length : Nat) := by omega
    obtain ⟨k, hk, hfm⟩ := fmod_nat (z := q0) hp
    have md0 : modD (.int q0) (.int (zs.length : Nat)) = some (.int (k : Nat)) := by rw [modD_int (by omega), hfm]
    obtain ⟨j, hj, hfj⟩ := fmod_nat (z := (k : Int) + 1) hp
    have mdj : modD (.int ((k : Int) + 1)) (.int (zs.length : Nat)) = some (.int (j : Nat)) := by rw [modD_int (by omega), hfj]
    have hkf : k < fl.length := by rw [hzs, List.length_map] at hk; exact hk
    obtain ⟨it, hit, hitm⟩ : ∃ it, fl[k]? = some it ∧ it < ts.length := ⟨fl[k], List.getElem?_eq_getElem hkf, hfl _ (List.getElem_mem hkf)⟩
    have ik : idxD (intsL zs) (.int (k : Nat)) = some (.int (it : Nat)) := idxD_lst (by rw [hzs, List.getElem?_map, List.getElem?_map, hit]; rfl)
    have ij : idxD (intsL zs) (.int (j : Nat)) = some (.int zs[j]) := idxD_lst (by rw [List.getElem?_map, List.getElem?_eq_getElem hj]; rfl)
    have md1 : modD (.int q1) (.int (ts.length : Nat)) = some (.int (q1.fmod (ts.length : Nat))) := modD_int (by omega)
    have md2 : modD (.int q2) (.int (ts.length : Nat)) = some (.int (q2.fmod (ts.length : Nat))) := modD_int (by omega)
    have s1 := cut_ints zs none (some (k : Int))
    have s2 := cut_ints zs (some ((k : Int) + 1)) none
    have s3 := cut_ints zs none (some (-1))
    have s4 := cut_ints zs (some 1) none
    have s5 := cut_ints zs (some (-1)) none
    have s6 := cut_ints zs none (some 1)
    have s7 := cut_ints zs (some (k : Int)) none
    have cl : ∀ lo hi, (cutZ zs lo hi).length ≤ 40 := fun lo hi => Nat.le_trans cutZ_len hz
    have c1 := add_ints (a := cutZ zs none (some (k : Int))) (b := cutZ zs (some ((k : Int) + 1)) none) (by have a := cl none (some (k : Int)); have b := cl (some ((k : Int) + 1)) none; omega)
    have c2 := add_ints (a := zs) (b := cutZ zs (some (-1)) none) (by have a := cl (some (-1)) none; omega)
    have c3 := add_ints (a := cutZ zs none (some 1)) (b := zs) (by have a := cl none (some 1); omega)
    have c4 : addD (intsL (cutZ zs none (some (k : Int)))) (.lst [.int (it : Nat)]) = some (intsL (cutZ zs none (some (k : Int)) ++ [(it : Int)])) := add_ints (b := [(it : Int)]) (by have a := cl none (some (k : Int)); rw [List.length_singleton]; omega)
    have c5 := add_ints (a := cutZ zs none (some (k : Int)) ++ [(it : Int)]) (b := cutZ zs (some (k : Int)) none) (by have a := cl none (some (k : Int)); have b := cl (some (k : Int)) none; rw [List.length_append, List.length_singleton]; omega)
    obtain ⟨w1, e1, hw1⟩ := e_put (zs := zs) (by omega) (k : Int) zs[j]
    obtain ⟨w2, e2, _⟩ := e_put (zs := w1) (by omega) (j : Int) (it : Int)
    have rv : revR1 (.ok (intsL zs)) = .ok (zs.reverse.map D.int) := rev_ints zs
    have rvl : D.lst (zs.reverse.map D.int) = intsL zs.reverse := rfl
    have pw : powD (.int 10) (.int 30) = some (.int 1000000000000000000000000000000) := powPW
    have adq := ad q1
    have ad1 := ad ((ts.length : Nat) : Int)
    obtain ⟨l1, hl1⟩ : ∃ l1, l1 = [intsL (cutZ zs none (some (k : Int)) ++ cutZ zs (some ((k : Int) + 1)) none), intsL (cutZ zs none (some (-1))), intsL (cutZ zs (some 1) none), intsL (zs ++ cutZ zs (some (-1)) none), intsL (cutZ zs none (some 1) ++ zs), intsL zs.reverse] := ⟨_, rfl⟩
    have r1 : Rows l1 := by
      intro d hd
      rw [hl1] at hd
      simp only [List.mem_cons, List.not_mem_nil, or_false] at hd
      rcases hd with rfl | rfl | rfl | rfl | rfl | rfl <;> exact ⟨_, rfl⟩
    have n1 : l1.length = 6 := by rw [hl1]; rfl
    have cat : addD (.lst l0) (.lst l1) = some (.lst (l0 ++ l1)) := addD_lst (by rw [n0, n1]; decide)
    have r01 : Rows (l0 ++ l1) := fun d hd => by
      rcases List.mem_append.mp hd with hd | hd
      · exact r0 d hd
      · exact r1 d hd
    have n01 : (l0 ++ l1).length = 11 := by rw [List.length_append, n0, n1]
    rw [hl0, hl1] at cat
    rw [← hl0, ← hl1] at cat
    obtain ⟨LL, hLL⟩ : ∃ LL, LL = l0 ++ l1 := ⟨_, rfl⟩
    rw [← hLL] at cat r01 n01
    have r2 : Rows (LL ++ [intsL (cutZ zs none (some (k : Int)) ++ [(it : Int)] ++ cutZ zs (some (k : Int)) none)] ++ [intsL w2]) := rows_snoc (rows_snoc r01)
    obtain ⟨l2, y, g1, g2, e3⟩ := near_a (n := n) (ts := ts) hz P (.int (k : Int)) (.int (it : Int)) (.int (j : Int)) _ r2 (by rw [List.length_append, List.length_append, n01]; simp only [List.length_cons, List.length_nil]; decide)
      [(it : Int) - (ts.length : Nat), (it : Int) + (ts.length : Nat), -1, ((ts.length : Nat) : Int), 1000000000000000000000000000000 + (it : Int), -(it : Int) - 1, ((ts.length : Nat) : Int) + q1, q1.fmod (ts.length : Nat), q2.fmod (ts.length : Nat)] (by simp only [List.length_cons, List.length_nil]; decide) (k : Int) rfl
    have l2l : l2.length ≤ 100 := by
      refine Nat.le_trans g2 ?_
      rw [List.length_append, List.length_append, n01]
      simp only [List.length_cons, List.length_nil]
      decide
    obtain ⟨l3, y7, g3, e4⟩ := near_b (n := n) hz hm P (k : Int) it hitm l2 g1 l2l (.val (.int (j : Int))) y
    refine ⟨l3, g3, ?_⟩
    rw [hl0, hl1] at cat
    clear ad hl0 r0 n0 hl1 r1 n1 hLL r2 g1 g2 g3 l2l r01 cl
    replace cat : addD (.lst [intsL (zs ++ [((ts.length : Nat) : Int)]), intsL ([-1] ++ zs), intsL (zs ++ [q1]), .lst [], intsL (zs ++ zs)]) (.lst [intsL (cutZ zs none (some (k : Int)) ++ cutZ zs (some ((k : Int) + 1)) none), intsL (cutZ zs none (some (-1))), intsL (cutZ zs (some 1) none), intsL (zs ++ cutZ zs (some (-1)) none), intsL (cutZ zs none (some 1) ++ zs), .lst (zs.reverse.map D.int)]) = some (.lst LL) := cat
    replace e3 : forL (.nm 8) (exs TP_l_near bNr1) [.int ((it : Int) - (ts.length : Nat)), .int ((it : Int) + (ts.length : Nat)), .int (-1), .int ((ts.length : Nat) : Int), .int (1000000000000000000000000000000 + (it : Int)), .int (-(it : Int) - 1), .int (((ts.length : Nat) : Int) + q1), .int (q1.fmod (ts.length : Nat)), .int (q2.fmod (ts.length : Nat))] _ = _ := e3
    generalize zs.reverse.map D.int = RV at *
    generalize intsL (cutZ zs none (some (k : Int)) ++ [(it : Int)] ++ cutZ zs (some (k : Int)) none) = X1 at *
    generalize intsL (cutZ zs none (some (k : Int)) ++ cutZ zs (some ((k : Int) + 1)) none) = X2 at *
    generalize intsL (cutZ zs none (some (k : Int)) ++ [(it : Int)]) = X3 at *
    generalize intsL (zs ++ cutZ zs (some (-1)) none) = X4 at *
    generalize intsL (cutZ zs none (some 1) ++ zs) = X5 at *
    generalize intsL (cutZ zs none (some (k : Int))) = C1 at *
    generalize intsL (cutZ zs (some ((k : Int) + 1)) none) = C2 at *
    generalize intsL (cutZ zs none (some (-1))) = C3 at *
    generalize intsL (cutZ zs (some 1) none) = C4 at *
    generalize intsL (cutZ zs (some (-1)) none) = C5 at *
    generalize intsL (cutZ zs none (some 1)) = C6 at *
    generalize intsL (cutZ zs (some (k : Int)) none) = C7 at *
    generalize intsL (zs ++ [q1]) = W1 at *
    generalize intsL ([-1] ++ zs) = W2 at *
    generalize intsL (zs ++ zs) = W4 at *
    generalize machL n ts = ML at *
    generalize ts.map stD = G1 at *
    generalize intsL w1 = P1 at *
    generalize intsL w2 = P2 at *
    generalize zs[j] = zj at *
    generalize ((ts.length : Nat) : Int) = m at *
    generalize intsL (zs ++ [m]) = W3 at *
    generalize ((zs.length : Nat) : Int) = zl at *
    generalize q1.fmod m = f1 at *
    generalize q2.fmod m = f2 at *
    generalize ((k : Nat) : Int) = kk at *
    generalize ((it : Nat) : Int) = ii at *
    generalize ((j : Nat) : Int) = jj at *
    generalize intsL zs = Z1 at *
    simp only [List.append_assoc, List.cons_append, List.nil_append] at e3
    unfold F_l_near runFn
    simp -implicitDefEqProofs [b_l_near, t_l_near_l_put, j1, hlen, hlz, hr, p0, p1, p2, ad1, ad2, ad3, adq, h00, md0, mdj, ik, ij, md1, md2, s1, s2, s3, s4, s5, s6, s7, c1, c2, c3, c4, c5, e1, e2, rv, pw, cat, n01, e3, e4]
end
/-! k08: all rows; the law -/
abbrev bRw6 : Ss := (.cons (.ite (.ors (.cons (.not_ (.call "_law_says" (.cons (.var 0) (.cons (.var 1) (.cons (.var 4) (.cons (.var 6) (.cons (.idx (.var 5) (.int 0)) .nil))))))) (.cons (.not_ (.call "_law_says" (.cons (.var 0) (.cons (.var 1) (.cons (.var 6) (.cons (.idx (.var 5) (.int 1)) (.cons (.idx (.var 5) (.int 0)) .nil))))))) .nil))) (.cons (.ret (.yes (.bl false))) .nil) .nil) .nil)
abbrev bRw66 : Ss := (.cons (.ite (.not_ (.call "_law_says" (.cons (.var 0) (.cons (.var 1) (.cons (.var 4) (.cons (.var 6) (.cons (.var 8) .nil))))))) (.cons (.ret (.yes (.bl false))) .nil) .nil) .nil)
abbrev bRw8 : Ss := (.cons (.for_ (.nm 6) (.seq (.var 7)) bRw66) (.cons (.ite (.not_ (.call "_law_says" (.cons (.var 0) (.cons (.var 1) (.cons (.bin .Mod (.bi .int (.cons (.idx (.var 3) (.int 3)) .nil)) (.idx (.var 1) (.int 0))) (.cons (.idx (.var 5) (.int 1)) (.cons (.var 8) .nil))))))) (.cons (.ret (.yes (.bl false))) .nil) .nil) .nil))
abbrev bLw9 : Ss := (.cons (.ite (.ors (.cons (.not_ (.call "_law_from" (.cons (.var 3) (.cons (.var 1) (.cons (.var 9) .nil))))) (.cons (.not_ (.call "_law_from" (.cons (.var 4) (.cons (.var 2) (.cons (.var 9) .nil))))) .nil))) (.cons (.ret (.yes (.bl false))) .nil) .nil) .nil)
abbrev bLw10 : Ss := (.cons (.ite (.not_ (.call "_law_rows" (.cons (.var 3) (.cons (.var 1) (.cons (.call "_law_cell" (.cons (.var 0) (.cons (.bin .Add (.int 3) (.var 10)) .nil))) .nil))))) (.cons (.ret (.yes (.bl false))) .nil) .nil) .nil)
def rwS : List Int := [16, 41, 16, 16, 64, 240, 240] ++ List.replicate 40 16
theorem rwS_D : mulD (.lst [.int 16]) (.int 40) = some (.lst (List.replicate 40 (.int 16))) ∧ addD (.lst [.int 16, .int 41, .int 16, .int 16, .int 64, .int 240, .int 240]) (.lst (List.replicate 40 (.int 16))) = some (.lst (rwS.map D.int)) := by
  refine ⟨(mul_lst (n := 40) (by decide) (by decide)).trans (congrArg (fun l => some (D.lst l)) (rfl : (List.replicate 40 [D.int 16]).flatten = List.replicate 40 (.int 16))), ?_⟩
  rw [addD_lst (by rw [List.length_replicate]; decide)]
  rfl
theorem rwS_bd : ∀ s ∈ rwS, 0 < s ∧ s < 2 ^ 60 := by
  intro s hs
  rw [e60]
  unfold rwS at hs
  rcases List.mem_append.mp hs with h | h
  · simp only [List.mem_cons, List.not_mem_nil, or_false] at h
    omega
  · rw [List.eq_of_mem_replicate h]
    decide
section
variable {n : Nat} {ts : List St4} {names : List D}
theorem rows_a (x y : Nat) (zs : List Int) (cell DS : D) : ∃ z6, forL (.nm 6) (exs TP_l_rows bRw6) (nats n) [.val (machD names ts 1), .val (machL n ts), .val cell, .val DS, .val (.int (x : Nat)), .val (.lst [intsL zs, .int (y : Nat)]), .no, .no, .no]
    = .nx [.val (machD names ts 1), .val (machL n ts), .val cell, .val DS, .val (.int (x : Nat)), .val (.lst [intsL zs, .int (y : Nat)]), z6, .no, .no] := by
  have w0 : idxD (.lst [intsL zs, .int (y : Nat)]) (.int 0) = some (intsL zs) := idxD_lst (i := 0) rfl
  have w1 : idxD (.lst [intsL zs, .int (y : Nat)]) (.int 1) = some (.int (y : Nat)) := idxD_lst (i := 1) rfl
  obtain ⟨ρ', e, z6, hz⟩ := forL_ind (tg := .nm 6) (body := exs TP_l_rows bRw6) (ds := nats n) (ρ := [.val (machD names ts 1), .val (machL n ts), .val cell, .val DS, .val (.int (x : Nat)), .val (.lst [intsL zs, .int (y : Nat)]), .no, .no, .no])
    (fun i ρ => ∃ z6, ρ = [.val (machD names ts 1), .val (machL n ts), .val cell, .val DS, .val (.int (x : Nat)), .val (.lst [intsL zs, .int (y : Nat)]), z6, .no, .no]) ⟨_, rfl⟩ (fun i d ρ hd ⟨z6, hρ⟩ => by
      obtain ⟨hi, rfl⟩ := nats_at hd
      subst hρ
      have s1 := e_says (n := n) (ts := ts) (names := names) (zs := zs) (x := x) (y := i)
      have s2 := e_says (n := n) (ts := ts) (names := names) (zs := zs) (x := i) (y := y)
      refine ⟨_, _, rfl, .inl ?_, .val (.int (i : Int)), rfl⟩
      generalize machL n ts = ML at *
      generalize machD names ts 1 = MD at *
      generalize hW : D.lst [intsL zs, .int (y : Nat)] = W at *
      generalize intsL zs = Z at *
      simp -implicitDefEqProofs [bRw6, t_l_rows_l_says, s1, s2, w0, w1])
  subst hz
  exact ⟨z6, e⟩
theorem rows_b (hn : 0 < n) (x y o : Nat) {l : List D} (hl : Rows l) (cell DS WK : D) (w1 : idxD WK (.int 1) = some (.int (y : Nat))) {d3 : Int} (i3 : idxD DS (.int 3) = some (.int d3)) (z6 : Sl) : ∃ z6' z7' z8', forL (.nm 8) (exs TP_l_rows bRw8) l [.val (machD names ts 1), .val (machL n ts), .val cell, .val DS, .val (.int (x : Nat)), .val WK, z6, .own [.int (y : Nat), .int (x : Nat), .int (o : Nat)], .no]
    = .nx [.val (machD names ts 1), .val (machL n ts), .val cell, .val DS, .val (.int (x : Nat)), .val WK, z6', z7', z8'] := by
  have j0 : idxD (machL n ts) (.int 0) = some (.int (n : Nat)) := idxD_lst (i := 0) rfl
  obtain ⟨v, hv, hfm⟩ := fmod_nat (z := d3) hn
  have md : modD (.int d3) (.int (n : Nat)) = some (.int (v : Nat)) := by rw [modD_int (by omega), hfm]
  obtain ⟨O, hO⟩ : ∃ O : List D, O = [.int (y : Nat), .int (x : Nat), .int (o : Nat)] := ⟨_, rfl⟩
  rw [← hO]
  have hOm : ∀ d ∈ O, ∃ k : Nat, d = .int (k : Nat) := by
    intro d hd
    rw [hO] at hd
    simp only [List.mem_cons, List.not_mem_nil, or_false] at hd
    rcases hd with rfl | rfl | rfl <;> exact ⟨_, rfl⟩
  clear hO
  obtain ⟨ρ', e, z6', z7', z8', hz, _⟩ := forL_ind (tg := .nm 8) (body := exs TP_l_rows bRw8) (ds := l) (ρ := [.val (machD names ts 1), .val (machL n ts), .val cell, .val DS, .val (.int (x : Nat)), .val WK, z6, .own O, .no])
    (fun i ρ => ∃ z6 z7 z8, ρ = [.val (machD names ts 1), .val (machL n ts), .val cell, .val DS, .val (.int (x : Nat)), .val WK, z6, z7, z8] ∧ (z7 = .own O ∨ z7 = .val (.lst O))) ⟨_, _, _, rfl, .inl rfl⟩ (fun i d ρ hd ⟨z6, z7, z8, hρ, h7⟩ => by
      subst hρ
      obtain ⟨zs, rfl⟩ := hl d (List.mem_of_getElem? hd)
      have s2 := e_says (n := n) (ts := ts) (names := names) (zs := zs) (x := v) (y := y)
      obtain ⟨ρ2, e2, y6, hz2⟩ := forL_ind (tg := .nm 6) (body := exs TP_l_rows bRw66) (ds := O) (ρ := [.val (machD names ts 1), .val (machL n ts), .val cell, .val DS, .val (.int (x : Nat)), .val WK, z6, .val (.lst O), .val (intsL zs)])
        (fun i ρ => ∃ z6, ρ = [.val (machD names ts 1), .val (machL n ts), .val cell, .val DS, .val (.int (x : Nat)), .val WK, z6, .val (.lst O), .val (intsL zs)]) ⟨_, rfl⟩ (fun i d ρ hd ⟨z6, hρ⟩ => by
          subst hρ
          obtain ⟨k, rfl⟩ := hOm d (List.mem_of_getElem? hd)
          have s1 := e_says (n := n) (ts := ts) (names := names) (zs := zs) (x := x) (y := k)
          refine ⟨_, _, rfl, .inl ?_, .val (.int (k : Int)), rfl⟩
          generalize machL n ts = ML at *
          generalize machD names ts 1 = MD at *
          generalize intsL zs = Z at *
          simp -implicitDefEqProofs [bRw66, t_l_rows_l_says, s1])
      subst hz2
      refine ⟨_, _, rfl, .inl ?_, y6, .val (.lst O), .val (intsL zs), rfl, .inr rfl⟩
      generalize machL n ts = ML at *
      generalize machD names ts 1 = MD at *
      generalize intsL zs = Z at *
      rcases h7 with rfl | rfl
      · simp -implicitDefEqProofs [bRw8, e2, t_l_rows_l_says, i3, j0, md, w1, s2]
      · simp -implicitDefEqProofs [bRw8, e2, t_l_rows_l_says, i3, j0, md, w1, s2])
  subst hz
  exact ⟨z6', z7', z8', e⟩
theorem e_rows (ok : MachOk n ts) (hn : 0 < n) (h17 : n < 17) (c : Int) : F_l_rows [machD names ts 1, machL n ts, .int c] = .ok (.bl true) := by
  obtain ⟨ds, hds, hb⟩ := d_digs c rwS (by decide) rwS_bd
  obtain ⟨m1, m2⟩ := rwS_D
  have hdl : ds.length = 47 := by rw [hb.1]; decide
  obtain ⟨d0, a0, b0, c0⟩ := below_at2 hb (i := 0) (s := 16) rfl
  obtain ⟨d1, a1, b1, c1⟩ := below_at2 hb (i := 1) (s := 41) rfl
  obtain ⟨d2, a2, b2, c2⟩ := below_at2 hb (i := 2) (s := 16) rfl
  obtain ⟨d3, a3, b3, c3⟩ := below_at2 hb (i := 3) (s := 16) rfl
  obtain ⟨d4, a4, b4, c4⟩ := below_at2 hb (i := 4) (s := 64) rfl
  obtain ⟨d5, a5, b5, c5⟩ := below_at2 hb (i := 5) (s := 240) rfl
  obtain ⟨d6, a6, b6, c6⟩ := below_at2 hb (i := 6) (s := 240) rfl
  have g : ∀ {j : Nat} {z : Int}, ds[j]? = some z → (ds.map D.int)[j]? = some (.int z) := fun {j z} hz => by rw [List.getElem?_map, hz]; rfl
  have i0 : idxD (.lst (ds.map D.int)) (.int 0) = some (.int d0) := idxD_lst (i := 0) (g a0)
  have i1 : idxD (.lst (ds.map D.int)) (.int 1) = some (.int d1) := idxD_lst (i := 1) (g a1)
  have i2 : idxD (.lst (ds.map D.int)) (.int 2) = some (.int d2) := idxD_lst (i := 2) (g a2)
  have i3 : idxD (.lst (ds.map D.int)) (.int 3) = some (.int d3) := idxD_lst (i := 3) (g a3)
  have hml : (ds.map D.int).length = 47 := by rw [List.length_map, hdl]
  have sl1 : slcD (.lst (ds.map D.int)) (some 7) none = some (.lst ((ds.drop 7).map D.int)) := by
    show some (D.lst (cutD _ (some ((7 : Nat) : Int)) _)) = _
    rw [cut_fromP (by rw [hml]; decide), List.map_drop]
  have sl2 : slcD (.lst (ds.map D.int)) (some 4) (some 7) = some (.lst (((ds.map D.int).drop 4).take 3)) := by
    show some (D.lst (cutD _ (some ((4 : Nat) : Int)) (some ((7 : Nat) : Int)))) = _
    rw [cut_mid (by decide) (by rw [hml]; decide)]
  have gP : ∀ {j : Nat} {z : Int}, j < 3 → ds[4 + j]? = some z → (((ds.map D.int).drop 4).take 3)[j]? = some (.int z) := fun {j z} hj hz => by
    rw [List.getElem?_take_of_lt hj, List.getElem?_drop]
    exact g hz
  have p0 : idxD (.lst (((ds.map D.int).drop 4).take 3)) (.int 0) = some (.int d4) := idxD_lst (i := 0) (gP (by decide) a4)
  have p1 : idxD (.lst (((ds.map D.int).drop 4).take 3)) (.int 1) = some (.int d5) := idxD_lst (i := 1) (gP (by decide) a5)
  have p2 : idxD (.lst (((ds.map D.int).drop 4).take 3)) (.int 2) = some (.int d6) := idxD_lst (i := 2) (gP (by decide) a6)
  have j0 : idxD (machL n ts) (.int 0) = some (.int (n : Nat)) := idxD_lst (i := 0) rfl
  obtain ⟨x, hx, hfx⟩ := fmod_nat (z := d0) hn
  have md0 : modD (.int d0) (.int (n : Nat)) = some (.int (x : Nat)) := by rw [modD_int (by omega), hfx]
  obtain ⟨o, ho, hfo⟩ := fmod_nat (z := d2) hn
  have md2 : modD (.int d2) (.int (n : Nat)) = some (.int (o : Nat)) := by rw [modD_int (by omega), hfo]
  obtain ⟨mn, rfl⟩ : ∃ k : Nat, d1 = (k : Int) := ⟨d1.toNat, by omega⟩
  obtain ⟨fl, y, hy, fl1, fl2, hw⟩ := e_walk ok (x := x) (many := mn) (ps := ds.drop 7) hx (by rw [List.length_drop, hdl]; omega) (by omega)
  obtain ⟨l, hl, hnr⟩ := e_near ok (fl := fl) (by omega) fl2 p0 p1 p2
  have hr := rngR1_nat (n := n) (by omega)
  generalize (fl.map fun i : Nat => (i : Int)) = zs at *
  have s1 := e_says (n := n) (ts := ts) (names := names) (zs := zs) (x := x) (y := y)
  have s2 : F_l_says [machD names ts 1, machL n ts, .int (x : Nat), .int (x : Nat), .lst []] = .ok (.bl true) := e_says (n := n) (ts := ts) (names := names) (zs := []) (x := x) (y := x)
  have w0 : idxD (.lst [intsL zs, .int (y : Nat)]) (.int 0) = some (intsL zs) := idxD_lst (i := 0) rfl
  have w1 : idxD (.lst [intsL zs, .int (y : Nat)]) (.int 1) = some (.int (y : Nat)) := idxD_lst (i := 1) rfl
  obtain ⟨z6, e1⟩ := rows_a (n := n) (ts := ts) (names := names) x y zs (.int c) (.lst (ds.map D.int))
  obtain ⟨z6', z7', z8', e2⟩ := rows_b (n := n) (ts := ts) (names := names) hn x y o hl (.int c) (.lst (ds.map D.int)) (.lst [intsL zs, .int (y : Nat)]) w1 i3 z6
  generalize hW : D.lst [intsL zs, .int (y : Nat)] = W at *
  generalize intsL zs = Z at *
  generalize machL n ts = ML at *
  generalize machD names ts 1 = MD at *
  generalize ((ds.map D.int).drop 4).take 3 = P3 at *
  generalize (ds.drop 7).map D.int = P7 at *
  generalize ds.map D.int = DS at *
  generalize List.replicate 40 (D.int 16) = R40 at *
  generalize rwS.map D.int = RS at *
  unfold F_l_rows runFn
  simp -implicitDefEqProofs [b_l_rows, t_l_rows_l_digits, t_l_rows_l_walk, t_l_rows_l_says, t_l_rows_l_near, m1, m2, hds, i0, i1, i2, j0, md0, md2, sl1, sl2, hw, s1, s2, w0, w1, hr, e1, hnr, e2]
end
/-! k08: the law -/
theorem rep4_D : mulD (.lst [.int 16]) (.int 4) = some (.lst (([16, 16, 16, 16] : List Int).map D.int)) := (mul_lst (n := 4) (by decide) (by decide)).trans rfl
theorem law_ok : LawOk F_law := by
  intro ns _
  obtain ⟨n, ts, n0, n17, tl, hdr, ok⟩ := e_drawn ns
  obtain ⟨c1, hc1⟩ := d_cell ns 1 (by decide)
  obtain ⟨c2, hc2⟩ := d_cell ns 2 (by decide)
  obtain ⟨c6, hc6⟩ := d_cell ns 6 (by decide)
  obtain ⟨cs, hcl, hcb, htw⟩ := e_twin (n := n) (ts := ts) tl c1
  have ok2 : MachOk n (withCs ts cs) := mach_with ok hcl hcb
  have b1 := d_build n0 n17 ok
  have b2 := d_build n0 n17 ok2
  have hnl := menuN_len n17
  obtain ⟨ds, hds, hb⟩ := d_digs c2 [16, 16, 16, 16] (by decide) (by
    intro s hs
    rw [e60]
    simp only [List.mem_cons, List.not_mem_nil, or_false] at hs
    omega)
  have hdl : ds.length = 4 := hb.1
  have j0 : idxD (machL n ts) (.int 0) = some (.int (n : Nat)) := idxD_lst (i := 0) rfl
  have hr := rngR1_nat (n := n) (by omega)
  have md : ∀ z : Int, modD (.int z) (.int (n : Nat)) = some (.int (z.fmod (n : Nat))) := fun z => modD_int (by omega)
  have hrow1 : ∀ c : Int, F_l_rows [machD (menuN.take n) ts 1, machL n ts, .int c] = .ok (.bl true) := fun c => e_rows ok n0 n17 c
  have hrow2 : ∀ c : Int, F_l_rows [machD (menuN.take n) (withCs ts cs) 1, machL n (withCs ts cs), .int c] = .ok (.bl true) := fun c => e_rows ok2 n0 n17 c
  have hfr1 : ∀ x : Nat, x < n → F_l_from [machD (menuN.take n) ts 1, machL n ts, .int (x : Nat)] = .ok (.bl true) := fun x hx => e_from ok n17 hnl hx
  have hfr2 : ∀ x : Nat, x < n → F_l_from [machD (menuN.take n) (withCs ts cs) 1, machL n (withCs ts cs), .int (x : Nat)] = .ok (.bl true) := fun x hx => e_from ok2 n17 hnl hx
  replace hdr : F_l_drawn [.frl (ns.map D.int)] = .ok (machL n ts) := hdr
  replace htw : F_l_twin [machL n ts, .int c1] = .ok (machL n (withCs ts cs)) := htw
  replace b1 : F_l_build [machL n ts] = .ok (machD (menuN.take n) ts 1) := b1
  replace b2 : F_l_build [machL n (withCs ts cs)] = .ok (machD (menuN.take n) (withCs ts cs) 1) := b2
  have hcell : ∀ k : Nat, k < 100 → ∃ c : Int, F_l_cell [.frl (ns.map D.int), .int (k : Int)] = .ok (.int c) := fun k hk => d_cell ns k (Nat.lt_trans hk (by decide))
  replace hc1 : F_l_cell [.frl (ns.map D.int), .int 1] = .ok (.int c1) := hc1
  replace hc2 : F_l_cell [.frl (ns.map D.int), .int 2] = .ok (.int c2) := hc2
  replace hc6 : F_l_cell [.frl (ns.map D.int), .int 6] = .ok (.int c6) := hc6
  have hr3 : rngR1 (.ok (.int 3)) = .ok (nats 3) := rngR1_nat (n := 3) (by decide)
  have h4 : mulD (.lst [.int 16]) (.int 4) = some (.lst [.int 16, .int 16, .int 16, .int 16]) := rep4_D
  replace hds : F_l_digits [.int c2, .lst [.int 16, .int 16, .int 16, .int 16]] = .ok (.lst (ds.map D.int)) := hds
  generalize machD (menuN.take n) (withCs ts cs) 1 = B2 at *
  generalize machD (menuN.take n) ts 1 = B1 at *
  generalize machL n (withCs ts cs) = M2 at *
  generalize machL n ts = M1 at *
  generalize D.frl (ns.map D.int) = SC at *
  -- the two loops
  have loop9 : ∀ (SL : List D) (PS : D), (∀ d ∈ SL, ∃ x : Nat, x < n ∧ d = .int (x : Nat)) → ∃ z9, forL (.nm 9) (exs TP_law bLw9) SL [.val SC, .val M1, .val M2, .val B1, .val B2, .val PS, .val (.lst SL), .no, .no, .no, .no]
      = .nx [.val SC, .val M1, .val M2, .val B1, .val B2, .val PS, .val (.lst SL), .no, .no, z9, .no] := fun SL PS hS => by
    obtain ⟨ρ', e, z9, hz⟩ := forL_ind (tg := .nm 9) (body := exs TP_law bLw9) (ds := SL) (ρ := [.val SC, .val M1, .val M2, .val B1, .val B2, .val PS, .val (.lst SL), .no, .no, .no, .no])
      (fun i ρ => ∃ z9, ρ = [.val SC, .val M1, .val M2, .val B1, .val B2, .val PS, .val (.lst SL), .no, .no, z9, .no]) ⟨_, rfl⟩ (fun i d ρ hd ⟨z9, hρ⟩ => by
        subst hρ
        obtain ⟨x, hx, rfl⟩ := hS d (List.mem_of_getElem? hd)
        have f1 := hfr1 x hx
        have f2 := hfr2 x hx
        refine ⟨_, _, rfl, .inl ?_, .val (.int (x : Int)), rfl⟩
        simp -implicitDefEqProofs [bLw9, t_law_l_from, f1, f2])
    subst hz
    exact ⟨z9, e⟩
  have loop10 : ∀ (SL : List D) (PS : D) (z9 : Sl), ∃ z10, forL (.nm 10) (exs TP_law bLw10) (nats 3) [.val SC, .val M1, .val M2, .val B1, .val B2, .val PS, .val (.lst SL), .no, .no, z9, .no]
      = .nx [.val SC, .val M1, .val M2, .val B1, .val B2, .val PS, .val (.lst SL), .no, .no, z9, z10] := fun SL PS z9 => by
    obtain ⟨ρ', e, z10, hz⟩ := forL_ind (tg := .nm 10) (body := exs TP_law bLw10) (ds := nats 3) (ρ := [.val SC, .val M1, .val M2, .val B1, .val B2, .val PS, .val (.lst SL), .no, .no, z9, .no])
      (fun i ρ => ∃ z10, ρ = [.val SC, .val M1, .val M2, .val B1, .val B2, .val PS, .val (.lst SL), .no, .no, z9, z10]) ⟨_, rfl⟩ (fun i d ρ hd ⟨z10, hρ⟩ => by
        subst hρ
        obtain ⟨hi, rfl⟩ := nats_at hd
        obtain ⟨c, hc⟩ := hcell (3 + i) (by omega)
        have hc' : F_l_cell [SC, .int (3 + (i : Int))] = .ok (.int c) := by
          rw [show (3 : Int) + (i : Int) = ((3 + i : Nat) : Int) by omega]
          exact hc
        have r1 := hrow1 c
        refine ⟨_, _, rfl, .inl ?_, .val (.int (i : Int)), rfl⟩
        simp -implicitDefEqProofs [bLw10, t_law_l_cell, t_law_l_rows, hc', r1])
    subst hz
    exact ⟨z10, e⟩
  -- the starts
  have hl1 : lcL (asg (.nm 7)) (evc TP_law .no) (ev TP_law (.bin .Mod (.bi .int (.cons (.var 7) .nil)) (.idx (.var 1) (.int 0))) .val) [.val SC, .val M1, .val M2, .val B1, .val B2, .val (.lst (ds.map D.int)), .no, .no, .no, .no, .no] (ds.map D.int)
      = .ok ((ds.map D.int).map fun d => match d with | .int z => .int (z.fmod (n : Nat)) | _ => .non) := by
    refine lcL_map fun d hd => ?_
    obtain ⟨z, _, rfl⟩ := List.mem_map.mp hd
    have m := md z
    generalize ds.map D.int = DS at *
    exact ⟨_, rfl, evc_no, by simp -implicitDefEqProofs [j0, m]⟩
  have hS1 : ∀ d ∈ (ds.map D.int).map (fun d => match d with | .int z => D.int (z.fmod (n : Nat)) | _ => .non), ∃ x : Nat, x < n ∧ d = .int (x : Nat) := by
    intro d hd
    obtain ⟨d', hd', rfl⟩ := List.mem_map.mp hd
    obtain ⟨z, _, rfl⟩ := List.mem_map.mp hd'
    obtain ⟨x, hx, e⟩ := fmod_nat (z := z) n0
    exact ⟨x, hx, congrArg D.int e⟩
  have hSl : ((ds.map D.int).map fun d => match d with | .int z => D.int (z.fmod (n : Nat)) | _ => .non).length = 4 := by rw [List.length_map, List.length_map, hdl]
  generalize ((ds.map D.int).map fun d => match d with | .int z => D.int (z.fmod (n : Nat)) | _ => .non) = S1 at *
  have fst : ∀ (SL : List D), (∀ d ∈ SL, ∃ x : Nat, x < n ∧ d = .int (x : Nat)) → 0 < SL.length → ∃ x : Nat, x < n ∧ idxD (.lst SL) (.int 0) = some (.int (x : Nat)) := fun SL hS hp => by
    obtain ⟨x, hx, e⟩ := hS _ (List.getElem_mem hp)
    exact ⟨x, hx, idxD_lst (i := 0) (by rw [List.getElem?_eq_getElem hp, e])⟩
  have r2 := hrow2 c6
  by_cases h6 : n ≤ 6
  · have hl2 : lcL (asg (.nm 8)) (evc TP_law .no) (ev TP_law (.var 8) .val) [.val SC, .val M1, .val M2, .val B1, .val B2, .val (.lst (ds.map D.int)), .own S1, .no, .no, .no, .no] (nats n) = .ok ((nats n).map id) := by
      refine lcL_map fun d hd => ?_
      exact ⟨_, rfl, evc_no, by simp -implicitDefEqProofs⟩
    rw [List.map_id] at hl2
    have hS2 : ∀ d ∈ nats n, ∃ x : Nat, x < n ∧ d = .int (x : Nat) := fun d hd => by
      obtain ⟨j, hj⟩ := List.mem_iff_getElem?.mp hd
      obtain ⟨hj', rfl⟩ := nats_at hj
      exact ⟨j, hj', rfl⟩
    obtain ⟨x, hx, f0⟩ := fst (nats n) hS2 (by rw [nats_len]; exact n0)
    have f1 := hfr1 x hx
    obtain ⟨z9, e9⟩ := loop9 (nats n) (.lst (ds.map D.int)) hS2
    obtain ⟨z10, e10⟩ := loop10 (nats n) (.lst (ds.map D.int)) z9
    have h6' : (n : Int) ≤ 6 := by omega
    clear loop9 loop10 hS1 hS2 fst
    generalize ds.map D.int = DS at *
    generalize ((n : Nat) : Int) = m at *
    unfold F_law runFn
    simp -implicitDefEqProofs [b_law, t_law_l_drawn, t_law_l_cell, t_law_l_twin, t_law_l_build, t_law_l_digits, t_law_l_from, t_law_l_rows, hdr, htw, hc1, hc2, hc6, b1, b2, hds, h4, j0, hr, lcR_ok hl1, h6', lcR_ok hl2, e9, hr3, e10, f0, f1, r2]
  · obtain ⟨x, hx, f0⟩ := fst S1 hS1 (by rw [hSl]; decide)
    have f1 := hfr1 x hx
    obtain ⟨z9, e9⟩ := loop9 S1 (.lst (ds.map D.int)) hS1
    obtain ⟨z10, e10⟩ := loop10 S1 (.lst (ds.map D.int)) z9
    have h6' : ¬ (n : Int) ≤ 6 := by omega
    clear loop9 loop10 hS1 fst
    generalize ds.map D.int = DS at *
    generalize ((n : Nat) : Int) = m at *
    unfold F_law runFn
    simp -implicitDefEqProofs [b_law, t_law_l_drawn, t_law_l_cell, t_law_l_twin, t_law_l_build, t_law_l_digits, t_law_l_from, t_law_l_rows, hdr, htw, hc1, hc2, hc6, b1, b2, hds, h4, j0, hr, lcR_ok hl1, h6', e9, hr3, e10, f0, f1, r2]
end L08
open PySem PySem.W PyProof.Rows in
set_option maxRecDepth 100000 in
set_option maxHeartbeats 0 in
theorem PySem.Challenge.cw_rareslips_k08_cheapest_ways_holds : PySem.Challenge.rw_rareslips_k08_cheapest_ways.Holds := by
  w_on; o_law; k_head; (case hw => w_witness2)
  k_fill
  refine Pu.walk (lv := 60) rfl rfl ⟨rfl, by decide, by decide⟩ (fun w h Y => PySem.W.kIn_of Y) ?F
  case F =>
    intro w mg fa h KX G hmg
    have z_len : mg "len" = none := by
      refine' PySem.W.mg_none_of KX G ?a
      (case a => k_is)
    have z_abs : mg "abs" = none := by
      refine' PySem.W.mg_none_of KX G ?a
      (case a => k_is)
    have z_max : mg "max" = none := by
      refine' PySem.W.mg_none_of KX G ?a
      (case a => k_is)
    have z_min : mg "min" = none := by
      refine' PySem.W.mg_none_of KX G ?a
      (case a => k_is)
    have z_sum : mg "sum" = none := by
      refine' PySem.W.mg_none_of KX G ?a
      (case a => k_is)
    have z_sorted : mg "sorted" = none := by
      refine' PySem.W.mg_none_of KX G ?a
      (case a => k_is)
    have z_int : mg "int" = none := by
      refine' PySem.W.mg_none_of KX G ?a
      (case a => k_is)
    have z_bool : mg "bool" = none := by
      refine' PySem.W.mg_none_of KX G ?a
      (case a => k_is)
    have z_str : mg "str" = none := by
      refine' PySem.W.mg_none_of KX G ?a
      (case a => k_is)
    have z_list : mg "list" = none := by
      refine' PySem.W.mg_none_of KX G ?a
      (case a => k_is)
    have z_tuple : mg "tuple" = none := by
      refine' PySem.W.mg_none_of KX G ?a
      (case a => k_is)
    have z_range : mg "range" = none := by
      refine' PySem.W.mg_none_of KX G ?a
      (case a => k_is)
    have z_reversed : mg "reversed" = none := by
      refine' PySem.W.mg_none_of KX G ?a
      (case a => k_is)
    have z_isinstance : mg "isinstance" = none := by
      refine' PySem.W.mg_none_of KX G ?a
      (case a => k_is)
    have z_gcd : mg "gcd" = some (.builtin "math.gcd") := by
      refine' PySem.W.mg_of KX G ?a
      (case a => k_is)
    refine' (have M_ZERO := Pu.tupc (x := "ZERO") (i := 0) (j := 1) KX G ?g ?l; ?_)
    (case g => k_is)
    (case l => k_is)
    obtain ⟨_, m_ZERO, a_ZERO⟩ := M_ZERO
    refine' (have m_MOST_COST := PySem.W.mg_of (n := "MOST_COST") KX G ?g; ?_)
    (case g => k_is)
    refine' (have m_DIGITS := PySem.W.mg_of (n := "DIGITS") KX G ?g; ?_)
    (case g => k_is)
    refine' (have m_LETTERS := PySem.W.mg_of (n := "LETTERS") KX G ?g; ?_)
    (case g => k_is)
    refine' (have M_ONE := Pu.tupc (x := "ONE") (i := 1) (j := 1) KX G ?g ?l; ?_)
    (case g => k_is)
    (case l => k_is)
    obtain ⟨_, m_ONE, a_ONE⟩ := M_ONE
    refine' (have D_l_put := Pu.def_mk (x := "_law_put") (st := L08.s_l_put) KX G ?a ?l ?c ?k; ?_)
    (case a => k_is)
    (case l => k_is)
    (case c => k_is)
    (case k => k_is)
    refine' (have D_l_near := Pu.def_mk (x := "_law_near") (st := L08.s_l_near) KX G ?a ?l ?c ?k; ?_)
    (case a => k_is)
    (case l => k_is)
    (case c => k_is)
    (case k => k_is)
    refine' (have D_is_whole := Pu.def_mk (x := "is_whole") (st := L08.s_is_whole) KX G ?a ?l ?c ?k; ?_)
    (case a => k_is)
    (case l => k_is)
    (case c => k_is)
    (case k => k_is)
    refine' (have D_is_state := Pu.def_mk (x := "is_state") (st := L08.s_is_state) KX G ?a ?l ?c ?k; ?_)
    (case a => k_is)
    (case l => k_is)
    (case c => k_is)
    (case k => k_is)
    refine' (have D_is_way := Pu.def_mk (x := "is_way") (st := L08.s_is_way) KX G ?a ?l ?c ?k; ?_)
    (case a => k_is)
    (case l => k_is)
    (case c => k_is)
    (case k => k_is)
    refine' (have D_l_leads := Pu.def_mk (x := "_law_leads") (st := L08.s_l_leads) KX G ?a ?l ?c ?k; ?_)
    (case a => k_is)
    (case l => k_is)
    (case c => k_is)
    (case k => k_is)
    refine' (have D_l_says := Pu.def_mk (x := "_law_says") (st := L08.s_l_says) KX G ?a ?l ?c ?k; ?_)
    (case a => k_is)
    (case l => k_is)
    (case c => k_is)
    (case k => k_is)
    refine' (have D_l_walk := Pu.def_mk (x := "_law_walk") (st := L08.s_l_walk) KX G ?a ?l ?c ?k; ?_)
    (case a => k_is)
    (case l => k_is)
    (case c => k_is)
    (case k => k_is)
    refine' (have D_l_digits := Pu.def_mk (x := "_law_digits") (st := L08.s_l_digits) KX G ?a ?l ?c ?k; ?_)
    (case a => k_is)
    (case l => k_is)
    (case c => k_is)
    (case k => k_is)
    refine' (have D_l_rows := Pu.def_mk (x := "_law_rows") (st := L08.s_l_rows) KX G ?a ?l ?c ?k; ?_)
    (case a => k_is)
    (case l => k_is)
    (case c => k_is)
    (case k => k_is)
    refine' (have D_l_cell := Pu.def_mk (x := "_law_cell") (st := L08.s_l_cell) KX G ?a ?l ?c ?k; ?_)
    (case a => k_is)
    (case l => k_is)
    (case c => k_is)
    (case k => k_is)
    refine' (have D_l_whole := Pu.def_mk (x := "_law_whole") (st := L08.s_l_whole) KX G ?a ?l ?c ?k; ?_)
    (case a => k_is)
    (case l => k_is)
    (case c => k_is)
    (case k => k_is)
    refine' (have D_l_is_cheapest := Pu.def_mk (x := "_law_is_cheapest") (st := L08.s_l_is_cheapest) KX G ?a ?l ?c ?k; ?_)
    (case a => k_is)
    (case l => k_is)
    (case c => k_is)
    (case k => k_is)
    refine' (have D_leaving_rows := Pu.def_mk (x := "leaving_rows") (st := L08.s_leaving_rows) KX G ?a ?l ?c ?k; ?_)
    (case a => k_is)
    (case l => k_is)
    (case c => k_is)
    (case k => k_is)
    refine' (have D_reached_from := Pu.def_mk (x := "reached_from") (st := L08.s_reached_from) KX G ?a ?l ?c ?k; ?_)
    (case a => k_is)
    (case l => k_is)
    (case c => k_is)
    (case k => k_is)
    refine' (have D_check_ways := Pu.def_mk (x := "check_ways") (st := L08.s_check_ways) KX G ?a ?l ?c ?k; ?_)
    (case a => k_is)
    (case l => k_is)
    (case c => k_is)
    (case k => k_is)
    refine' (have D_compare := Pu.def_mk (x := "compare") (st := L08.s_compare) KX G ?a ?l ?c ?k; ?_)
    (case a => k_is)
    (case l => k_is)
    (case c => k_is)
    (case k => k_is)
    refine' (have D_lowest := Pu.def_mk (x := "lowest") (st := L08.s_lowest) KX G ?a ?l ?c ?k; ?_)
    (case a => k_is)
    (case l => k_is)
    (case c => k_is)
    (case k => k_is)
    refine' (have D_plus := Pu.def_mk (x := "plus") (st := L08.s_plus) KX G ?a ?l ?c ?k; ?_)
    (case a => k_is)
    (case l => k_is)
    (case c => k_is)
    (case k => k_is)
    refine' (have D_times := Pu.def_mk (x := "times") (st := L08.s_times) KX G ?a ?l ?c ?k; ?_)
    (case a => k_is)
    (case l => k_is)
    (case c => k_is)
    (case k => k_is)
    refine' (have D_raised := Pu.def_mk (x := "raised") (st := L08.s_raised) KX G ?a ?l ?c ?k; ?_)
    (case a => k_is)
    (case l => k_is)
    (case c => k_is)
    (case k => k_is)
    refine' (have D_step_chance := Pu.def_mk (x := "step_chance") (st := L08.s_step_chance) KX G ?a ?l ?c ?k; ?_)
    (case a => k_is)
    (case l => k_is)
    (case c => k_is)
    (case k => k_is)
    refine' (have D_chance_out := Pu.def_mk (x := "chance_out") (st := L08.s_chance_out) KX G ?a ?l ?c ?k; ?_)
    (case a => k_is)
    (case l => k_is)
    (case c => k_is)
    (case k => k_is)
    refine' (have D_is_ratio := Pu.def_mk (x := "is_ratio") (st := L08.s_is_ratio) KX G ?a ?l ?c ?k; ?_)
    (case a => k_is)
    (case l => k_is)
    (case c => k_is)
    (case k => k_is)
    refine' (have D_is_positive := Pu.def_mk (x := "is_positive") (st := L08.s_is_positive) KX G ?a ?l ?c ?k; ?_)
    (case a => k_is)
    (case l => k_is)
    (case c => k_is)
    (case k => k_is)
    refine' (have D_is_row := Pu.def_mk (x := "is_row") (st := L08.s_is_row) KX G ?a ?l ?c ?k; ?_)
    (case a => k_is)
    (case l => k_is)
    (case c => k_is)
    (case k => k_is)
    refine' (have D_is_step := Pu.def_mk (x := "is_step") (st := L08.s_is_step) KX G ?a ?l ?c ?k; ?_)
    (case a => k_is)
    (case l => k_is)
    (case c => k_is)
    (case k => k_is)
    refine' (have D_checked_steps := Pu.def_mk (x := "checked_steps") (st := L08.s_checked_steps) KX G ?a ?l ?c ?k; ?_)
    (case a => k_is)
    (case l => k_is)
    (case c => k_is)
    (case k => k_is)
    refine' (have D_frozen := Pu.def_mk (x := "frozen") (st := L08.s_frozen) KX G ?a ?l ?c ?k; ?_)
    (case a => k_is)
    (case l => k_is)
    (case c => k_is)
    (case k => k_is)
    refine' (have D_is_name := Pu.def_mk (x := "is_name") (st := L08.s_is_name) KX G ?a ?l ?c ?k; ?_)
    (case a => k_is)
    (case l => k_is)
    (case c => k_is)
    (case k => k_is)
    refine' (have D_checked_names := Pu.def_mk (x := "checked_names") (st := L08.s_checked_names) KX G ?a ?l ?c ?k; ?_)
    (case a => k_is)
    (case l => k_is)
    (case c => k_is)
    (case k => k_is)
    refine' (have D_spread := Pu.def_mk (x := "spread") (st := L08.s_spread) KX G ?a ?l ?c ?k; ?_)
    (case a => k_is)
    (case l => k_is)
    (case c => k_is)
    (case k => k_is)
    refine' (have D_cheapest_way := Pu.def_mk (x := "cheapest_way") (st := L08.s_cheapest_way) KX G ?a ?l ?c ?k; ?_)
    (case a => k_is)
    (case l => k_is)
    (case c => k_is)
    (case k => k_is)
    refine' (have D_way_costs := Pu.def_mk (x := "way_costs") (st := L08.s_way_costs) KX G ?a ?l ?c ?k; ?_)
    (case a => k_is)
    (case l => k_is)
    (case c => k_is)
    (case k => k_is)
    refine' (have D_l_costs := Pu.def_mk (x := "_law_costs") (st := L08.s_l_costs) KX G ?a ?l ?c ?k; ?_)
    (case a => k_is)
    (case l => k_is)
    (case c => k_is)
    (case k => k_is)
    refine' (have D_l_from := Pu.def_mk (x := "_law_from") (st := L08.s_l_from) KX G ?a ?l ?c ?k; ?_)
    (case a => k_is)
    (case l => k_is)
    (case c => k_is)
    (case k => k_is)
    refine' (have D_l_names := Pu.def_mk (x := "_law_names") (st := L08.s_l_names) KX G ?a ?l ?c ?k; ?_)
    (case a => k_is)
    (case l => k_is)
    (case c => k_is)
    (case k => k_is)
    refine' (have D_l_build := Pu.def_mk (x := "_law_build") (st := L08.s_l_build) KX G ?a ?l ?c ?k; ?_)
    (case a => k_is)
    (case l => k_is)
    (case c => k_is)
    (case k => k_is)
    refine' (have D_l_twin := Pu.def_mk (x := "_law_twin") (st := L08.s_l_twin) KX G ?a ?l ?c ?k; ?_)
    (case a => k_is)
    (case l => k_is)
    (case c => k_is)
    (case k => k_is)
    refine' (have D_l_gcd := Pu.def_mk (x := "_law_gcd") (st := L08.s_l_gcd) KX G ?a ?l ?c ?k; ?_)
    (case a => k_is)
    (case l => k_is)
    (case c => k_is)
    (case k => k_is)
    refine' (have D_l_ratio := Pu.def_mk (x := "_law_ratio") (st := L08.s_l_ratio) KX G ?a ?l ?c ?k; ?_)
    (case a => k_is)
    (case l => k_is)
    (case c => k_is)
    (case k => k_is)
    refine' (have D_l_machine := Pu.def_mk (x := "_law_machine") (st := L08.s_l_machine) KX G ?a ?l ?c ?k; ?_)
    (case a => k_is)
    (case l => k_is)
    (case c => k_is)
    (case k => k_is)
    refine' (have D_l_road := Pu.def_mk (x := "_law_road") (st := L08.s_l_road) KX G ?a ?l ?c ?k; ?_)
    (case a => k_is)
    (case l => k_is)
    (case c => k_is)
    (case k => k_is)
    refine' (have D_l_fitting := Pu.def_mk (x := "_law_fitting") (st := L08.s_l_fitting) KX G ?a ?l ?c ?k; ?_)
    (case a => k_is)
    (case l => k_is)
    (case c => k_is)
    (case k => k_is)
    refine' (have D_l_drawn := Pu.def_mk (x := "_law_drawn") (st := L08.s_l_drawn) KX G ?a ?l ?c ?k; ?_)
    (case a => k_is)
    (case l => k_is)
    (case c => k_is)
    (case k => k_is)
    refine' (have D_law := Pu.def_mk (x := "law") (st := L08.s_law) KX G ?a ?l ?c ?k; ?_)
    (case a => k_is)
    (case l => k_is)
    (case c => k_is)
    (case k => k_is)
    refine' (have E_Machine := Pu.class_ex (c := "Machine") (qual := "Machine.__init__") (st := L08.s_Machine) (kws := []) (R := fun K C => Pu.MethAt K "__len__" "Machine.__len__" L08.s_Machine_len C ∧ True) KX G ?aC ?mk ?kc ?a ?i ?l ?c ?k (.inl rfl) ?pg ?hd ?po ?sa (Pu.no_attr (f := "names") ?f0 (Pu.no_attr (f := "steps") ?f1 (Pu.no_attr (f := "first") ?f2 (Pu.no_attr (f := "leaving") ?f3 Pu.no_attrs)))) ⟨Pu.meth_mk ?ma0 ?mi0 ?ml0 ?mc0 ?mk0, trivial⟩; ?_)
    (case aC => k_is)
    (case mk => k_is)
    (case kc => k_is)
    (case a => k_is)
    (case i => k_is)
    (case l => k_is)
    (case c => k_is)
    (case k => k_is)
    (case ma0 => k_is)
    (case mi0 => k_is)
    (case ml0 => k_is)
    (case mc0 => k_is)
    (case mk0 => k_is)
    (case pg => k_is)
    (case hd => k_is)
    (case po => k_is)
    (case sa => k_is)
    (case f0 => k_is)
    (case f1 => k_is)
    (case f2 => k_is)
    (case f3 => k_is)
    obtain ⟨C_Machine, D_Machine, cl_Machine, na_Machine, D_Machine_len, _⟩ := E_Machine
    let Cl : Pu.ClT := fun c => if c = "Machine" then some C_Machine else none
    have hC_Machine : Cl "Machine" = some C_Machine := if_pos rfl
    refine Pu.law_end (Cl := Cl) D_law hmg L08.sc_law L08.c_law (fun _ _ _ _ _ _ us hl => match us, hl with | [_], _ => rfl) (fun base => ?_) L08.law_ok
    exact (L08.fx_l_drawn (L08.fx_l_fitting (L08.fx_l_road (L08.fx_l_machine (L08.fx_l_ratio (L08.fx_l_gcd (L08.fx_l_twin (L08.fx_l_build (L08.fx_l_names (L08.fx_l_from (L08.fx_l_costs (L08.fx_way_costs (L08.fx_cheapest_way (L08.fx_spread (L08.fx_Machine_len (L08.fx_Machine (L08.fx_checked_names (L08.fx_is_name (L08.fx_frozen (L08.fx_checked_steps (L08.fx_is_step (L08.fx_is_row (L08.fx_is_positive (L08.fx_is_ratio (L08.fx_chance_out (L08.fx_step_chance (L08.fx_raised (L08.fx_times (L08.fx_plus (L08.fx_lowest (L08.fx_compare (L08.fx_check_ways (L08.fx_reached_from (L08.fx_leaving_rows (L08.fx_l_is_cheapest (L08.fx_l_whole (L08.fx_l_cell (L08.fx_l_rows (L08.fx_l_digits (L08.fx_l_walk (L08.fx_l_says (L08.fx_l_leads (L08.fx_is_way (L08.fx_is_state (L08.fx_is_whole (L08.fx_l_near (L08.fx_l_put (Pu.facts0 (fu := (2 ^ 200)) (gc := true) (fun _ => z_gcd) (fun b => by cases b <;> assumption) z_range z_reversed z_isinstance (Pu.GlOk.tup2 m_ZERO a_ZERO (Pu.GlOk.int m_MOST_COST (Pu.GlOk.str m_DIGITS (Pu.GlOk.str m_LETTERS (Pu.GlOk.tup2 m_ONE a_ONE Pu.GlOk.nil))))) (Pu.ClsOk.cons hC_Machine cl_Machine na_Machine Pu.ClsOk.nil)) D_l_put) D_l_near) D_is_whole) D_is_state) D_is_way) D_l_leads) D_l_says) D_l_walk) D_l_digits) D_l_rows) D_l_cell) D_l_whole) D_l_is_cheapest) D_leaving_rows) D_reached_from) D_check_ways) D_compare) D_lowest) D_plus) D_times) D_raised) D_step_chance) D_chance_out) D_is_ratio) D_is_positive) D_is_row) D_is_step) D_checked_steps) D_frozen) D_is_name) D_checked_names) hC_Machine D_Machine) hC_Machine cl_Machine D_Machine_len) D_spread) D_cheapest_way) D_way_costs) D_l_costs) D_l_from) D_l_names) D_l_build) D_l_twin) D_l_gcd) D_l_ratio) D_l_machine) D_l_road) D_l_fitting) D_l_drawn)
#print axioms PySem.Challenge.cw_rareslips_k08_cheapest_ways_holds
