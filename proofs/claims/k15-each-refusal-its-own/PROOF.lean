import PyProof.Rows.All
import Wide.All
import OpenK.AllK
import Wide.FinOn
import HandS.ForMost
import HandS.ForExc
import HandS.Deep
import HandS.Walk
import HandS.IsInst
import HandS.Conv
import HandS.Rev
import HandS.SetFor
import HandS.Strs
import HandS.ExcIs
import HandS.ExcOwn
import PySem.Challenge.RW_shelfruns_k15_each_refusal_its_own
set_option Elab.async false
set_option linter.all false
set_option maxRecDepth 100000
set_option maxHeartbeats 8000000
/-! The data layer: what a def's text computes, told over plain data (PyData), proved once a construct over the hand layer. -/
namespace DL
open PySem L2

abbrev PD := PyData
/-- the script as data: told apart from lists, it is read only -/
def scrD (ns : List Int) : PD := .dict (ns.map fun n => (.int n, .none))

mutual
/-- the value v is the data d, all of it in F -/
inductive Da (K : PySem.W.Frag) (F : Hp) : V → PD → Prop
  | non : Da K F .non .none
  | bl (b : Bool) : Da K F (.bl b) (.bool b)
  | int (i : Int) : Da K F (.int i) (.int i)
  | str (x : Str) : Da K F (.str x) (.str x)
  | lst {a : Addr} {xs : List V} {ds : List PD} : F a = some (.lst xs) → DaAll K F xs ds → Da K F (.ref a) (.list ds)
  | tup {a : Addr} {xs : List V} {ds : List PD} : F a = some (.tup xs) → DaAll K F xs ds → Da K F (.ref a) (.tuple ds)
  | scr {a : Addr} {ns : List Int} {ds : List (PD × PD)} : SqL K F a (ns.map V.int) → ds = ns.map (fun n => ((PyData.int n : PD), (PyData.none : PD))) → Da K F (.ref a) (.dict ds)
inductive DaAll (K : PySem.W.Frag) (F : Hp) : List V → List PD → Prop
  | nil : DaAll K F [] []
  | cons {v : V} {vs : List V} {d : PD} {ds : List PD} : Da K F v d → DaAll K F vs ds → DaAll K F (v :: vs) (d :: ds)
end
section
variable {K : PySem.W.Frag} {F F' H : Hp} {v : V} {vs : List V} {d : PD} {ds : List PD}
mutual
theorem Da.ext (e : Same F F') : ∀ (d : PD) (v : V), Da K F v d → Da K F' v d
  | .none, _, h => by cases h; exact .non
  | .bool b, _, h => by cases h; exact .bl b
  | .int i, _, h => by cases h; exact .int i
  | .str x, _, h => by cases h; exact .str x
  | .list ds, _, h => by cases h with | lst h1 h2 => exact .lst (e _ _ h1) (DaAll.ext e ds _ h2)
  | .tuple ds, _, h => by cases h with | tup h1 h2 => exact .tup (e _ _ h1) (DaAll.ext e ds _ h2)
  | .dict ds, _, h => by cases h with | scr h1 h2 => exact .scr (e.seq h1) h2
theorem DaAll.ext (e : Same F F') : ∀ (ds : List PD) (vs : List V), DaAll K F vs ds → DaAll K F' vs ds
  | [], _, h => by cases h; exact .nil
  | d :: ds, _, h => by cases h with | cons h1 h2 => exact .cons (Da.ext e d _ h1) (DaAll.ext e ds _ h2)
end
theorem Da.mono (h : Da K F v d) (e : Same F F') : Da K F' v d := Da.ext e d v h
theorem DaAll.mono (h : DaAll K F vs ds) (e : Same F F') : DaAll K F' vs ds := DaAll.ext e ds vs h
mutual
theorem Da.dp' (e : Same F H) : ∀ (d : PD) (v : V), d.canLay0 = true → Da K F v d → Dp K H v d
  | .none, _, _, h => by cases h; exact .non
  | .bool b, _, _, h => by cases h; exact .bl b
  | .int i, _, _, h => by cases h; exact .int i
  | .str x, _, _, h => by cases h; exact .str x
  | .list ds, _, c, h => by cases h with | lst h1 h2 => exact .lst (SqL.of (e _ _ h1)) (DaAll.dp' e ds _ (by simpa [PyData.canLay0] using c) h2)
  | .tuple ds, _, c, h => by cases h with | tup h1 h2 => exact .tup (SqT.of (e _ _ h1)) (DaAll.dp' e ds _ (by simpa [PyData.canLay0] using c) h2)
  | .dict ds, _, c, _ => by simp [PyData.canLay0] at c
theorem DaAll.dp' (e : Same F H) : ∀ (ds : List PD) (vs : List V), PyData.canLayAll0 ds = true → DaAll K F vs ds → DpAll K H vs ds
  | [], _, _, h => by cases h; exact .nil
  | d :: ds, _, c, h => by
    have c' : d.canLay0 = true ∧ PyData.canLayAll0 ds = true := by simpa [PyData.canLayAll0] using c
    cases h with | cons h1 h2 => exact .cons (Da.dp' e d _ c'.1 h1) (DaAll.dp' e ds _ c'.2 h2)
end
theorem DaAll.len : ∀ {vs : List V} {ds : List PD}, DaAll K F vs ds → vs.length = ds.length
  | _, _, .nil => rfl
  | _, _, .cons _ t => congrArg (· + 1) (DaAll.len t)
theorem DaAll.get : ∀ {vs : List V} {ds : List PD} {i : Nat} {v : V}, DaAll K F vs ds → vs[i]? = some v → ∃ d, ds[i]? = some d ∧ Da K F v d
  | _, _, _, _, .nil, e => by simp at e
  | _, _, 0, _, .cons h _, e => by simp at e; subst e; exact ⟨_, rfl, h⟩
  | _, _, i + 1, _, .cons _ t, e => by simpa using DaAll.get (i := i) t (by simpa using e)
theorem DaAll.get' : ∀ {vs : List V} {ds : List PD} {i : Nat} {d : PD}, DaAll K F vs ds → ds[i]? = some d → ∃ v, vs[i]? = some v ∧ Da K F v d
  | _, _, _, _, .nil, e => by simp at e
  | _, _, 0, _, .cons h _, e => by simp at e; subst e; exact ⟨_, rfl, h⟩
  | _, _, i + 1, _, .cons _ t, e => by simpa using DaAll.get' (i := i) t (by simpa using e)
theorem DaAll.append : ∀ {vs us : List V} {ds es : List PD}, DaAll K F vs ds → DaAll K F us es → DaAll K F (vs ++ us) (ds ++ es)
  | _, _, _, _, .nil, s => s
  | _, _, _, _, .cons h t, s => .cons h (DaAll.append t s)
theorem DaAll.take : ∀ {vs : List V} {ds : List PD} (n : Nat), DaAll K F vs ds → DaAll K F (vs.take n) (ds.take n)
  | _, _, 0, _ => .nil
  | _, _, _ + 1, .nil => .nil
  | _, _, n + 1, .cons h t => .cons h (DaAll.take n t)
theorem DaAll.drop : ∀ {vs : List V} {ds : List PD} (n : Nat), DaAll K F vs ds → DaAll K F (vs.drop n) (ds.drop n)
  | _, _, 0, r => r
  | _, _, _ + 1, .nil => .nil
  | _, _, n + 1, .cons _ t => DaAll.drop n t
theorem DaAll.eraseIdx : ∀ {vs : List V} {ds : List PD} (n : Nat), DaAll K F vs ds → DaAll K F (vs.eraseIdx n) (ds.eraseIdx n)
  | _, _, _, .nil => .nil
  | _, _, 0, .cons _ t => t
  | _, _, n + 1, .cons h t => .cons h (DaAll.eraseIdx n t)
theorem DaAll.set {v : V} {d : PD} (h : Da K F v d) : ∀ {vs : List V} {ds : List PD} (n : Nat), DaAll K F vs ds → DaAll K F (vs.set n v) (ds.set n d)
  | _, _, _, .nil => .nil
  | _, _, 0, .cons _ t => .cons h t
  | _, _, n + 1, .cons g t => .cons g (DaAll.set h n t)
theorem DaAll.reverse : ∀ {vs : List V} {ds : List PD}, DaAll K F vs ds → DaAll K F vs.reverse ds.reverse
  | _, _, .nil => .nil
  | _, _, .cons h t => by rw [List.reverse_cons, List.reverse_cons]; exact (DaAll.reverse t).append (.cons h .nil)
theorem DaAll.ints : ∀ (ns : List Int) {vs : List V}, DaAll K F vs (ns.map PyData.int) → vs = ns.map V.int
  | [], _, h => by cases h; rfl
  | n :: ns, _, h => by
    cases h with
    | cons h1 h2 => cases h1; rw [DaAll.ints ns h2]; rfl
theorem DaAll.of_ints : ∀ (ns : List Int), DaAll K F (ns.map V.int) (ns.map PyData.int)
  | [] => .nil
  | n :: ns => .cons (.int n) (DaAll.of_ints ns)
theorem DaAll.strs : ∀ (ns : List Str) {vs : List V}, DaAll K F vs (ns.map PyData.str) → vs = ns.map V.str
  | [], _, h => by cases h; rfl
  | n :: ns, _, h => by
    cases h with
    | cons h1 h2 => cases h1; rw [DaAll.strs ns h2]; rfl
theorem DaAll.of_strs : ∀ (ns : List Str), DaAll K F (ns.map V.str) (ns.map PyData.str)
  | [] => .nil
  | n :: ns => .cons (.str n) (DaAll.of_strs ns)
end

/-! ### heaps that grow: F what is settled for good, H all that is tracked -/
structure Grow (F H F' H' : Hp) : Prop where
  f : Same F F'
  h : Same H H'
  fh : Same F' H'
  n : ∀ b, H b ≠ none → F' b = F b
theorem Grow.refl {F H : Hp} (e : Same F H) : Grow F H F H := ⟨Same.refl _, Same.refl _, e, fun _ _ => rfl⟩
theorem ne_none_of {H H' : Hp} (e : Same H H') {b : Addr} (h : H b ≠ none) : H' b ≠ none := by
  cases q : H b with
  | none => exact absurd q h
  | some o => rw [e _ _ q]; exact fun z => nomatch z
theorem Grow.trans {F H F1 H1 F2 H2 : Hp} (a : Grow F H F1 H1) (b : Grow F1 H1 F2 H2) : Grow F H F2 H2 :=
  ⟨a.f.trans b.f, a.h.trans b.h, b.fh, fun c q => (b.n c (ne_none_of a.h q)).trans (a.n c q)⟩
theorem Same.upd_new {H : Hp} {p : Addr} {o : HO} (n : H p = none) : Same H (upd H p o) := fun b u e => by rw [upd_ne (ne_of_none e n)]; exact e
theorem Same.upd_both {F H : Hp} {p : Addr} {o : HO} (e : Same F H) : Same (upd F p o) (upd H p o) := fun b u q => by
  by_cases z : b = p
  · subst z; rw [upd_same] at q ⊢; exact q
  · rw [upd_ne z] at q ⊢; exact e b u q
/-- a new object, settled at once -/
theorem Grow.new {F H : Hp} {p : Addr} {o : HO} (e : Same F H) (n : H p = none) : Grow F H (upd F p o) (upd H p o) :=
  ⟨Same.upd_new (e.free n), Same.upd_new n, Same.upd_both e, fun b q => upd_ne fun z => q (by rw [z]; exact n)⟩
/-- a new object, not settled -/
theorem Grow.newO {F H : Hp} {p : Addr} {o : HO} (e : Same F H) (n : H p = none) : Grow F H F (upd H p o) :=
  ⟨Same.refl _, Same.upd_new n, e.trans (Same.upd_new n), fun _ _ => rfl⟩
/-- what is new is settled later -/
theorem Grow.settle {F H F' H' : Hp} {p : Addr} {o : HO} (g : Grow F H F' H') (n : H p = none) (nf : F' p = none) (h : H' p = some o) : Grow F H (upd F' p o) H' :=
  ⟨g.f.trans (Same.upd_new nf), g.h, fun b u q => by
    by_cases z : b = p
    · subst z; rw [upd_same] at q; cases q; exact h
    · rw [upd_ne z] at q; exact g.fh b u q, fun b q => (upd_ne fun z => q (by rw [z]; exact n)).trans (g.n b q)⟩

/-! ### slots: nothing known, data, or an object that only this slot knows -/
inductive Ow where
  /-- a list of data -/
  | lst (xs : List PD)
  /-- a dict keyed by tuples -/
  | dic (kvs : List (List Key × PD))
  /-- a tuple of data and a list that only it knows -/
  | box (x : PD) (xs : List PD)
inductive Sl where
  | no
  | d (x : PD)
  | o (s : Ow)
  /-- the exception that is being handled -/
  | e (a : Addr)
def KvD (K : PySem.W.Frag) (F : Hp) : List (List Key × V) → List (List Key × PD) → Prop := Paired fun p q => p.1 = q.1 ∧ Da K F p.2 q.2
/-- the value v is the object s, which stands at ft in H, its parts in F -/
def OwAt (K : PySem.W.Frag) (F H : Hp) (v : V) (ft : List Addr) : Ow → Prop
  | .lst xs => ∃ a vs, v = .ref a ∧ ft = [a] ∧ H a = some (.lst vs) ∧ DaAll K F vs xs
  | .dic kvs => ∃ a ks, v = .ref a ∧ ft = [a] ∧ H a = some (.dT ks) ∧ KvD K F ks kvs
  | .box x xs => ∃ t a v0 vs, v = .ref t ∧ ft = [t, a] ∧ t ≠ a ∧ H t = some (.tup [v0, .ref a]) ∧ Da K F v0 x ∧ H a = some (.lst vs) ∧ DaAll K F vs xs
theorem OwAt.mono {K : PySem.W.Frag} {F H F' H' : Hp} {v : V} {ft : List Addr} {s : Ow} (x : OwAt K F H v ft s) (f : Same F F') (h : ∀ a ∈ ft, H' a = H a) : OwAt K F' H' v ft s := by
  cases s with
  | lst xs =>
    obtain ⟨a, vs, e1, e2, e3, e4⟩ := x
    exact ⟨a, vs, e1, e2, (h a (by simp [e2])).trans e3, e4.mono f⟩
  | dic kvs =>
    obtain ⟨a, vs, e1, e2, e3, e4⟩ := x
    exact ⟨a, vs, e1, e2, (h a (by simp [e2])).trans e3, Paired.mapP e4 fun _ _ z => ⟨z.1, z.2.mono f⟩⟩
  | box x xs =>
    obtain ⟨t, a, v0, vs, e1, e2, e3, e4, e5, e6, e7⟩ := x
    exact ⟨t, a, v0, vs, e1, e2, e3, (h t (by simp [e2])).trans e4, e5.mono f, (h a (by simp [e2])).trans e6, e7.mono f⟩
def SlAt (K : PySem.W.Frag) (F H : Hp) (o : Option V) (ft : List Addr) : Sl → Prop
  | .no => ft = []
  | .d x => ft = [] ∧ ∃ v, o = some v ∧ Da K F v x
  | .o s => ∃ v, o = some v ∧ OwAt K F H v ft s
  | .e a => ft = [] ∧ o = some (.ref a)
theorem SlAt.mono {K : PySem.W.Frag} {F H F' H' : Hp} {o : Option V} {ft : List Addr} {s : Sl} (x : SlAt K F H o ft s) (f : Same F F') (h : ∀ a ∈ ft, H' a = H a) : SlAt K F' H' o ft s := by
  cases s with
  | no => exact x
  | d y => obtain ⟨e, v, e1, e2⟩ := x; exact ⟨e, v, e1, e2.mono f⟩
  | o y => obtain ⟨v, e1, e2⟩ := x; exact ⟨v, e1, e2.mono f h⟩
  | e a => exact x
/-- what is known of the objects that stand at ft: new since H0, not settled, tracked -/
def Own (H0 F H : Hp) (ft : List Addr) : Prop := ∀ a ∈ ft, F a = none ∧ H0 a = none ∧ H a ≠ none
def ftSet (ft : Nat → List Addr) (i : Nat) (l : List Addr) : Nat → List Addr := fun j => if j = i then l else ft j
theorem ftSet_same {ft : Nat → List Addr} {i : Nat} {l : List Addr} : ftSet ft i l i = l := if_pos rfl
theorem ftSet_ne {ft : Nat → List Addr} {i j : Nat} {l : List Addr} (h : ¬ j = i) : ftSet ft i l j = ft j := if_neg h
structure Rel (K : PySem.W.Frag) (F0 H0 F H : Hp) (σ : St) (ρ : List Sl) : Prop where
  g : Grow F0 H0 F H
  len : σ.length = ρ.length
  ft : ∃ ft : Nat → List Addr, (∀ i s o, ρ[i]? = some s → σ[i]? = some o → SlAt K F H o (ft i) s) ∧ (∀ i, Own H0 F H (ft i)) ∧ ∀ i j, i ≠ j → ∀ a ∈ ft i, a ∉ ft j
section
variable {K : PySem.W.Frag} {F0 H0 F H F' H' : Hp} {σ : St} {ρ : List Sl}
theorem Rel.fh (R : Rel K F0 H0 F H σ ρ) : Same F H := R.g.fh
/-- expressions only grow the heaps -/
theorem Rel.grow (R : Rel K F0 H0 F H σ ρ) (g : Grow F H F' H') : Rel K F0 H0 F' H' σ ρ := by
  obtain ⟨G, l, ft, h1, h2, h3⟩ := R
  refine ⟨G.trans g, l, ft, fun i s o e1 e2 => (h1 i s o e1 e2).mono g.f fun a ha => ?_, fun i a ha => ?_, h3⟩
  · obtain ⟨_, _, z⟩ := h2 i a ha
    cases q : H a with
    | none => exact absurd q z
    | some u => exact g.h _ _ q
  · obtain ⟨z1, z2, z3⟩ := h2 i a ha
    exact ⟨(g.n a z3).trans z1, z2, ne_none_of g.h z3⟩
theorem Rel.setD {i : Nat} {v : V} {x : PD} (R : Rel K F0 H0 F H σ ρ) (h : Da K F v x) : Rel K F0 H0 F H (σ.set i (some v)) (ρ.set i (.d x)) := by
  obtain ⟨G, l, ft, h1, h2, h3⟩ := R
  refine ⟨G, by simp [l], ftSet ft i [], fun j s o e1 e2 => ?_, fun j a ha => ?_, fun j k hjk a ha hk => ?_⟩
  · by_cases z : j = i
    · subst z
      rw [ftSet_same]
      have hl : j < ρ.length := by
        have := (List.getElem?_eq_some_iff.mp e1).1; simpa using this
      rw [List.getElem?_set_self hl] at e1
      rw [List.getElem?_set_self (by rw [l]; exact hl)] at e2
      cases e1; cases e2
      exact ⟨rfl, v, rfl, h⟩
    · rw [ftSet_ne z]
      rw [List.getElem?_set_ne (Ne.symm z)] at e1 e2
      exact h1 j s o e1 e2
  · by_cases z : j = i
    · rw [z, ftSet_same] at ha; exact absurd ha (by simp)
    · rw [ftSet_ne z] at ha; exact h2 j a ha
  · by_cases z : j = i
    · rw [z, ftSet_same] at ha; exact absurd ha (by simp)
    · by_cases z' : k = i
      · rw [z', ftSet_same] at hk; exact absurd hk (by simp)
      · rw [ftSet_ne z] at ha; rw [ftSet_ne z'] at hk; exact h3 j k hjk a ha hk
theorem Rel.setN {i : Nat} {o : Option V} (R : Rel K F0 H0 F H σ ρ) : Rel K F0 H0 F H (σ.set i o) (ρ.set i .no) := by
  obtain ⟨G, l, ft, h1, h2, h3⟩ := R
  refine ⟨G, by simp [l], ftSet ft i [], fun j s o e1 e2 => ?_, fun j a ha => ?_, fun j k hjk a ha hk => ?_⟩
  · by_cases z : j = i
    · subst z
      rw [ftSet_same]
      have hl : j < ρ.length := by
        have := (List.getElem?_eq_some_iff.mp e1).1; simpa using this
      rw [List.getElem?_set_self hl] at e1
      cases e1
      exact rfl
    · rw [ftSet_ne z]
      rw [List.getElem?_set_ne (Ne.symm z)] at e1 e2
      exact h1 j s o e1 e2
  · by_cases z : j = i
    · rw [z, ftSet_same] at ha; exact absurd ha (by simp)
    · rw [ftSet_ne z] at ha; exact h2 j a ha
  · by_cases z : j = i
    · rw [z, ftSet_same] at ha; exact absurd ha (by simp)
    · by_cases z' : k = i
      · rw [z', ftSet_same] at hk; exact absurd hk (by simp)
      · rw [ftSet_ne z] at ha; rw [ftSet_ne z'] at hk; exact h3 j k hjk a ha hk
theorem Rel.setE {i : Nat} {a : Addr} (R : Rel K F0 H0 F H σ ρ) : Rel K F0 H0 F H (σ.set i (some (.ref a))) (ρ.set i (.e a)) := by
  obtain ⟨G, l, ft, h1, h2, h3⟩ := R
  refine ⟨G, by simp [l], ftSet ft i [], fun j s o e1 e2 => ?_, fun j a ha => ?_, fun j k hjk a ha hk => ?_⟩
  · by_cases z : j = i
    · subst z
      rw [ftSet_same]
      have hl : j < ρ.length := by
        have := (List.getElem?_eq_some_iff.mp e1).1; simpa using this
      rw [List.getElem?_set_self hl] at e1
      rw [List.getElem?_set_self (by rw [l]; exact hl)] at e2
      cases e1; cases e2
      exact ⟨rfl, rfl⟩
    · rw [ftSet_ne z]
      rw [List.getElem?_set_ne (Ne.symm z)] at e1 e2
      exact h1 j s o e1 e2
  · by_cases z : j = i
    · rw [z, ftSet_same] at ha; exact absurd ha (by simp)
    · rw [ftSet_ne z] at ha; exact h2 j a ha
  · by_cases z : j = i
    · rw [z, ftSet_same] at ha; exact absurd ha (by simp)
    · by_cases z' : k = i
      · rw [z', ftSet_same] at hk; exact absurd hk (by simp)
      · rw [ftSet_ne z] at ha; rw [ftSet_ne z'] at hk; exact h3 j k hjk a ha hk
theorem Rel.getE {i : Nat} {a : Addr} (R : Rel K F0 H0 F H σ ρ) (e : ρ[i]? = some (.e a)) : σ[i]? = some (some (.ref a)) := by
  obtain ⟨G, l, ft, h1, h2, h3⟩ := R
  have hl : i < σ.length := by rw [l]; exact (List.getElem?_eq_some_iff.mp e).1
  obtain ⟨_, e1⟩ := h1 i _ _ e (List.getElem?_eq_getElem hl)
  rw [List.getElem?_eq_getElem hl, e1]
/-- a new object comes to a slot -/
theorem Rel.setO {i : Nat} {v : V} {s : Ow} {f : List Addr} (R : Rel K F0 H0 F H σ ρ) (g : Grow F H F' H') (h : OwAt K F' H' v f s) (hf : ∀ a ∈ f, H a = none ∧ F' a = none ∧ H' a ≠ none) :
    Rel K F0 H0 F' H' (σ.set i (some v)) (ρ.set i (.o s)) := by
  have R2 := R.grow g
  obtain ⟨G, l, ft, h1, h2, h3⟩ := R
  obtain ⟨G', _, _⟩ := R2
  have fr : ∀ j a, a ∈ ft j → a ∉ f := fun j a ha hb => (h2 j a ha).2.2 (hf a hb).1
  refine ⟨G', by simp [l], ftSet ft i f, fun j s o e1 e2 => ?_, fun j a ha => ?_, fun j k hjk a ha hk => ?_⟩
  · by_cases z : j = i
    · subst z
      rw [ftSet_same]
      have hl : j < ρ.length := by
        have := (List.getElem?_eq_some_iff.mp e1).1; simpa using this
      rw [List.getElem?_set_self hl] at e1
      rw [List.getElem?_set_self (by rw [l]; exact hl)] at e2
      cases e1; cases e2
      exact ⟨v, rfl, h⟩
    · rw [ftSet_ne z]
      rw [List.getElem?_set_ne (Ne.symm z)] at e1 e2
      refine (h1 j s o e1 e2).mono g.f fun a ha => ?_
      obtain ⟨_, _, z⟩ := h2 j a ha
      cases q : H a with
      | none => exact absurd q z
      | some u => exact g.h _ _ q
  · by_cases z : j = i
    · rw [z, ftSet_same] at ha
      obtain ⟨q1, q2, q3⟩ := hf a ha
      exact ⟨q2, G.h.free q1, q3⟩
    · rw [ftSet_ne z] at ha
      obtain ⟨z1, z2, z3⟩ := h2 j a ha
      exact ⟨(g.n a z3).trans z1, z2, ne_none_of g.h z3⟩
  · by_cases z : j = i
    · rw [z, ftSet_same] at ha
      by_cases z' : k = i
      · exact hjk (z.trans z'.symm)
      · rw [ftSet_ne z'] at hk; exact fr k a hk ha
    · rw [ftSet_ne z] at ha
      by_cases z' : k = i
      · rw [z', ftSet_same] at hk; exact fr j a ha hk
      · rw [ftSet_ne z'] at hk; exact h3 j k hjk a ha hk
/-- what a slot holds -/
theorem Rel.getD {i : Nat} {x : PD} (R : Rel K F0 H0 F H σ ρ) (e : ρ[i]? = some (.d x)) : ∃ v, σ[i]? = some (some v) ∧ Da K F v x := by
  obtain ⟨G, l, ft, h1, h2, h3⟩ := R
  have hl : i < σ.length := by rw [l]; exact (List.getElem?_eq_some_iff.mp e).1
  obtain ⟨_, v, e1, e2⟩ := h1 i _ _ e (List.getElem?_eq_getElem hl)
  exact ⟨v, by rw [List.getElem?_eq_getElem hl, e1], e2⟩
theorem Rel.getO {i : Nat} {s : Ow} (R : Rel K F0 H0 F H σ ρ) (e : ρ[i]? = some (.o s)) : ∃ v ft, σ[i]? = some (some v) ∧ OwAt K F H v ft s ∧ Own H0 F H ft ∧
    (∀ (H' : Hp) (s' : Ow), (∀ b, b ∉ ft → H' b = H b) → (∀ b ∈ ft, H' b ≠ none) → OwAt K F H' v ft s' → Rel K F0 H0 F H' σ (ρ.set i (.o s'))) ∧
    (∀ (F' : Hp) (x : PD), Same F F' → Same F' H → (∀ b, b ∉ ft → F' b = F b) → Da K F' v x → Rel K F0 H0 F' H σ (ρ.set i (.d x))) := by
  obtain ⟨G, l, ft, h1, h2, h3⟩ := R
  have hl : i < σ.length := by rw [l]; exact (List.getElem?_eq_some_iff.mp e).1
  have hlr : i < ρ.length := (List.getElem?_eq_some_iff.mp e).1
  obtain ⟨v, e1, e2⟩ := h1 i _ _ e (List.getElem?_eq_getElem hl)
  have es : σ[i]? = some (some v) := by rw [List.getElem?_eq_getElem hl, e1]
  refine ⟨v, ft i, es, e2, h2 i, fun H' s' k1 k2 k3 => ?_, fun F' x k1 k2 k3 k4 => ?_⟩
  · have hH0 : ∀ b o, H0 b = some o → b ∉ ft i := fun b o q hb => by rw [(h2 i b hb).2.1] at q; cases q
    have hF : ∀ b o, F b = some o → b ∉ ft i := fun b o q hb => by rw [(h2 i b hb).1] at q; cases q
    refine ⟨⟨G.f, fun b o q => (k1 b (hH0 b o q)).trans (G.h b o q), fun b o q => (k1 b (hF b o q)).trans (G.fh b o q), G.n⟩, by simp [l], ft, fun j s o q1 q2 => ?_, fun j a ha => ?_, h3⟩
    · by_cases z : j = i
      · subst z
        rw [List.getElem?_set_self hlr] at q1
        rw [es] at q2
        cases q1; cases q2
        exact ⟨v, rfl, k3⟩
      · rw [List.getElem?_set_ne (Ne.symm z)] at q1
        exact (h1 j s o q1 q2).mono (Same.refl _) fun a ha => k1 a (h3 j i z a ha)
    · obtain ⟨z1, z2, z3⟩ := h2 j a ha
      refine ⟨z1, z2, ?_⟩
      by_cases z : j = i
      · subst z; exact k2 a ha
      · rw [k1 a (h3 j i z a ha)]; exact z3
  · refine ⟨⟨G.f.trans k1, G.h, k2, fun b q => (k3 b fun hb => q (h2 i b hb).2.1).trans (G.n b q)⟩, by simp [l], ftSet ft i [], fun j s o q1 q2 => ?_, fun j a ha => ?_, fun j k hjk a ha hk => ?_⟩
    · by_cases z : j = i
      · subst z
        rw [ftSet_same]
        rw [List.getElem?_set_self hlr] at q1
        rw [es] at q2
        cases q1; cases q2
        exact ⟨rfl, v, rfl, k4⟩
      · rw [ftSet_ne z]
        rw [List.getElem?_set_ne (Ne.symm z)] at q1
        exact (h1 j s o q1 q2).mono k1 fun _ _ => rfl
    · by_cases z : j = i
      · rw [z, ftSet_same] at ha; exact absurd ha (by simp)
      · rw [ftSet_ne z] at ha
        obtain ⟨z1, z2, z3⟩ := h2 j a ha
        exact ⟨(k3 a (h3 j i z a ha)).trans z1, z2, z3⟩
    · by_cases z : j = i
      · rw [z, ftSet_same] at ha; exact absurd ha (by simp)
      · by_cases z' : k = i
        · rw [z', ftSet_same] at hk; exact absurd hk (by simp)
        · rw [ftSet_ne z] at ha; rw [ftSet_ne z'] at hk; exact h3 j k hjk a ha hk
/-- a list that only a slot knows is settled -/
theorem Rel.settle {i : Nat} {xs : List PD} (R : Rel K F0 H0 F H σ ρ) (e : ρ[i]? = some (.o (.lst xs))) : ∃ F', Same F F' ∧ Rel K F0 H0 F' H σ (ρ.set i (.d (.list xs))) := by
  obtain ⟨v, ft, es, ⟨a, vs, rfl, rfl, h1, h2⟩, ow, _, k⟩ := R.getO e
  obtain ⟨n1, n2, n3⟩ := ow a (by simp)
  refine ⟨upd F a (.lst vs), Same.upd_new n1, k _ _ (Same.upd_new n1) (fun b u q => ?_) (fun b hb => upd_ne (by simpa using hb)) (.lst upd_same (h2.mono (Same.upd_new n1)))⟩
  by_cases z : b = a
  · subst z; rw [upd_same] at q; cases q; exact h1
  · rw [upd_ne z] at q; exact R.fh b u q
end
end DL

namespace DL
open PySem L2

/-! ### what a piece of text computes: a value, or an exception of the class at c -/
inductive Ro (α : Type) where
  | ok (a : α)
  | ex (c : Addr)
abbrev M (α : Type) := List Sl → Option (Ro α)
def mb {α β : Type} (m : M α) (k : α → M β) : M β := fun ρ => match m ρ with
  | some (.ok a) => k a ρ
  | some (.ex c) => some (.ex c)
  | none => none
def mr {α : Type} (a : α) : M α := fun _ => some (.ok a)
def ml {α : Type} (o : Option α) : M α := fun _ => o.map .ok
inductive Rs where
  | d (x : PD)
  | o (s : Ow)
inductive Out where
  | nx (ρ : List Sl)
  | bk (ρ : List Sl)
  | ct (ρ : List Sl)
  | rt (r : Rs)
  | ex (c : Addr)
abbrev MS := List Sl → Option Out

def ResAt (K : PySem.W.Frag) (H F' H' : Hp) (v : V) : Rs → Prop
  | .d x => Da K F' v x
  | .o s => ∃ ft, OwAt K F' H' v ft s ∧ ∀ a ∈ ft, H a = none ∧ F' a = none ∧ H' a ≠ none
def PoE (K : PySem.W.Frag) (F H : Hp) (Q : VK) (E : XK) : Ro PD → Prop
  | .ok x => ∀ v F' H', Grow F H F' H' → Da K F' v x → Q v H'
  | .ex c => ∀ F' H', Grow F H F' H' → E (.ref c) none H'
def PoR (K : PySem.W.Frag) (F H : Hp) (Q : VK) (E : XK) : Ro Rs → Prop
  | .ok r => ∀ v F' H', Grow F H F' H' → ResAt K H F' H' v r → Q v H'
  | .ex c => ∀ F' H', Grow F H F' H' → E (.ref c) none H'
def PoT (F H : Hp) (Q : Bool → Hp → Prop) (E : XK) : Ro Bool → Prop
  | .ok b => ∀ F' H', Grow F H F' H' → Q b H'
  | .ex c => ∀ F' H', Grow F H F' H' → E (.ref c) none H'
def PoA (K : PySem.W.Frag) (F H : Hp) (Q : List V → Hp → Prop) (E : XK) : Ro (List PD) → Prop
  | .ok xs => ∀ vs F' H', Grow F H F' H' → DaAll K F' vs xs → Q vs H'
  | .ex c => ∀ F' H', Grow F H F' H' → E (.ref c) none H'
def PoI (K : PySem.W.Frag) (F H : Hp) (Q : It → Hp → Prop) (E : XK) : Ro (List PD) → Prop
  | .ok xs => ∀ J vs F' H', Grow F H F' H' → DaAll K F' vs xs → Walk J vs.length (fun H'' => Same F' H'') (YAt vs) → Q J H'
  | .ex c => ∀ F' H', Grow F H F' H' → E (.ref c) none H'
def PoS (K : PySem.W.Frag) (F0 H0 F : Hp) (D : Ends) (E : XK) : Out → Prop
  | .nx ρ => ∀ σ F' H', Rel K F0 H0 F' H' σ ρ → Same F F' → D.nx σ H'
  | .bk ρ => ∀ σ F' H', Rel K F0 H0 F' H' σ ρ → Same F F' → D.bk σ H'
  | .ct ρ => ∀ σ F' H', Rel K F0 H0 F' H' σ ρ → Same F F' → D.ct σ H'
  | .rt r => ∀ v F' H', Grow F0 H0 F' H' → ResAt K H0 F' H' v r → D.rt v H'
  | .ex c => ∀ F' H', Grow F0 H0 F' H' → E (.ref c) none H'

structure DE (X : Cx) (E : XK) (e : Expr) (m : M PD) : Prop where
  ex : ∃ t, PE X e t ∧ ∀ F0 H0 F H σ ρ r Q, Rel X.K F0 H0 F H σ ρ → m ρ = some r → PoE X.K F H Q E r → t σ H Q
structure DR (X : Cx) (E : XK) (e : Expr) (m : M Rs) : Prop where
  ex : ∃ t, PE X e t ∧ ∀ F0 H0 F H σ ρ r Q, Rel X.K F0 H0 F H σ ρ → m ρ = some r → PoR X.K F H Q E r → t σ H Q
structure DT (X : Cx) (E : XK) (e : Expr) (m : M Bool) : Prop where
  ex : ∃ t, PT X e t ∧ ∀ F0 H0 F H σ ρ r Q, Rel X.K F0 H0 F H σ ρ → m ρ = some r → PoT F H Q E r → t σ H Q
structure DW (X : Cx) (E : XK) (e : Expr) (m : M Bool) : Prop where
  ex : ∃ t, PW X e t ∧ ∀ F0 H0 F H σ ρ r Q, Rel X.K F0 H0 F H σ ρ → m ρ = some r → PoT F H Q E r → t σ H Q
structure DA (X : Cx) (E : XK) (es : List Expr) (m : M (List PD)) : Prop where
  ex : ∃ t, PA X es t ∧ ∀ F0 H0 F H σ ρ r Q, Rel X.K F0 H0 F H σ ρ → m ρ = some r → PoA X.K F H Q E r → t σ H Q
structure DI (X : Cx) (E : XK) (tg e : Expr) (m : M (List PD)) : Prop where
  ex : ∃ t, PI X tg e t ∧ ∀ F0 H0 F H σ ρ r Q, Rel X.K F0 H0 F H σ ρ → m ρ = some r → PoI X.K F H Q E r → t σ H Q
structure DS (X : Cx) (E : XK) (st : Stmt) (m : MS) : Prop where
  ex : ∃ t, PS X st t ∧ ∀ F0 H0 F H σ ρ r D, Rel X.K F0 H0 F H σ ρ → m ρ = some r → PoS X.K F0 H0 F D E r → t D σ H
structure DSs (X : Cx) (E : XK) (st : List Stmt) (m : MS) : Prop where
  ex : ∃ t, PSs X st t ∧ ∀ F0 H0 F H σ ρ r D, Rel X.K F0 H0 F H σ ρ → m ρ = some r → PoS X.K F0 H0 F D E r → t D σ H

theorem mb_ok {α β : Type} {m : M α} {k : α → M β} {ρ : List Sl} {r : Ro β} (h : mb m k ρ = some r) : (∃ a, m ρ = some (.ok a) ∧ k a ρ = some r) ∨ ∃ c, m ρ = some (.ex c) ∧ r = .ex c := by
  unfold mb at h
  split at h
  · exact .inl ⟨_, by assumption, h⟩
  · cases h; exact .inr ⟨_, by assumption, rfl⟩
  · cases h

section
variable {X : Cx} {E : XK}
theorem PoE.grow {K : PySem.W.Frag} {F H F' H' : Hp} {Q : VK} {E : XK} {r : Ro PD} (p : PoE K F H Q E r) (g : Grow F H F' H') : PoE K F' H' Q E r := by
  cases r with
  | ok x => exact fun v F2 H2 g2 d => p v F2 H2 (g.trans g2) d
  | ex c => exact fun F2 H2 g2 => p F2 H2 (g.trans g2)
theorem PoA.grow {K : PySem.W.Frag} {F H F' H' : Hp} {Q : List V → Hp → Prop} {E : XK} {r : Ro (List PD)} (p : PoA K F H Q E r) (g : Grow F H F' H') : PoA K F' H' Q E r := by
  cases r with
  | ok x => exact fun v F2 H2 g2 d => p v F2 H2 (g.trans g2) d
  | ex c => exact fun F2 H2 g2 => p F2 H2 (g.trans g2)
theorem PoT.grow {F H F' H' : Hp} {Q : Bool → Hp → Prop} {E : XK} {r : Ro Bool} (p : PoT F H Q E r) (g : Grow F H F' H') : PoT F' H' Q E r := by
  cases r with
  | ok x => exact fun F2 H2 g2 => p F2 H2 (g.trans g2)
  | ex c => exact fun F2 H2 g2 => p F2 H2 (g.trans g2)
theorem ResAt.older {K : PySem.W.Frag} {H0 H F' H' : Hp} {v : V} {r : Rs} (h : ResAt K H F' H' v r) (e : Same H0 H) : ResAt K H0 F' H' v r := by
  cases r with
  | d x => exact h
  | o s => obtain ⟨ft, h1, h2⟩ := h; exact ⟨ft, h1, fun a ha => ⟨e.free (h2 a ha).1, (h2 a ha).2⟩⟩
theorem PoR.grow {K : PySem.W.Frag} {F H F' H' : Hp} {Q : VK} {E : XK} {r : Ro Rs} (p : PoR K F H Q E r) (g : Grow F H F' H') : PoR K F' H' Q E r := by
  cases r with
  | ok x => exact fun v F2 H2 g2 d => p v F2 H2 (g.trans g2) (d.older g.h)
  | ex c => exact fun F2 H2 g2 => p F2 H2 (g.trans g2)
theorem PoI.grow {K : PySem.W.Frag} {F H F' H' : Hp} {Q : It → Hp → Prop} {E : XK} {r : Ro (List PD)} (p : PoI K F H Q E r) (g : Grow F H F' H') : PoI K F' H' Q E r := by
  cases r with
  | ok x => exact fun J v F2 H2 g2 d => p J v F2 H2 (g.trans g2) d
  | ex c => exact fun F2 H2 g2 => p F2 H2 (g.trans g2)

/-! ### names and constants -/
def mV (i : Nat) : M PD := fun ρ => match ρ[i]? with | some (.d x) => some (.ok x) | _ => none
theorem dv (i : Nat) {x : Str} {pos : Pos} (hN : X.N[i]? = some x := by rfl) (hv : Vis X.env.scope x := by first | exact Or.inl rfl | exact Or.inr (Or.inl rfl) | exact Or.inr (Or.inr rfl)) (hd : (x == ("__debug__" : Str)) = false := by decide)
    (hcd : (x == ("__classdict__" : Str)) = false := by decide) : DE X E (.Name x pos) (mV i) := by
  refine ⟨_, pv i hN hv hd hcd, fun F0 H0 F H σ ρ r Q R h p => ?_⟩
  unfold mV at h
  split at h
  · rename_i y e
    cases h
    obtain ⟨v, e1, e2⟩ := R.getD e
    exact ⟨v, e1, p v F H (.refl R.fh) e2⟩
  · cases h
theorem de_int {i : Int} {j : Nat} {pos : Pos} : DE X E (.Constant (.int i) j pos) (mr (.int i)) :=
  ⟨_, pe_int, fun F0 H0 F H σ ρ r Q R h p => by cases h; exact p _ F H (.refl R.fh) (.int i)⟩
theorem de_bl {i : Bool} {j : Nat} {pos : Pos} : DE X E (.Constant (.bool i) j pos) (mr (.bool i)) :=
  ⟨_, pe_bl, fun F0 H0 F H σ ρ r Q R h p => by cases h; exact p _ F H (.refl R.fh) (.bl i)⟩
theorem de_non {j : Nat} {pos : Pos} : DE X E (.Constant .none j pos) (mr .none) :=
  ⟨_, pe_non, fun F0 H0 F H σ ρ r Q R h p => by cases h; exact p _ F H (.refl R.fh) .non⟩
theorem de_str {x : Str} {j : Nat} {pos : Pos} : DE X E (.Constant (.str x) j pos) (mr (.str x)) :=
  ⟨_, pe_str, fun F0 H0 F H σ ρ r Q R h p => by cases h; exact p _ F H (.refl R.fh) (.str x)⟩

/-! ### from one judgement to another -/
def mRs (m : M PD) : M Rs := mb m fun x => mr (.d x)
theorem DE.r {e : Expr} {m : M PD} (h : DE X E e m) : DR X E e (mRs m) := by
  obtain ⟨t, ht, hs⟩ := h
  refine ⟨t, ht, fun F0 H0 F H σ ρ r Q R h p => ?_⟩
  rcases mb_ok h with ⟨a, e1, e2⟩ | ⟨c, e1, e2⟩
  · cases e2
    exact hs F0 H0 F H σ ρ _ Q R e1 fun v F' H' g d => p v F' H' g d
  · cases e2
    exact hs F0 H0 F H σ ρ _ Q R e1 fun F' H' g => p F' H' g
def Rs.data : Rs → Option PD
  | .d x => some x
  | .o (.lst xs) => some (.list xs)
  | .o (.box x xs) => some (.tuple [x, .list xs])
  | .o (.dic _) => none
def mDat (m : M Rs) : M PD := mb m fun x => ml x.data
theorem Grow.two {F H F' H' : Hp} {p q : Addr} {o u : HO} (g : Grow F H F' H') (n : H p = none) (nf : F' p = none) (h : H' p = some o) (n2 : H q = none) (nf2 : F' q = none) (h2 : H' q = some u) (ne : p ≠ q) : Grow F H (upd (upd F' p o) q u) H' :=
  (g.settle n nf h).settle n2 (by rw [upd_ne (Ne.symm ne)]; exact nf2) h2
theorem settle_res {K : PySem.W.Frag} {F H F' H' : Hp} {v : V} {s : Rs} {x : PD} (g : Grow F H F' H') (h : ResAt K H F' H' v s) (e : s.data = some x) : ∃ F2, Grow F H F2 H' ∧ Da K F2 v x := by
  cases s with
  | d y => cases e; exact ⟨F', g, h⟩
  | o s =>
    obtain ⟨ft, h1, h2⟩ := h
    cases s with
    | lst xs =>
      cases e
      obtain ⟨a, vs, rfl, rfl, h3, h4⟩ := h1
      obtain ⟨n1, n2, n3⟩ := h2 a (by simp)
      exact ⟨_, g.settle n1 n2 h3, .lst upd_same (h4.mono (Same.upd_new n2))⟩
    | dic kvs => cases e
    | box y xs =>
      cases e
      obtain ⟨t, a, v0, vs, rfl, rfl, ne, h3, h4, h5, h6⟩ := h1
      obtain ⟨n1, n2, n3⟩ := h2 t (by simp)
      obtain ⟨k1, k2, k3⟩ := h2 a (by simp)
      have s1 : Same F' (upd F' a (.lst vs)) := Same.upd_new k2
      have s2 : Same (upd F' a (.lst vs)) (upd (upd F' a (.lst vs)) t (.tup [v0, .ref a])) := Same.upd_new (by rw [upd_ne ne]; exact n2)
      refine ⟨_, g.two k1 k2 h5 n1 n2 h3 (Ne.symm ne), .tup upd_same (.cons (h4.mono (s1.trans s2)) (.cons (.lst ?_ (h6.mono (s1.trans s2))) .nil))⟩
      rw [upd_ne (Ne.symm ne), upd_same]
theorem DR.e {e : Expr} {m : M Rs} (h : DR X E e m) : DE X E e (mDat m) := by
  obtain ⟨t, ht, hs⟩ := h
  refine ⟨t, ht, fun F0 H0 F H σ ρ r Q R h p => ?_⟩
  rcases mb_ok h with ⟨a, e1, e2⟩ | ⟨c, e1, e2⟩
  · unfold ml at e2
    obtain ⟨x, ex, rfl⟩ := Option.map_eq_some_iff.mp e2
    refine hs F0 H0 F H σ ρ _ Q R e1 fun v F' H' g d => ?_
    obtain ⟨F2, g2, d2⟩ := settle_res g d ex
    exact p v F2 H' g2 d2
  · cases e2
    exact hs F0 H0 F H σ ρ _ Q R e1 fun F' H' g => p F' H' g
/-- a value that is a bool, as a test -/
def asB : PD → Option Bool
  | .bool b => some b
  | _ => none
def mB (m : M PD) : M Bool := mb m fun x => ml (asB x)
theorem dt_val {e : Expr} {m : M PD} (h : DE X E e m) (he : ∀ whole, isTrue e X.env whole = (do let v ← whole; standAt e.pos; holding [v] (truthy v)) := by intro _; rfl) : DT X E e (mB m) := by
  obtain ⟨t, ht, hs⟩ := h
  refine ⟨_, pt_val ht he, fun F0 H0 F H σ ρ r Q R h p => ?_⟩
  rcases mb_ok h with ⟨a, e1, e2⟩ | ⟨c, e1, e2⟩
  · unfold ml asB at e2
    split at e2
    · cases e2
      refine hs F0 H0 F H σ ρ _ _ R e1 fun v F' H' g d => ?_
      cases d
      exact ⟨_, rfl, p F' H' g⟩
    · cases e2
  · cases e2
    exact hs F0 H0 F H σ ρ _ _ R e1 fun F' H' g => p F' H' g

/-! ### operators on two values, one value -/
def Snd2 (K : PySem.W.Frag) (r : R2) (f : PD → PD → Option PD) : Prop := ∀ F H v w x y z Q, Same F H → Da K F v x → Da K F w y → f x y = some z → (∀ u F' H', Grow F H F' H' → Da K F' u z → Q u H') → r v w H Q
def m2 (f : PD → PD → Option PD) (a b : M PD) : M PD := mb a fun x => mb b fun y => ml (f x y)
theorem two_sound {K : PySem.W.Frag} {ta tb : TE} {r : R2} {f : PD → PD → Option PD} {a b : M PD} {F0 H0 F H : Hp} {σ : St} {ρ : List Sl} {q : Ro PD} {Q : VK}
    (ha : ∀ F0 H0 F H σ ρ r Q, Rel K F0 H0 F H σ ρ → a ρ = some r → PoE K F H Q E r → ta σ H Q) (hb : ∀ F0 H0 F H σ ρ r Q, Rel K F0 H0 F H σ ρ → b ρ = some r → PoE K F H Q E r → tb σ H Q) (hr : Snd2 K r f)
    (R : Rel K F0 H0 F H σ ρ) (h : m2 f a b ρ = some q) (p : PoE K F H Q E q) : ta σ H fun x H1 => tb σ H1 fun y H2 => r x y H2 Q := by
  rcases mb_ok h with ⟨x, e1, e2⟩ | ⟨c, e1, e2⟩
  · refine ha F0 H0 F H σ ρ _ _ R e1 fun v F' H' g d => ?_
    have R' := R.grow g
    rcases mb_ok e2 with ⟨y, e3, e4⟩ | ⟨c, e3, e4⟩
    · refine hb F0 H0 F' H' σ ρ _ _ R' e3 fun w F2 H2 g2 d2 => ?_
      unfold ml at e4
      obtain ⟨z, ez, rfl⟩ := Option.map_eq_some_iff.mp e4
      exact hr F2 H2 v w x y z Q g2.fh (d.mono g2.f) d2 ez fun u F3 H3 g3 d3 => p u F3 H3 ((g.trans g2).trans g3) d3
    · cases e4
      exact hb F0 H0 F' H' σ ρ _ _ R' e3 fun F2 H2 g2 => p F2 H2 (g.trans g2)
  · cases e2
    exact ha F0 H0 F H σ ρ _ _ R e1 fun F' H' g => p F' H' g
theorem de_op {op : Operator} {r : R2} {f : PD → PD → Option PD} {a b : Expr} {ma mb' : M PD} {pos : Pos} (ho : OpR X (binaryOp op) r) (hr : Snd2 X.K r f) (ha : DE X E a ma) (hb : DE X E b mb') : DE X E (.BinOp a op b pos) (m2 f ma mb') := by
  obtain ⟨ta, h1, h2⟩ := ha
  obtain ⟨tb, h3, h4⟩ := hb
  exact ⟨_, pe_op ho h1 h3, fun F0 H0 F H σ ρ q Q R h p => two_sound h2 h4 hr R h p⟩
theorem de_cmp {op : CmpOp} {r : R2} {f : PD → PD → Option PD} {a b : Expr} {ma mb' : M PD} {pos : Pos} (ho : OpR X (compareOp op) r) (hr : Snd2 X.K r f) (ha : DE X E a ma) (hb : DE X E b mb') (hm : behindInMarks op b = false := by first | exact nomark _ | rfl) : DE X E (.Compare a [op] [b] pos) (m2 f ma mb') := by
  obtain ⟨ta, h1, h2⟩ := ha
  obtain ⟨tb, h3, h4⟩ := hb
  exact ⟨_, pe_cmpR ho h1 h3 hm, fun F0 H0 F H σ ρ q Q R h p => two_sound h2 h4 hr R h p⟩
theorem Snd2.bool {K : PySem.W.Frag} {r : R2} {f : PD → PD → Option PD} (h : Snd2 K r f) : Snd2 K r f := h
theorem dt_cmp {op : CmpOp} {r : R2} {f : PD → PD → Option PD} {a b : Expr} {ma mb' : M PD} {pos : Pos} (ho : OpR X (compareOp op) r) (hr : Snd2 X.K r f) (ha : DE X E a ma) (hb : DE X E b mb') (hm : behindInMarks op b = false := by first | exact nomark _ | rfl) : DT X E (.Compare a [op] [b] pos) (mB (m2 f ma mb')) := by
  obtain ⟨ta, h1, h2⟩ := ha
  obtain ⟨tb, h3, h4⟩ := hb
  refine ⟨_, pt_cmpR ho h1 h3 hm, fun F0 H0 F H σ ρ q Q R h p => ?_⟩
  rcases mb_ok h with ⟨a, e1, e2⟩ | ⟨c, e1, e2⟩
  · unfold ml asB at e2
    split at e2
    · cases e2
      refine two_sound h2 h4 hr R e1 fun v F' H' g d => ?_
      cases d
      exact ⟨_, rfl, p F' H' g⟩
    · cases e2
  · cases e2
    exact two_sound h2 h4 hr R e1 fun F' H' g => p F' H' g
def Snd1 (K : PySem.W.Frag) (r : V → Hp → VK → Prop) (f : PD → Option PD) : Prop := ∀ F H v x z Q, Same F H → Da K F v x → f x = some z → (∀ u F' H', Grow F H F' H' → Da K F' u z → Q u H') → r v H Q
def m1 (f : PD → Option PD) (a : M PD) : M PD := mb a fun x => ml (f x)
theorem de_un {op : UnaryOp} {r : V → Hp → VK → Prop} {f : PD → Option PD} {a : Expr} {ma : M PD} {pos : Pos} (ho : UnR X (unaryOp op) r) (hr : Snd1 X.K r f) (ha : DE X E a ma) : DE X E (.UnaryOp op a pos) (m1 f ma) := by
  obtain ⟨ta, h1, h2⟩ := ha
  refine ⟨_, pe_un ho h1, fun F0 H0 F H σ ρ q Q R h p => ?_⟩
  rcases mb_ok h with ⟨x, e1, e2⟩ | ⟨c, e1, e2⟩
  · refine h2 F0 H0 F H σ ρ _ _ R e1 fun v F' H' g d => ?_
    unfold ml at e2
    obtain ⟨z, ez, rfl⟩ := Option.map_eq_some_iff.mp e2
    exact hr F' H' v x z Q g.fh d ez fun u F3 H3 g3 d3 => p u F3 H3 (g.trans g3) d3
  · cases e2
    exact h2 F0 H0 F H σ ρ _ _ R e1 fun F' H' g => p F' H' g

/-! ### and, or, not, if -/
def mAnd (a b : M Bool) : M Bool := mb a fun c => if c = true then b else mr false
def mOr (a b : M Bool) : M Bool := mb a fun c => if c = true then mr true else b
def mNot (a : M Bool) : M Bool := mb a fun c => mr (!c)
theorem dw_and1 {a : Expr} {ma : M Bool} {pos : Pos} (ha : DT X E a ma) : DW X E (.BoolOp .And [a] pos) ma := by
  obtain ⟨ta, h1, h2⟩ := ha
  exact ⟨_, pw_and1 h1, h2⟩
theorem dw_or1 {a : Expr} {ma : M Bool} {pos : Pos} (ha : DT X E a ma) : DW X E (.BoolOp .Or [a] pos) ma := by
  obtain ⟨ta, h1, h2⟩ := ha
  exact ⟨_, pw_or1 h1, h2⟩
theorem dw_and {a b : Expr} {rest : List Expr} {ma mb' : M Bool} {pos : Pos} (ha : DT X E a ma) (hb : DW X E (.BoolOp .And (b :: rest) pos) mb') : DW X E (.BoolOp .And (a :: b :: rest) pos) (mAnd ma mb') := by
  obtain ⟨ta, h1, h2⟩ := ha
  obtain ⟨tb, h3, h4⟩ := hb
  refine ⟨_, pw_and h1 h3, fun F0 H0 F H σ ρ q Q R h p => ?_⟩
  rcases mb_ok h with ⟨x, e1, e2⟩ | ⟨c, e1, e2⟩
  · refine h2 F0 H0 F H σ ρ _ _ R e1 fun F' H' g => ?_
    cases x with
    | true => rw [if_pos rfl] at e2 ⊢; exact h4 F0 H0 F' H' σ ρ _ _ (R.grow g) e2 (p.grow g)
    | false => rw [if_neg (by decide)] at e2 ⊢; cases e2; exact p F' H' g
  · cases e2
    exact h2 F0 H0 F H σ ρ _ _ R e1 fun F' H' g => p F' H' g
theorem dw_or {a b : Expr} {rest : List Expr} {ma mb' : M Bool} {pos : Pos} (ha : DT X E a ma) (hb : DW X E (.BoolOp .Or (b :: rest) pos) mb') : DW X E (.BoolOp .Or (a :: b :: rest) pos) (mOr ma mb') := by
  obtain ⟨ta, h1, h2⟩ := ha
  obtain ⟨tb, h3, h4⟩ := hb
  refine ⟨_, pw_or h1 h3, fun F0 H0 F H σ ρ q Q R h p => ?_⟩
  rcases mb_ok h with ⟨x, e1, e2⟩ | ⟨c, e1, e2⟩
  · refine h2 F0 H0 F H σ ρ _ _ R e1 fun F' H' g => ?_
    cases x with
    | true => rw [if_pos rfl] at e2 ⊢; cases e2; exact p F' H' g
    | false => rw [if_neg (by decide)] at e2 ⊢; exact h4 F0 H0 F' H' σ ρ _ _ (R.grow g) e2 (p.grow g)
  · cases e2
    exact h2 F0 H0 F H σ ρ _ _ R e1 fun F' H' g => p F' H' g
theorem DW.t {e : Expr} {m : M Bool} (h : DW X E e m) : DT X E e m := by
  obtain ⟨t, h1, h2⟩ := h
  exact ⟨t, h1.pt, h2⟩
theorem dt_not {a : Expr} {ma : M Bool} {pos : Pos} (ha : DT X E a ma) : DT X E (.UnaryOp .Not a pos) (mNot ma) := by
  obtain ⟨ta, h1, h2⟩ := ha
  refine ⟨_, pt_not h1, fun F0 H0 F H σ ρ q Q R h p => ?_⟩
  rcases mb_ok h with ⟨x, e1, e2⟩ | ⟨c, e1, e2⟩
  · cases e2
    exact h2 F0 H0 F H σ ρ _ _ R e1 fun F' H' g => p F' H' g
  · cases e2
    exact h2 F0 H0 F H σ ρ _ _ R e1 fun F' H' g => p F' H' g
/-- as values: all of them bools -/
def mAndV (a b : M PD) : M PD := mb (mB a) fun c => if c = true then b else mr (.bool false)
def mOrV (a b : M PD) : M PD := mb (mB a) fun c => if c = true then mr (.bool true) else b
def mNotV (a : M PD) : M PD := mb (mB a) fun c => mr (.bool (!c))
theorem de_one {a : Expr} {op : BoolOp} {ma : M PD} {pos : Pos} (ha : DE X E a ma) : DE X E (.BoolOp op [a] pos) ma := by
  obtain ⟨ta, h1, h2⟩ := ha
  exact ⟨_, pe_one h1, h2⟩
theorem mB_ok {a : M PD} {ρ : List Sl} {r : Ro Bool} (h : mB a ρ = some r) : (∃ b, a ρ = some (.ok (.bool b)) ∧ r = .ok b) ∨ ∃ c, a ρ = some (.ex c) ∧ r = .ex c := by
  rcases mb_ok h with ⟨x, e1, e2⟩ | ⟨c, e1, e2⟩
  · unfold ml asB at e2
    split at e2
    · cases e2; exact .inl ⟨_, e1, rfl⟩
    · cases e2
  · exact .inr ⟨c, e1, e2⟩
theorem de_and {a b : Expr} {rest : List Expr} {ma mb' : M PD} {pos : Pos} (ha : DE X E a ma) (hb : DE X E (.BoolOp .And (b :: rest) pos) mb') : DE X E (.BoolOp .And (a :: b :: rest) pos) (mAndV ma mb') := by
  obtain ⟨ta, h1, h2⟩ := ha
  obtain ⟨tb, h3, h4⟩ := hb
  refine ⟨_, pe_and h1 h3, fun F0 H0 F H σ ρ q Q R h p => ?_⟩
  rcases mb_ok h with ⟨x, e1, e2⟩ | ⟨c, e1, e2⟩
  · rcases mB_ok e1 with ⟨b, e3, e4⟩ | ⟨c, e3, e4⟩
    · cases e4
      refine h2 F0 H0 F H σ ρ _ _ R e3 fun v F' H' g d => ?_
      cases d
      refine ⟨_, rfl, ?_⟩
      cases x with
      | true => rw [if_pos rfl] at e2 ⊢; exact h4 F0 H0 F' H' σ ρ _ _ (R.grow g) e2 (p.grow g)
      | false => rw [if_neg (by decide)] at e2 ⊢; cases e2; exact p _ F' H' g (.bl false)
    · cases e4
  · rcases mB_ok e1 with ⟨b, e3, e4⟩ | ⟨c', e3, e4⟩
    · cases e4
    · cases e4; cases e2
      exact h2 F0 H0 F H σ ρ _ _ R e3 fun F' H' g => p F' H' g
theorem de_or {a b : Expr} {rest : List Expr} {ma mb' : M PD} {pos : Pos} (ha : DE X E a ma) (hb : DE X E (.BoolOp .Or (b :: rest) pos) mb') : DE X E (.BoolOp .Or (a :: b :: rest) pos) (mOrV ma mb') := by
  obtain ⟨ta, h1, h2⟩ := ha
  obtain ⟨tb, h3, h4⟩ := hb
  refine ⟨_, pe_or h1 h3, fun F0 H0 F H σ ρ q Q R h p => ?_⟩
  rcases mb_ok h with ⟨x, e1, e2⟩ | ⟨c, e1, e2⟩
  · rcases mB_ok e1 with ⟨b, e3, e4⟩ | ⟨c, e3, e4⟩
    · cases e4
      refine h2 F0 H0 F H σ ρ _ _ R e3 fun v F' H' g d => ?_
      cases d
      refine ⟨_, rfl, ?_⟩
      cases x with
      | true => rw [if_pos rfl] at e2 ⊢; cases e2; exact p _ F' H' g (.bl true)
      | false => rw [if_neg (by decide)] at e2 ⊢; exact h4 F0 H0 F' H' σ ρ _ _ (R.grow g) e2 (p.grow g)
    · cases e4
  · rcases mB_ok e1 with ⟨b, e3, e4⟩ | ⟨c', e3, e4⟩
    · cases e4
    · cases e4; cases e2
      exact h2 F0 H0 F H σ ρ _ _ R e3 fun F' H' g => p F' H' g
theorem de_not {a : Expr} {ma : M PD} {pos : Pos} (ha : DE X E a ma) : DE X E (.UnaryOp .Not a pos) (mNotV ma) := by
  obtain ⟨ta, h1, h2⟩ := ha
  refine ⟨_, pe_not h1, fun F0 H0 F H σ ρ q Q R h p => ?_⟩
  rcases mb_ok h with ⟨x, e1, e2⟩ | ⟨c, e1, e2⟩
  · rcases mB_ok e1 with ⟨b, e3, e4⟩ | ⟨c, e3, e4⟩
    · cases e4; cases e2
      refine h2 F0 H0 F H σ ρ _ _ R e3 fun v F' H' g d => ?_
      cases d
      exact ⟨_, rfl, p _ F' H' g (.bl _)⟩
    · cases e4
  · rcases mB_ok e1 with ⟨b, e3, e4⟩ | ⟨c', e3, e4⟩
    · cases e4
    · cases e4; cases e2
      exact h2 F0 H0 F H σ ρ _ _ R e3 fun F' H' g => p F' H' g
def mIf {α : Type} (c : M Bool) (a b : M α) : M α := mb c fun k => if k = true then a else b
theorem de_if {c a b : Expr} {mc : M Bool} {ma mb' : M PD} {pos : Pos} (hc : DT X E c mc) (ha : DE X E a ma) (hb : DE X E b mb') : DE X E (.IfExp c a b pos) (mIf mc ma mb') := by
  obtain ⟨tc, k1, k2⟩ := hc
  obtain ⟨ta, h1, h2⟩ := ha
  obtain ⟨tb, h3, h4⟩ := hb
  refine ⟨_, pe_ifExp k1 h1 h3, fun F0 H0 F H σ ρ q Q R h p => ?_⟩
  rcases mb_ok h with ⟨x, e1, e2⟩ | ⟨c, e1, e2⟩
  · refine k2 F0 H0 F H σ ρ _ _ R e1 fun F' H' g => ?_
    cases x with
    | true => rw [if_pos rfl] at e2 ⊢; exact h2 F0 H0 F' H' σ ρ _ _ (R.grow g) e2 (p.grow g)
    | false => rw [if_neg (by decide)] at e2 ⊢; exact h4 F0 H0 F' H' σ ρ _ _ (R.grow g) e2 (p.grow g)
  · cases e2
    exact k2 F0 H0 F H σ ρ _ _ R e1 fun F' H' g => p F' H' g

/-! ### arguments, displays -/
def mNil : M (List PD) := mr []
def mCons (a : M PD) (b : M (List PD)) : M (List PD) := mb a fun x => mb b fun xs => mr (x :: xs)
theorem da_nil : DA X E [] mNil := ⟨_, pa_nil, fun F0 H0 F H σ ρ q Q R h p => by cases h; exact p _ F H (.refl R.fh) .nil⟩
theorem da_cons {e : Expr} {es : List Expr} {ma : M PD} {mb' : M (List PD)} (ha : DE X E e ma) (hb : DA X E es mb') (hs : starEach (e :: es) X.env = (false, eval e X.env) :: starEach es X.env := by rfl) : DA X E (e :: es) (mCons ma mb') := by
  obtain ⟨ta, h1, h2⟩ := ha
  obtain ⟨tb, h3, h4⟩ := hb
  refine ⟨_, pa_cons h1 h3 hs, fun F0 H0 F H σ ρ q Q R h p => ?_⟩
  rcases mb_ok h with ⟨x, e1, e2⟩ | ⟨c, e1, e2⟩
  · refine h2 F0 H0 F H σ ρ _ _ R e1 fun v F' H' g d => ?_
    rcases mb_ok e2 with ⟨y, e3, e4⟩ | ⟨c, e3, e4⟩
    · cases e4
      exact h4 F0 H0 F' H' σ ρ _ _ (R.grow g) e3 fun vs F2 H2 g2 d2 => p _ F2 H2 (g.trans g2) (.cons (d.mono g2.f) d2)
    · cases e4
      exact h4 F0 H0 F' H' σ ρ _ _ (R.grow g) e3 fun F2 H2 g2 => p F2 H2 (g.trans g2)
  · cases e2
    exact h2 F0 H0 F H σ ρ _ _ R e1 fun F' H' g => p F' H' g
/-- a bound that every list that is made must keep -/
def big : Nat := 1000000
theorem big_le : big ≤ sizeLine := by rw [sizeLine_eq]; decide
theorem le_line {n : Nat} (h : n ≤ big) : n ≤ sizeLine := Nat.le_trans h big_le
theorem lt_line {n : Nat} (h : n < big) : n < sizeLine := Nat.lt_of_lt_of_le h big_le
def mLst (a : M (List PD)) : M Rs := mb a fun xs => ml (if xs.length ≤ big then some (.o (.lst xs)) else none)
def mTup (a : M (List PD)) : M PD := mb a fun xs => ml (if xs.length ≤ big then some (.tuple xs) else none)
theorem dr_lst {es : List Expr} {ma : M (List PD)} {pos : Pos} (ha : DA X E es ma) : DR X E (.List es pos) (mLst ma) := by
  obtain ⟨ta, h1, h2⟩ := ha
  refine ⟨_, pe_lst h1, fun F0 H0 F H σ ρ q Q R h p => ?_⟩
  rcases mb_ok h with ⟨x, e1, e2⟩ | ⟨c, e1, e2⟩
  · unfold ml at e2
    split at e2
    · rename_i hz
      cases e2
      refine h2 F0 H0 F H σ ρ _ _ R e1 fun vs F' H' g d => ⟨le_line (by rw [d.len]; exact hz), fun a ha => ?_⟩
      exact p _ F' _ (g.trans (.newO g.fh ha)) ⟨[a], ⟨a, vs, rfl, rfl, upd_same, d⟩, fun b hb => by
        have e : b = a := by simpa using hb
        subst e
        exact ⟨g.h.free ha, g.fh.free ha, by rw [upd_same]; simp⟩⟩
    · cases e2
  · cases e2
    exact h2 F0 H0 F H σ ρ _ _ R e1 fun F' H' g => p F' H' g
theorem de_tup {es : List Expr} {ma : M (List PD)} {pos : Pos} {k} (ha : DA X E es ma) : DE X E (.Tuple es k pos) (mTup ma) := by
  obtain ⟨ta, h1, h2⟩ := ha
  refine ⟨_, pe_tup h1, fun F0 H0 F H σ ρ q Q R h p => ?_⟩
  rcases mb_ok h with ⟨x, e1, e2⟩ | ⟨c, e1, e2⟩
  · unfold ml at e2
    split at e2
    · rename_i hz
      cases e2
      refine h2 F0 H0 F H σ ρ _ _ R e1 fun vs F' H' g d => ⟨le_line (by rw [d.len]; exact hz), fun a ha => ?_⟩
      exact p _ _ _ (g.trans (.new g.fh ha)) (.tup upd_same (d.mono (Same.upd_new (g.fh.free ha))))
    · cases e2
  · cases e2
    exact h2 F0 H0 F H σ ρ _ _ R e1 fun F' H' g => p F' H' g
end
end DL

namespace DL
open PySem L2

/-- where a piece of text stands: no exception is being handled, a raise goes to E, there is room -/
structure Cok (X : Cx) (E : XK) (k : Nat) : Prop where
  calm : X.calm = true
  nd : X.N.Nodup
  tk : Takes X (fun cls d _ H => E cls d H)
  hr : Room k X.A
theorem PoS.later {K : PySem.W.Frag} {F0 H0 F F' : Hp} {D : Ends} {E : XK} {r : Out} (p : PoS K F0 H0 F D E r) (e : Same F F') : PoS K F0 H0 F' D E r := by
  cases r with
  | nx ρ => exact fun σ F2 H2 R q => p σ F2 H2 R (e.trans q)
  | bk ρ => exact fun σ F2 H2 R q => p σ F2 H2 R (e.trans q)
  | ct ρ => exact fun σ F2 H2 R q => p σ F2 H2 R (e.trans q)
  | rt r => exact p
  | ex c => exact p
def Rs.sl : Rs → Sl
  | .d x => .d x
  | .o s => .o s
section
variable {X : Cx} {E : XK} {k : Nat}
/-! ### blocks -/
def sNil : MS := fun ρ => some (.nx ρ)
def sSeq (a b : MS) : MS := fun ρ => match a ρ with
  | some (.nx ρ') => b ρ'
  | r => r
theorem dss_nil : DSs X E [] sNil := ⟨_, pss_nil, fun F0 H0 F H σ ρ r D R h p => by cases h; exact p σ F H R (Same.refl _)⟩
theorem dss_cons {st : Stmt} {rest : List Stmt} {ma mb' : MS} (ha : DS X E st ma) (hb : DSs X E rest mb') : DSs X E (st :: rest) (sSeq ma mb') := by
  obtain ⟨ta, h1, h2⟩ := ha
  obtain ⟨tb, h3, h4⟩ := hb
  refine ⟨_, pss_cons h1 h3, fun F0 H0 F H σ ρ r D R h p => ?_⟩
  unfold sSeq at h
  split at h
  · rename_i ρ' e
    exact h2 F0 H0 F H σ ρ _ _ R e fun σ' F' H' R' q => h4 F0 H0 F' H' σ' ρ' r D R' h (p.later q)
  · rename_i hn
    refine h2 F0 H0 F H σ ρ r _ R h ?_
    cases r with
    | nx ρ' => exact absurd h (hn ρ')
    | bk ρ' => exact p
    | ct ρ' => exact p
    | rt x => exact p
    | ex c => exact p
theorem dss_one {st : Stmt} {ma : MS} (ha : DS X E st ma) : DSs X E [st] ma := by
  obtain ⟨ta, h1, h2⟩ := ha
  exact ⟨_, pss_one h1, h2⟩
def sBrk : MS := fun ρ => some (.bk ρ)
def sCnt : MS := fun ρ => some (.ct ρ)
theorem ds_pass {pos : Pos} : DS X E (.Pass pos) sNil := ⟨_, ps_pass, fun F0 H0 F H σ ρ r D R h p => by cases h; exact p σ F H R (Same.refl _)⟩
theorem ds_break {pos : Pos} : DS X E (.Break pos) sBrk := ⟨_, ps_break, fun F0 H0 F H σ ρ r D R h p => by cases h; exact p σ F H R (Same.refl _)⟩
theorem ds_continue {pos : Pos} : DS X E (.Continue pos) sCnt := ⟨_, ps_continue, fun F0 H0 F H σ ρ r D R h p => by cases h; exact p σ F H R (Same.refl _)⟩

def sIf (c : M Bool) (a b : MS) : MS := fun ρ => match c ρ with
  | some (.ok k) => if k = true then a ρ else b ρ
  | some (.ex c) => some (.ex c)
  | none => none
theorem ds_if {c : Expr} {a b : List Stmt} {mc : M Bool} {ma mb' : MS} {pos : Pos} (hc : DT X E c mc) (ha : DSs X E a ma) (hb : DSs X E b mb') : DS X E (.If c a b pos) (sIf mc ma mb') := by
  obtain ⟨tc, k1, k2⟩ := hc
  obtain ⟨ta, h1, h2⟩ := ha
  obtain ⟨tb, h3, h4⟩ := hb
  refine ⟨_, ps_if k1 h1 h3, fun F0 H0 F H σ ρ r D R h p => ?_⟩
  unfold sIf at h
  split at h
  · rename_i b e
    refine k2 F0 H0 F H σ ρ _ _ R e fun F' H' g => ?_
    cases b with
    | true => rw [if_pos rfl] at h ⊢; exact h2 F0 H0 F' H' σ ρ _ _ (R.grow g) h (p.later g.f)
    | false => rw [if_neg (by decide)] at h ⊢; exact h4 F0 H0 F' H' σ ρ _ _ (R.grow g) h (p.later g.f)
  · rename_i c e
    cases h
    exact k2 F0 H0 F H σ ρ _ _ R e fun F' H' g => p F' H' (R.g.trans g)
  · cases h

/-! ### names are set -/
def sSet (i : Nat) (m : M Rs) : MS := fun ρ => match m ρ with
  | some (.ok r) => some (.nx (ρ.set i r.sl))
  | some (.ex c) => some (.ex c)
  | none => none
theorem ds_set {i : Nat} {x : Str} {e : Expr} {m : M Rs} {pos pos' : Pos} (hN : X.N.Nodup) (he : DR X E e m) (hi : X.N[i]? = some x := by rfl) (hx : Loc X.env.scope x := by first | exact Or.inl rfl | exact Or.inr rfl)
    (hs : swapsWith e (some (.Name x pos')) pos.line X.env = pure false := by rfl) (hf : X.fn x = true ∨ X.env.scope.names.lookup x = some .local := by first | exact .inl rfl | exact .inr rfl | assumption) : DS X E (.Assign [.Name x pos'] e pos) (sSet i m) := by
  obtain ⟨t, h1, h2⟩ := he
  refine ⟨_, ps_set hN hi hx h1 hs hf, fun F0 H0 F H σ ρ r D R h p => ?_⟩
  unfold sSet at h
  split at h
  · rename_i b e
    cases h
    refine h2 F0 H0 F H σ ρ _ _ R e fun v F' H' g d => ?_
    cases b with
    | d x => exact p _ F' H' ((R.grow g).setD d) g.f
    | o s =>
      obtain ⟨ft, d1, d2⟩ := d
      exact p _ F' H' (R.setO g d1 d2) g.f
  · rename_i c e
    cases h
    exact h2 F0 H0 F H σ ρ _ _ R e fun F' H' g => p F' H' (R.g.trans g)
  · cases h
/-- x = y, what y alone knew goes to x -/
def sMove (i j : Nat) : MS := fun ρ => match ρ[j]? with
  | some (.d x) => some (.nx (ρ.set i (.d x)))
  | some (.o (.lst xs)) => some (.nx ((ρ.set j (.d (.list xs))).set i (.d (.list xs))))
  | _ => none
theorem ds_move {i j : Nat} {x y : Str} {pos pos' pos2 : Pos} (hN : X.N.Nodup) (hi : X.N[i]? = some x := by rfl) (hj : X.N[j]? = some y := by rfl) (hx : Loc X.env.scope x := by first | exact Or.inl rfl | exact Or.inr rfl)
    (hv : Vis X.env.scope y := by first | exact Or.inl rfl | exact Or.inr (Or.inl rfl) | exact Or.inr (Or.inr rfl)) (hd : (y == ("__debug__" : Str)) = false := by decide) (hcd : (y == ("__classdict__" : Str)) = false := by decide)
    (hs : swapsWith (.Name y pos2) (some (.Name x pos')) pos.line X.env = pure false := by rfl) (hf : X.fn x = true ∨ X.env.scope.names.lookup x = some .local := by first | exact .inl rfl | exact .inr rfl | assumption) : DS X E (.Assign [.Name x pos'] (.Name y pos2) pos) (sMove i j) := by
  refine ⟨_, ps_set hN hi hx (pv j hj hv hd hcd) hs hf, fun F0 H0 F H σ ρ r D R h p => ?_⟩
  unfold sMove at h
  split at h
  · rename_i z e
    cases h
    obtain ⟨v, e1, e2⟩ := R.getD e
    exact ⟨v, e1, p _ F H (R.setD e2) (Same.refl _)⟩
  · rename_i xs e
    cases h
    obtain ⟨F', q1, R2⟩ := R.settle e
    have e' : (ρ.set j (.d (.list xs)))[j]? = some (.d (.list xs)) := by rw [List.getElem?_set_self (List.getElem?_eq_some_iff.mp e).1]
    obtain ⟨v, e1, e2⟩ := R2.getD e'
    exact ⟨v, e1, p _ F' H (R2.setD e2) q1⟩
  · cases h
/-- no text at all: what a slot alone knew is settled -/
def sFix (i : Nat) (m : MS) : MS := fun ρ => match ρ[i]? with
  | some (.o (.lst xs)) => m (ρ.set i (.d (.list xs)))
  | _ => m ρ
theorem dss_fix (i : Nat) {sts : List Stmt} {m : MS} (h : DSs X E sts m) : DSs X E sts (sFix i m) := by
  obtain ⟨t, h1, h2⟩ := h
  refine ⟨t, h1, fun F0 H0 F H σ ρ r D R h p => ?_⟩
  unfold sFix at h
  split at h
  · rename_i xs e
    obtain ⟨F', q1, R2⟩ := R.settle e
    exact h2 F0 H0 F' H σ _ r D R2 h (p.later q1)
  · exact h2 F0 H0 F H σ ρ r D R h p

/-! ### return, raise, an expression alone -/
def sRet (m : M Rs) : MS := fun ρ => match m ρ with
  | some (.ok r) => some (.rt r)
  | some (.ex c) => some (.ex c)
  | none => none
theorem ds_ret {e : Expr} {m : M Rs} {pos : Pos} (he : DR X E e m) : DS X E (.Return (some e) pos) (sRet m) := by
  obtain ⟨t, h1, h2⟩ := he
  refine ⟨_, ps_ret h1, fun F0 H0 F H σ ρ r D R h p => ?_⟩
  unfold sRet at h
  split at h
  · rename_i b e
    cases h
    exact h2 F0 H0 F H σ ρ _ _ R e fun v F' H' g d => p v F' H' (R.g.trans g) (d.older R.g.h)
  · rename_i c e
    cases h
    exact h2 F0 H0 F H σ ρ _ _ R e fun F' H' g => p F' H' (R.g.trans g)
  · cases h
def sRetV (i : Nat) : MS := fun ρ => match ρ[i]? with
  | some (.d x) => some (.rt (.d x))
  | some (.o s) => some (.rt (.o s))
  | _ => none
theorem ds_retV (i : Nat) {x : Str} {pos pos' : Pos} (hN : X.N[i]? = some x := by rfl) (hv : Vis X.env.scope x := by first | exact Or.inl rfl | exact Or.inr (Or.inl rfl) | exact Or.inr (Or.inr rfl)) (hd : (x == ("__debug__" : Str)) = false := by decide)
    (hcd : (x == ("__classdict__" : Str)) = false := by decide) : DS X E (.Return (some (.Name x pos')) pos) (sRetV i) := by
  refine ⟨_, ps_ret (pv i hN hv hd hcd), fun F0 H0 F H σ ρ r D R h p => ?_⟩
  unfold sRetV at h
  split at h
  · rename_i y e
    cases h
    obtain ⟨v, e1, e2⟩ := R.getD e
    exact ⟨v, e1, p v F H R.g e2⟩
  · rename_i s e
    cases h
    obtain ⟨v, ft, e1, e2, ow, _⟩ := R.getO e
    exact ⟨v, e1, p v F H R.g ⟨ft, e2, fun a ha => ⟨(ow a ha).2.1, (ow a ha).1, (ow a ha).2.2⟩⟩⟩
  · cases h
def sRetN : MS := fun ρ => some (.rt (.d .none))
theorem ds_retN {pos : Pos} : DS X E (.Return none pos) sRetN := ⟨_, ps_retN, fun F0 H0 F H σ ρ r D R h p => by cases h; exact p _ F H R.g .non⟩
def sRaise (c : Addr) : MS := fun _ => some (.ex c)
theorem ds_raise {x m : Str} {j : Nat} {p p2 pos pos2 : Pos} {C : Addr} {bmB : List Value} {B newId initId : String} (c : Cok X E k) (Fb : ExcBaseFacts B newId initId bmB) (q : PySem.W.excIn X.K C bmB newId = true) (gC : X.mg x = some (.ref C)) (kC : PySem.W.keepIn X.K (.ref C) = true)
    (h1 : PySem.W.subIn X.K (.ref C) (.type "BaseException") = some true) (h2 : PySem.W.typeIn X.K (.ref C) = some (.type "type")) (hg : Gl X x := by rfl)
    (hdb : (x == ("__debug__" : Str)) = false := by decide) : DS X E (.Raise (some (.Call (.Name x p) [.Constant (.str m) j p2] [] pos)) none pos2) (sRaise C) :=
  ⟨_, ps_raise c.calm c.tk (pmk_own Fb q gC kC (raises_own h1 h2) hg hdb), fun F0 H0 F H σ ρ r D R h p => by cases h; exact p F H R.g⟩
def sExp (m : M Rs) : MS := fun ρ => match m ρ with
  | some (.ok _) => some (.nx ρ)
  | some (.ex c) => some (.ex c)
  | none => none
theorem ds_exp {e : Expr} {m : M Rs} {pos : Pos} (he : DR X E e m) (hs : swapsWith e none pos.line X.env = pure false := by rfl) : DS X E (.Expr e pos) (sExp m) := by
  obtain ⟨t, h1, h2⟩ := he
  refine ⟨_, ps_expr h1 hs, fun F0 H0 F H σ ρ r D R h p => ?_⟩
  unfold sExp at h
  split at h
  · rename_i b e
    cases h
    exact h2 F0 H0 F H σ ρ _ _ R e fun v F' H' g d => p _ F' H' (R.grow g) g.f
  · rename_i c e
    cases h
    exact h2 F0 H0 F H σ ρ _ _ R e fun F' H' g => p F' H' (R.g.trans g)
  · cases h

/-! ### loops -/
def forL (i : Nat) (b : MS) : List PD → MS
  | [], ρ => some (.nx ρ)
  | x :: xs, ρ => match b (ρ.set i (.d x)) with
    | some (.nx ρ') => forL i b xs ρ'
    | some (.ct ρ') => forL i b xs ρ'
    | some (.bk ρ') => some (.nx ρ')
    | r => r
def sFor (i : Nat) (mi : M (List PD)) (b : MS) : MS := fun ρ => match mi ρ with
  | some (.ok xs) => forL i b xs ρ
  | some (.ex c) => some (.ex c)
  | none => none
theorem drop_get {α : Type} : ∀ {xs : List α} {n : Nat} {x : α}, xs[n]? = some x → xs.drop n = x :: xs.drop (n + 1)
  | [], n, x, h => by simp at h
  | y :: ys, 0, x, h => by simp at h; subst h; rfl
  | y :: ys, n + 1, x, h => by simpa using drop_get (xs := ys) (n := n) (by simpa using h)
theorem ds_for {i : Nat} {x : Str} {pos pos' : Pos} {iter : Expr} {body : List Stmt} {mi : M (List PD)} {mb' : MS} (c : Cok X E k) (hp : PassesOwn (model X.prog X.w) X.A X.env X.xe) (hi : DI X E (.Name x pos') iter mi) (hb : DSs X E body mb')
    (hx : X.N[i]? = some x := by rfl) (hl : Loc X.env.scope x := by first | exact Or.inl rfl | exact Or.inr rfl) (hf : X.fn x = true ∨ X.env.scope.names.lookup x = some .local := by first | exact .inl rfl | exact .inr rfl | assumption)
    (hs : ∀ x, foldedSetIterable iter X.env x = pure x := by intro _; rfl) : DS X E (.For (.Name x pos') iter body [] pos) (sFor i mi mb') := by
  obtain ⟨ti, h1, h2⟩ := hi
  obtain ⟨tb, h3, h4⟩ := hb
  refine ⟨_, ps_for hp c.calm h1 (pg_name c.nd hx hl hf) h3 hs, fun F0 H0 F H σ ρ r D R h p => ?_⟩
  unfold sFor at h
  split at h
  · rename_i xs e
    refine h2 F0 H0 F H σ ρ _ _ R e fun J vs F1 H1 g d W => ?_
    have p1 := p.later g.f
    refine for_it W (fun n σ' H' => ∃ F' ρ', Rel X.K F0 H0 F' H' σ' ρ' ∧ Same F1 F' ∧ forL i mb' (xs.drop n) ρ' = some r) ⟨F1, ρ, R.grow g, Same.refl _, h⟩ (fun n σ' H' _ ⟨F', ρ', R', q, _⟩ => q.trans R'.fh) ?_ ?_
    · rintro n v σ' H' H'' hn ⟨F', ρ', R', q, hr⟩ ⟨rfl, ev⟩
      obtain ⟨y, ey, dy⟩ := d.get ev
      rw [drop_get ey] at hr
      unfold forL at hr
      have R2 := R'.setD (i := i) (dy.mono q)
      show tb _ _ _
      split at hr
      · rename_i ρ2 e2
        exact h4 F0 H0 F' H'' _ _ _ _ R2 e2 fun σ3 F3 H3 R3 q3 => ⟨F3, ρ2, R3, q.trans q3, hr⟩
      · rename_i ρ2 e2
        exact h4 F0 H0 F' H'' _ _ _ _ R2 e2 fun σ3 F3 H3 R3 q3 => ⟨F3, ρ2, R3, q.trans q3, hr⟩
      · rename_i ρ2 e2
        cases hr
        exact h4 F0 H0 F' H'' _ _ _ _ R2 e2 fun σ3 F3 H3 R3 q3 => p1 σ3 F3 H3 R3 (q.trans q3)
      · rename_i n1 n2 n3
        refine h4 F0 H0 F' H'' _ _ r _ R2 hr ?_
        cases r with
        | nx ρ2 => exact absurd hr (n1 ρ2)
        | bk ρ2 => exact absurd hr (n3 ρ2)
        | ct ρ2 => exact absurd hr (n2 ρ2)
        | rt z => exact p
        | ex c => exact p
    · rintro σ' H' ⟨F', ρ', R', q, hr⟩
      rw [List.drop_eq_nil_of_le (by rw [d.len]; exact Nat.le_refl _)] at hr
      cases hr
      exact p1 σ' F' H' R' q
  · rename_i c e
    cases h
    exact h2 F0 H0 F H σ ρ _ _ R e fun F' H' g => p F' H' (R.g.trans g)
  · cases h
def whlF (c : M Bool) (b : MS) : Nat → MS
  | 0, _ => none
  | n + 1, ρ => match c ρ with
    | some (.ok k) => if k = true then (match b ρ with
      | some (.nx ρ') => whlF c b n ρ'
      | some (.ct ρ') => whlF c b n ρ'
      | some (.bk ρ') => some (.nx ρ')
      | r => r) else some (.nx ρ)
    | some (.ex c) => some (.ex c)
    | none => none
theorem ds_while (n : Nat) {pos : Pos} {e : Expr} {body : List Stmt} {mc : M Bool} {mb' : MS} (hp : PassesOwn (model X.prog X.w) X.A X.env X.xe) (hc : DT X E e mc) (hb : DSs X E body mb') : DS X E (.While e body [] pos) (whlF mc mb' n) := by
  obtain ⟨tc, h1, h2⟩ := hc
  obtain ⟨tb, h3, h4⟩ := hb
  refine ⟨_, ps_while hp h1 h3, fun F0 H0 F H σ ρ r D R h p => ?_⟩
  refine ⟨fun m σ' H' => ∃ F' ρ', Rel X.K F0 H0 F' H' σ' ρ' ∧ Same F F' ∧ whlF mc mb' m ρ' = some r, ⟨n, F, ρ, R, Same.refl _, h⟩, ?_⟩
  rintro m σ' H' ⟨F', ρ', R', q, hr⟩
  cases m with
  | zero => cases hr
  | succ m =>
    unfold whlF at hr
    split at hr
    · rename_i b eb
      refine h2 F0 H0 F' H' σ' ρ' _ _ R' eb fun F2 H2 g => ?_
      have q2 := q.trans g.f
      have R2 := R'.grow g
      cases b with
      | true =>
        rw [if_pos rfl] at hr ⊢
        refine ⟨fun σ3 H3 => ∃ F3 ρ3, Rel X.K F0 H0 F3 H3 σ3 ρ3 ∧ Same F F3 ∧ whlF mc mb' m ρ3 = some r, fun σ3 H3 z => ⟨m, Nat.lt_succ_self m, z⟩, ?_⟩
        split at hr
        · rename_i ρ2 e2
          exact h4 F0 H0 F2 H2 _ _ _ _ R2 e2 fun σ3 F3 H3 R3 q3 => ⟨F3, ρ2, R3, q2.trans q3, hr⟩
        · rename_i ρ2 e2
          exact h4 F0 H0 F2 H2 _ _ _ _ R2 e2 fun σ3 F3 H3 R3 q3 => ⟨F3, ρ2, R3, q2.trans q3, hr⟩
        · rename_i ρ2 e2
          cases hr
          exact h4 F0 H0 F2 H2 _ _ _ _ R2 e2 fun σ3 F3 H3 R3 q3 => p σ3 F3 H3 R3 (q2.trans q3)
        · rename_i n1 n2 n3
          refine h4 F0 H0 F2 H2 _ _ r _ R2 hr ?_
          cases r with
          | nx ρ2 => exact absurd hr (n1 ρ2)
          | bk ρ2 => exact absurd hr (n3 ρ2)
          | ct ρ2 => exact absurd hr (n2 ρ2)
          | rt z => exact p
          | ex c => exact p
      | false =>
        rw [if_neg (by decide)] at hr ⊢
        cases hr
        exact p σ' F2 H2 R2 q2
    · rename_i c ec
      cases hr
      exact h2 F0 H0 F' H' σ' ρ' _ _ R' ec fun F2 H2 g => p F2 H2 (R'.g.trans g)
    · cases hr

/-! ### the list that only a slot knows is changed -/
def sApp (i : Nat) (m : M PD) : MS := fun ρ => match ρ[i]? with
  | some (.o (.lst xs)) => (match m ρ with
    | some (.ok y) => if xs.length < big then some (.nx (ρ.set i (.o (.lst (xs ++ [y]))))) else none
    | some (.ex c) => some (.ex c)
    | none => none)
  | _ => none
theorem Rel.putL {K : PySem.W.Frag} {F0 H0 F H : Hp} {σ : St} {ρ : List Sl} {i : Nat} {xs ys : List PD} {a : Addr} {us : List V} (R : Rel K F0 H0 F H σ ρ) (e : ρ[i]? = some (.o (.lst xs))) (ea : σ[i]? = some (some (.ref a))) (d : DaAll K F us ys) :
    Rel K F0 H0 F (upd H a (.lst us)) σ (ρ.set i (.o (.lst ys))) := by
  obtain ⟨v, ft, es, ⟨a', vs, rfl, rfl, h1, h2⟩, ow, k, _⟩ := R.getO e
  rw [es] at ea; cases ea
  refine k _ _ (fun b hb => upd_ne (by simpa using hb)) (fun b hb => ?_) ⟨a, us, rfl, rfl, upd_same, d⟩
  have e : b = a := by simpa using hb
  subst e
  rw [upd_same]
  simp
theorem ds_app (i : Nat) {x : Str} {px pa pc pos : Pos} {e : Expr} {m : M PD} (he : DE X E e m) (hN : X.N[i]? = some x := by rfl) (hv : Vis X.env.scope x := by first | exact Or.inl rfl | exact Or.inr (Or.inl rfl) | exact Or.inr (Or.inr rfl)) (hd : (x == ("__debug__" : Str)) = false := by decide)
    (hcd : (x == ("__classdict__" : Str)) = false := by decide)
    (hst : starEach [e] X.env = (false, eval e X.env) :: starEach [] X.env := by rfl)
    (hbase : attributeBase (.Name x px) "append" X.env (eval (.Name x px) X.env) = eval (.Name x px) X.env := by rfl)
    (hfew : ((backTo pc (starEach [e] X.env)).all (fun x => !x.1) && (backToKw pc (keywordEach [] X.env)).all (fun x => x.1.isSome)
      && decide ([e].length + ([] : List Keyword).length + (if ([] : List Keyword).isEmpty then 0 else 1) < 30)) = true := by rfl)
    (hline : (pa.endLine == pc.line) = true := by rfl) (hplain : (backTo pc (starEach ([] : List Expr) X.env)).any (·.1) = false := by rfl)
    (hs : swapsWith (.Call (.Attribute (.Name x px) "append" pa) [e] [] pc) none pos.line X.env = pure false := by rfl) :
    DS X E (.Expr (.Call (.Attribute (.Name x px) "append" pa) [e] [] pc) pos) (sApp i m) := by
  obtain ⟨t, h1, h2⟩ := he
  refine ⟨_, ps_expr (pe_bm PySem.F.plainAttrs_list PySem.F.slot_list_append PySem.F.type_list_append mt_append (pv i hN hv hd hcd) (pa_cons h1 pa_nil hst) hbase hfew hline hst hplain) hs, fun F0 H0 F H σ ρ r D R h p => ?_⟩
  unfold sApp at h
  split at h
  · rename_i xs ex
    obtain ⟨v, ft, es, ⟨a, vs, rfl, rfl, q1, q2⟩, ow, _, _⟩ := R.getO ex
    refine ⟨.ref a, es, .inl ⟨rfl, _, SqL.of q1⟩, ?_⟩
    split at h
    · rename_i y ey
      split at h
      · rename_i hz
        cases h
        refine h2 F0 H0 F H σ ρ _ _ R ey fun w F' H' g d => ?_
        refine ⟨a, vs, w, rfl, rfl, g.h _ _ q1, lt_line (by rw [q2.len]; exact hz), ?_⟩
        exact p σ F' _ ((R.grow g).putL ex es ((q2.mono g.f).append (.cons d .nil))) g.f
      · cases h
    · rename_i c ec
      cases h
      exact h2 F0 H0 F H σ ρ _ _ R ec fun F' H' g => p F' H' (R.g.trans g)
    · cases h
  · cases h

/-! ### calls of the text's own defs -/
/-- what a def with the text's function g promises -/
def spD (K : PySem.W.Frag) (g : List PD → Option (Ro Rs)) : Sp := fun vs H Q E => ∃ F ds r, Same F H ∧ DaAll K F vs ds ∧ g ds = some r ∧ PoR K F H Q E r
/-- the def x of the module does what g tells, at level k -/
def DefOk (P : Program) (w : World) (K : PySem.W.Frag) (mg : Str → Option Value) (base : Heap) (x : Str) (k : Nat) (g : List PD → Option (Ro Rs)) : Prop :=
  ∃ f fd ps, FnOk P w K mg base (L2.CX P w) k f fd ps (spD K g) ∧ mg x = some (.ref f) ∧ PySem.W.keepIn K (.ref f) = true ∧ Binds K fd ps []
theorem DefOk.imp {P : Program} {w : World} {K : PySem.W.Frag} {mg : Str → Option Value} {base : Heap} {x : Str} {j k : Nat} {g g' : List PD → Option (Ro Rs)} (h : DefOk P w K mg base x j g) (hk : j ≤ k) (e : ∀ ds r, g' ds = some r → g ds = some r) : DefOk P w K mg base x k g' := by
  obtain ⟨f, fd, ps, h1, h2, h3, h4⟩ := h
  exact ⟨f, fd, ps, (h1.mono hk).imp fun vs H Q E ⟨F, ds, r, q1, q2, q3, q4⟩ => ⟨F, ds, r, q1, q2, e ds r q3, q4⟩, h2, h3, h4⟩
def mCall (g : List PD → Option (Ro Rs)) (a : M (List PD)) : M Rs := mb a fun xs _ => g xs
theorem dr_call {x : Str} {p pos : Pos} {e : Expr} {es : List Expr} {j : Nat} {g : List PD → Option (Ro Rs)} {m : M (List PD)} (c : Cok X E k) (F : DefOk X.prog X.w X.K X.mg X.base x j g) (hj : j ≤ k) (ha : DA X E (e :: es) m)
    (hg : Gl X x := by rfl) (hdb : (x == ("__debug__" : Str)) = false := by decide) (he : starEach (e :: es) X.env = (false, eval e X.env) :: starEach es X.env := by rfl) (hpl : (backTo pos (starEach es X.env)).any (·.1) = false := by rfl) :
    DR X E (.Call (.Name x p) (e :: es) [] pos) (mCall g m) := by
  obtain ⟨t, h1, h2⟩ := ha
  obtain ⟨f, fd, ps, F, hm, hk, hb⟩ := F
  refine ⟨_, pe_call F (c.hr.mono hj) hg hm hk hb .nil (passes_call c.tk fun _ _ _ _ h => h) h1 hdb he hpl, fun F0 H0 F H σ ρ r Q R h p => ?_⟩
  rcases mb_ok h with ⟨xs, e1, e2⟩ | ⟨c, e1, e2⟩
  · refine h2 F0 H0 F H σ ρ _ _ R e1 fun vs F' H' g d => ?_
    show spD X.K _ (vs ++ []) H' Q E
    rw [List.append_nil]
    exact ⟨F', xs, r, g.fh, d, e2, p.grow g⟩
  · cases e2
    exact h2 F0 H0 F H σ ρ _ _ R e1 fun F' H' g => p F' H' g

/-! ### a def of the text -/
def finD : Option Out → Option (Ro Rs)
  | some (.nx _) => some (.ok (.d .none))
  | some (.rt r) => some (.ok r)
  | some (.ex c) => some (.ex c)
  | _ => none
/-- the def's function: n parameters, l names in all, m its body -/
def defD (n l : Nat) (m : MS) (ds : List PD) : Option (Ro Rs) := if ds.length = n then finD (m (ds.map .d ++ List.replicate (l - n) .no)) else none
theorem Rel.begins {K : PySem.W.Frag} {F H : Hp} {vs : List V} {ds : List PD} {N : List Str} (e : Same F H) (d : DaAll K F vs ds) : Rel K F H F H (start N vs) (ds.map .d ++ List.replicate (N.length - ds.length) .no) := by
  have hl := d.len
  refine ⟨.refl e, by simp [L2.start, hl], fun _ => [], fun i s o e1 e2 => ?_, fun i a ha => by simp at ha, fun i j _ a ha => by simp at ha⟩
  unfold L2.start at e2
  by_cases hi : i < ds.length
  · rw [List.getElem?_append_left (by simpa using hi)] at e1
    rw [List.getElem?_append_left (by simpa [hl] using hi)] at e2
    rw [List.getElem?_map] at e1 e2
    obtain ⟨y, ey, rfl⟩ := Option.map_eq_some_iff.mp e1
    obtain ⟨v, ev, rfl⟩ := Option.map_eq_some_iff.mp e2
    obtain ⟨y', ey', dy⟩ := d.get ev
    rw [ey] at ey'; cases ey'
    exact ⟨rfl, v, rfl, dy⟩
  · rw [List.getElem?_append_right (by simpa using hi), List.getElem?_replicate] at e1
    split at e1
    · cases e1; exact rfl
    · cases e1
theorem def_fn {P : Program} {w : World} {K : PySem.W.Frag} {mg : Str → Option Value} {base : Heap} {x qual : Str} {st : Stmt} {f : Addr} {fd : FuncData} {N ps : List Str} {k n l : Nat} {m : MS} (F : Fun K x qual st f fd) (S : FnScope N ps (defScope st)) (hn : ps.length = n) (hl : N.length = l)
    (hbody : ∀ (cdv : Value) (A : Around) (outer : List Env) (s : Shared) (H : Hp) (E : XK), Cok (cxOf (L2.CX P w) P w K mg base N qual (defScope st) f cdv A outer s H E) E k →
      PassesOwn (model P w) (cxOf (L2.CX P w) P w K mg base N qual (defScope st) f cdv A outer s H E).A (cxOf (L2.CX P w) P w K mg base N qual (defScope st) f cdv A outer s H E).env (cxOf (L2.CX P w) P w K mg base N qual (defScope st) f cdv A outer s H E).xe →
      DSs (cxOf (L2.CX P w) P w K mg base N qual (defScope st) f cdv A outer s H E) E (defBody st) m) :
    FnOk P w K mg base (L2.CX P w) (k + 1) f fd ps (spD K (defD n l m)) := by
  refine F.okX S (fun vs H Q E h => ?_) (fun cdv A outer s H vs Q E hr h => ?_)
  · obtain ⟨F, ds, r, q1, q2, q3, _⟩ := h
    unfold defD at q3
    split at q3
    · rename_i e; rw [q2.len, e, hn]
    · cases q3
  · obtain ⟨F1, ds, r, q1, q2, q3, q4⟩ := h
    obtain ⟨t, h1, h2⟩ := hbody cdv A outer s H E ⟨rfl, S.nd, takes_of rfl rfl rfl rfl, hr⟩ (passes_of rfl)
    refine ⟨t, h1, ?_⟩
    unfold defD at q3
    split at q3
    · rename_i e
      have R := Rel.begins (N := N) q1 q2
      rw [e, hl] at R
      unfold finD at q3
      split at q3
      · rename_i ρ' eo
        cases q3
        exact h2 F1 H F1 H _ _ _ _ R eo fun σ' F' H' R' _ => q4 _ F' H' R'.g .non
      · rename_i ρ' eo
        cases q3
        exact h2 F1 H F1 H _ _ _ _ R eo fun v F' H' g d => q4 v F' H' g d
      · rename_i ρ' eo
        cases q3
        exact h2 F1 H F1 H _ _ _ _ R eo fun F' H' g => q4 F' H' g
      · cases q3
    · cases q3
theorem DefOk.of {P : Program} {w : World} {K : PySem.W.Frag} {mg : Str → Option Value} {base : Heap} {x qual : Str} {st : Stmt} {f : Addr} {fd : FuncData} {ps : List Str} {k : Nat} {g : List PD → Option (Ro Rs)} (F : Fun K x qual st f fd) (h : FnOk P w K mg base (L2.CX P w) k f fd ps (spD K g))
    (hr : mg x = some (.ref f)) (hb : Binds K fd ps []) : DefOk P w K mg base x k g := ⟨f, fd, ps, h, hr, F.kp, hb⟩

/-! ### list comprehensions: one for over one name, one if or none -/
def lcL (i : Nat) (mt : M Bool) (me : M PD) (ρ : List Sl) : List PD → List PD → Option (List PD)
  | [], acc => some acc
  | x :: xs, acc => match mt (ρ.set i (.d x)) with
    | some (.ok b) => if b = true then (match me (ρ.set i (.d x)) with
      | some (.ok y) => if acc.length < big then lcL i mt me ρ xs (acc ++ [y]) else none
      | _ => none) else lcL i mt me ρ xs acc
    | _ => none
def mLc (i : Nat) (mi : M (List PD)) (mt : M Bool) (me : M PD) : M Rs := fun ρ => match mi ρ with
  | some (.ok xs) => (lcL i mt me ρ xs []).map fun ys => .ok (.o (.lst ys))
  | some (.ex c) => some (.ex c)
  | none => none
/-- the ifs of a comprehension: none, or one -/
structure DTs (X : Cx) (E : XK) (es : List Expr) (m : M Bool) : Prop where
  ex : ∃ t, PTs X es t ∧ ∀ F0 H0 F H σ ρ r Q, Rel X.K F0 H0 F H σ ρ → m ρ = some r → PoT F H Q E r → t σ H Q
theorem dts_nil : DTs X E [] (mr true) := ⟨_, pts_nil, fun F0 H0 F H σ ρ r Q R h p => by cases h; exact p F H (.refl R.fh)⟩
theorem dts_one {e : Expr} {m : M Bool} (h : DT X E e m) : DTs X E [e] m := by
  obtain ⟨t, h1, h2⟩ := h
  exact ⟨_, pts_one h1, h2⟩
abbrev NoE : XK := fun _ _ _ => False
theorem Cok.blk {s : Shared} {H : Hp} {scope : Scope} {cenv : Env} {fp : List Addr} (c : Cok X E k) : Cok (X.blk s H scope cenv fp) NoE k := ⟨c.calm, c.nd, takes0, c.hr⟩
theorem lc_sound {K : PySem.W.Frag} {i : Nat} {tt : TT} {te : TE} {mt : M Bool} {me : M PD} {F0 H0 F H F1 H1 : Hp} {σ : St} {ρ : List Sl} {J : It} {vs : List V} {xs ys : List PD} {Q : VK}
    (ht : ∀ F0 H0 F H σ ρ r Q, Rel K F0 H0 F H σ ρ → mt ρ = some r → PoT F H Q NoE r → tt σ H Q) (he : ∀ F0 H0 F H σ ρ r Q, Rel K F0 H0 F H σ ρ → me ρ = some r → PoE K F H Q NoE r → te σ H Q)
    (R : Rel K F0 H0 F H σ ρ) (g : Grow F H F1 H1) (d : DaAll K F1 vs xs) (W : Walk J vs.length (fun H'' => Same F1 H'') (YAt vs)) (h : lcL i mt me ρ xs [] = some ys)
    (p : ∀ v F' H', Grow F H F' H' → ResAt K H F' H' v (.o (.lst ys)) → Q v H') (D : Addr) (nD : H1 D = none) :
    ∃ W : Nat → Nat → Hp → Prop, (∃ m, W 0 m (upd H1 D (.lst []))) ∧ ∀ n m H, W n m H →
      (J.stop n H ∧ Q (.ref D) H) ∨ (J.go n H ∧ ∃ Nx : Hp → Prop, (∀ H', Nx H' → ∃ m', m' < m ∧ W (n + 1) m' H') ∧ ∀ x H', J.yld n H x H' → gName i x (wipe σ [i]) H' fun σ2 H2 => wipe σ2 [i] = wipe σ [i] ∧ tt σ2 H2 fun b H3 =>
        if b = true then te σ2 H3 fun y H4 => ∃ acc, H4 D = some (.lst acc) ∧ acc.length < sizeLine ∧ Nx (upd H4 D (.lst (acc ++ [y]))) else Nx H3) := by
  refine lc_it (Qd := fun H' => Q (.ref D) H') W (fun n H' => ∃ F' us acc, Grow F1 H1 F' H' ∧ F' D = none ∧ H' D = some (.lst us) ∧ DaAll K F' us acc ∧ lcL i mt me ρ (xs.drop n) acc = some ys) ?_ (fun n H' _ ⟨F', us, acc, q, _⟩ => q.f.trans q.fh) ?_ ?_
  · exact ⟨F1, [], [], .newO g.fh nD, g.fh.free nD, upd_same, .nil, h⟩
  · rintro n v H' H'' hn ⟨F', us, acc, q, nF, hD, da, hr⟩ ⟨rfl, ev⟩
    obtain ⟨y, ey, dy⟩ := d.get ev
    rw [drop_get ey] at hr
    have R1 : Rel K F0 H0 F' H'' ((wipe σ [i]).set i (some v)) (ρ.set i (.d y)) := by
      have z := ((R.grow (g.trans q)).setN (i := i) (o := none)).setD (i := i) (dy.mono q.f)
      have e1 : (ρ.set i Sl.no).set i (Sl.d y) = ρ.set i (Sl.d y) := List.set_set ..
      rw [e1] at z
      exact z
    show wipe ((wipe σ [i]).set i (some v)) [i] = wipe σ [i] ∧ _
    refine ⟨by show (((σ.set i none).set i (some v)).set i none) = σ.set i none; rw [List.set_set, List.set_set], ?_⟩
    unfold lcL at hr
    split at hr
    · rename_i b eb
      refine ht F0 H0 F' H'' _ _ _ _ R1 eb fun F2 H2 g2 => ?_
      have nF2 : F2 D = none := (g2.n D (by rw [hD]; simp)).trans nF
      cases b with
      | true =>
        rw [if_pos rfl] at hr ⊢
        split at hr
        · rename_i z ez
          split at hr
          · rename_i hz
            refine he F0 H0 F2 H2 _ _ _ _ (R1.grow g2) ez fun w F3 H3 g3 dw => ?_
            have g23 := g2.trans g3
            have nF3 : F3 D = none := (g23.n D (by rw [hD]; simp)).trans nF
            refine ⟨us, g23.h _ _ hD, lt_line (by rw [da.len]; exact hz), F3, us ++ [w], acc ++ [z], ?_, nF3, upd_same, (da.mono g23.f).append (.cons dw .nil), hr⟩
            have q3 := q.trans g23
            refine ⟨q3.f, fun b o e => ?_, fun b o e => ?_, q3.n⟩
            · rw [upd_ne (ne_of_none e nD)]; exact q3.h b o e
            · rw [upd_ne (ne_of_none e nF3)]; exact q3.fh b o e
          · cases hr
        · cases hr
      | false =>
        rw [if_neg (by decide)] at hr ⊢
        exact ⟨F2, us, acc, q.trans g2, nF2, g2.h _ _ hD, da.mono g2.f, hr⟩
    · cases hr
  · rintro H' ⟨F', us, acc, q, nF, hD, da, hr⟩
    rw [List.drop_eq_nil_of_le (by rw [d.len]; exact Nat.le_refl _)] at hr
    cases hr
    refine p _ F' H' (g.trans q) ⟨[D], ⟨D, us, rfl, rfl, hD, da⟩, fun a ha => ?_⟩
    have e : a = D := by simpa using ha
    subst e
    exact ⟨g.h.free nD, nF, by rw [hD]; simp⟩
theorem dr_lc {i : Nat} {x : Str} {elt iter : Expr} {ifs : List Expr} {scope : Scope} {pos pos' : Pos} {mi : M (List PD)} {mt : M Bool} {me : M PD} (c : Cok X E k) (hi : DI X E (.Name x pos') iter mi)
    (hg : ∀ (s : Shared) (H : Hp) (C : Addr) (cl : List (Str × Addr)) (fp : List Addr), PG (X.blk s H scope (compEnvC scope cl C X.env) fp) (.Name x pos') (gName i))
    (ht : ∀ (s : Shared) (H : Hp) (C : Addr) (cl : List (Str × Addr)) (fp : List Addr), Cok (X.blk s H scope (compEnvC scope cl C X.env) fp) NoE k → DTs (X.blk s H scope (compEnvC scope cl C X.env) fp) NoE ifs mt)
    (he : ∀ (s : Shared) (H : Hp) (C : Addr) (cl : List (Str × Addr)) (fp : List Addr), Cok (X.blk s H scope (compEnvC scope cl C X.env) fp) NoE k → DE (X.blk s H scope (compEnvC scope cl C X.env) fp) NoE elt me)
    (N : List Str) (sc : Scope) (eN : X.N = N := by rfl) (es : X.env.scope = sc := by rfl) (ok : blkC N sc scope [(x, i)] = true := by decide +kernel) (hs : ∀ x, foldedSetIterable iter X.env x = pure x := by intro _; rfl) :
    DR X E (.ListComp elt [⟨.Name x pos', iter, ifs, 0⟩] scope pos) (mLc i mi mt me) := by
  obtain ⟨ti, h1, h2⟩ := hi
  have ht' : ∃ tt, (∀ (s : Shared) (H : Hp) (C : Addr) (cl : List (Str × Addr)) (fp : List Addr), PTs (X.blk s H scope (compEnvC scope cl C X.env) fp) ifs tt) ∧ ∀ F0 H0 F H σ ρ r Q, Rel X.K F0 H0 F H σ ρ → mt ρ = some r → PoT F H Q NoE r → tt σ H Q := by
    refine ⟨fun σ H Q => ∃ F0 H0 F ρ r, Rel X.K F0 H0 F H σ ρ ∧ mt ρ = some r ∧ PoT F H Q NoE r, fun s H C cl fp => ?_, fun F0 H0 F H σ ρ r Q R h p => ⟨F0, H0, F, ρ, r, R, h, p⟩⟩
    obtain ⟨t, q1, q2⟩ := ht s H C cl fp c.blk
    exact ⟨fun pins s σ H Q I ⟨F0, H0, F, ρ, r, R, h, p⟩ => q1.run pins s σ H Q I (q2 F0 H0 F H σ ρ r Q R h p)⟩
  have he' : ∃ te, (∀ (s : Shared) (H : Hp) (C : Addr) (cl : List (Str × Addr)) (fp : List Addr), PE (X.blk s H scope (compEnvC scope cl C X.env) fp) elt te) ∧ ∀ F0 H0 F H σ ρ r Q, Rel X.K F0 H0 F H σ ρ → me ρ = some r → PoE X.K F H Q NoE r → te σ H Q := by
    refine ⟨fun σ H Q => ∃ F0 H0 F ρ r, Rel X.K F0 H0 F H σ ρ ∧ me ρ = some r ∧ PoE X.K F H Q NoE r, fun s H C cl fp => ?_, fun F0 H0 F H σ ρ r Q R h p => ⟨F0, H0, F, ρ, r, R, h, p⟩⟩
    obtain ⟨t, q1, q2⟩ := he s H C cl fp c.blk
    exact ⟨fun pins s σ H Q I ⟨F0, H0, F, ρ, r, R, h, p⟩ => q1.run pins s σ H Q I (q2 F0 H0 F H σ ρ r Q R h p)⟩
  obtain ⟨tt, ht1, ht2⟩ := ht'
  obtain ⟨te, he1, he2⟩ := he'
  refine ⟨_, pe_lc (own := [(x, i)]) c.calm c.nd h1 (blkOk_by (by rw [eN, es]; exact ok)) hg ht1 he1 hs, fun F0 H0 F H σ ρ r Q R h p => ?_⟩
  unfold mLc at h
  split at h
  · rename_i xs e
    obtain ⟨ys, ey, rfl⟩ := Option.map_eq_some_iff.mp h
    exact h2 F0 H0 F H σ ρ _ _ R e fun J vs F1 H1 g d W D nD => lc_sound ht2 he2 R g d W ey p D nD
  · rename_i c e
    cases h
    exact h2 F0 H0 F H σ ρ _ _ R e fun F' H' g => p F' H' g
  · cases h
/-- y = [..] on one line -/
theorem ds_setLc {j i : Nat} {y x : Str} {elt iter : Expr} {ifs : List Expr} {scope : Scope} {pos pos' py spos : Pos} {mi : M (List PD)} {mt : M Bool} {me : M PD} (c : Cok X E k) (hi : DI X E (.Name x pos') iter mi)
    (hg : ∀ (s : Shared) (H : Hp) (C : Addr) (cl : List (Str × Addr)) (fp : List Addr), PG (X.blk s H scope (compEnvC scope cl C X.env) fp) (.Name x pos') (gName i))
    (ht : ∀ (s : Shared) (H : Hp) (C : Addr) (cl : List (Str × Addr)) (fp : List Addr), Cok (X.blk s H scope (compEnvC scope cl C X.env) fp) NoE k → DTs (X.blk s H scope (compEnvC scope cl C X.env) fp) NoE ifs mt)
    (he : ∀ (s : Shared) (H : Hp) (C : Addr) (cl : List (Str × Addr)) (fp : List Addr), Cok (X.blk s H scope (compEnvC scope cl C X.env) fp) NoE k → DE (X.blk s H scope (compEnvC scope cl C X.env) fp) NoE elt me)
    (hsw : swapsWith (.ListComp elt [⟨.Name x pos', iter, ifs, 0⟩] scope pos) (some (.Name y py)) spos.line X.env = pure true)
    (hy : X.N[j]? = some y := by rfl) (hyl : X.env.scope.names.lookup y = some .local := by rfl)
    (N : List Str) (sc : Scope) (eN : X.N = N := by rfl) (es : X.env.scope = sc := by rfl) (ok : blkC N sc scope [(x, i)] = true := by decide +kernel) (hs : ∀ x, foldedSetIterable iter X.env x = pure x := by intro _; rfl) :
    DS X E (.Assign [.Name y py] (.ListComp elt [⟨.Name x pos', iter, ifs, 0⟩] scope pos) spos) (sSet j (mLc i mi mt me)) := by
  obtain ⟨ti, h1, h2⟩ := hi
  have ht' : ∃ tt, (∀ (s : Shared) (H : Hp) (C : Addr) (cl : List (Str × Addr)) (fp : List Addr), PTs (X.blk s H scope (compEnvC scope cl C X.env) fp) ifs tt) ∧ ∀ F0 H0 F H σ ρ r Q, Rel X.K F0 H0 F H σ ρ → mt ρ = some r → PoT F H Q NoE r → tt σ H Q := by
    refine ⟨fun σ H Q => ∃ F0 H0 F ρ r, Rel X.K F0 H0 F H σ ρ ∧ mt ρ = some r ∧ PoT F H Q NoE r, fun s H C cl fp => ?_, fun F0 H0 F H σ ρ r Q R h p => ⟨F0, H0, F, ρ, r, R, h, p⟩⟩
    obtain ⟨t, q1, q2⟩ := ht s H C cl fp c.blk
    exact ⟨fun pins s σ H Q I ⟨F0, H0, F, ρ, r, R, h, p⟩ => q1.run pins s σ H Q I (q2 F0 H0 F H σ ρ r Q R h p)⟩
  have he' : ∃ te, (∀ (s : Shared) (H : Hp) (C : Addr) (cl : List (Str × Addr)) (fp : List Addr), PE (X.blk s H scope (compEnvC scope cl C X.env) fp) elt te) ∧ ∀ F0 H0 F H σ ρ r Q, Rel X.K F0 H0 F H σ ρ → me ρ = some r → PoE X.K F H Q NoE r → te σ H Q := by
    refine ⟨fun σ H Q => ∃ F0 H0 F ρ r, Rel X.K F0 H0 F H σ ρ ∧ me ρ = some r ∧ PoE X.K F H Q NoE r, fun s H C cl fp => ?_, fun F0 H0 F H σ ρ r Q R h p => ⟨F0, H0, F, ρ, r, R, h, p⟩⟩
    obtain ⟨t, q1, q2⟩ := he s H C cl fp c.blk
    exact ⟨fun pins s σ H Q I ⟨F0, H0, F, ρ, r, R, h, p⟩ => q1.run pins s σ H Q I (q2 F0 H0 F H σ ρ r Q R h p)⟩
  obtain ⟨tt, ht1, ht2⟩ := ht'
  obtain ⟨te, he1, he2⟩ := he'
  refine ⟨_, ps_setLc (own := [(x, i)]) c.calm c.nd hy hyl hsw h1 (blkOk_by (by rw [eN, es]; exact ok)) hg ht1 he1 hs, fun F0 H0 F H σ ρ r D R h p => ?_⟩
  unfold sSet mLc at h
  split at h
  · rename_i r' e'
    split at e'
    · rename_i xs e
      obtain ⟨ys, ey, eq⟩ := Option.map_eq_some_iff.mp e'
      cases eq
      cases h
      refine h2 F0 H0 F H σ ρ _ _ R e fun J vs F1 H1 g d W D' nD => lc_sound ht2 he2 R g d W ey (Q := fun v H' => gName j v σ H' D.nx) ?_ D' nD
      intro v F' H' g' d'
      obtain ⟨ft, d1, d2⟩ := d'
      exact p _ F' H' (R.setO g' d1 d2) g'.f
    · cases e'
    · cases e'
  · rename_i c' e'
    split at e'
    · rename_i xs e
      obtain ⟨ys, ey, eq⟩ := Option.map_eq_some_iff.mp e'
      cases eq
    · rename_i c e
      cases e'
      cases h
      exact h2 F0 H0 F H σ ρ _ _ R e fun F' H' g => p F' H' (R.g.trans g)
    · cases e'
  · cases h
end
end DL

namespace DL
open PySem L2

section
variable {X : Cx} {E : XK} {k : Nat}
/-! ### list + list, list * int, where the list may be known elsewhere -/
def orF (f f' : PD → PD → Option PD) : PD → PD → Option PD := fun x y => match f x y with
  | some z => some z
  | none => f' x y
theorem Snd2.or {K : PySem.W.Frag} {r r' : R2} {f f' : PD → PD → Option PD} (h : Snd2 K r f) (h' : Snd2 K r' f') : Snd2 K (fun x y H Q => r x y H Q ∨ r' x y H Q) (orF f f') := by
  intro F H v w x y z Q e d1 d2 hf p
  unfold orF at hf
  split at hf
  · rename_i z' ez
    cases hf
    exact .inl (h F H v w x y z Q e d1 d2 ez p)
  · exact .inr (h' F H v w x y z Q e d1 d2 hf p)

/-! ### numbers -/
def fI (g : Int → Int → Int) : PD → PD → Option PD
  | .int i, .int j => some (.int (g i j))
  | _, _ => none
theorem snd_I {K : PySem.W.Frag} {g : Int → Int → Int} : Snd2 K (rI0 fun i j => .int (g i j)) (fI g) := by
  intro F H v w x y z Q e d1 d2 hf p
  unfold fI at hf
  split at hf
  · cases hf; cases d1; cases d2
    exact ⟨_, _, rfl, rfl, p _ F H (.refl e) (.int _)⟩
  · cases hf
def fIc (c : Int → Int → Bool) (g : Int → Int → Int) : PD → PD → Option PD
  | .int i, .int j => if c i j = true then some (.int (g i j)) else none
  | _, _ => none
theorem snd_Ic {K : PySem.W.Frag} {C : Int → Int → Prop} {c : Int → Int → Bool} {g : Int → Int → Int} (hc : ∀ i j, c i j = true → C i j) : Snd2 K (rI C fun i j => .int (g i j)) (fIc c g) := by
  intro F H v w x y z Q e d1 d2 hf p
  unfold fIc at hf
  split at hf
  · split at hf
    · rename_i h
      cases hf; cases d1; cases d2
      exact ⟨_, _, rfl, rfl, hc _ _ h, p _ F H (.refl e) (.int _)⟩
    · cases hf
  · cases hf
def fB (g : Int → Int → Bool) : PD → PD → Option PD
  | .int i, .int j => some (.bool (g i j))
  | _, _ => none
theorem snd_B {K : PySem.W.Frag} {g : Int → Int → Bool} : Snd2 K (rI0 fun i j => .bl (g i j)) (fB g) := by
  intro F H v w x y z Q e d1 d2 hf p
  unfold fB at hf
  split at hf
  · cases hf; cases d1; cases d2
    exact ⟨_, _, rfl, rfl, p _ F H (.refl e) (.bl _)⟩
  · cases hf
def fStrAdd : PD → PD → Option PD
  | .str i, .str j => if i.length + j.length ≤ big then some (.str (i ++ j)) else none
  | _, _ => none
theorem snd_strAdd {K : PySem.W.Frag} : Snd2 K (fun x y H Q => ∃ i j, x = .str i ∧ y = .str j ∧ i.length + j.length ≤ sizeLine ∧ Q (.str (i ++ j)) H) fStrAdd := by
  intro F H v w x y z Q e d1 d2 hf p
  unfold fStrAdd at hf
  split at hf
  · split at hf
    · rename_i h
      cases hf; cases d1; cases d2
      exact ⟨_, _, rfl, rfl, le_line h, p _ F H (.refl e) (.str _)⟩
    · cases hf
  · cases hf
def fLstAdd : PD → PD → Option PD
  | .list xs, .list ys => if xs.length + ys.length ≤ big then some (.list (xs ++ ys)) else none
  | _, _ => none
theorem snd_lstAdd {K : PySem.W.Frag} : Snd2 K rCat fLstAdd := by
  intro F H v w x y z Q e d1 d2 hf p
  unfold fLstAdd at hf
  split at hf
  · split at hf
    · rename_i h
      cases hf
      cases d1 with
      | lst h1 h2 =>
        cases d2 with
        | lst h3 h4 =>
          refine ⟨_, _, _, _, rfl, rfl, e _ _ h1, e _ _ h3, le_line (by rw [h2.len, h4.len]; exact h), fun a na => ?_⟩
          exact p _ _ _ (.new e na) (.lst upd_same ((h2.append h4).mono (Same.upd_new (e.free na))))
    · cases hf
  · cases hf
/-- a + b: whole numbers, texts, lists -/
def fAdd : PD → PD → Option PD := orF (fI (· + ·)) (orF fStrAdd fLstAdd)
def fSub : PD → PD → Option PD := fI (· - ·)
theorem de_add {a b : Expr} {ma mb' : M PD} {pos : Pos} (ha : DE X E a ma) (hb : DE X E b mb') : DE X E (.BinOp a .Add b pos) (m2 fAdd ma mb') :=
  de_op (op_add.or (op_add_str.or op_cat)) (snd_I.or (snd_strAdd.or snd_lstAdd)) ha hb
theorem de_sub {a b : Expr} {ma mb' : M PD} {pos : Pos} (ha : DE X E a ma) (hb : DE X E b mb') : DE X E (.BinOp a .Sub b pos) (m2 fSub ma mb') := de_op op_sub snd_I ha hb
def fLstMul : PD → PD → Option PD
  | .list xs, .int n => if xs.length * n.toNat ≤ big ∧ -1000 ≤ n ∧ n ≤ 1000 then some (.list (List.replicate n.toNat xs).flatten) else none
  | _, _ => none
theorem DaAll.rep {K : PySem.W.Frag} {F : Hp} {vs : List V} {ds : List PD} (h : DaAll K F vs ds) : ∀ n : Nat, DaAll K F (List.replicate n vs).flatten (List.replicate n ds).flatten
  | 0 => .nil
  | n + 1 => by
    rw [List.replicate_succ, List.flatten_cons, List.replicate_succ, List.flatten_cons]
    exact h.append (DaAll.rep h n)
theorem snd_lstMul {K : PySem.W.Frag} : Snd2 K rRep fLstMul := by
  intro F H v w x y z Q e d1 d2 hf p
  unfold fLstMul at hf
  split at hf
  · split at hf
    · rename_i h
      cases hf
      cases d1 with
      | lst h1 h2 =>
        cases d2
        obtain ⟨q1, q2, q3⟩ := h
        refine ⟨_, _, _, rfl, rfl, e _ _ h1, by omega, by omega, le_line (by rw [h2.len]; exact q1), fun a na => ?_⟩
        exact p _ _ _ (.new e na) (.lst upd_same ((h2.rep _).mono (Same.upd_new (e.free na))))
    · cases hf
  · cases hf
def mulOk (i j : Int) : Bool := decide (i.natAbs < 1000000000) || decide (j.natAbs < 1000000000)
def fMul : PD → PD → Option PD := orF (fIc mulOk (· * ·)) fLstMul
theorem de_mul {a b : Expr} {ma mb' : M PD} {pos : Pos} (ha : DE X E a ma) (hb : DE X E b mb') : DE X E (.BinOp a .Mult b pos) (m2 fMul ma mb') :=
  de_op (op_mul.or op_rep) (Snd2.or (snd_Ic fun i j h => by
    unfold mulOk at h
    simp only [Bool.or_eq_true, decide_eq_true_eq] at h
    rcases h with h | h
    · exact .inl (by omega)
    · exact .inr (by omega)) snd_lstMul) ha hb
def divOk (_ j : Int) : Bool := decide (j ≠ 0) && decide (j.natAbs < 1073741824)
def fDiv : PD → PD → Option PD := fIc divOk Int.fdiv
theorem de_fdiv {a b : Expr} {ma mb' : M PD} {pos : Pos} (ha : DE X E a ma) (hb : DE X E b mb') : DE X E (.BinOp a .FloorDiv b pos) (m2 fDiv ma mb') :=
  de_op op_fdivN (snd_Ic fun i j h => by
    unfold divOk at h
    simp only [Bool.and_eq_true, decide_eq_true_eq] at h
    exact h) ha hb
def modOk (_ j : Int) : Bool := decide (j ≠ 0)
def fMod : PD → PD → Option PD := fIc modOk Int.fmod
theorem de_mod {a b : Expr} {ma mb' : M PD} {pos : Pos} (ha : DE X E a ma) (hb : DE X E b mb') : DE X E (.BinOp a .Mod b pos) (m2 fMod ma mb') :=
  de_op op_modN (snd_Ic fun i j h => by
    unfold modOk at h
    simpa using h) ha hb
def powOk (i j : Int) : Bool := decide (0 ≤ j) && (decide (j ≤ 1000) && decide (i.natAbs < 1000))
def fPow : PD → PD → Option PD := fIc powOk fun i j => i ^ j.toNat
theorem de_pow {a b : Expr} {ma mb' : M PD} {pos : Pos} (ha : DE X E a ma) (hb : DE X E b mb') : DE X E (.BinOp a .Pow b pos) (m2 fPow ma mb') :=
  de_op op_pow (snd_Ic fun i j h => by
    unfold powOk at h
    simp only [Bool.and_eq_true, decide_eq_true_eq] at h
    obtain ⟨h1, h2, h3⟩ := h
    exact ⟨h1, by omega, by omega⟩) ha hb
def fNeg : PD → Option PD
  | .int i => some (.int (-i))
  | _ => none
theorem de_neg {a : Expr} {ma : M PD} {pos : Pos} (ha : DE X E a ma) : DE X E (.UnaryOp .USub a pos) (m1 fNeg ma) :=
  de_un (f := fNeg) un_neg (fun F H v x z Q e d hf p => by
    unfold fNeg at hf
    split at hf
    · cases hf; cases d
      exact ⟨_, rfl, p _ F H (.refl e) (.int _)⟩
    · cases hf) ha

/-! ### comparisons -/
def fLt : PD → PD → Option PD := fB fun i j => decide (i < j)
def fLe : PD → PD → Option PD := fB fun i j => decide (i ≤ j)
def fGt : PD → PD → Option PD := fB fun i j => decide (j < i)
def fGe : PD → PD → Option PD := fB fun i j => decide (j ≤ i)
section
variable {a b : Expr} {ma mb' : M PD} {pos : Pos}
theorem de_lt (ha : DE X E a ma) (hb : DE X E b mb') : DE X E (.Compare a [.Lt] [b] pos) (m2 fLt ma mb') := de_cmp op_lt snd_B ha hb
theorem de_le (ha : DE X E a ma) (hb : DE X E b mb') : DE X E (.Compare a [.LtE] [b] pos) (m2 fLe ma mb') := de_cmp op_le snd_B ha hb
theorem de_gt (ha : DE X E a ma) (hb : DE X E b mb') : DE X E (.Compare a [.Gt] [b] pos) (m2 fGt ma mb') := de_cmp op_gt snd_B ha hb
theorem de_ge (ha : DE X E a ma) (hb : DE X E b mb') : DE X E (.Compare a [.GtE] [b] pos) (m2 fGe ma mb') := de_cmp op_ge snd_B ha hb
theorem dt_lt (ha : DE X E a ma) (hb : DE X E b mb') : DT X E (.Compare a [.Lt] [b] pos) (mB (m2 fLt ma mb')) := dt_cmp op_lt snd_B ha hb
theorem dt_le (ha : DE X E a ma) (hb : DE X E b mb') : DT X E (.Compare a [.LtE] [b] pos) (mB (m2 fLe ma mb')) := dt_cmp op_le snd_B ha hb
theorem dt_gt (ha : DE X E a ma) (hb : DE X E b mb') : DT X E (.Compare a [.Gt] [b] pos) (mB (m2 fGt ma mb')) := dt_cmp op_gt snd_B ha hb
theorem dt_ge (ha : DE X E a ma) (hb : DE X E b mb') : DT X E (.Compare a [.GtE] [b] pos) (mB (m2 fGe ma mb')) := dt_cmp op_ge snd_B ha hb
/-- == of data of any depth -/
def fEq : PD → PD → Option PD := fun x y => if (SeqAt.shaped x && SeqAt.shaped y) = true then some (.bool (PyData.eqv x y)) else none
def fNe : PD → PD → Option PD := fun x y => if (SeqAt.shaped x && SeqAt.shaped y) = true then some (.bool (!PyData.eqv x y)) else none
theorem lay_of_shaped {x : PD} (h : SeqAt.shaped x = true) : x.canLay0 = true := by
  have h : (x.canLay0 && decide (x.depth ≤ 64)) = true := h
  rw [Bool.and_eq_true] at h
  exact h.1
theorem snd_eq {K : PySem.W.Frag} : Snd2 K (rEqD K) fEq := by
  intro F H v w x y z Q e d1 d2 hf p
  unfold fEq at hf
  split at hf
  · rename_i h
    rw [Bool.and_eq_true] at h
    cases hf
    exact ⟨x, y, Da.dp' e x v (lay_of_shaped h.1) d1, Da.dp' e y w (lay_of_shaped h.2) d2, h.1, h.2, p _ F H (.refl e) (.bl _)⟩
  · cases hf
theorem snd_ne {K : PySem.W.Frag} : Snd2 K (rNeD K) fNe := by
  intro F H v w x y z Q e d1 d2 hf p
  unfold fNe at hf
  split at hf
  · rename_i h
    rw [Bool.and_eq_true] at h
    cases hf
    exact ⟨x, y, Da.dp' e x v (lay_of_shaped h.1) d1, Da.dp' e y w (lay_of_shaped h.2) d2, h.1, h.2, p _ F H (.refl e) (.bl _)⟩
  · cases hf
theorem de_eq (c : Cok X E k) (ha : DE X E a ma) (hb : DE X E b mb') : DE X E (.Compare a [.Eq] [b] pos) (m2 fEq ma mb') := de_cmp (op_eqD c.hr.units) snd_eq ha hb
theorem de_ne (c : Cok X E k) (ha : DE X E a ma) (hb : DE X E b mb') : DE X E (.Compare a [.NotEq] [b] pos) (m2 fNe ma mb') := de_cmp (op_neD c.hr.units) snd_ne ha hb
theorem dt_eq (c : Cok X E k) (ha : DE X E a ma) (hb : DE X E b mb') : DT X E (.Compare a [.Eq] [b] pos) (mB (m2 fEq ma mb')) := dt_cmp (op_eqD c.hr.units) snd_eq ha hb
theorem dt_ne (c : Cok X E k) (ha : DE X E a ma) (hb : DE X E b mb') : DT X E (.Compare a [.NotEq] [b] pos) (mB (m2 fNe ma mb')) := dt_cmp (op_neD c.hr.units) snd_ne ha hb
/-- in: data in a list, one text within another -/
def fInL (neg : Bool) : PD → PD → Option PD
  | x, .list ds => if (SeqAt.shaped x && SeqAt.shaped (.list ds)) = true then some (.bool (if neg then !(ds.any fun z => PyData.eqv z x) else ds.any fun z => PyData.eqv z x)) else none
  | _, _ => none
def fInS (neg : Bool) : PD → PD → Option PD
  | .str i, .str j => some (.bool (if neg then !(!(Builtin.Str.occurrences j i 0 j.length 1).isEmpty) else !(Builtin.Str.occurrences j i 0 j.length 1).isEmpty))
  | _, _ => none
theorem snd_inL {K : PySem.W.Frag} : Snd2 K (rInD K) (fInL false) := by
  intro F H v w x y z Q e d1 d2 hf p
  unfold fInL at hf
  split at hf
  · split at hf
    · rename_i h
      rw [Bool.and_eq_true] at h
      cases hf
      exact ⟨_, _, Da.dp' e _ v (lay_of_shaped h.1) d1, Da.dp' e _ w (lay_of_shaped h.2) d2, h.1, h.2, p _ F H (.refl e) (.bl _)⟩
    · cases hf
  · cases hf
theorem snd_ninL {K : PySem.W.Frag} : Snd2 K (rNotInD K) (fInL true) := by
  intro F H v w x y z Q e d1 d2 hf p
  unfold fInL at hf
  split at hf
  · split at hf
    · rename_i h
      rw [Bool.and_eq_true] at h
      cases hf
      exact ⟨_, _, Da.dp' e _ v (lay_of_shaped h.1) d1, Da.dp' e _ w (lay_of_shaped h.2) d2, h.1, h.2, p _ F H (.refl e) (.bl _)⟩
    · cases hf
  · cases hf
theorem snd_inS {K : PySem.W.Frag} : Snd2 K (fun x y H Q => ∃ i j, x = .str i ∧ y = .str j ∧ Q (.bl (!(Builtin.Str.occurrences j i 0 j.length 1).isEmpty)) H) (fInS false) := by
  intro F H v w x y z Q e d1 d2 hf p
  unfold fInS at hf
  split at hf
  · cases hf; cases d1; cases d2
    exact ⟨_, _, rfl, rfl, p _ F H (.refl e) (.bl _)⟩
  · cases hf
theorem snd_ninS {K : PySem.W.Frag} : Snd2 K (fun x y H Q => ∃ i j, x = .str i ∧ y = .str j ∧ Q (.bl (!(!(Builtin.Str.occurrences j i 0 j.length 1).isEmpty))) H) (fInS true) := by
  intro F H v w x y z Q e d1 d2 hf p
  unfold fInS at hf
  split at hf
  · cases hf; cases d1; cases d2
    exact ⟨_, _, rfl, rfl, p _ F H (.refl e) (.bl _)⟩
  · cases hf
def fIn (neg : Bool) : PD → PD → Option PD := orF (fInL neg) (fInS neg)
theorem de_in (c : Cok X E k) (ha : DE X E a ma) (hb : DE X E b mb') (hm : behindInMarks .In b = false := by rfl) : DE X E (.Compare a [.In] [b] pos) (m2 (fIn false) ma mb') :=
  de_cmp ((op_inD (by have := c.hr.un; omega)).or op_in_str) (snd_inL.or snd_inS) ha hb hm
theorem de_nin (c : Cok X E k) (ha : DE X E a ma) (hb : DE X E b mb') (hm : behindInMarks .NotIn b = false := by rfl) : DE X E (.Compare a [.NotIn] [b] pos) (m2 (fIn true) ma mb') :=
  de_cmp ((op_notInD (by have := c.hr.un; omega)).or op_notin_str) (snd_ninL.or snd_ninS) ha hb hm
theorem dt_in (c : Cok X E k) (ha : DE X E a ma) (hb : DE X E b mb') (hm : behindInMarks .In b = false := by rfl) : DT X E (.Compare a [.In] [b] pos) (mB (m2 (fIn false) ma mb')) :=
  dt_cmp ((op_inD (by have := c.hr.un; omega)).or op_in_str) (snd_inL.or snd_inS) ha hb hm
theorem dt_nin (c : Cok X E k) (ha : DE X E a ma) (hb : DE X E b mb') (hm : behindInMarks .NotIn b = false := by rfl) : DT X E (.Compare a [.NotIn] [b] pos) (mB (m2 (fIn true) ma mb')) :=
  dt_cmp ((op_notInD (by have := c.hr.un; omega)).or op_notin_str) (snd_ninL.or snd_ninS) ha hb hm
/-- is None -/
def isN : PD → Bool
  | .none => true
  | _ => false
theorem Da.isN {K : PySem.W.Frag} {F : Hp} {v : V} {x : PD} (h : Da K F v x) : decide (v = .non) = DL.isN x := by
  cases h <;> simp [DL.isN]
def fIsN (neg : Bool) : PD → PD → Option PD
  | x, .none => some (.bool (if neg then !isN x else isN x))
  | _, _ => none
theorem snd_isN {K : PySem.W.Frag} : Snd2 K (fun x y H Q => y = .non ∧ Q (.bl (decide (x = .non))) H) (fIsN false) := by
  intro F H v w x y z Q e d1 d2 hf p
  unfold fIsN at hf
  split at hf
  · cases hf; cases d2
    refine ⟨rfl, p _ F H (.refl e) ?_⟩
    rw [d1.isN]
    exact .bl _
  · cases hf
theorem snd_nisN {K : PySem.W.Frag} : Snd2 K (fun x y H Q => y = .non ∧ Q (.bl (!decide (x = .non))) H) (fIsN true) := by
  intro F H v w x y z Q e d1 d2 hf p
  unfold fIsN at hf
  split at hf
  · cases hf; cases d2
    refine ⟨rfl, p _ F H (.refl e) ?_⟩
    rw [d1.isN]
    exact .bl _
  · cases hf
theorem de_is (ha : DE X E a ma) (hb : DE X E b mb') : DE X E (.Compare a [.Is] [b] pos) (m2 (fIsN false) ma mb') := de_cmp op_isN snd_isN ha hb
theorem de_nis (ha : DE X E a ma) (hb : DE X E b mb') : DE X E (.Compare a [.IsNot] [b] pos) (m2 (fIsN true) ma mb') := de_cmp op_notN snd_nisN ha hb
theorem dt_is (ha : DE X E a ma) (hb : DE X E b mb') : DT X E (.Compare a [.Is] [b] pos) (mB (m2 (fIsN false) ma mb')) := dt_cmp op_isN snd_isN ha hb
theorem dt_nis (ha : DE X E a ma) (hb : DE X E b mb') : DT X E (.Compare a [.IsNot] [b] pos) (mB (m2 (fIsN true) ma mb')) := dt_cmp op_notN snd_nisN ha hb
/-- a < b < c of whole numbers -/
def mChain (f g : PD → PD → Option PD) (a b c : M PD) : M PD := mb a fun x => mb b fun y => mb (ml ((f x y).bind asB)) fun k => if k = true then mb c fun z => ml (g y z) else mr (.bool false)
theorem de_chain {op op' : CmpOp} {r r' : R2} {f g : PD → PD → Option PD} {c : Expr} {mc : M PD} (ho : OpR X (compareOp op) r) (ho' : OpR X (compareOp op') r') (hr : Snd2 X.K r f) (hr' : Snd2 X.K r' g) (ha : DE X E a ma) (hb : DE X E b mb') (hc : DE X E c mc)
    (hm : lastMarks [op, op'] [b, c] = false := by with_unfolding_all rfl) : DE X E (.Compare a [op, op'] [b, c] pos) (mChain f g ma mb' mc) := by
  obtain ⟨ta, h1, h2⟩ := ha
  obtain ⟨tb, h3, h4⟩ := hb
  obtain ⟨tc, h5, h6⟩ := hc
  refine ⟨_, pe_chain ho ho' h1 h3 h5 hm, fun F0 H0 F H σ ρ q Q R h p => ?_⟩
  rcases mb_ok h with ⟨x, e1, e2⟩ | ⟨c, e1, e2⟩
  · refine h2 F0 H0 F H σ ρ _ _ R e1 fun v F' H' g d => ?_
    have R' := R.grow g
    rcases mb_ok e2 with ⟨y, e3, e4⟩ | ⟨c, e3, e4⟩
    · refine h4 F0 H0 F' H' σ ρ _ _ R' e3 fun w F2 H2 g2 d2 => ?_
      rcases mb_ok e4 with ⟨kk, e5, e6⟩ | ⟨c, e5, e6⟩
      · unfold ml at e5
        obtain ⟨b', eb, ek⟩ := Option.map_eq_some_iff.mp e5
        cases ek
        obtain ⟨z, ez, ezb⟩ := Option.bind_eq_some_iff.mp eb
        refine hr F2 H2 v w x y z _ g2.fh (d.mono g2.f) d2 ez fun u F3 H3 g3 d3 => ?_
        have hz : z = .bool kk := by
          unfold asB at ezb
          split at ezb
          · cases ezb; rfl
          · cases ezb
        subst hz
        cases d3
        refine ⟨kk, rfl, ?_⟩
        have G3 := (g.trans g2).trans g3
        cases kk with
        | true =>
          rw [if_pos rfl] at e6 ⊢
          rcases mb_ok e6 with ⟨z2, e7, e8⟩ | ⟨c, e7, e8⟩
          · refine h6 F0 H0 F3 H3 σ ρ _ _ (R.grow G3) e7 fun u4 F4 H4 g4 d4 => ?_
            unfold ml at e8
            obtain ⟨z3, ez3, rfl⟩ := Option.map_eq_some_iff.mp e8
            exact hr' F4 H4 w u4 y z2 z3 _ g4.fh ((d2.mono g3.f).mono g4.f) d4 ez3 fun u5 F5 H5 g5 d5 => p u5 F5 H5 ((G3.trans g4).trans g5) d5
          · cases e8
            exact h6 F0 H0 F3 H3 σ ρ _ _ (R.grow G3) e7 fun F4 H4 g4 => p F4 H4 (G3.trans g4)
        | false =>
          rw [if_neg (by decide)] at e6 ⊢
          cases e6
          exact p _ F3 H3 G3 (.bl false)
      · unfold ml at e5
        obtain ⟨b', eb, ek⟩ := Option.map_eq_some_iff.mp e5
        cases ek
    · cases e4
      exact h4 F0 H0 F' H' σ ρ _ _ R' e3 fun F2 H2 g2 => p F2 H2 (g.trans g2)
  · cases e2
    exact h2 F0 H0 F H σ ρ _ _ R e1 fun F' H' g => p F' H' g
/-- the chain as a test -/
theorem dt_chain {op op' : CmpOp} {r r' : R2} {f g : PD → PD → Option PD} {c : Expr} {mc : M PD} (ho : OpR X (compareOp op) r) (ho' : OpR X (compareOp op') r') (hr : Snd2 X.K r f) (hr' : Snd2 X.K r' g) (ha : DE X E a ma) (hb : DE X E b mb') (hc : DE X E c mc)
    (hm : lastMarks [op, op'] [b, c] = false := by with_unfolding_all rfl) : DT X E (.Compare a [op, op'] [b, c] pos) (mB (mChain f g ma mb' mc)) := by
  obtain ⟨ta, h1, h2⟩ := ha
  obtain ⟨tb, h3, h4⟩ := hb
  obtain ⟨tc, h5, h6⟩ := hc
  have key := (de_chain (E := E) (pos := pos) (a := a) (b := b) (c := c) (op := op) (op' := op') ho ho' hr hr' ⟨ta, h1, h2⟩ ⟨tb, h3, h4⟩ ⟨tc, h5, h6⟩ hm)
  refine ⟨_, pt_chain ho ho' h1 h3 h5 hm, fun F0 H0 F H σ ρ q Q R h p => ?_⟩
  show tChain r r' ta tb tc σ H fun x H' => ∃ k, x = .bl k ∧ Q k H'
  have body : ∀ (q : Ro PD) (Q' : VK), mChain f g ma mb' mc ρ = some q → PoE X.K F H Q' E q → tChain r r' ta tb tc σ H Q' := by
    intro q Q' h p
    rcases mb_ok h with ⟨x, e1, e2⟩ | ⟨c, e1, e2⟩
    · refine h2 F0 H0 F H σ ρ _ _ R e1 fun v F' H' g d => ?_
      have R' := R.grow g
      rcases mb_ok e2 with ⟨y, e3, e4⟩ | ⟨c, e3, e4⟩
      · refine h4 F0 H0 F' H' σ ρ _ _ R' e3 fun w F2 H2 g2 d2 => ?_
        rcases mb_ok e4 with ⟨kk, e5, e6⟩ | ⟨c, e5, e6⟩
        · unfold ml at e5
          obtain ⟨b', eb, ek⟩ := Option.map_eq_some_iff.mp e5
          cases ek
          obtain ⟨z, ez, ezb⟩ := Option.bind_eq_some_iff.mp eb
          refine hr F2 H2 v w x y z _ g2.fh (d.mono g2.f) d2 ez fun u F3 H3 g3 d3 => ?_
          have hz : z = .bool kk := by
            unfold asB at ezb
            split at ezb
            · cases ezb; rfl
            · cases ezb
          subst hz
          cases d3
          refine ⟨kk, rfl, ?_⟩
          have G3 := (g.trans g2).trans g3
          cases kk with
          | true =>
            rw [if_pos rfl] at e6 ⊢
            rcases mb_ok e6 with ⟨z2, e7, e8⟩ | ⟨c, e7, e8⟩
            · refine h6 F0 H0 F3 H3 σ ρ _ _ (R.grow G3) e7 fun u4 F4 H4 g4 d4 => ?_
              unfold ml at e8
              obtain ⟨z3, ez3, rfl⟩ := Option.map_eq_some_iff.mp e8
              exact hr' F4 H4 w u4 y z2 z3 _ g4.fh ((d2.mono g3.f).mono g4.f) d4 ez3 fun u5 F5 H5 g5 d5 => p u5 F5 H5 ((G3.trans g4).trans g5) d5
            · cases e8
              exact h6 F0 H0 F3 H3 σ ρ _ _ (R.grow G3) e7 fun F4 H4 g4 => p F4 H4 (G3.trans g4)
          | false =>
            rw [if_neg (by decide)] at e6 ⊢
            cases e6
            exact p _ F3 H3 G3 (.bl false)
        · unfold ml at e5
          obtain ⟨b', eb, ek⟩ := Option.map_eq_some_iff.mp e5
          cases ek
      · cases e4
        exact h4 F0 H0 F' H' σ ρ _ _ R' e3 fun F2 H2 g2 => p F2 H2 (g.trans g2)
    · cases e2
      exact h2 F0 H0 F H σ ρ _ _ R e1 fun F' H' g => p F' H' g
  rcases mb_ok h with ⟨a, e1, e2⟩ | ⟨c, e1, e2⟩
  · unfold ml asB at e2
    split at e2
    · cases e2
      refine body _ _ e1 fun v F' H' g d => ?_
      cases d
      exact ⟨_, rfl, p F' H' g⟩
    · cases e2
  · cases e2
    exact body _ _ e1 fun F' H' g => p F' H' g
end

/-! ### items and slices -/
def fIx : PD → PD → Option PD
  | .list ds, .int i => atI ds i
  | .tuple ds, .int i => atI ds i
  | .str z, .int i => if z.length ≤ big then (atI z.cps.toList i).map fun c => .str ⟨#[c]⟩ else none
  | .dict ds, .int i => (atI ds i).map Prod.fst
  | _, _ => none
theorem atI_len {α β : Type} {xs : List α} {ys : List β} {i : Int} {y : β} (hl : xs.length = ys.length) (h : atI ys i = some y) : ∃ (j : Nat) (x : α), xs[j]? = some x ∧ ys[j]? = some y ∧ atI xs i = some x := by
  unfold atI at h ⊢
  rw [hl]
  obtain ⟨j, e1, e2⟩ := Option.bind_eq_some_iff.mp h
  have hj : j < xs.length := by rw [hl]; exact (List.getElem?_eq_some_iff.mp e2).1
  exact ⟨j, xs[j], List.getElem?_eq_getElem hj, e2, by rw [e1]; exact List.getElem?_eq_getElem hj⟩
theorem snd_ix {K : PySem.W.Frag} : Snd2 K (rIx K) fIx := by
  intro F H v w x y z Q e d1 d2 hf p
  unfold fIx at hf
  split at hf
  · cases d1 with
    | lst h1 h2 =>
      cases d2
      obtain ⟨j, u, e1, e2, e3⟩ := atI_len h2.len hf
      obtain ⟨d, q1, q2⟩ := h2.get e1
      rw [e2] at q1; cases q1
      exact .inl ⟨_, _, _, u, rfl, rfl, SqL.of (e _ _ h1), e3, p u F H (.refl e) q2⟩
  · cases d1 with
    | tup h1 h2 =>
      cases d2
      obtain ⟨j, u, e1, e2, e3⟩ := atI_len h2.len hf
      obtain ⟨d, q1, q2⟩ := h2.get e1
      rw [e2] at q1; cases q1
      exact .inr (.inl ⟨_, _, _, u, rfl, rfl, SqT.of (e _ _ h1), e3, p u F H (.refl e) q2⟩)
  · split at hf
    · rename_i hz
      obtain ⟨c, ec, rfl⟩ := Option.map_eq_some_iff.mp hf
      cases d1; cases d2
      exact .inr (.inr ⟨_, _, c, rfl, rfl, le_line hz, ec, p _ F H (.refl e) (.str _)⟩)
    · cases hf
  · cases d1 with
    | scr h1 h2 =>
      cases d2
      rename_i i a ns
      subst h2
      obtain ⟨pr, ep, rfl⟩ := Option.map_eq_some_iff.mp hf
      obtain ⟨j, u, e1, e2, e3⟩ := atI_len (xs := ns.map V.int) (by simp) ep
      rw [List.getElem?_map] at e1 e2
      obtain ⟨n, en, rfl⟩ := Option.map_eq_some_iff.mp e1
      rw [en] at e2
      cases e2
      exact .inl ⟨_, _, _, _, rfl, rfl, e.seq h1, e3, p _ F H (.refl e) (.int n)⟩
  · cases hf
theorem de_ix {a b : Expr} {ma mb' : M PD} {pos : Pos} (ha : DE X E a ma) (hb : DE X E b mb') (hs : PlainIx b := by exact fun _ _ => rfl) : DE X E (.Subscript a b pos) (m2 fIx ma mb') := by
  obtain ⟨ta, h1, h2⟩ := ha
  obtain ⟨tb, h3, h4⟩ := hb
  exact ⟨_, pe_ix ix_seq h1 h3 hs, fun F0 H0 F H σ ρ q Q R h p => two_sound h2 h4 snd_ix R h p⟩
/-- a part of a slice -/
structure DO (X : Cx) (E : XK) (e : Option Expr) (m : M (Option Int)) : Prop where
  ex : ∃ t, PO X e t ∧ ∀ F0 H0 F H σ ρ r (Q : Option Int → Hp → Prop), Rel X.K F0 H0 F H σ ρ → m ρ = some r → (match r with | .ok o => ∀ F' H', Grow F H F' H' → Q o H' | .ex c => ∀ F' H', Grow F H F' H' → E (.ref c) none H') → t σ H Q
def asI : PD → Option Int
  | .int i => some i
  | _ => none
def mPart (m : M PD) : M (Option Int) := mb m fun x => ml ((asI x).map some)
theorem do_none : DO X E none (mr none) := ⟨_, po_none, fun F0 H0 F H σ ρ r Q R h p => by cases h; exact p F H (.refl R.fh)⟩
theorem do_some {e : Expr} {m : M PD} (h : DE X E e m) : DO X E (some e) (mPart m) := by
  obtain ⟨t, h1, h2⟩ := h
  refine ⟨_, po_some h1, fun F0 H0 F H σ ρ r Q R h p => ?_⟩
  rcases mb_ok h with ⟨x, e1, e2⟩ | ⟨c, e1, e2⟩
  · unfold ml asI at e2
    split at e2
    · cases e2
      refine h2 F0 H0 F H σ ρ _ _ R e1 fun v F' H' g d => ?_
      cases d
      exact ⟨_, rfl, p F' H' g⟩
    · cases e2
  · cases e2
    exact h2 F0 H0 F H σ ρ _ _ R e1 fun F' H' g => p F' H' g
def cutL (xs : List PD) (lo hi : Option Int) : List PD := (xs.drop (HT.sIx xs.length 0 lo)).take (HT.sIx xs.length xs.length hi - HT.sIx xs.length 0 lo)
def fSl (lo hi : Option Int) : PD → Option Rs
  | .list xs => some (.o (.lst (cutL xs lo hi)))
  | .str z => if z.length ≤ big then some (.d (.str (cutS z lo hi))) else none
  | _ => none
def mSl (a : M PD) (lo hi : M (Option Int)) : M Rs := mb a fun x => mb lo fun l => mb hi fun u => ml (fSl l u x)
theorem dr_sl {a : Expr} {lo hi : Option Expr} {ma : M PD} {ml' mh : M (Option Int)} {pos p2 : Pos} (ha : DE X E a ma) (hl : DO X E lo ml') (hh : DO X E hi mh) : DR X E (.Subscript a (.Slice lo hi none p2) pos) (mSl ma ml' mh) := by
  obtain ⟨ta, h1, h2⟩ := ha
  obtain ⟨tl, h3, h4⟩ := hl
  obtain ⟨th, h5, h6⟩ := hh
  refine ⟨_, pe_slice (sl_list.or sl_str) h1 h3 h5, fun F0 H0 F H σ ρ q Q R h p => ?_⟩
  rcases mb_ok h with ⟨x, e1, e2⟩ | ⟨c, e1, e2⟩
  · refine h2 F0 H0 F H σ ρ _ _ R e1 fun v F' H' g d => ?_
    rcases mb_ok e2 with ⟨l, e3, e4⟩ | ⟨c, e3, e4⟩
    · refine h4 F0 H0 F' H' σ ρ _ _ (R.grow g) e3 fun F2 H2 g2 => ?_
      have G2 := g.trans g2
      rcases mb_ok e4 with ⟨u, e5, e6⟩ | ⟨c, e5, e6⟩
      · refine h6 F0 H0 F2 H2 σ ρ _ _ (R.grow G2) e5 fun F3 H3 g3 => ?_
        have G3 := G2.trans g3
        have d3 := (d.mono g2.f).mono g3.f
        unfold ml fSl at e6
        split at e6
        · cases e6
          cases d3 with
          | lst k1 k2 =>
            rename_i b us
            refine .inl ⟨_, _, rfl, SqL.of (G3.fh _ _ k1), fun a na => ?_⟩
            refine p _ F3 _ (G3.trans (.newO G3.fh na)) ⟨[a], ⟨a, _, rfl, rfl, upd_same, ?_⟩, fun b hb => ?_⟩
            · unfold cutV cutL
              rw [k2.len]
              exact (k2.drop _).take _
            · have e : b = a := by simpa using hb
              subst e
              exact ⟨G3.h.free na, G3.fh.free na, by rw [upd_same]; simp⟩
        · split at e6
          · rename_i hz
            cases e6
            cases d3
            exact .inr ⟨_, rfl, le_line hz, p _ F3 H3 G3 (.str _)⟩
          · cases e6
        · cases e6
      · cases e6
        exact h6 F0 H0 F2 H2 σ ρ _ _ (R.grow G2) e5 fun F3 H3 g3 => p F3 H3 (G2.trans g3)
    · cases e4
      exact h4 F0 H0 F' H' σ ρ _ _ (R.grow g) e3 fun F2 H2 g2 => p F2 H2 (g.trans g2)
  · cases e2
    exact h2 F0 H0 F H σ ρ _ _ R e1 fun F' H' g => p F' H' g

/-! ### built-ins -/
/-- a built-in called by its name: what the rule asks, from the function f -/
def SndC (K : PySem.W.Frag) (r : List V → Hp → VK → Prop) (f : List PD → Option Rs) : Prop := ∀ F H vs xs z Q, Same F H → DaAll K F vs xs → f xs = some z → (∀ u F' H', Grow F H F' H' → ResAt K H F' H' u z → Q u H') → r vs H Q
def mC (f : List PD → Option Rs) (a : M (List PD)) : M Rs := mb a fun xs => ml (f xs)
theorem callC_sound {t : TA} {r : List V → Hp → VK → Prop} {f : List PD → Option Rs} {m : M (List PD)} (hr : SndC X.K r f) (h2 : ∀ F0 H0 F H σ ρ r Q, Rel X.K F0 H0 F H σ ρ → m ρ = some r → PoA X.K F H Q E r → t σ H Q)
    {F0 H0 F H : Hp} {σ : St} {ρ : List Sl} {q : Ro Rs} {Q : VK} (R : Rel X.K F0 H0 F H σ ρ) (h : mC f m ρ = some q) (p : PoR X.K F H Q E q) : t σ H fun vs H1 => r vs H1 Q := by
  rcases mb_ok h with ⟨xs, e1, e2⟩ | ⟨c, e1, e2⟩
  · refine h2 F0 H0 F H σ ρ _ _ R e1 fun vs F' H' g d => ?_
    unfold ml at e2
    obtain ⟨z, ez, rfl⟩ := Option.map_eq_some_iff.mp e2
    exact hr F' H' vs xs z Q g.fh d ez fun u F2 H2 g2 d2 => p u F2 H2 (g.trans g2) (d2.older g.h)
  · cases e2
    exact h2 F0 H0 F H σ ρ _ _ R e1 fun F' H' g => p F' H' g
theorem dr_callB {x : Str} {p pos : Pos} {e : Expr} {es : List Expr} {id : String} {r : List V → Hp → VK → Prop} {f : List PD → Option Rs} {m : M (List PD)} (hc : CallR X (.builtin id) r) (hr : SndC X.K r f) (hm : X.mg x = none) (hv : bootBuiltins x = some (.builtin id)) (ha : DA X E (e :: es) m)
    (hg : Gl X x := by rfl) (hn : x ≠ "__name__" := by decide) (hdb : (x == ("__debug__" : Str)) = false := by decide) (he : starEach (e :: es) X.env = (false, eval e X.env) :: starEach es X.env := by rfl) (hpl : (backTo pos (starEach es X.env)).any (·.1) = false := by rfl) :
    DR X E (.Call (.Name x p) (e :: es) [] pos) (mC f m) := by
  obtain ⟨t, h1, h2⟩ := ha
  exact ⟨_, pe_callB hc hg hm hv h1 hn hdb he hpl, fun F0 H0 F H σ ρ q Q R h p => callC_sound hr h2 R h p⟩
theorem dr_callTy {x : Str} {p pos : Pos} {e : Expr} {es : List Expr} {T : String} {r : List V → Hp → VK → Prop} {f : List PD → Option Rs} {m : M (List PD)} (hc : CallR X (.type T) r) (hr : SndC X.K r f) (hm : X.mg x = none) (hv : bootBuiltins x = some (.type T)) (ha : DA X E (e :: es) m)
    (hg : Gl X x := by rfl) (hn : x ≠ "__name__" := by decide) (hdb : (x == ("__debug__" : Str)) = false := by decide) (he : starEach (e :: es) X.env = (false, eval e X.env) :: starEach es X.env := by rfl) (hpl : (backTo pos (starEach es X.env)).any (·.1) = false := by rfl) :
    DR X E (.Call (.Name x p) (e :: es) [] pos) (mC f m) := by
  obtain ⟨t, h1, h2⟩ := ha
  exact ⟨_, pe_callTy hc hg hm hv h1 hn hdb he hpl, fun F0 H0 F H σ ρ q Q R h p => callC_sound hr h2 R h p⟩
def fLen : List PD → Option Rs
  | [.list xs] => some (.d (.int xs.length))
  | [.tuple xs] => some (.d (.int xs.length))
  | [.dict xs] => some (.d (.int xs.length))
  | [.str z] => if z.length ≤ big then some (.d (.int z.length)) else none
  | _ => none
theorem snd_len {K : PySem.W.Frag} : SndC K (fun xs H Q => (∃ p ys, xs = [.ref p] ∧ (SqL K H p ys ∨ SqT K H p ys) ∧ Q (.int ys.length) H) ∨ ∃ z, xs = [.str z] ∧ z.length ≤ sizeLine ∧ Q (.int z.length) H) fLen := by
  intro F H vs xs z Q e d hf p
  unfold fLen at hf
  split at hf
  · cases hf
    cases d with
    | cons d1 d2 =>
      cases d2
      cases d1 with
      | lst h1 h2 => exact .inl ⟨_, _, rfl, .inl (SqL.of (e _ _ h1)), by rw [h2.len]; exact p _ F H (.refl e) (.int _)⟩
  · cases hf
    cases d with
    | cons d1 d2 =>
      cases d2
      cases d1 with
      | tup h1 h2 => exact .inl ⟨_, _, rfl, .inr (SqT.of (e _ _ h1)), by rw [h2.len]; exact p _ F H (.refl e) (.int _)⟩
  · cases hf
    cases d with
    | cons d1 d2 =>
      cases d2
      cases d1 with
      | scr h1 h2 =>
        refine .inl ⟨_, _, rfl, .inl (e.seq h1), ?_⟩
        rename_i xs a ns
        have z := p (.int ((ns.map V.int).length : Nat)) F H (.refl e)
        rw [h2] at z
        simp only [List.length_map] at z ⊢
        exact z (.int _)
  · split at hf
    · rename_i hz
      cases hf
      cases d with
      | cons d1 d2 =>
        cases d2
        cases d1
        exact .inr ⟨_, rfl, le_line hz, p _ F H (.refl e) (.int _)⟩
    · cases hf
  · cases hf
theorem dr_len {p pos : Pos} {e : Expr} {m : M (List PD)} (hm : X.mg "len" = none) (ha : DA X E [e] m) (hg : Gl X "len" := by rfl) (he : starEach [e] X.env = (false, eval e X.env) :: starEach [] X.env := by rfl) :
    DR X E (.Call (.Name "len" p) [e] [] pos) (mC fLen m) := dr_callB (call_len_seq.or call_len_str) snd_len hm (by decide +kernel) ha hg (by decide) (by decide) he rfl
def fList : List PD → Option Rs
  | [.list xs] => some (.o (.lst xs))
  | [.tuple xs] => some (.o (.lst xs))
  | _ => none
theorem new_lst {K : PySem.W.Frag} {F H : Hp} {us : List V} {xs : List PD} {Q : VK} {a : Addr} (e : Same F H) (na : H a = none) (d : DaAll K F us xs) (p : ∀ u F' H', Grow F H F' H' → ResAt K H F' H' u (.o (.lst xs)) → Q u H') : Q (.ref a) (upd H a (.lst us)) :=
  p _ F _ (.newO e na) ⟨[a], ⟨a, us, rfl, rfl, upd_same, d⟩, fun b hb => by
    have e' : b = a := by simpa using hb
    subst e'
    exact ⟨na, e.free na, by rw [upd_same]; simp⟩⟩
theorem snd_list {K : PySem.W.Frag} : SndC K (fun xs H Q => ∃ p ys, xs = [.ref p] ∧ (SqL K H p ys ∨ SqT K H p ys) ∧ ∀ l, H l = none → Q (.ref l) (upd H l (.lst ys))) fList := by
  intro F H vs xs z Q e d hf p
  unfold fList at hf
  split at hf
  · cases hf
    cases d with
    | cons d1 d2 =>
      cases d2
      cases d1 with
      | lst h1 h2 => exact ⟨_, _, rfl, .inl (SqL.of (e _ _ h1)), fun a na => new_lst e na h2 p⟩
  · cases hf
    cases d with
    | cons d1 d2 =>
      cases d2
      cases d1 with
      | tup h1 h2 => exact ⟨_, _, rfl, .inr (SqT.of (e _ _ h1)), fun a na => new_lst e na h2 p⟩
  · cases hf
theorem dr_list {p pos : Pos} {e : Expr} {m : M (List PD)} (hm : X.mg "list" = none) (ha : DA X E [e] m) (hg : Gl X "list" := by rfl) (he : starEach [e] X.env = (false, eval e X.env) :: starEach [] X.env := by rfl) :
    DR X E (.Call (.Name "list" p) [e] [] pos) (mC fList m) := dr_callTy call_list_of snd_list hm (by decide +kernel) ha hg (by decide) (by decide) he rfl
/-- whole numbers in a list -/
def asInts : List PD → Option (List Int)
  | [] => some []
  | .int i :: r => (asInts r).map (i :: ·)
  | _ :: _ => none
theorem asInts_map : ∀ ns : List Int, asInts (ns.map PyData.int) = some ns
  | [] => rfl
  | n :: ns => by show (asInts (ns.map PyData.int)).map (n :: ·) = _; rw [asInts_map ns]; rfl
theorem asInts_eq : ∀ {ds : List PD} {ns : List Int}, asInts ds = some ns → ds = ns.map PyData.int
  | [], ns, h => by cases h; rfl
  | d :: ds, ns, h => by
    unfold asInts at h
    split at h
    · rename_i a b; cases b
    · rename_i i r heq
      cases heq
      obtain ⟨r', e, rfl⟩ := Option.map_eq_some_iff.mp h
      rw [asInts_eq e]; rfl
    · cases h
/-- the rising list of ns: what sorted gives -/
def insI (x : Int) : List Int → List Int
  | [] => [x]
  | y :: r => if x ≤ y then x :: y :: r else y :: insI x r
def sortI : List Int → List Int
  | [] => []
  | x :: r => insI x (sortI r)
theorem insI_perm (x : Int) : ∀ l : List Int, (insI x l).Perm (x :: l)
  | [] => .refl _
  | y :: r => by
    unfold insI
    split
    · exact .refl _
    · exact ((insI_perm x r).cons y).trans (.swap x y r)
theorem sortI_perm : ∀ l : List Int, (sortI l).Perm l
  | [] => .refl _
  | x :: r => (insI_perm x _).trans ((sortI_perm r).cons x)
theorem insI_sorted {x : Int} : ∀ {l : List Int}, l.Pairwise (· ≤ ·) → (insI x l).Pairwise (· ≤ ·)
  | [], _ => List.pairwise_singleton _ _
  | y :: r, h => by
    have hc := List.pairwise_cons.mp h
    unfold insI
    split
    · rename_i hxy
      refine List.pairwise_cons.mpr ⟨fun z hz => ?_, h⟩
      rcases List.mem_cons.mp hz with e | hz
      · rw [e]; exact hxy
      · have := hc.1 z hz; omega
    · rename_i hxy
      refine List.pairwise_cons.mpr ⟨fun z hz => ?_, insI_sorted hc.2⟩
      rcases List.mem_cons.mp ((insI_perm x r).mem_iff.mp hz) with e | hz
      · rw [e]; omega
      · exact hc.1 z hz
theorem sortI_sorted : ∀ l : List Int, (sortI l).Pairwise (· ≤ ·)
  | [] => .nil
  | x :: r => insI_sorted (sortI_sorted r)
theorem sorted_uniq : ∀ {l m : List Int}, l.Perm m → l.Pairwise (· ≤ ·) → m.Pairwise (· ≤ ·) → l = m
  | [], m, h, _, _ => (List.nil_perm.mp h).symm
  | x :: l, [], h, _, _ => absurd (List.perm_nil.mp h) (by simp)
  | x :: l, y :: m, h, h1, h2 => by
    have a1 := (List.pairwise_cons.mp h1).1
    have a2 := (List.pairwise_cons.mp h2).1
    have e : x = y := by
      rcases List.mem_cons.mp (h.mem_iff.mp List.mem_cons_self) with e | hx
      · exact e
      · rcases List.mem_cons.mp (h.mem_iff.mpr List.mem_cons_self) with e | hy
        · exact e.symm
        · have := a1 y hy; have := a2 x hx; omega
    subst e
    rw [sorted_uniq ((List.perm_cons x).mp h) (List.pairwise_cons.mp h1).2 (List.pairwise_cons.mp h2).2]
def fSorted : List PD → Option Rs
  | [.list xs] => (asInts xs).bind fun ns => if ns.length < 64 then some (.o (.lst ((sortI ns).map .int))) else none
  | _ => none
theorem snd_sorted {K : PySem.W.Frag} : SndC K (rSorted K) fSorted := by
  intro F H vs xs z Q e d hf p
  unfold fSorted at hf
  split at hf
  · obtain ⟨ns, e1, e2⟩ := Option.bind_eq_some_iff.mp hf
    split at e2
    · rename_i hz
      cases e2
      cases d with
      | cons d1 d2 =>
        cases d2
        cases d1 with
        | lst h1 h2 =>
          rw [asInts_eq e1] at h2
          have := DaAll.ints ns h2
          subst this
          refine ⟨_, ns, rfl, SqL.of (e _ _ h1), hz, fun ns' a hp hs na => ?_⟩
          have : ns' = sortI ns := sorted_uniq (hp.trans (sortI_perm ns).symm) hs (sortI_sorted ns)
          subst this
          exact new_lst e na (DaAll.of_ints _) p
    · cases e2
  · cases hf
theorem dr_sorted {p pos : Pos} {e : Expr} {m : M (List PD)} (hm : X.mg "sorted" = none) (ha : DA X E [e] m) (hg : Gl X "sorted" := by rfl) (he : starEach [e] X.env = (false, eval e X.env) :: starEach [] X.env := by rfl) :
    DR X E (.Call (.Name "sorted" p) [e] [] pos) (mC fSorted m) := dr_callB cr_sorted snd_sorted hm (by decide +kernel) ha hg (by decide) (by decide) he rfl
def fMax : List PD → Option Rs
  | [.int i, .int j] => some (.d (.int (if j > i then j else i)))
  | _ => none
def fMin : List PD → Option Rs
  | [.int i, .int j] => some (.d (.int (if j < i then j else i)))
  | _ => none
theorem dr_max {p pos : Pos} {e e2 : Expr} {m : M (List PD)} (c : Cok X E k) (hm : X.mg "max" = none) (ha : DA X E [e, e2] m) (hg : Gl X "max" := by rfl) (he : starEach [e, e2] X.env = (false, eval e X.env) :: starEach [e2] X.env := by rfl) (hpl : (backTo pos (starEach [e2] X.env)).any (·.1) = false := by rfl) :
    DR X E (.Call (.Name "max" p) [e, e2] [] pos) (mC fMax m) := dr_callB (f := fMax) (call_max2 c.calm) (fun F H vs xs z Q e d hf p => by
      unfold fMax at hf
      split at hf
      · cases hf
        cases d with
        | cons d1 d2 =>
          cases d2 with
          | cons d2 d3 =>
            cases d3; cases d1; cases d2
            exact ⟨_, _, rfl, p _ F H (.refl e) (.int _)⟩
      · cases hf) hm (by decide +kernel) ha hg (by decide) (by decide) he hpl
theorem dr_min {p pos : Pos} {e e2 : Expr} {m : M (List PD)} (c : Cok X E k) (hm : X.mg "min" = none) (ha : DA X E [e, e2] m) (hg : Gl X "min" := by rfl) (he : starEach [e, e2] X.env = (false, eval e X.env) :: starEach [e2] X.env := by rfl) (hpl : (backTo pos (starEach [e2] X.env)).any (·.1) = false := by rfl) :
    DR X E (.Call (.Name "min" p) [e, e2] [] pos) (mC fMin m) := dr_callB (f := fMin) (call_min2 c.calm) (fun F H vs xs z Q e d hf p => by
      unfold fMin at hf
      split at hf
      · cases hf
        cases d with
        | cons d1 d2 =>
          cases d2 with
          | cons d2 d3 =>
            cases d3; cases d1; cases d2
            exact ⟨_, _, rfl, p _ F H (.refl e) (.int _)⟩
      · cases hf) hm (by decide +kernel) ha hg (by decide) (by decide) he hpl
/-- int(..) of a number, a bool, a text -/
def fInt : List PD → Option Rs
  | [.int i] => some (.d (.int i))
  | [.bool b] => some (.d (.int (if b then 1 else 0)))
  | [.str z] => if z.length ≤ 640 then (PySem.intText? z).map fun n => .d (.int n) else none
  | _ => none
theorem dr_int {p pos : Pos} {e : Expr} {m : M (List PD)} (hm : X.mg "int" = none) (ha : DA X E [e] m) (hg : Gl X "int" := by rfl) (he : starEach [e] X.env = (false, eval e X.env) :: starEach [] X.env := by rfl) :
    DR X E (.Call (.Name "int" p) [e] [] pos) (mC fInt m) := dr_callTy (f := fInt) (call_int1.or call_int_str) (fun F H vs xs z Q e d hf p => by
      unfold fInt at hf
      split at hf
      · cases hf
        cases d with
        | cons d1 d2 => cases d2; cases d1; exact .inl (.inl ⟨_, rfl, p _ F H (.refl e) (.int _)⟩)
      · cases hf
        cases d with
        | cons d1 d2 => cases d2; cases d1; exact .inl (.inr ⟨_, rfl, p _ F H (.refl e) (.int _)⟩)
      · split at hf
        · rename_i hz
          obtain ⟨n, en, rfl⟩ := Option.map_eq_some_iff.mp hf
          cases d with
          | cons d1 d2 => cases d2; cases d1; exact .inr ⟨_, n, rfl, en, hz, p _ F H (.refl e) (.int _)⟩
        · cases hf
      · cases hf) hm (by decide +kernel) ha hg (by decide) (by decide) he rfl
/-- str(..) of a number that is not great -/
def fStr : List PD → Option Rs
  | [.int i] => if i.natAbs < 1000000 then some (.d (.str (toString i))) else none
  | _ => none
theorem log2_small {n : Nat} (h : n < 1000000) : n.log2 < 1920 := by
  by_cases z : n = 0
  · subst z; decide
  · exact (Nat.log2_lt z).mpr (Nat.lt_of_lt_of_le h (Nat.le_trans (by decide : 1000000 ≤ 2 ^ 20) (Nat.pow_le_pow_right (by decide) (show 20 ≤ 1920 by decide))))
theorem dr_str {p pos : Pos} {e : Expr} {m : M (List PD)} (hm : X.mg "str" = none) (ha : DA X E [e] m) (hg : Gl X "str" := by rfl) (he : starEach [e] X.env = (false, eval e X.env) :: starEach [] X.env := by rfl) :
    DR X E (.Call (.Name "str" p) [e] [] pos) (mC fStr m) := dr_callTy (f := fStr) call_str_int (fun F H vs xs z Q e d hf p => by
      unfold fStr at hf
      split at hf
      · split at hf
        · rename_i hz
          cases hf
          cases d with
          | cons d1 d2 => cases d2; cases d1; exact ⟨_, rfl, log2_small hz, p _ F H (.refl e) (.str _)⟩
        · cases hf
      · cases hf) hm (by decide +kernel) ha hg (by decide) (by decide) he rfl
/-- list(range(..)) -/
def rngD (a b : Int) : List PD := (List.range (b - a).toNat).map fun (i : Nat) => .int (a + (i : Int))
end
end DL

/-! list(reversed(a list)): what the kit's layer has no rule for. -/
namespace DX
open PySem PySem.Spec PyProof.Rows L2
section
variable {prog : Program} {w : World} {A : Around} {E : Value → Shared → Prop} {s : Shared}
/-- the list at S, empty, is filled from the reversed iterator at it -/
theorem fill_rev {S it l : Addr} {items : Array Value} {c0 : Nat} {R : Result → Shared → Prop} (hh : A.handled = none) (hit : s.heap.IsRevIter it l ((items.size : Int) - 1)) (hl : s.heap.IsList l items)
    (n1 : l ≠ it) (n2 : S ≠ it) (n3 : S ≠ l) (hn : items.size ≤ sizeLine) (hS : s.heap.get? S = some { cls := .type "list", data := .seq #[] c0 })
    (hR : ∀ (s' : Shared) (acc : Array Value) (c : Nat), s' = { s with heap := s'.heap, toks := s'.toks } → (∀ b o, b ≠ S → b ≠ it → s.heap.get? b = some o → s'.heap.get? b = some o) →
      s'.heap.get? S = some { cls := .type "list", dict := none, data := .seq acc c, slots := #[] } → ItemsOf (fun i v => items[items.size - 1 - i]? = some v) acc items.size → R (.ok (.ret .none)) s') :
    wpAny (model prog w) A.in1 (Builtin.List.listExtendWith (.ref S) (.ref it) .none)
      (fun fin s' => match fin with | .done f => R (.ok f) s' | .again c' => c'.quiet = true ∧ codeAny (model prog w) A c' R s') (fun e s' => R (.error e) s') s := by
  have walk := (Walks.listRev (prog := prog) (w := w) (A := A.in1) hh it l n1 items).toS
  have ty : s.TypeIs (.ref it) "list_reverseiterator" := Heap.IsRevIter.typeIs hit
  have out : S ∉ [it, l] := by
    intro z
    rcases List.mem_cons.mp z with z | z
    · exact n2 z
    · exact n3 (List.mem_singleton.mp z)
  have other : Builtin.List.listSameRef (.ref S) (.ref it) = false := by simp [Builtin.List.listSameRef, n2]
  unfold Builtin.List.listExtendWith
  refine wpAny_bind (wpAny_typeOf ty ?_)
  rw [if_neg (by rw [other]; decide)]
  refine wpAny_bind (wpAny_pyIter_revIter hit (wpAny_bind (wpAny_holding ?_)))
  unfold Builtin.List.listLengthHint
  refine wpAny_bind (wpAny_specialOf ty RT.nolen_lri ?_)
  show wpAny _ A.in1 (specialOf (Value.ref it) (Str.ofString "__length_hint__") >>= _) _ _ _
  refine wpAny_bind (wpAny_specialOf ty RT.hint_lri ?_)
  generalize hid : ("list_reverseiterator.__length_hint__" : String) = name
  wp_delta
  rw [show splitId name = some ("list_reverseiterator", "__length_hint__") from by subst hid; decide +kernel]
  subst hid
  refine wpAny_bind (wpAny_isInstance (b := true) ty (by rw [isSubtype_type]; kernel_rfl) (wpAny_pure ?_))
  rw [if_neg (by decide)]
  have at0 : ((items.size : Nat) : Int) - 1 - ((0 : Nat) : Int) = (items.size : Int) - 1 := by omega
  refine wpAny_pure ⟨plainId_quiet F.plain_extend_loop _, codeAny_extend_loopS walk hn _ out _ items.size 0 _ _ _ rfl (Nat.zero_le _) ⟨Nat.zero_le _, by rw [at0]; exact hit, hl⟩ hS (ItemsOf.nil _) fun s' acc c m hS' hacc => ?_⟩
  refine hR s' acc c (Moved.eq_with m) (fun b o h1 h2 e => m.heap b o (fun z => ?_) e) hS' hacc
  rcases List.mem_cons.mp z with z | z
  · exact h1 z
  · exact h2 (List.mem_singleton.mp z)
theorem list_of_rev {it l : Addr} {items : Array Value} {Q : Value → Shared → Prop} (hh : A.handled = none) (hit : s.heap.IsRevIter it l ((items.size : Int) - 1)) (hl : s.heap.IsList l items) (n1 : l ≠ it) (hn : items.size ≤ sizeLine)
    (hQ : ∀ (h' : Heap) (tk : Nat) (acc : Array Value) (c : Nat), (∀ b o, b ≠ it → s.heap.get? b = some o → h'.get? b = some o) → h'.get? s.heap.objs.size = some { cls := .type "list", dict := none, data := .seq acc c, slots := #[] } →
      ItemsOf (fun i v => items[items.size - 1 - i]? = some v) acc items.size → Q (.ref s.heap.objs.size) { s with heap := h', toks := tk }) :
    wpAny (model prog w) A (call (.type "list") [.ref it]) Q E s := by
  refine callType_codes (Q₁ := fun v s1 => v = .ref s.heap.objs.size ∧ s1 = { s with heap := s.heap.push { cls := .type "list", data := .seq #[] } }) F.called_list (F.typeCall_list_1 _) F.entry_list_init (code_list_new _ ⟨rfl, rfl⟩) fun v s1 hv => ?_
  obtain ⟨rfl, rfl⟩ := hv
  have hS : (s.heap.push { cls := .type "list", data := .seq #[] }).get? s.heap.objs.size = some { cls := .type "list", data := .seq #[] } := Heap.get?_push_size _ rfl
  have lt : ∀ {b o}, s.heap.get? b = some o → s.heap.objs.size ≠ b := fun e => Nat.ne_of_gt (Heap.lt_size e)
  have kept : ∀ b o, s.heap.get? b = some o → ((s.heap.push { cls := .type "list", data := .seq #[] }).update s.heap.objs.size (Obj.mapSeq fun _ => (#[] : Array Value))).get? b = some o := fun b o e =>
    (Heap.get?_update_other _ _ (lt e)).trans (Heap.get?_push_of_some _ e)
  refine ⟨⟨_, hS, rfl⟩, F.args_list_init_2 _ _, ?_⟩
  show wpAny _ _ (do let old ← Builtin.List.listItems (.ref s.heap.objs.size); Builtin.List.listUpdate (.ref s.heap.objs.size) (fun _ => #[]); letGo old.toList.reverse; Builtin.List.listExtendWith (.ref s.heap.objs.size) (.ref it) .none) _ _ _
  refine wpAny_bind ?_
  unfold Builtin.List.listItems
  refine wpAny_bind (wpAny_seqItems hS rfl (wpAny_pure ?_))
  show wpAny _ _ (updateSeq s.heap.objs.size (fun _ => #[]) >>= fun _ => letGo (#[] : Array Value).toList.reverse >>= fun _ => Builtin.List.listExtendWith (.ref s.heap.objs.size) (.ref it) .none) _ _ _
  refine wpAny_bind (wpAny_updateSeq hS rfl (wpAny_bind (wpAny_letGo ?_)))
  obtain ⟨oi, hoi, _⟩ := id hit
  obtain ⟨ol, hol, _⟩ := id hl
  refine fill_rev (A := A.in1) hh (hit.at fun o e => kept _ o e) (hl.at fun o e => kept _ o e) n1 (lt hoi) (lt hol) hn (Heap.get?_update_self _ hS rfl) fun s' acc c e k hS' hacc => ?_
  refine ⟨rfl, ?_⟩
  rw [e]
  exact hQ s'.heap s'.toks acc c (fun b o hb eb => k b o (Ne.symm (lt eb)) hb (kept b o eb)) hS' hacc
end
section
variable {X : Cx}
def tLstRev (K : PySem.W.Frag) (te : TE) : TE := fun σ H Q => te σ H fun v H1 => ∃ (a : Addr) (xs : List V), v = .ref a ∧ SqL K H1 a xs ∧ ∀ q, H1 q = none → Q (.ref q) (upd H1 q (.lst xs.reverse))
theorem pe_lstRev {e : Expr} {te : TE} {p p2 pos pos2 : Pos} (hc : X.calm = true) (hg : Gl X "list") (hm : X.mg "list" = none) (hg2 : Gl X "reversed") (hm2 : X.mg "reversed" = none) (he : PE X e te)
    (hs : starEach [e] X.env = (false, eval e X.env) :: starEach [] X.env := by rfl)
    (hs2 : starEach [.Call (.Name "reversed" p2) [e] [] pos2] X.env = (false, eval (.Call (.Name "reversed" p2) [e] [] pos2) X.env) :: starEach [] X.env := by rfl) :
    PE X (.Call (.Name "list" p) [.Call (.Name "reversed" p2) [e] [] pos2] [] pos) (tLstRev X.K te) := by
  refine ⟨fun pins s σ H Q I h => ?_⟩
  refine Call_ (ld_blt I hg hm boot_list (PyProof.Rows.callWith_type1 (args_cons (Call_ (ld_blt I hg2 hm2 PyProof.Rows.boot_reversed (PyProof.Rows.callWith_type1 (args_cons (thn (he.run pins s σ H _ I h) fun u s1 z => args_nil ?_) hs) hs rfl))) hs2) hs2 rfl))
  obtain ⟨v, H1, I1, r1, a, xs, ev, hq, q⟩ := z
  subst ev
  obtain rfl : u = Value.ref a := r1
  obtain ⟨its, rv, pl, hz⟩ := I1.list hq
  refine call_reversed_list pl.isList (args_nil ?_)
  have step : ∀ b o, s1.heap.get? b = some o → (s1.heap.push (revObj a ((its.toArray.size : Int) - 1))).get? b = some o := fun b o e => Heap.get?_push_of_some _ e
  have hl := pl.isList
  obtain ⟨ol, hol, _⟩ := id hl
  have size : its.toArray.size ≤ sizeLine := by rw [List.size_toArray, ← rv.length]; exact hz
  refine list_of_rev (s := { s1 with heap := s1.heap.push (revObj a ((its.toArray.size : Int) - 1)) }) (I1.ok.hd hc) ⟨_, Heap.get?_push_size _ rfl, rfl, rfl⟩ (hl.push _) (Nat.ne_of_lt (Heap.lt_size hol)) size fun h' tk acc c hk hS hi => ?_
  have big : s1.heap.objs.size < (s1.heap.push (revObj a ((its.toArray.size : Int) - 1))).objs.size := by rw [Heap.size_push]; exact Nat.lt_succ_self _
  generalize (s1.heap.push (revObj a ((its.toArray.size : Int) - 1))).objs.size = S at hS big ⊢
  have nS : H1 S = none := I1.hok.fresh (Nat.le_of_lt big)
  have new : ObjOk X.prog X.w (upd H1 S (.lst xs.reverse)) h' S (.lst xs.reverse) := ⟨by rw [List.length_reverse]; exact hz, acc.toList, c, RT.vals_rev rv hi, by rw [Array.toArray_toList]; exact hS⟩
  exact ⟨.ref S, upd H1 S (.lst xs.reverse), I1.laid (t' := tk) (fun b o e => hk b o (Nat.ne_of_lt (Heap.lt_size e)) (step b o e)) (Nat.le_of_lt big) new, rfl, q S nS⟩
end
end DX

/-! set(a list of whole numbers), sorted or counted at once. -/
namespace DX
open PySem PySem.Spec PyProof.Rows L2
/-- the set as it is made, empty -/
abbrev set0 (w : World) : Obj := { cls := .type "set", dict := none, data := .set #[] 0 (.fresh 0 0 (!w.params.followText "set-order")) }
section
variable {P : Program} {w : World} {A : Around} {E : Value → Shared → Prop} {s : Shared}
/-- what set.__init__ leaves: the same state but the heap and the numbering of values -/
def Filled (w : World) (s : Shared) (ns : List Int) (s2 : Shared) : Prop :=
  ∃ h' tk c, s2 = { s with heap := h', toks := tk } ∧ SetR w h' s.heap.objs.size (fun j => decide (j ∈ ns)) c ∧ c ≤ ns.length ∧ ∀ b o, s.heap.get? b = some o → h'.get? b = some o
theorem fill_set {l : Addr} {items : Array Value} {ns : List Int} (hh : A.handled = none) (hl : s.heap.IsList l items) (hi : IntsAre items.toList ns) (hb : ns.length + 1 < scanBound) :
    wpAny (model P w) A.in1.in1 (Builtin.«set.__init__» ⟨[.ref s.heap.objs.size, .ref l], []⟩)
      (fun fin s' => match fin with | .done f => wants (fun r s2 => r = .none ∧ Filled w s ns s2) E (.ok f) s' | .again c' => c'.quiet = true ∧ codeAny (model P w) A.in1 c' (wants (fun r s2 => r = .none ∧ Filled w s ns s2) E) s')
      (fun e s' => wants (fun r s2 => r = .none ∧ Filled w s ns s2) E (.error e) s') { s with heap := s.heap.push (set0 w) } := by
  have many : items.size = ns.length := by
    rw [← Array.length_toList]
    exact IntsAre.length hi
  have old : ∀ b o, s.heap.get? b = some o → b ≠ s.heap.objs.size := fun b o e => Nat.ne_of_lt (Heap.lt_size e)
  have gS : (s.heap.push (set0 w)).get? s.heap.objs.size = some (set0 w) := Heap.get?_push_size _ rfl
  have tS : Shared.TypeIs { s with heap := s.heap.push (set0 w) } (.ref s.heap.objs.size) "set" := ⟨_, gS, rfl⟩
  obtain ⟨⟨c1, d1, dt, sl⟩, gl, k1, nl, k2⟩ := hl
  simp only at k1 k2
  subst k1
  subst k2
  have ll : l < s.heap.objs.size := Heap.lt_size gl
  have gl' : (s.heap.push (set0 w)).get? l = some { cls := .type "list", dict := d1, data := .seq items nl, slots := sl } := Heap.get?_push_of_some _ gl
  have isl : (s.heap.push (set0 w)).IsList l items := ⟨_, gl', rfl, nl, rfl⟩
  have q1 := F.sub_list_set
  have q2 := F.sub_list_frozenset
  have q3 : (Value.type "list" == Value.type "dict") = false := by decide
  unfold Builtin.«set.__init__» noKeywords Builtin.Frozenset.updateFrom
  generalize walker : pyIter = PI
  wp_walk
  subst walker
  refine wpAny_pyIter_list isl (wpAny_bind (wpAny_runValue ?_))
  have hd : A.in1.in1.in1.handled = none := by simp [hh]
  have sz : (s.heap.push (set0 w)).objs.size = s.heap.objs.size + 1 := Heap.size_push ..
  have m1 : l ≠ (s.heap.push (set0 w)).objs.size := by rw [sz]; exact Nat.ne_of_lt (Nat.lt_succ_of_lt ll)
  have m2 : s.heap.objs.size ∉ [(s.heap.push (set0 w)).objs.size, l] := by
    rw [sz]
    intro z
    rcases List.mem_cons.mp z with z | z
    · exact absurd z (Nat.ne_of_lt (Nat.lt_succ_self _))
    · exact absurd (List.mem_singleton.mp z) (Nat.ne_of_gt ll)
  have val : ∀ (i : Nat) (v : Value), items[i]? = some v → ∃ k t, ns[i]? = some k ∧ v = .int k t := fun i v hv => by
    have lt : i < ns.length := by rw [← many]; exact (Array.getElem?_eq_some_iff.mp hv).1
    obtain ⟨t, e⟩ := IntsAre.int_at hi i v (by rw [Array.getElem?_toList]; exact hv)
    exact ⟨ns[i], t, List.getElem?_eq_getElem lt, by rw [e, List.getD_eq_getElem?_getD, List.getElem?_eq_getElem lt] <;> rfl⟩
  have begun : ((s.heap.push (set0 w)).push { cls := .type "list_iterator", data := .fields #[.ref l, .int 0 0] }).get? s.heap.objs.size = some (set0 w) := Heap.get?_push_of_some _ gS
  refine set_update_ints ((Walks.list hd _ l m1 items).toS) s.heap.objs.size m2 ns many hb val (items.size - 0) 0 _ (by omega) (Nat.zero_le _) ⟨⟨_, Heap.get?_push_size _ rfl, rfl, rfl⟩, isl.push _⟩ ⟨0, Nat.le_refl 0, setR_new_at begun⟩ fun s' c' mv lec hS' => ?_
  obtain ⟨h', g', dr', tk', os'⟩ := s'
  obtain rfl : g' = s.gens := mv.gens
  obtain rfl : dr' = s.drawn := mv.drawn
  obtain rfl : os' = s.os := mv.os
  show wpAny _ _ _ _ _ _
  refine wpAny_pure ?_
  show wpAny _ _ (ret Value.none) _ _ _
  rw [many] at lec
  refine wpAny_pure ⟨rfl, h', tk', c', rfl, hS', lec, fun b o e => mv.heap b o (fun z => ?_) (Heap.get?_push_of_some _ (Heap.get?_push_of_some _ e))⟩
  have lb := Heap.lt_size e
  rcases List.mem_cons.mp z with z | z
  · exact absurd z (Nat.ne_of_lt lb)
  · rw [List.mem_singleton, sz] at z
    exact absurd z (Nat.ne_of_lt (Nat.lt_succ_of_lt lb))
theorem set_list {l : Addr} {items : Array Value} {ns : List Int} {Q : Value → Shared → Prop} (hh : A.handled = none) (hl : s.heap.IsList l items) (hi : IntsAre items.toList ns) (hb : ns.length + 1 < scanBound)
    (h : ∀ s2, Filled w s ns s2 → Q (.ref s.heap.objs.size) s2) : wpAny (model P w) A (call (.type "set") [.ref l]) Q E s := by
  obtain ⟨c, tl, hmro⟩ := F.called_set.mro
  have f1 := F.called_set.made
  have f2 := F.called_set.sub
  have f3 := F.called_set.notType
  have f4 := F.called_set.canCreate
  have f5 := F.typeCall_set_1 (.ref l)
  refine wpAny_call (codeAny_of_tree ?_)
  show wpAny _ _ (callAny (.type "set") _) _ _ _
  refine wpAny_pure ⟨Code.quiet_builtin _ (by decide +kernel), codeAny_builtin F.entry_type_call ?_⟩
  rw [Around.under_plain (weight_type_call_type "set" [.ref l] []) rfl]
  repeat any_goals first | assumption | wp_step
  refine codeAny_mono (code_set_led1 (.ref l) (E := E) (Q₁ := fun v s1 => v = .ref s.heap.objs.size ∧ s1 = { s with heap := s.heap.push (set0 w) }) ⟨rfl, rfl⟩) fun r s1 hr => ?_
  match r, hr with
  | .error _, hr => exact hr
  | .ok .next, hr => exact hr.elim
  | .ok .brk, hr => exact hr.elim
  | .ok .cont, hr => exact hr.elim
  | .ok (.ret v), hr =>
    obtain ⟨rfl, rfl⟩ := hr
    have tS : Shared.TypeIs { s with heap := s.heap.push (set0 w) } (.ref s.heap.objs.size) "set" := ⟨_, Heap.get?_push_size _ rfl, rfl⟩
    have i1 := F.called_set.init.lookup
    have i2 := F.called_set.init.bind (.ref s.heap.objs.size)
    repeat any_goals first | assumption | wp_step
    refine codeAny_mono (codeAny_call_builtin (R := wants (fun r s2 => r = .none ∧ Filled w s ns s2) E) F.called_set.init.plain F.entry_set_init (check_set_init_1 tS (fill_set (E := E) hh hl hi hb))) fun r s2 hr => ?_
    match r, hr with
    | .error _, hr => exact hr
    | .ok .next, hr => exact hr.elim
    | .ok .brk, hr => exact hr.elim
    | .ok .cont, hr => exact hr.elim
    | .ok (.ret v), hr =>
      obtain ⟨rfl, hF⟩ := hr
      repeat any_goals first | assumption | wp_step
      exact h s2 hF
end
section
variable {X : Cx}
theorem call_setL : X.calm = true → CallR X (.type "set") (fun xs H Q => ∃ (l : Addr) (ns : List Int), xs = [V.ref l] ∧ SqL X.K H l (ns.map V.int) ∧ ns.length < 64 ∧ ∀ p c, H p = none → c ≤ ns.length → Q (.ref p) (upd H p (SetO X.w p (fun j => decide (j ∈ ns)) c))) := by
  intro hc pins s σ H xs us Q I r h
  obtain ⟨l, ns, rfl, hq, hn, q⟩ := h
  rw [Vals.ref1 r]
  obtain ⟨its, rv, pl, hz⟩ := I.list hq
  refine set_list (I.ok.hd hc) pl.isList (ns := ns) (by simpa using rv.ints) (by unfold scanBound; omega) fun s2 ⟨h', tk, c, e, R, hc', k⟩ => ?_
  subst e
  have nS : H s.heap.objs.size = none := I.hok.fresh (Nat.le_refl _)
  exact ⟨.ref _, _, I.laid (t' := tk) k (Nat.le_refl _) (setO_new R), rfl, q _ c nS hc'⟩
theorem call_lenSet : CallR X (.builtin "len") (fun xs H Q => ∃ (a : Addr) (S : Int → Bool) (n : Nat), xs = [V.ref a] ∧ H a = some (SetO X.w a S n) ∧ ∀ ks : List Int, ks.Nodup → (∀ k, S k = true ↔ k ∈ ks) → ks.length = n → Q (.int n) H) := by
  intro pins s σ H xs us Q I r h
  obtain ⟨a, S, n, rfl, ha, q⟩ := h
  rw [Vals.ref1 r]
  obtain ⟨o, es, ep, t, h1, h2, h3, _, nd, hm, hb, hf, hn, _⟩ := setO_get I ha
  refine call_len_set h1 h2 h3 hf (by unfold scanBound at hb; omega) ?_
  rw [hn]
  exact ⟨.int n, H, I.tok _, ⟨_, rfl⟩, q _ nd hm (by rw [List.length_map, Array.length_toList]; exact hn)⟩
end
end DX
namespace DL
open PySem L2 DX
/-! ### each number once, rising -/
def insU (x : Int) : List Int → List Int
  | [] => [x]
  | y :: r => if x < y then x :: y :: r else if x = y then y :: r else y :: insU x r
def usort : List Int → List Int
  | [] => []
  | x :: r => insU x (usort r)
theorem mem_insU {x z : Int} : ∀ {l : List Int}, z ∈ insU x l ↔ z = x ∨ z ∈ l
  | [] => by simp [insU]
  | y :: r => by
    unfold insU
    split
    · simp
    · split
      · rename_i h; subst h; simp
      · rw [List.mem_cons, mem_insU, List.mem_cons]
        constructor
        · rintro (h | h | h)
          · exact .inr (.inl h)
          · exact .inl h
          · exact .inr (.inr h)
        · rintro (h | h | h)
          · exact .inr (.inl h)
          · exact .inl h
          · exact .inr (.inr h)
theorem insU_lt {x : Int} : ∀ {l : List Int}, l.Pairwise (· < ·) → (insU x l).Pairwise (· < ·)
  | [], _ => List.pairwise_singleton _ _
  | y :: r, h => by
    have hc := List.pairwise_cons.mp h
    unfold insU
    split
    · rename_i hxy
      refine List.pairwise_cons.mpr ⟨fun z hz => ?_, h⟩
      rcases List.mem_cons.mp hz with e | hz
      · rw [e]; exact hxy
      · have := hc.1 z hz; omega
    · split
      · exact h
      · refine List.pairwise_cons.mpr ⟨fun z hz => ?_, insU_lt hc.2⟩
        rcases mem_insU.mp hz with e | hz
        · rw [e]; omega
        · exact hc.1 z hz
theorem mem_usort {z : Int} : ∀ {l : List Int}, z ∈ usort l ↔ z ∈ l
  | [] => by simp [usort]
  | x :: r => by unfold usort; rw [mem_insU, mem_usort, List.mem_cons]
theorem usort_lt : ∀ l : List Int, (usort l).Pairwise (· < ·)
  | [] => .nil
  | x :: r => insU_lt (usort_lt r)
theorem rising_uniq : ∀ {l m : List Int}, l.Pairwise (· < ·) → m.Pairwise (· < ·) → (∀ z, z ∈ l ↔ z ∈ m) → l = m
  | [], [], _, _, _ => rfl
  | [], y :: m, _, _, h => absurd ((h y).mpr List.mem_cons_self) (by simp)
  | x :: l, [], _, _, h => absurd ((h x).mp List.mem_cons_self) (by simp)
  | x :: l, y :: m, h1, h2, h => by
    have a1 := (List.pairwise_cons.mp h1).1
    have a2 := (List.pairwise_cons.mp h2).1
    have e : x = y := by
      rcases List.mem_cons.mp ((h x).mp List.mem_cons_self) with e | hx
      · exact e
      · rcases List.mem_cons.mp ((h y).mpr List.mem_cons_self) with e | hy
        · exact e.symm
        · have := a1 y hy; have := a2 x hx; omega
    subst e
    rw [rising_uniq (List.pairwise_cons.mp h1).2 (List.pairwise_cons.mp h2).2 fun z => ?_]
    constructor
    · intro hz
      rcases List.mem_cons.mp ((h z).mp (List.mem_cons_of_mem _ hz)) with e | q
      · have := a1 z hz; omega
      · exact q
    · intro hz
      rcases List.mem_cons.mp ((h z).mpr (List.mem_cons_of_mem _ hz)) with e | q
      · have := a2 z hz; omega
      · exact q
theorem nodup_lt {l : List Int} (h : l.Pairwise (· < ·)) : l.Nodup := h.imp fun h e => by omega
section
variable {X : Cx} {E : XK} {k : Nat}
def fSoS : PD → Option Rs
  | .list xs => (asInts xs).bind fun ns => if ns.length < 64 then some (.o (.lst ((usort ns).map .int))) else none
  | _ => none
def fLeS : PD → Option Rs
  | .list xs => (asInts xs).bind fun ns => if ns.length < 64 then some (.d (.int (usort ns).length)) else none
  | _ => none
def mS1 (f : PD → Option Rs) (a : M PD) : M Rs := mb a fun x => ml (f x)
theorem set_there {F H : Hp} {o : HO} {p : Addr} (e : Same F H) (n : H p = none) : Grow F H F (upd H p o) := .newO e n
theorem dr_sortedSet {p p2 pos pos2 : Pos} {e : Expr} {m : M PD} (c : Cok X E k) (hm : X.mg "sorted" = none) (hm2 : X.mg "set" = none) (ha : DE X E e m) (hg : Gl X "sorted" := by rfl) (hg2 : Gl X "set" := by rfl)
    (he : starEach [e] X.env = (false, eval e X.env) :: starEach [] X.env := by rfl)
    (he2 : starEach [.Call (.Name "set" p2) [e] [] pos2] X.env = (false, eval (.Call (.Name "set" p2) [e] [] pos2) X.env) :: starEach [] X.env := by rfl) :
    DR X E (.Call (.Name "sorted" p) [.Call (.Name "set" p2) [e] [] pos2] [] pos) (mS1 fSoS m) := by
  obtain ⟨t, h1, h2⟩ := ha
  refine ⟨_, pe_callB (cr_sortedSet c.calm) hg hm (by decide +kernel) (pa_cons (pe_callTy (call_setL c.calm) hg2 hm2 (by decide +kernel) (pa_cons h1 pa_nil he) (by decide) (by decide) he rfl) pa_nil he2) (by decide) (by decide) he2 rfl, fun F0 H0 F H σ ρ q Q R h p => ?_⟩
  rcases mb_ok h with ⟨x, e1, e2⟩ | ⟨c, e1, e2⟩
  · refine h2 F0 H0 F H σ ρ _ _ R e1 fun v F' H' g d => ?_
    unfold ml fSoS at e2
    obtain ⟨z, ez, rfl⟩ := Option.map_eq_some_iff.mp e2
    split at ez
    · obtain ⟨ns, q1, q2⟩ := Option.bind_eq_some_iff.mp ez
      split at q2
      · rename_i hz
        cases q2
        cases d with
        | lst k1 k2 =>
          rw [asInts_eq q1] at k2
          have := DaAll.ints ns k2
          subst this
          refine ⟨_, ns, rfl, SqL.of (g.fh _ _ k1), hz, fun a cc na hcc => ?_⟩
          refine ⟨a, _, cc, rfl, upd_same, by omega, fun ns' b hs hmem hl nb => ?_⟩
          have eq : ns' = usort ns := rising_uniq hs (usort_lt ns) fun z => by rw [hmem, mem_usort, decide_eq_true_eq]
          subst eq
          have nb' : H' b = none := by
            have ne : b ≠ a := fun z => by rw [z, upd_same] at nb; cases nb
            rwa [upd_ne ne] at nb
          have g2 := g.trans ((set_there g.fh na).trans (.newO (o := .lst ((usort ns).map V.int)) (g.fh.trans (Same.upd_new na)) nb))
          refine p _ F' _ g2 ⟨[b], ⟨b, _, rfl, rfl, upd_same, DaAll.of_ints _⟩, fun z hz => ?_⟩
          have e' : z = b := by simpa using hz
          subst e'
          exact ⟨g.h.free nb', g.fh.free nb', by rw [upd_same]; simp⟩
      · cases q2
    · cases ez
  · cases e2
    exact h2 F0 H0 F H σ ρ _ _ R e1 fun F' H' g => p F' H' g
theorem dr_lenSet {p p2 pos pos2 : Pos} {e : Expr} {m : M PD} (c : Cok X E k) (hm : X.mg "len" = none) (hm2 : X.mg "set" = none) (ha : DE X E e m) (hg : Gl X "len" := by rfl) (hg2 : Gl X "set" := by rfl)
    (he : starEach [e] X.env = (false, eval e X.env) :: starEach [] X.env := by rfl)
    (he2 : starEach [.Call (.Name "set" p2) [e] [] pos2] X.env = (false, eval (.Call (.Name "set" p2) [e] [] pos2) X.env) :: starEach [] X.env := by rfl) :
    DR X E (.Call (.Name "len" p) [.Call (.Name "set" p2) [e] [] pos2] [] pos) (mS1 fLeS m) := by
  obtain ⟨t, h1, h2⟩ := ha
  refine ⟨_, pe_callB call_lenSet hg hm (by decide +kernel) (pa_cons (pe_callTy (call_setL c.calm) hg2 hm2 (by decide +kernel) (pa_cons h1 pa_nil he) (by decide) (by decide) he rfl) pa_nil he2) (by decide) (by decide) he2 rfl, fun F0 H0 F H σ ρ q Q R h p => ?_⟩
  rcases mb_ok h with ⟨x, e1, e2⟩ | ⟨c, e1, e2⟩
  · refine h2 F0 H0 F H σ ρ _ _ R e1 fun v F' H' g d => ?_
    unfold ml fLeS at e2
    obtain ⟨z, ez, rfl⟩ := Option.map_eq_some_iff.mp e2
    split at ez
    · obtain ⟨ns, q1, q2⟩ := Option.bind_eq_some_iff.mp ez
      split at q2
      · rename_i hz
        cases q2
        cases d with
        | lst k1 k2 =>
          rw [asInts_eq q1] at k2
          have := DaAll.ints ns k2
          subst this
          refine ⟨_, ns, rfl, SqL.of (g.fh _ _ k1), hz, fun a cc na hcc => ?_⟩
          refine ⟨a, _, cc, rfl, upd_same, fun ks nd hmem hl => ?_⟩
          have eq : cc = (usort ns).length := by
            rw [← hl]
            exact ((List.perm_ext_iff_of_nodup nd (nodup_lt (usort_lt ns))).mpr fun z => by rw [← hmem z, mem_usort, decide_eq_true_eq]).length_eq
          subst eq
          exact p _ F' _ (g.trans (set_there g.fh na)) (.int _)
      · cases q2
    · cases ez
  · cases e2
    exact h2 F0 H0 F H σ ρ _ _ R e1 fun F' H' g => p F' H' g
end
end DL

namespace DX
open PySem PySem.Spec PyProof.Rows L2
/-- what is walked: a list, a tuple or a text -/
def iAny (K : PySem.W.Frag) (tl : TE) : TI := fun σ H R => tl σ H fun x H1 => (∃ a, x = .ref a ∧ (∃ xs, SqL K H1 a xs) ∧ R (Itl K a) H1) ∨ (∃ a, x = .ref a ∧ (∃ xs, SqT K H1 a xs) ∧ R (Itt K a) H1) ∨ ∃ z, x = .str z ∧ R (Its z) H1
section
variable {X : Cx} {tg : Expr}
theorem pi_any {l : Expr} {tl : TE} (hl : PE X l tl) : PI X tg l (iAny X.K tl) := by
  refine ⟨fun pins s σ H R I h => thn (hl.run pins s σ H _ I h) fun v s1 ⟨x, H1, I1, r1, q1⟩ => ?_⟩
  rcases q1 with ⟨a, rfl, ⟨xs, hq⟩, q⟩ | ⟨a, rfl, ⟨xs, hq⟩, q⟩ | ⟨z, rfl, q⟩
  · cases r1
    obtain ⟨its, rv, pl, _⟩ := I1.list hq
    refine wpAny_pyIter_list pl.isList ?_
    exact pi_one (tk := s1.toks) I1 _ (turn_list a _) ⟨_, Heap.get?_push_size _ rfl, rfl, rfl⟩ q
  · cases r1
    obtain ⟨its, rv, pl, _⟩ := I1.tuple hq
    refine wpAny_pyIter_tuple (show s1.heap.IsTuple a its.toArray from pl) ?_
    exact pi_one (tk := s1.toks) I1 _ (turn_tuple a _) ⟨_, Heap.get?_push_size _ rfl, rfl, rfl⟩ q
  · obtain ⟨t, rfl⟩ := r1
    have go := fun (ty : String) (h : ty = "str_ascii_iterator" ∨ ty = "str_iterator") => turn_str (P := X.prog) (w := X.w) (K := X.K) (tg := tg) s1.heap.objs.size z t ty h
    cases ha : z.cps.all (· < 128) with
    | false => exact wpAny_pyIter_wide ha (pi_one (tk := s1.toks) I1 _ (go _ (.inr rfl)) ⟨_, Heap.get?_push_size _ rfl, rfl, rfl⟩ q)
    | true => exact wpAny_pyIter_ascii ha (pi_one (tk := s1.toks) I1 _ (go _ (.inl rfl)) ⟨_, Heap.get?_push_size _ rfl, rfl, rfl⟩ q)
end
end DX

namespace DL
open PySem L2 DX
section
variable {X : Cx} {E : XK} {k : Nat}
/-! ### what is walked -/
def chars (z : Str) : List PD := z.cps.toList.map fun c => .str ⟨#[c]⟩
def asSeq : PD → Option (List PD)
  | .list xs => some xs
  | .tuple xs => some xs
  | .str z => some (chars z)
  | _ => none
def mSeq (m : M PD) : M (List PD) := mb m fun x => ml (asSeq x)
theorem DaAll.chars {K : PySem.W.Frag} {F : Hp} : ∀ (l : List Nat), DaAll K F (l.map fun c => V.str ⟨#[c]⟩) (l.map fun c => (PyData.str ⟨#[c]⟩ : PD))
  | [] => .nil
  | c :: l => .cons (.str _) (DaAll.chars l)
theorem di_any {tg e : Expr} {m : M PD} (h : DE X E e m) : DI X E tg e (mSeq m) := by
  obtain ⟨t, h1, h2⟩ := h
  refine ⟨_, pi_any h1, fun F0 H0 F H σ ρ q R' R h p => ?_⟩
  rcases mb_ok h with ⟨x, e1, e2⟩ | ⟨c, e1, e2⟩
  · refine h2 F0 H0 F H σ ρ _ _ R e1 fun v F' H' g d => ?_
    unfold ml asSeq at e2
    split at e2
    · cases e2
      cases d with
      | lst k1 k2 => exact .inl ⟨_, rfl, ⟨_, SqL.of (g.fh _ _ k1)⟩, p _ _ F' H' g k2 (walk_list.mono (fun H'' e => SqL.of (e _ _ k1)) fun _ _ _ _ _ _ y => y)⟩
    · cases e2
      cases d with
      | tup k1 k2 => exact .inr (.inl ⟨_, rfl, ⟨_, SqT.of (g.fh _ _ k1)⟩, p _ _ F' H' g k2 (walk_tup.mono (fun H'' e => SqT.of (e _ _ k1)) fun _ _ _ _ _ _ y => y)⟩)
    · cases e2
      cases d
      rename_i z
      refine .inr (.inr ⟨z, rfl, p _ (z.cps.toList.map fun c => V.str ⟨#[c]⟩) F' H' g (DaAll.chars _) ?_⟩)
      have W := (walk_str (z := z)).mono (G' := fun H'' => Same F' H'') (Y' := YAt (z.cps.toList.map fun c => V.str ⟨#[c]⟩)) (fun _ _ => trivial) fun i H x H' _ _ y => by
        obtain ⟨rfl, c, ec, rfl⟩ := y
        refine ⟨rfl, ?_⟩
        rw [List.getElem?_map, Array.getElem?_toList, ec]
        rfl
      rw [List.length_map, Array.length_toList]
      exact W
    · cases e2
  · cases e2
    exact h2 F0 H0 F H σ ρ _ _ R e1 fun F' H' g => p F' H' g
/-- the numbers a, a + 1, .. below b -/
def rngI (a b : Int) : List Int := (List.range (b - a).toNat).map fun (i : Nat) => a + (i : Int)
def small (a : Int) : Bool := decide (-1000000 ≤ a) && decide (a ≤ 1000000)
def asRng1 : List PD → Option (List PD)
  | [.int b] => if small b = true then some ((rngI 0 b).map .int) else none
  | _ => none
def asRng2 : List PD → Option (List PD)
  | [.int a, .int b] => if (small a && small b) = true then some ((rngI a b).map .int) else none
  | _ => none
/-- a, a - 1, .. above b -/
def dwnI (a b : Int) : List Int := (List.range (a - b).toNat).map fun (i : Nat) => a - (i : Int)
def asRng3 : List PD → Option (List PD)
  | [.int a, .int b, .int (.negSucc 0)] => if (small a && small b) = true then some ((dwnI a b).map .int) else none
  | _ => none
def mRng (f : List PD → Option (List PD)) (m : M (List PD)) : M (List PD) := mb m fun xs => ml (f xs)
theorem small_ok {a : Int} (h : small a = true) : -(2 ^ 62) ≤ a ∧ a < 2 ^ 62 := by
  unfold small at h
  simp only [Bool.and_eq_true, decide_eq_true_eq] at h
  omega
theorem range_walk {F' : Hp} {a : Int} {n : Nat} {vs : List V} (hv : vs = (List.range n).map fun (i : Nat) => V.int (a + (i : Int))) : Walk (Itr a n) vs.length (fun H'' => Same F' H'') (YAt vs) := by
  have W := (walk_range (lo := a) (n := n)).mono (G' := fun H'' => Same F' H'') (Y' := YAt vs) (fun _ _ => trivial) fun i H x H' hi _ y => by
    obtain ⟨rfl, rfl⟩ := y
    refine ⟨rfl, ?_⟩
    rw [hv, List.getElem?_map, List.getElem?_range hi]
    rfl
  rw [hv, List.length_map, List.length_range]
  rw [hv] at W
  exact W
theorem range_walkC {F' : Hp} {a : Int} {n : Nat} {vs : List V} (hv : vs = (List.range n).map fun (i : Nat) => V.int (a - (i : Int))) : Walk (Itc a (-1) n) vs.length (fun H'' => Same F' H'') (YAt vs) := by
  have W := (walk_rangeC (lo := a) (c := -1) (n := n)).mono (G' := fun H'' => Same F' H'') (Y' := YAt vs) (fun _ _ => trivial) fun i H x H' hi _ y => by
    obtain ⟨rfl, rfl⟩ := y
    refine ⟨rfl, ?_⟩
    rw [hv, List.getElem?_map, List.getElem?_range hi]
    show some (V.int (a - (i : Int))) = some (V.int (a + (i : Int) * -1))
    rw [show a - (i : Int) = a + (i : Int) * -1 by omega]
  rw [hv, List.length_map, List.length_range]
  rw [hv] at W
  exact W
theorem da_range {K : PySem.W.Frag} {F : Hp} (l : List Int) : DaAll K F (l.map V.int) (l.map PyData.int) := DaAll.of_ints l
section
variable {tg : Expr} {p pos : Pos}
theorem di_range1 {a : Expr} {m : M (List PD)} (hm : X.mg "range" = none) (ha : DA X E [a] m) (hg : Gl X "range" := by rfl) (hs : starEach [a] X.env = [(false, eval a X.env)] := by rfl) : DI X E tg (.Call (.Name "range" p) [a] [] pos) (mRng asRng1 m) := by
  obtain ⟨t, h1, h2⟩ := ha
  refine ⟨_, pi_range1 hg hm h1 hs, fun F0 H0 F H σ ρ q R' R h p => ?_⟩
  rcases mb_ok h with ⟨x, e1, e2⟩ | ⟨c, e1, e2⟩
  · refine h2 F0 H0 F H σ ρ _ _ R e1 fun vs F' H' g d => ?_
    unfold ml asRng1 at e2
    split at e2
    · split at e2
      · rename_i b hb
        cases e2
        cases d with
        | cons d1 d2 =>
          cases d2; cases d1
          obtain ⟨b1, b2⟩ := small_ok hb
          refine ⟨b, rfl, b1, b2, p _ _ F' H' g (da_range _) (range_walk ?_)⟩
          unfold rngI
          rw [List.map_map, Int.sub_zero]
          rfl
      · cases e2
    · cases e2
  · cases e2
    exact h2 F0 H0 F H σ ρ _ _ R e1 fun F' H' g => p F' H' g
theorem di_range2 {a b : Expr} {m : M (List PD)} (hm : X.mg "range" = none) (ha : DA X E [a, b] m) (hg : Gl X "range" := by rfl) (hs : starEach [a, b] X.env = [(false, eval a X.env), (false, eval b X.env)] := by rfl) (hs2 : starEach [b] X.env = [(false, eval b X.env)] := by rfl) :
    DI X E tg (.Call (.Name "range" p) [a, b] [] pos) (mRng asRng2 m) := by
  obtain ⟨t, h1, h2⟩ := ha
  refine ⟨_, pi_range2 hg hm h1 hs hs2, fun F0 H0 F H σ ρ q R' R h p => ?_⟩
  rcases mb_ok h with ⟨x, e1, e2⟩ | ⟨c, e1, e2⟩
  · refine h2 F0 H0 F H σ ρ _ _ R e1 fun vs F' H' g d => ?_
    unfold ml asRng2 at e2
    split at e2
    · split at e2
      · rename_i i j hb
        rw [Bool.and_eq_true] at hb
        cases e2
        cases d with
        | cons d1 d2 =>
          cases d2 with
          | cons d2 d3 =>
            cases d3; cases d1; cases d2
            obtain ⟨b1, b2⟩ := small_ok hb.1
            obtain ⟨b3, b4⟩ := small_ok hb.2
            refine ⟨i, j, rfl, ⟨b1, b2, b3, b4⟩, p _ _ F' H' g (da_range _) (range_walk ?_)⟩
            unfold rngI
            rw [List.map_map]
            rfl
      · cases e2
    · cases e2
  · cases e2
    exact h2 F0 H0 F H σ ρ _ _ R e1 fun F' H' g => p F' H' g
theorem di_range3 {a b c : Expr} {m : M (List PD)} (hm : X.mg "range" = none) (ha : DA X E [a, b, c] m) (hg : Gl X "range" := by rfl) (hs : starEach [a, b, c] X.env = (false, eval a X.env) :: starEach [b, c] X.env := by rfl) (hpl : (backTo pos (starEach [b, c] X.env)).any (·.1) = false := by rfl) :
    DI X E tg (.Call (.Name "range" p) [a, b, c] [] pos) (mRng asRng3 m) := by
  obtain ⟨t, h1, h2⟩ := ha
  refine ⟨_, pi_range3 hg hm h1 hs hpl, fun F0 H0 F H σ ρ q R' R h p => ?_⟩
  rcases mb_ok h with ⟨x, e1, e2⟩ | ⟨c, e1, e2⟩
  · refine h2 F0 H0 F H σ ρ _ _ R e1 fun vs F' H' g d => ?_
    unfold ml asRng3 at e2
    split at e2
    · split at e2
      · rename_i i j hb
        rw [Bool.and_eq_true] at hb
        cases e2
        cases d with
        | cons d1 d2 =>
          cases d2 with
          | cons d2 d3 =>
            cases d3 with
            | cons d3 d4 =>
              cases d4; cases d1; cases d2; cases d3
              obtain ⟨b1, b2⟩ := small_ok hb.1
              obtain ⟨b3, b4⟩ := small_ok hb.2
              refine ⟨i, j, -1, (i - j).toNat, rfl, RgC.neg b1 b2 b3 b4, p _ _ F' H' g (da_range _) (range_walkC ?_)⟩
              unfold dwnI
              rw [List.map_map]
              rfl
      · cases e2
    · cases e2
  · cases e2
    exact h2 F0 H0 F H σ ρ _ _ R e1 fun F' H' g => p F' H' g
def asRev : List PD → Option (List PD)
  | [.list xs] => some xs.reverse
  | _ => none
theorem di_reversed {a : Expr} {m : M (List PD)} (hm : X.mg "reversed" = none) (ha : DA X E [a] m) (hg : Gl X "reversed" := by rfl) (hs : starEach [a] X.env = [(false, eval a X.env)] := by rfl) : DI X E tg (.Call (.Name "reversed" p) [a] [] pos) (mRng asRev m) := by
  obtain ⟨t, h1, h2⟩ := ha
  refine ⟨_, pi_reversed hg hm h1 hs, fun F0 H0 F H σ ρ q R' R h p => ?_⟩
  rcases mb_ok h with ⟨x, e1, e2⟩ | ⟨c, e1, e2⟩
  · refine h2 F0 H0 F H σ ρ _ _ R e1 fun vs F' H' g d => ?_
    unfold ml asRev at e2
    split at e2
    · cases e2
      cases d with
      | cons d1 d2 =>
        cases d2
        cases d1 with
        | lst k1 k2 =>
          rename_i a us
          refine ⟨_, us, rfl, SqL.of (g.fh _ _ k1), p _ us.reverse F' H' g k2.reverse ?_⟩
          have W := (walk_rev (K := X.K) (a := a) (xs := us)).mono (G' := fun H'' => Same F' H'') (Y' := YAt us.reverse) (fun _ e => SqL.of (e _ _ k1)) fun i H x H' hi _ y =>
            ⟨y.1, by rw [List.getElem?_reverse hi]; exact y.2⟩
          rw [List.length_reverse]
          exact W
    · cases e2
  · cases e2
    exact h2 F0 H0 F H σ ρ _ _ R e1 fun F' H' g => p F' H' g
end
/-- a target of a comprehension -/
theorem pg_own {i : Nat} {x : Str} {pos : Pos} (nd : X.N.Nodup) (hi : X.N[i]? = some x := by rfl) (hx : Loc X.env.scope x := by first | exact Or.inl rfl | exact Or.inr rfl)
    (hf : X.fn x = true ∨ X.env.scope.names.lookup x = some .local := by first | exact .inl rfl | exact .inr rfl) : PG X (.Name x pos) (gName i) := pg_name nd hi hx hf

/-! ### list(range(..)), list(reversed(..)) -/
def fLR (f : List PD → Option (List PD)) : List PD → Option Rs := fun xs => (f xs).bind fun ys => some (.o (.lst ys))
def mLR (m : M PD) : M Rs := mb m fun x => ml ((asRng1 [x]).map fun ys => .o (.lst ys))
theorem dr_listRg {p p2 pos pos2 : Pos} {e : Expr} {m : M PD} (c : Cok X E k) (hm : X.mg "list" = none) (hm2 : X.mg "range" = none) (ha : DE X E e m) (hg : Gl X "list" := by rfl) (hg2 : Gl X "range" := by rfl)
    (he : starEach [e] X.env = (false, eval e X.env) :: starEach [] X.env := by rfl)
    (he2 : starEach [.Call (.Name "range" p2) [e] [] pos2] X.env = (false, eval (.Call (.Name "range" p2) [e] [] pos2) X.env) :: starEach [] X.env := by rfl) :
    DR X E (.Call (.Name "list" p) [.Call (.Name "range" p2) [e] [] pos2] [] pos) (mLR m) := by
  obtain ⟨t, h1, h2⟩ := ha
  refine ⟨_, pe_listRg c.calm hg hm (prg_1 hg2 hm2 h1 he) he2, fun F0 H0 F H σ ρ q Q R h p => ?_⟩
  rcases mb_ok h with ⟨x, e1, e2⟩ | ⟨c, e1, e2⟩
  · refine h2 F0 H0 F H σ ρ _ _ R e1 fun v F' H' g d => ?_
    unfold ml asRng1 at e2
    obtain ⟨z, ez, rfl⟩ := Option.map_eq_some_iff.mp e2
    obtain ⟨ys, ey, rfl⟩ := Option.map_eq_some_iff.mp ez
    split at ey
    · split at ey
      · rename_i b hx hb
        cases hx
        cases ey
        cases d
        have hb2 := hb
        unfold small at hb2
        simp only [Bool.and_eq_true, decide_eq_true_eq] at hb2
        refine ⟨b, rfl, ⟨by omega, by omega, by omega, by omega, by omega⟩, fun a na => ?_⟩
        have e : rgV 0 b = (rngI 0 b).map V.int := by
          unfold rgV rngI
          rw [List.map_map]
          rfl
        rw [e]
        exact new_lst g.fh na (DaAll.of_ints _) fun u F2 H2 g2 d2 => p u F2 H2 (g.trans g2) (d2.older g.h)
      · cases ey
    · cases ey
  · cases e2
    exact h2 F0 H0 F H σ ρ _ _ R e1 fun F' H' g => p F' H' g
def mRev (m : M PD) : M Rs := mb m fun x => ml ((asRev [x]).map fun ys => .o (.lst ys))
theorem dr_lstRev {p p2 pos pos2 : Pos} {e : Expr} {m : M PD} (c : Cok X E k) (hm : X.mg "list" = none) (hm2 : X.mg "reversed" = none) (ha : DE X E e m) (hg : Gl X "list" := by rfl) (hg2 : Gl X "reversed" := by rfl)
    (he : starEach [e] X.env = (false, eval e X.env) :: starEach [] X.env := by rfl)
    (he2 : starEach [.Call (.Name "reversed" p2) [e] [] pos2] X.env = (false, eval (.Call (.Name "reversed" p2) [e] [] pos2) X.env) :: starEach [] X.env := by rfl) :
    DR X E (.Call (.Name "list" p) [.Call (.Name "reversed" p2) [e] [] pos2] [] pos) (mRev m) := by
  obtain ⟨t, h1, h2⟩ := ha
  refine ⟨_, pe_lstRev c.calm hg hm hg2 hm2 h1 he he2, fun F0 H0 F H σ ρ q Q R h p => ?_⟩
  rcases mb_ok h with ⟨x, e1, e2⟩ | ⟨c, e1, e2⟩
  · refine h2 F0 H0 F H σ ρ _ _ R e1 fun v F' H' g d => ?_
    unfold ml asRev at e2
    obtain ⟨z, ez, rfl⟩ := Option.map_eq_some_iff.mp e2
    obtain ⟨ys, ey, rfl⟩ := Option.map_eq_some_iff.mp ez
    split at ey
    · rename_i xs hx
      cases hx
      cases ey
      cases d with
      | lst k1 k2 => exact ⟨_, _, rfl, SqL.of (g.fh _ _ k1), fun a na => new_lst g.fh na k2.reverse fun u F2 H2 g2 d2 => p u F2 H2 (g.trans g2) (d2.older g.h)⟩
    · cases ey
  · cases e2
    exact h2 F0 H0 F H σ ρ _ _ R e1 fun F' H' g => p F' H' g

/-! ### texts by their methods -/
def asStrs : List PD → Option (List Str)
  | [] => some []
  | .str z :: r => (asStrs r).map (z :: ·)
  | _ :: _ => none
theorem asStrs_map : ∀ ns : List Str, asStrs (ns.map PyData.str) = some ns
  | [] => rfl
  | n :: ns => by show (asStrs (ns.map PyData.str)).map (n :: ·) = _; rw [asStrs_map ns]; rfl
theorem asStrs_eq : ∀ {ds : List PD} {ns : List Str}, asStrs ds = some ns → ds = ns.map PyData.str
  | [], ns, h => by cases h; rfl
  | d :: ds, ns, h => by
    unfold asStrs at h
    split at h
    · rename_i a b; cases b
    · rename_i i r heq
      cases heq
      obtain ⟨r', e, rfl⟩ := Option.map_eq_some_iff.mp h
      rw [asStrs_eq e]; rfl
    · cases h
def asT : PD → Option Str
  | .str a => some a
  | _ => none
def mM1 (f : Str → PD → Option Rs) (a b : M PD) : M Rs := mb a fun x => mb (ml (asT x)) fun z => mb b fun y => ml (f z y)
def SndM (K : PySem.W.Frag) (r : V → List V → Hp → VK → Prop) (f : Str → PD → Option Rs) : Prop := ∀ F H a w y z Q, Same F H → Da K F w y → f a y = some z → (∀ u F' H', Grow F H F' H' → ResAt K H F' H' u z → Q u H') → r (.str a) [w] H Q
section
variable {o e : Expr} {mo me : M PD} {apos pos : Pos}
theorem dr_m1 {id : String} {name : Str} {r : V → List V → Hp → VK → Prop} {f : Str → PD → Option Rs} (slot : Slot "str" name id) (ty : typeOf (.builtin id) = pure (.type "method_descriptor")) (rule : MtR X id r) (hr : SndM X.K r f) (ho : DE X E o mo) (he : DE X E e me)
    (hs : starEach [e] X.env = [(false, eval e X.env)] := by rfl) (hbase : attributeBase o name X.env (eval o X.env) = eval o X.env := by rfl) (hline : (apos.endLine == pos.line) = true := by rfl) :
    DR X E (.Call (.Attribute o name apos) [e] [] pos) (mM1 f mo me) := by
  obtain ⟨to, h1, h2⟩ := ho
  obtain ⟨te, h3, h4⟩ := he
  refine ⟨_, pe_m1 slot ty rule h1 h3 hs hbase hline, fun F0 H0 F H σ ρ q Q R h p => ?_⟩
  rcases mb_ok h with ⟨x, e1, e2⟩ | ⟨c, e1, e2⟩
  · refine h2 F0 H0 F H σ ρ _ _ R e1 fun v F' H' g d => ?_
    rcases mb_ok e2 with ⟨a, e3, e4⟩ | ⟨c, e3, e4⟩
    · unfold ml at e3
      obtain ⟨a', ea, eq⟩ := Option.map_eq_some_iff.mp e3
      cases eq
      unfold asT at ea
      split at ea
      · cases ea
        cases d
        refine ⟨⟨_, rfl⟩, ?_⟩
        rcases mb_ok e4 with ⟨y, e5, e6⟩ | ⟨c, e5, e6⟩
        · refine h4 F0 H0 F' H' σ ρ _ _ (R.grow g) e5 fun w F2 H2 g2 d2 => ?_
          unfold ml at e6
          obtain ⟨z, ez, rfl⟩ := Option.map_eq_some_iff.mp e6
          exact hr F2 H2 _ w y z Q g2.fh d2 ez fun u F3 H3 g3 d3 => p u F3 H3 ((g.trans g2).trans g3) (d3.older (g.trans g2).h)
        · cases e6
          exact h4 F0 H0 F' H' σ ρ _ _ (R.grow g) e5 fun F2 H2 g2 => p F2 H2 (g.trans g2)
      · cases ea
    · unfold ml at e3
      obtain ⟨a', ea, eq⟩ := Option.map_eq_some_iff.mp e3
      cases eq
  · cases e2
    exact h2 F0 H0 F H σ ρ _ _ R e1 fun F' H' g => p F' H' g
def fJoin (a : Str) : PD → Option Rs
  | .list xs => (asStrs xs).bind fun ys => if (ys.map (·.length)).sum + ys.length * a.length ≤ big then some (.d (.str (Txt.join a ys))) else none
  | _ => none
def fFind (a : Str) : PD → Option Rs
  | .str b => some (.d (.int (Txt.find a b)))
  | _ => none
def fSplit (a : Str) : PD → Option Rs
  | .str b => if (b.length == 0) = false ∧ a.length + 2 ≤ big then some (.o (.lst ((Txt.split a b).map .str))) else none
  | _ => none
theorem dr_join (ho : DE X E o mo) (he : DE X E e me) (hs : starEach [e] X.env = [(false, eval e X.env)] := by rfl) (hbase : attributeBase o "join" X.env (eval o X.env) = eval o X.env := by rfl) (hline : (apos.endLine == pos.line) = true := by rfl) :
    DR X E (.Call (.Attribute o "join" apos) [e] [] pos) (mM1 fJoin mo me) :=
  dr_m1 PySem.F.slot_str_join PySem.F.type_str_join mt_join (fun F H a w y z Q e d hf p => by
    unfold fJoin at hf
    split at hf
    · obtain ⟨ys, e1, e2⟩ := Option.bind_eq_some_iff.mp hf
      split at e2
      · rename_i hz
        cases e2
        cases d with
        | lst k1 k2 =>
          rw [asStrs_eq e1] at k2
          have := DaAll.strs ys k2
          subst this
          exact ⟨a, _, ys, rfl, rfl, .inl (SqL.of (e _ _ k1)), le_line hz, p _ F H (.refl e) (.str _)⟩
      · cases e2
    · cases hf) ho he hs hbase hline
theorem dr_find (ho : DE X E o mo) (he : DE X E e me) (hs : starEach [e] X.env = [(false, eval e X.env)] := by rfl) (hbase : attributeBase o "find" X.env (eval o X.env) = eval o X.env := by rfl) (hline : (apos.endLine == pos.line) = true := by rfl) :
    DR X E (.Call (.Attribute o "find" apos) [e] [] pos) (mM1 fFind mo me) :=
  dr_m1 PySem.F.slot_str_find PySem.F.type_str_find mt_find (fun F H a w y z Q e d hf p => by
    unfold fFind at hf
    split at hf
    · cases hf
      cases d
      exact ⟨a, _, rfl, rfl, p _ F H (.refl e) (.int _)⟩
    · cases hf) ho he hs hbase hline
theorem dr_split (ho : DE X E o mo) (he : DE X E e me) (hs : starEach [e] X.env = [(false, eval e X.env)] := by rfl) (hbase : attributeBase o "split" X.env (eval o X.env) = eval o X.env := by rfl) (hline : (apos.endLine == pos.line) = true := by rfl) :
    DR X E (.Call (.Attribute o "split" apos) [e] [] pos) (mM1 fSplit mo me) :=
  dr_m1 PySem.F.slot_str_split PySem.F.type_str_split mt_split (fun F H a w y z Q e d hf p => by
    unfold fSplit at hf
    split at hf
    · split at hf
      · rename_i hz
        cases hf
        cases d
        exact ⟨a, _, rfl, rfl, hz.1, le_line hz.2, fun l nl => new_lst e nl (DaAll.of_strs _) p⟩
      · cases hf
    · cases hf) ho he hs hbase hline
end

/-! ### isinstance against a built-in type -/
def tyN : PD → Option String
  | .none => some "NoneType"
  | .bool _ => some "bool"
  | .int _ => some "int"
  | .str _ => some "str"
  | .list _ => some "list"
  | .tuple _ => some "tuple"
  | .dict _ => none
theorem Da.ty {K : PySem.W.Frag} {F H : Hp} {v : V} {x : PD} {n : String} (e : Same F H) (d : Da K F v x) (h : tyN x = some n) : TyX K H v (.type n) := by
  cases d with
  | non => cases h; exact .base .non
  | bl b => cases h; exact .base (.bl b)
  | int b => cases h; exact .base (.int b)
  | str b => cases h; exact .base (.str b)
  | lst k1 k2 => cases h; exact .base (.lst (e _ _ k1))
  | tup k1 k2 => cases h; exact .base (.tup (e _ _ k1))
  | scr k1 k2 => cases h
def fIsi (T : String) (x : PD) : Option PD := (tyN x).bind fun n => (kitB n T).map .bool
def mIsi (T : String) (m : M PD) : M PD := m1 (fIsi T) m
theorem de_isi {T : String} {tn : Str} {e : Expr} {m : M PD} {p p2 pos : Pos} (hm : X.mg "isinstance" = none) (hmT : X.mg tn = none) (hv : bootBuiltins tn = some (.type T)) (he : DE X E e m) (hg : Gl X "isinstance" := by rfl) (hgT : Gl X tn := by rfl)
    (hn : tn ≠ "__name__" := by decide) (hdb : (tn == ("__debug__" : Str)) = false := by decide)
    (hs : starEach [e, .Name tn p2] X.env = (false, eval e X.env) :: starEach [.Name tn p2] X.env := by rfl) (hs2 : starEach [.Name tn p2] X.env = (false, eval (.Name tn p2) X.env) :: starEach [] X.env := by rfl) (hpl : (backTo pos (starEach [.Name tn p2] X.env)).any (·.1) = false := by rfl) :
    DE X E (.Call (.Name "isinstance" p) [e, .Name tn p2] [] pos) (mIsi T m) := by
  obtain ⟨t, h1, h2⟩ := he
  refine ⟨_, pe_callB call_isi hg hm (by decide +kernel) (pa_cons h1 (pa_cons (pe_bltn (v := .ty T) hgT hmT hv rfl hn hdb) pa_nil hs2) hs) (by decide) (by decide) hs hpl, fun F0 H0 F H σ ρ q Q R h p => ?_⟩
  rcases mb_ok h with ⟨x, e1, e2⟩ | ⟨c, e1, e2⟩
  · refine h2 F0 H0 F H σ ρ _ _ R e1 fun v F' H' g d => ?_
    unfold ml fIsi at e2
    obtain ⟨z, ez, rfl⟩ := Option.map_eq_some_iff.mp e2
    obtain ⟨n, en, eb⟩ := Option.bind_eq_some_iff.mp ez
    obtain ⟨b, ek, rfl⟩ := Option.map_eq_some_iff.mp eb
    exact ⟨v, .ty T, .type n, .type T, b, rfl, .ty T, d.ty g.fh en, kit_ty ek, p _ F' H' g (.bl b)⟩
  · cases e2
    exact h2 F0 H0 F H σ ρ _ _ R e1 fun F' H' g => p F' H' g

/-! ### xs.index(y) of whole numbers -/
def fIndex : PD → PD → Option PD
  | .list xs, .int n => (asInts xs).bind fun ns => if ns.idxOf n < ns.length then some (.int (ns.idxOf n : Nat)) else none
  | _, _ => none

/-! ### what only a slot knows is looked at -/
def mPk {α : Type} (i : Nat) (m : M α) : M α := fun ρ => match ρ[i]? with
  | some (.o (.lst xs)) => m (ρ.set i (.d (.list xs)))
  | some (.o (.box x xs)) => m (ρ.set i (.d (.tuple [x, .list xs])))
  | _ => m ρ
/-- without what stands at ft -/
def cutH (F : Hp) (ft : List Addr) : Hp := fun b => if b ∈ ft then none else F b
theorem Grow.uncut {F H F1 F' H' : Hp} {ft : List Addr} (e : Same F H) (n : ∀ a ∈ ft, F a = none) (q : ∀ b, b ∉ ft → F1 b = F b) (s : Same F F1) (g : Grow F1 H F' H') : Grow F H (cutH F' ft) H' := by
  refine ⟨fun b o h => ?_, g.h, fun b o h => ?_, fun b h => ?_⟩
  · unfold cutH
    by_cases z : b ∈ ft
    · rw [n b z] at h; cases h
    · rw [if_neg z]; exact g.f b o (s b o h)
  · unfold cutH at h
    by_cases z : b ∈ ft
    · rw [if_pos z] at h; cases h
    · rw [if_neg z] at h; exact g.fh b o h
  · unfold cutH
    by_cases z : b ∈ ft
    · rw [if_pos z, n b z]
    · rw [if_neg z, g.n b h, q b z]
theorem Rel.peek {K : PySem.W.Frag} {F0 H0 F H : Hp} {σ : St} {ρ : List Sl} {i : Nat} {s : Ow} {x : PD} (R : Rel K F0 H0 F H σ ρ) (e : ρ[i]? = some (.o s)) (hx : Rs.data (.o s) = some x) :
    ∃ (F1 : Hp) (ft : List Addr), Rel K F0 H0 F1 H σ (ρ.set i (.d x)) ∧ Same F F1 ∧ (∀ a ∈ ft, F a = none) ∧ ∀ b, b ∉ ft → F1 b = F b := by
  obtain ⟨v, ft, es, at_, ow, _, k⟩ := R.getO e
  cases s with
  | lst xs =>
    cases hx
    obtain ⟨a, vs, rfl, rfl, h1, h2⟩ := at_
    obtain ⟨n1, _, _⟩ := ow a (by simp)
    have s1 : Same F (upd F a (.lst vs)) := Same.upd_new n1
    have off : ∀ b, b ∉ [a] → upd F a (.lst vs) b = F b := fun b hb => upd_ne (by simpa using hb)
    refine ⟨_, [a], k _ _ s1 (fun b u q => ?_) off (.lst upd_same (h2.mono s1)), s1, fun b hb => (ow b hb).1, off⟩
    by_cases z : b = a
    · subst z; rw [upd_same] at q; cases q; exact h1
    · rw [upd_ne z] at q; exact R.fh b u q
  | dic kvs => cases hx
  | box y xs =>
    cases hx
    obtain ⟨t, a, v0, vs, rfl, rfl, ne, h3, h4, h5, h6⟩ := at_
    obtain ⟨n1, _, _⟩ := ow t (by simp)
    obtain ⟨n2, _, _⟩ := ow a (by simp)
    have s1 : Same F (upd F a (.lst vs)) := Same.upd_new n2
    have s2 : Same (upd F a (.lst vs)) (upd (upd F a (.lst vs)) t (.tup [v0, .ref a])) := Same.upd_new (by rw [upd_ne ne]; exact n1)
    have s3 := s1.trans s2
    have off : ∀ b, b ∉ [t, a] → upd (upd F a (.lst vs)) t (.tup [v0, .ref a]) b = F b := fun b hb => by
      simp only [List.mem_cons, List.not_mem_nil, or_false, not_or] at hb
      rw [upd_ne hb.1, upd_ne hb.2]
    refine ⟨_, [t, a], k _ _ s3 (fun b u q => ?_) off (.tup upd_same (.cons (h4.mono s3) (.cons (.lst ?_ (h6.mono s3)) .nil))), s3, fun b hb => (ow b hb).1, off⟩
    · by_cases z : b = t
      · subst z; rw [upd_same] at q; cases q; exact h3
      · rw [upd_ne z] at q
        by_cases z2 : b = a
        · subst z2; rw [upd_same] at q; cases q; exact h5
        · rw [upd_ne z2] at q; exact R.fh b u q
    · rw [upd_ne (Ne.symm ne), upd_same]
theorem dt_pk (i : Nat) {e : Expr} {m : M Bool} (h : DT X E e m) : DT X E e (mPk i m) := by
  obtain ⟨t, h1, h2⟩ := h
  refine ⟨t, h1, fun F0 H0 F H σ ρ q Q R h p => ?_⟩
  have go : ∀ (s : Ow) (x : PD), ρ[i]? = some (.o s) → Rs.data (.o s) = some x → m (ρ.set i (.d x)) = some q → t σ H Q := fun s x e hx h => by
    obtain ⟨F1, ft, R1, s1, n1, off⟩ := R.peek e hx
    refine h2 F0 H0 F1 H σ _ q Q R1 h ?_
    cases q with
    | ok b => exact fun F' H' g => p _ H' (g.uncut R.fh n1 off s1)
    | ex c => exact fun F' H' g => p _ H' (g.uncut R.fh n1 off s1)
  unfold mPk at h
  split at h
  · rename_i xs e; exact go _ _ e rfl h
  · rename_i x xs e; exact go _ _ e rfl h
  · exact h2 F0 H0 F H σ ρ q Q R h p
/-- a value that is no object -/
def isFlat : PD → Bool
  | .none => true
  | .bool _ => true
  | .int _ => true
  | .str _ => true
  | _ => false
theorem Da.flat {K : PySem.W.Frag} {F F' : Hp} {v : V} {x : PD} (d : Da K F v x) (h : isFlat x = true) : Da K F' v x := by
  cases d with
  | non => exact .non
  | bl b => exact .bl b
  | int b => exact .int b
  | str b => exact .str b
  | lst => cases h
  | tup => cases h
  | scr => cases h
def mFl (m : M PD) : M PD := mb m fun x => ml (if isFlat x = true then some x else none)
theorem de_pk (i : Nat) {e : Expr} {m : M PD} (h : DE X E e m) : DE X E e (mPk i (mFl m)) := by
  obtain ⟨t, h1, h2⟩ := h
  have base : ∀ F0 H0 F H σ ρ r Q, Rel X.K F0 H0 F H σ ρ → mFl m ρ = some r → (∀ x, r = .ok x → isFlat x = true → ∀ v F' H', Grow F H F' H' → Da X.K F' v x → Q v H') → (∀ c, r = .ex c → ∀ F' H', Grow F H F' H' → E (.ref c) none H') → t σ H Q := by
    intro F0 H0 F H σ ρ r Q R h p1 p2
    rcases mb_ok h with ⟨x, e1, e2⟩ | ⟨c, e1, e2⟩
    · unfold ml at e2
      obtain ⟨z, ez, rfl⟩ := Option.map_eq_some_iff.mp e2
      split at ez
      · rename_i hf
        cases ez
        exact h2 F0 H0 F H σ ρ _ _ R e1 fun v F' H' g d => p1 _ rfl hf v F' H' g d
      · cases ez
    · cases e2
      exact h2 F0 H0 F H σ ρ _ _ R e1 fun F' H' g => p2 c rfl F' H' g
  refine ⟨t, h1, fun F0 H0 F H σ ρ q Q R h p => ?_⟩
  have go : ∀ (s : Ow) (x : PD), ρ[i]? = some (.o s) → Rs.data (.o s) = some x → mFl m (ρ.set i (.d x)) = some q → t σ H Q := fun s x e hx h => by
    obtain ⟨F1, ft, R1, s1, n1, off⟩ := R.peek e hx
    refine base F0 H0 F1 H σ _ q Q R1 h (fun y ey hf v F' H' g d => ?_) fun c ec F' H' g => ?_
    · subst ey; exact p v _ H' (g.uncut R.fh n1 off s1) (d.flat hf)
    · subst ec; exact p _ H' (g.uncut R.fh n1 off s1)
  unfold mPk at h
  split at h
  · rename_i xs e; exact go _ _ e rfl h
  · rename_i x xs e; exact go _ _ e rfl h
  · refine base F0 H0 F H σ ρ q Q R h (fun y ey hf v F' H' g d => ?_) fun c ec F' H' g => ?_
    · subst ey; exact p v F' H' g d
    · subst ec; exact p F' H' g
end
end DL

namespace DL
open PySem L2 DX
section
variable {X : Cx} {E : XK} {k : Nat}
/-! ### more changes of a list that only a slot knows -/
/-- xs.append(ys.pop(n)) -/
def sAppPop (i j : Nat) (m : M PD) : MS := fun ρ => match ρ[i]?, ρ[j]?, m ρ with
  | some (.o (.lst xs)), some (.o (.lst ys)), some (.ok (.int n)) => if i ≠ j ∧ 0 ≤ n ∧ xs.length < big ∧ ys.length < big then (match ys[n.toNat]? with
      | some y => some (.nx ((ρ.set j (.o (.lst (ys.eraseIdx n.toNat)))).set i (.o (.lst (xs ++ [y])))))
      | none => none) else none
  | _, _, _ => none
theorem Rel.apart {K : PySem.W.Frag} {F0 H0 F H : Hp} {σ : St} {ρ : List Sl} {i j : Nat} {xs ys : List PD} {a b : Addr} (R : Rel K F0 H0 F H σ ρ) (hij : i ≠ j) (e1 : ρ[i]? = some (.o (.lst xs))) (e2 : ρ[j]? = some (.o (.lst ys))) (q1 : σ[i]? = some (some (.ref a))) (q2 : σ[j]? = some (some (.ref b))) : a ≠ b := by
  obtain ⟨_, _, ft, h1, _, h3⟩ := R
  obtain ⟨v, ev, a', vs, ra, fa, _⟩ := h1 i _ _ e1 q1
  obtain ⟨w, ew, b', ws, rb, fb, _⟩ := h1 j _ _ e2 q2
  cases ev; cases ew; cases ra; cases rb
  intro z
  refine h3 i j hij a (by rw [fa]; simp) ?_
  rw [fb, z]
  simp
theorem ds_appPop (i j : Nat) {x y : Str} {px pa pc py pb pd pos : Pos} {e : Expr} {m : M PD} (he : DE X E e m) (hNx : X.N[i]? = some x := by rfl) (hNy : X.N[j]? = some y := by rfl)
    (hvx : Vis X.env.scope x := by first | exact Or.inl rfl | exact Or.inr (Or.inl rfl) | exact Or.inr (Or.inr rfl)) (hvy : Vis X.env.scope y := by first | exact Or.inl rfl | exact Or.inr (Or.inl rfl) | exact Or.inr (Or.inr rfl))
    (hdx : (x == ("__debug__" : Str)) = false := by decide) (hcx : (x == ("__classdict__" : Str)) = false := by decide) (hdy : (y == ("__debug__" : Str)) = false := by decide) (hcy : (y == ("__classdict__" : Str)) = false := by decide)
    (hb1 : attributeBase (.Name x px) "append" X.env (eval (.Name x px) X.env) = eval (.Name x px) X.env := by rfl)
    (hb2 : attributeBase (.Name y py) "pop" X.env (eval (.Name y py) X.env) = eval (.Name y py) X.env := by rfl)
    (hs1 : starEach [.Call (.Attribute (.Name y py) "pop" pb) [e] [] pd] X.env = (false, eval (.Call (.Attribute (.Name y py) "pop" pb) [e] [] pd) X.env) :: starEach [] X.env := by rfl)
    (hs2 : starEach [e] X.env = (false, eval e X.env) :: starEach [] X.env := by rfl)
    (hf1 : ((backTo pc (starEach [.Call (.Attribute (.Name y py) "pop" pb) [e] [] pd] X.env)).all (fun x => !x.1) && (backToKw pc (keywordEach [] X.env)).all (fun x => x.1.isSome)
      && decide ([Expr.Call (.Attribute (.Name y py) "pop" pb) [e] [] pd].length + ([] : List Keyword).length + (if ([] : List Keyword).isEmpty then 0 else 1) < 30)) = true := by rfl)
    (hf2 : ((backTo pd (starEach [e] X.env)).all (fun x => !x.1) && (backToKw pd (keywordEach [] X.env)).all (fun x => x.1.isSome)
      && decide ([e].length + ([] : List Keyword).length + (if ([] : List Keyword).isEmpty then 0 else 1) < 30)) = true := by rfl)
    (hl1 : (pa.endLine == pc.line) = true := by rfl) (hl2 : (pb.endLine == pd.line) = true := by rfl)
    (hp1 : (backTo pc (starEach ([] : List Expr) X.env)).any (·.1) = false := by rfl) (hp2 : (backTo pd (starEach ([] : List Expr) X.env)).any (·.1) = false := by rfl)
    (hsw : swapsWith (.Call (.Attribute (.Name x px) "append" pa) [.Call (.Attribute (.Name y py) "pop" pb) [e] [] pd] [] pc) none pos.line X.env = pure false := by rfl) :
    DS X E (.Expr (.Call (.Attribute (.Name x px) "append" pa) [.Call (.Attribute (.Name y py) "pop" pb) [e] [] pd] [] pc) pos) (sAppPop i j m) := by
  obtain ⟨t, h1, h2⟩ := he
  refine ⟨_, ps_expr (pe_bm PySem.F.plainAttrs_list PySem.F.slot_list_append PySem.F.type_list_append mt_append (pv i hNx hvx hdx hcx)
    (pa_cons (pe_bm PySem.F.plainAttrs_list PySem.F.slot_list_pop PySem.F.type_list_pop mt_popAt (pv j hNy hvy hdy hcy) (pa_cons h1 pa_nil hs2) hb2 hf2 hl2 hs2 hp2) pa_nil hs1) hb1 hf1 hl1 hs1 hp1) hsw, fun F0 H0 F H σ ρ r D R h p => ?_⟩
  unfold sAppPop at h
  split at h
  · rename_i xs ys n ex ey em
    split at h
    · rename_i hc
      obtain ⟨hij, h0, hz, hy⟩ := hc
      split at h
      · rename_i d ed
        cases h
        obtain ⟨v, ft, es, ⟨a, vs, rfl, rfl, q1, q2⟩, _⟩ := R.getO ex
        obtain ⟨v', ft', es', ⟨b, us, rfl, rfl, k1, k2⟩, _⟩ := R.getO ey
        have nab : a ≠ b := R.apart hij ex ey es es'
        refine ⟨.ref a, es, .inl ⟨rfl, _, SqL.of q1⟩, .ref b, es', .inl ⟨rfl, _, SqL.of k1⟩, h2 F0 H0 F H σ ρ _ _ R em fun w F' H' g dw => ?_⟩
        cases dw
        obtain ⟨u, eu, du⟩ := k2.get' ed
        have hlen : us.length = ys.length := k2.len
        have hlt : n.toNat < us.length := (List.getElem?_eq_some_iff.mp eu).1
        have R1 := R.grow g
        have hbig : n < 2 ^ 63 := by
          unfold big at hy
          omega
        refine ⟨b, us, n, n.toNat, u, rfl, rfl, g.h _ _ k1, by omega, hbig, PySem.StrLaws.seqIndex_nonneg h0 (by omega), eu, ?_⟩
        have R2 := R1.putL ey es' ((k2.mono g.f).eraseIdx n.toNat)
        have ex2 : (ρ.set j (.o (.lst (ys.eraseIdx n.toNat))))[i]? = some (.o (.lst xs)) := by rw [List.getElem?_set_ne (Ne.symm hij)]; exact ex
        refine ⟨a, vs, u, rfl, rfl, by rw [upd_ne nab]; exact g.h _ _ q1, lt_line (by rw [q2.len]; exact hz), ?_⟩
        exact p σ F' _ (R2.putL ex2 es ((q2.mono g.f).append (.cons (du.mono g.f) .nil))) g.f
      · cases h
    · cases h
  · cases h

/-- xs.pop(n), the item let go -/
def sPop (i : Nat) (m : M PD) : MS := fun ρ => match ρ[i]?, m ρ with
  | some (.o (.lst xs)), some (.ok (.int n)) => if 0 ≤ n ∧ n < xs.length ∧ xs.length < big then some (.nx (ρ.set i (.o (.lst (xs.eraseIdx n.toNat))))) else none
  | _, _ => none
theorem ds_pop (i : Nat) {x : Str} {px pa pc pos : Pos} {e : Expr} {m : M PD} (he : DE X E e m) (hN : X.N[i]? = some x := by rfl) (hv : Vis X.env.scope x := by first | exact Or.inl rfl | exact Or.inr (Or.inl rfl) | exact Or.inr (Or.inr rfl)) (hd : (x == ("__debug__" : Str)) = false := by decide)
    (hcd : (x == ("__classdict__" : Str)) = false := by decide)
    (hst : starEach [e] X.env = (false, eval e X.env) :: starEach [] X.env := by rfl)
    (hbase : attributeBase (.Name x px) "pop" X.env (eval (.Name x px) X.env) = eval (.Name x px) X.env := by rfl)
    (hfew : ((backTo pc (starEach [e] X.env)).all (fun x => !x.1) && (backToKw pc (keywordEach [] X.env)).all (fun x => x.1.isSome)
      && decide ([e].length + ([] : List Keyword).length + (if ([] : List Keyword).isEmpty then 0 else 1) < 30)) = true := by rfl)
    (hline : (pa.endLine == pc.line) = true := by rfl) (hplain : (backTo pc (starEach ([] : List Expr) X.env)).any (·.1) = false := by rfl)
    (hs : swapsWith (.Call (.Attribute (.Name x px) "pop" pa) [e] [] pc) none pos.line X.env = pure false := by rfl) :
    DS X E (.Expr (.Call (.Attribute (.Name x px) "pop" pa) [e] [] pc) pos) (sPop i m) := by
  obtain ⟨t, h1, h2⟩ := he
  refine ⟨_, ps_expr (pe_bm PySem.F.plainAttrs_list PySem.F.slot_list_pop PySem.F.type_list_pop mt_popAt (pv i hN hv hd hcd) (pa_cons h1 pa_nil hst) hbase hfew hline hst hplain) hs, fun F0 H0 F H σ ρ r D R h p => ?_⟩
  unfold sPop at h
  split at h
  · rename_i xs n ex em
    split at h
    · rename_i hc
      obtain ⟨h0, hn, hz⟩ := hc
      cases h
      obtain ⟨v, ft, es, ⟨a, vs, rfl, rfl, q1, q2⟩, _⟩ := R.getO ex
      refine ⟨.ref a, es, .inl ⟨rfl, _, SqL.of q1⟩, h2 F0 H0 F H σ ρ _ _ R em fun w F' H' g dw => ?_⟩
      cases dw
      have hlen : vs.length = xs.length := q2.len
      have hlt : n.toNat < vs.length := by omega
      have hbig : n < 2 ^ 63 := by unfold big at hz; omega
      exact ⟨a, vs, n, n.toNat, vs[n.toNat], rfl, rfl, g.h _ _ q1, by omega, hbig, PySem.StrLaws.seqIndex_nonneg h0 (by omega), List.getElem?_eq_getElem hlt,
        p σ F' _ ((R.grow g).putL ex es ((q2.mono g.f).eraseIdx n.toNat)) g.f⟩
    · cases h
  · cases h
/-- xs.clear() -/
def sClr (i : Nat) : MS := fun ρ => match ρ[i]? with
  | some (.o (.lst _)) => some (.nx (ρ.set i (.o (.lst []))))
  | _ => none
theorem ds_clr (i : Nat) {x : Str} {px pa pc pos : Pos} (hN : X.N[i]? = some x := by rfl) (hv : Vis X.env.scope x := by first | exact Or.inl rfl | exact Or.inr (Or.inl rfl) | exact Or.inr (Or.inr rfl)) (hd : (x == ("__debug__" : Str)) = false := by decide)
    (hcd : (x == ("__classdict__" : Str)) = false := by decide)
    (hbase : attributeBase (.Name x px) "clear" X.env (eval (.Name x px) X.env) = eval (.Name x px) X.env := by rfl) (hline : (pa.endLine == pc.line) = true := by rfl)
    (hs : swapsWith (.Call (.Attribute (.Name x px) "clear" pa) [] [] pc) none pos.line X.env = pure false := by rfl) :
    DS X E (.Expr (.Call (.Attribute (.Name x px) "clear" pa) [] [] pc) pos) (sClr i) := by
  refine ⟨_, ps_expr (pe_bm0 PySem.F.plainAttrs_list PySem.F.slot_list_clear PySem.F.type_list_clear mt_clear (pv i hN hv hd hcd) hbase hline) hs, fun F0 H0 F H σ ρ r D R h p => ?_⟩
  unfold sClr at h
  split at h
  · rename_i xs ex
    cases h
    obtain ⟨v, ft, es, ⟨a, vs, rfl, rfl, q1, q2⟩, _⟩ := R.getO ex
    exact ⟨.ref a, es, .inl ⟨rfl, _, SqL.of q1⟩, a, vs, rfl, rfl, q1, p σ F _ (R.putL ex es .nil) (Same.refl _)⟩
  · cases h
/-- xs[n] = y -/
def sPut (i : Nat) (mv mn : M PD) : MS := fun ρ => match ρ[i]?, mv ρ, mn ρ with
  | some (.o (.lst xs)), some (.ok y), some (.ok (.int n)) => (match ixN xs.length n with
    | some j => some (.nx (ρ.set i (.o (.lst (xs.set j y)))))
    | none => none)
  | _, _, _ => none
theorem ds_put (i : Nat) {x : Str} {px ps pos : Pos} {e n : Expr} {mv mn : M PD} (he : DE X E e mv) (hn : DE X E n mn) (hN : X.N[i]? = some x := by rfl) (hv : Vis X.env.scope x := by first | exact Or.inl rfl | exact Or.inr (Or.inl rfl) | exact Or.inr (Or.inr rfl)) (hd : (x == ("__debug__" : Str)) = false := by decide)
    (hcd : (x == ("__classdict__" : Str)) = false := by decide)
    (ha : ∀ v, assign (.Subscript (.Name x px) n ps) X.env v = (do
      let ov ← holding [v] (eval (.Name x px) X.env)
      let iv ← holding [v, ov] (eval n X.env)
      standAt ps
      holding [v, ov, iv] (setItem ov iv v)
      release [v, ov, iv] []) := by intro _; rfl)
    (hs : swapsWithSole [.Subscript (.Name x px) n ps] e pos.line X.env = pure false := by rfl) (hw : swappedStores [.Subscript (.Name x px) n ps] e X.env = pure none := by rfl)
    (h1' : (assignEach [.Subscript (.Name x px) n ps] X.env).map (·.2) = [assign (.Subscript (.Name x px) n ps) X.env] := by rfl) :
    DS X E (.Assign [.Subscript (.Name x px) n ps] e pos) (sPut i mv mn) := by
  obtain ⟨t, h1, h2⟩ := he
  obtain ⟨t', h3, h4⟩ := hn
  refine ⟨_, ps_asg h1 (pg_sub (pv i hN hv hd hcd) h3 set_list ha) hs hw h1', fun F0 H0 F H σ ρ r D R h p => ?_⟩
  unfold sPut at h
  split at h
  · rename_i xs y nn ex ey en
    split at h
    · rename_i j ej
      cases h
      obtain ⟨v, ft, es, ⟨a, vs, rfl, rfl, q1, q2⟩, _⟩ := R.getO ex
      refine h2 F0 H0 F H σ ρ _ _ R ey fun w F' H' g d => ?_
      refine ⟨.ref a, es, h4 F0 H0 F' H' σ ρ _ _ (R.grow g) en fun u F2 H2 g2 d2 => ?_⟩
      cases d2
      have G := g.trans g2
      exact ⟨a, vs, nn, j, rfl, rfl, G.h _ _ q1, by rw [q2.len]; exact ej, p σ F2 _ ((R.grow G).putL ex es (DaAll.set (d.mono g2.f) j (q2.mono G.f))) G.f⟩
    · cases h
  · cases h
/-- for x in ys: if test: return True or False; ys known to its slot alone -/
def allL (i : Nat) (mt : M Bool) (b : Bool) (ρ1 : List Sl) : List PD → List Sl → Option Out
  | [], ρ => some (.nx ρ)
  | x :: xs, ρ => if isFlat x = true then (match mt (ρ1.set i (.d x)) with
    | some (.ok c) => if c = true then some (.rt (.d (.bool b))) else allL i mt b ρ1 xs (ρ.set i (.d x))
    | _ => none) else none
def sAll (i j : Nat) (mt : M Bool) (b : Bool) : MS := fun ρ => match ρ[j]? with
  | some (.o (.lst xs)) => if i ≠ j then allL i mt b (ρ.set j (.d (.list xs))) xs ρ else none
  | _ => none
theorem ds_all (i j : Nat) {x y : Str} {px py pr pi pos : Pos} {te : Expr} {mt : M Bool} {b : Bool} {kk : Nat} {pb : Pos} (c : Cok X E k) (hp : PassesOwn (model X.prog X.w) X.A X.env X.xe) (ht : DT X E te mt)
    (hNx : X.N[i]? = some x := by rfl) (hNy : X.N[j]? = some y := by rfl) (hl : Loc X.env.scope x := by first | exact Or.inl rfl | exact Or.inr rfl)
    (hvy : Vis X.env.scope y := by first | exact Or.inl rfl | exact Or.inr (Or.inl rfl) | exact Or.inr (Or.inr rfl)) (hdy : (y == ("__debug__" : Str)) = false := by decide) (hcy : (y == ("__classdict__" : Str)) = false := by decide)
    (hf : X.fn x = true ∨ X.env.scope.names.lookup x = some .local := by first | exact .inl rfl | exact .inr rfl | assumption)
    (hs : ∀ x, foldedSetIterable (.Name y py) X.env x = pure x := by intro _; rfl) :
    DS X E (.For (.Name x px) (.Name y py) [.If te [.Return (some (.Constant (.bool b) kk pb)) pr] [] pi] [] pos) (sAll i j mt b) := by
  obtain ⟨t, h1, h2⟩ := ht
  refine ⟨_, ps_for hp c.calm (pi_list (pv j hNy hvy hdy hcy)) (pg_name c.nd hNx hl hf) (pss_one (ps_if h1 (pss_one (ps_ret pe_bl)) pss_nil)) hs, fun F0 H0 F H σ ρ r D R h p => ?_⟩
  unfold sAll at h
  split at h
  · rename_i xs ex
    split at h
    · rename_i hij
      obtain ⟨v, ft, es, ⟨a, vs, rfl, rfl, q1, q2⟩, ow, _⟩ := R.getO ex
      refine ⟨.ref a, es, a, rfl, ⟨vs, SqL.of q1⟩, ?_⟩
      refine for_list (xs := vs) (fun n σ' H' => ∃ F' ρ', Rel X.K F0 H0 F' H' σ' ρ' ∧ Same F F' ∧ Same H H' ∧ ρ'[j]? = some (.o (.lst xs)) ∧ (∀ z, ρ'.set i z = ρ.set i z) ∧ allL i mt b (ρ.set j (.d (.list xs))) (xs.drop n) ρ' = some r)
        ⟨F, ρ, R, Same.refl _, Same.refl _, ex, fun _ => rfl, h⟩ (fun n σ' H' _ ⟨F', ρ', R', _, e, _⟩ => SqL.of (e _ _ q1)) ?_ ?_
      · rintro n u σ' H' eu ⟨F', ρ', R', e1, e2, ej, er, hr⟩
        obtain ⟨d, ed, du⟩ := q2.get eu
        rw [drop_get ed] at hr
        unfold allL at hr
        split at hr
        · rename_i hfl
          have R2 := R'.setD (i := i) (du.mono e1)
          have ej2 : (ρ'.set i (.d d))[j]? = some (.o (.lst xs)) := by rw [List.getElem?_set_ne hij]; exact ej
          obtain ⟨F1, ft1, R3, s1, n1, off⟩ := R2.peek ej2 rfl
          have eρ : (ρ'.set i (.d d)).set j (.d (.list xs)) = (ρ.set j (.d (.list xs))).set i (.d d) := by
            rw [er, List.set_comm _ _ hij]
          rw [eρ] at R3
          show t (σ'.set i (some u)) H' _
          split at hr
          · rename_i cc ec
            refine h2 F0 H0 F1 H' _ _ _ _ R3 ec fun F2 H2 g => ?_
            have g2 := g.uncut R2.fh n1 off s1
            cases cc with
            | true =>
              rw [if_pos rfl] at hr ⊢
              cases hr
              exact p _ _ H2 (R2.g.trans g2) (.bl b)
            | false =>
              rw [if_neg (by decide)] at hr ⊢
              have R4 := R2.grow g2
              exact ⟨_, _, R4, e1.trans g2.f, e2.trans g2.h, ej2, fun z => by rw [List.set_set, er], hr⟩
          · cases hr
        · cases hr
      · rintro σ' H' ⟨F', ρ', R', e1, e2, ej, er, hr⟩
        rw [List.drop_eq_nil_of_le (by rw [q2.len]; exact Nat.le_refl _)] at hr
        cases hr
        exact p σ' F' H' R' e1
    · cases h
  · cases h
end
section
variable {X : Cx} {E : XK}
/-- behind a statement: what slot i alone knows is settled -/
def fixS (i : Nat) : Option Out → Option Out
  | some (.nx ρ) => (match ρ[i]? with
    | some (.o (.lst xs)) => some (.nx (ρ.set i (.d (.list xs))))
    | _ => some (.nx ρ))
  | r => r
def sFixA (i : Nat) (m : MS) : MS := fun ρ => fixS i (m ρ)
theorem ds_fixA (i : Nat) {st : Stmt} {m : MS} (h : DS X E st m) : DS X E st (sFixA i m) := by
  obtain ⟨t, h1, h2⟩ := h
  refine ⟨t, h1, fun F0 H0 F H σ ρ r D R h p => ?_⟩
  unfold sFixA fixS at h
  split at h
  · rename_i ρ' e
    split at h
    · rename_i xs ex
      cases h
      refine h2 F0 H0 F H σ ρ _ _ R e fun σ' F' H' R' q => ?_
      obtain ⟨F2, q1, R2⟩ := R'.settle ex
      exact p σ' F2 H' R2 (q.trans q1)
    · cases h
      exact h2 F0 H0 F H σ ρ _ _ R e p
  · exact h2 F0 H0 F H σ ρ r D R h p
end
/-! ### the facts of a text's top -/
abbrev GF := List PD → Option (Ro Rs)
/-- an own exception class under ValueError, without __init__ -/
structure ExT (K : PySem.W.Frag) (mg : Str → Option Value) (n : Str) (C : Addr) : Prop where
  g : mg n = some (.ref C)
  x : PySem.W.excIn K C [.type "ValueError", .type "Exception", .type "BaseException", .type "object"] "ValueError.__new__" = true
  k : PySem.W.keepIn K (.ref C) = true
  b : PySem.W.subIn K (.ref C) (.type "BaseException") = some true
  t : PySem.W.typeIn K (.ref C) = some (.type "type")
/-- the law's promise: a list of at most 63 whole numbers is handed in, True comes out -/
def spLaw (K : PySem.W.Frag) : Sp := fun vs H Q _ => ∃ (a : Addr) (ns : List Int), vs = [.ref a] ∧ SqL K H a (ns.map V.int) ∧ ns.length ≤ 63 ∧ ∀ H', Q (.bl true) H'
theorem law_imp {P : Program} {w : World} {K : PySem.W.Frag} {mg : Str → Option Value} {base : Heap} {k : Nat} {f : Addr} {fd : FuncData} {g : GF} (F : FnOk P w K mg base (L2.CX P w) k f fd ["script"] (spD K g))
    (h : ∀ ns : List Int, ns.length ≤ 63 → g [scrD ns] = some (.ok (.d (.bool true)))) : FnOk P w K mg base (L2.CX P w) k f fd ["script"] (spLaw K) :=
  F.imp fun vs H Q E ⟨a, ns, hv, hs, hl, hq⟩ => by
    subst hv
    exact ⟨H, [scrD ns], _, Same.refl _, .cons (.scr hs rfl) .nil, h ns hl, fun v F' H' g d => by cases d; exact hq H'⟩
theorem walk_law {k : Nat} {l : PySem.W.OpenLaw} {q : Program} {loose : List Str} {XP : (Str → Option Value) → Heap → Prop} {YP : World → Heap → Prop} {d : DefRec} {K : Params → PySem.W.Frag} (hn : l.most = some 63) (hdf : d.params.defaults = []) (hr : Room k callerA)
    (hY : ∀ (w : World) (h : Heap), YP w h → (K w.params).In h)
    (F : ∀ (w : World) (mg : Str → Option Value) (fa : Addr) (h : Heap), (K w.params).In h → h.Ns mainGlobals mg → mg d.name = some (.ref fa) →
      ∃ fd : FuncData, (∀ (s : Shared) (u : Value), BindsTo s fd ⟨[u], []⟩ [("script", u)]) ∧ ∀ base : Heap, (K w.params).In base → base.Ns mainGlobals mg → FnOk l.prog w (K w.params) mg base (L2.CX l.prog w) k fa fd ["script"] (spLaw (K w.params))) :
    PySem.W.WalkO q loose XP YP l.row.toRowW d [] (fun f vs => PySem.call f vs) :=
  L2.walk_of (n := 63) (k := k) (x := "script") (CX := fun w => L2.CX l.prog w) (sp := fun w => spLaw (K w.params)) hn (by decide) hdf hr hY F (fun _ _ a ns hl _ hS => ⟨a, ns, rfl, hS, hl, fun _ => rfl⟩) fun w H s e s' h => by
    obtain ⟨_, _, _, _, _, _, _, _, _, _, _, _, z⟩ := h
    exact z
end DL

/-! try .. except; statements of which nothing is told; an item of a list that only a slot knows. -/
namespace DL
open PySem L2 DX
section
variable {X : Cx} {E : XK} {k : Nat}
/-- nothing is told of these statements -/
def sAny : MS := fun _ => none
theorem dss_any {sts : List Stmt} : DSs X E sts sAny := ⟨fun _ _ _ => False, ⟨fun _ _ _ _ _ _ h => h.elim⟩, fun _ _ _ _ _ _ _ _ _ h _ => nomatch h⟩
theorem ds_any {st : Stmt} : DS X E st sAny := ⟨fun _ _ _ => False, ⟨fun _ _ _ _ _ _ h => h.elim⟩, fun _ _ _ _ _ _ _ _ _ h _ => nomatch h⟩
/-- an item of a list that only slot i knows -/
def mIxO (i : Nat) (mn : M PD) : M PD := fun ρ => match ρ[i]?, mn ρ with
  | some (.o (.lst xs)), some (.ok (.int n)) => (atI xs n).map .ok
  | _, _ => none
theorem de_ixO (i : Nat) {x : Str} {b : Expr} {px pos : Pos} {mn : M PD} (hb : DE X E b mn) (hs : PlainIx b := by exact fun _ _ => rfl) (hN : X.N[i]? = some x := by rfl) (hv : Vis X.env.scope x := by first | exact Or.inl rfl | exact Or.inr (Or.inl rfl) | exact Or.inr (Or.inr rfl))
    (hd : (x == ("__debug__" : Str)) = false := by decide) (hcd : (x == ("__classdict__" : Str)) = false := by decide) : DE X E (.Subscript (.Name x px) b pos) (mIxO i mn) := by
  obtain ⟨tb, h3, h4⟩ := hb
  refine ⟨_, pe_ix ix_list (pv i hN hv hd hcd) h3 hs, fun F0 H0 F H σ ρ q Q R h p => ?_⟩
  unfold mIxO at h
  split at h
  · rename_i xs n ex en
    obtain ⟨y, ey, rfl⟩ := Option.map_eq_some_iff.mp h
    obtain ⟨v, ft, es, ⟨a, vs, rfl, rfl, q1, q2⟩, _⟩ := R.getO ex
    refine ⟨.ref a, es, h4 F0 H0 F H σ ρ _ _ R en fun w F' H' g d => ?_⟩
    cases d
    obtain ⟨j, u, e1, e2, e3⟩ := atI_len (xs := vs) q2.len ey
    obtain ⟨y', ey', dy⟩ := q2.get e1
    rw [e2] at ey'
    cases ey'
    exact ⟨a, vs, n, u, rfl, rfl, SqL.of (g.h _ _ q1), e3, p u F' H' g (dy.mono g.f)⟩
  · cases h
end
/-! ### the exception that is caught -/
section
variable {X : Cx} {E : XK} {k : Nat}
/-- isinstance(e, T), the answer known -/
def mIsE (i : Nat) (a : Addr) (b : Bool) : M PD := fun ρ => match ρ[i]? with
  | some (.e a') => if a' = a then some (.ok (.bool b)) else none
  | _ => none
theorem isE_sound {a D : Addr} {oe : Obj} {pn : List (Addr × Obj)} {i : Nat} {x tn : Str} {p p1 p2 pos : Pos} {c : V} {cv : Value} {b : Bool} (C : ExcC X.K D) (hz : Zc (.ref D) none oe) (hf : ∃ vs, oe.data = .fields vs)
    (hT : PE (X.suite a ((a, oe) :: pn)) (.Name tn p2) (tC c)) (hc : ∀ u, RelV c u → u = cv) (hk : PySem.W.kitOne X.K (.ref D) cv = some b)
    (hm : X.mg "isinstance" = none) (hN : X.N[i]? = some x) (hv : Vis X.env.scope x) (hd : (x == ("__debug__" : Str)) = false) (hcd : (x == ("__classdict__" : Str)) = false)
    (hg : Gl X "isinstance")
    (hs : starEach [.Name x p1, .Name tn p2] X.env = (false, eval (.Name x p1) X.env) :: starEach [.Name tn p2] X.env) (hs2 : starEach [.Name tn p2] X.env = (false, eval (.Name tn p2) X.env) :: starEach [] X.env)
    (hpl : (backTo pos (starEach [.Name tn p2] X.env)).any (·.1) = false) :
    DE (X.suite a ((a, oe) :: pn)) E (.Call (.Name "isinstance" p) [.Name x p1, .Name tn p2] [] pos) (mIsE i a b) := by
  refine ⟨_, pe_callB (X := X.suite a ((a, oe) :: pn)) (call_isE C hz hf) hg hm (by decide +kernel) (pa_cons (pv i hN hv hd hcd) (pa_cons hT pa_nil hs2) hs) (by decide) (by decide) hs hpl, fun F0 H0 F H σ ρ r Q R h p => ?_⟩
  unfold mIsE at h
  split at h
  · rename_i a' e
    split at h
    · rename_i ea
      subst ea
      cases h
      exact ⟨.ref a', R.getE e, c, cv, b, rfl, hc, hk, p _ F H (.refl R.fh) (.bl b)⟩
    · cases h
  · cases h
/-- T a class of the text -/
theorem de_isE {a D C : Addr} {oe : Obj} {pn : List (Addr × Obj)} (i : Nat) {x tn : Str} {p p1 p2 pos : Pos} {b : Bool} (Z : ExcC X.K D) (hz : Zc (.ref D) none oe) (hf : ∃ vs, oe.data = .fields vs)
    (hm : X.mg "isinstance" = none) (hmT : X.mg tn = some (.ref C)) (hk : PySem.W.kitOne X.K (.ref D) (.ref C) = some b) (hgT : Gl X tn := by rfl) (hdb : (tn == ("__debug__" : Str)) = false := by decide)
    (hN : X.N[i]? = some x := by rfl) (hv : Vis X.env.scope x := by first | exact Or.inl rfl | exact Or.inr (Or.inl rfl) | exact Or.inr (Or.inr rfl)) (hd : (x == ("__debug__" : Str)) = false := by decide) (hcd : (x == ("__classdict__" : Str)) = false := by decide)
    (hg : Gl X "isinstance" := by rfl)
    (hs : starEach [.Name x p1, .Name tn p2] X.env = (false, eval (.Name x p1) X.env) :: starEach [.Name tn p2] X.env := by rfl) (hs2 : starEach [.Name tn p2] X.env = (false, eval (.Name tn p2) X.env) :: starEach [] X.env := by rfl)
    (hpl : (backTo pos (starEach [.Name tn p2] X.env)).any (·.1) = false := by rfl) :
    DE (X.suite a ((a, oe) :: pn)) E (.Call (.Name "isinstance" p) [.Name x p1, .Name tn p2] [] pos) (mIsE i a b) :=
  isE_sound (c := .ref C) (cv := .ref C) Z hz hf (pe_glob hgT hmT rfl hdb) (fun u r => r) hk hm hN hv hd hcd hg hs hs2 hpl
/-- T a built-in class -/
theorem de_isEb {a D : Addr} {oe : Obj} {pn : List (Addr × Obj)} (i : Nat) {x tn : Str} {T : String} {p p1 p2 pos : Pos} {b : Bool} (Z : ExcC X.K D) (hz : Zc (.ref D) none oe) (hf : ∃ vs, oe.data = .fields vs)
    (hm : X.mg "isinstance" = none) (hmT : X.mg tn = none) (hT : bootBuiltins tn = some (.type T)) (hk : PySem.W.kitOne X.K (.ref D) (.type T) = some b) (hgT : Gl X tn := by rfl) (hn : tn ≠ "__name__" := by decide) (hdb : (tn == ("__debug__" : Str)) = false := by decide)
    (hN : X.N[i]? = some x := by rfl) (hv : Vis X.env.scope x := by first | exact Or.inl rfl | exact Or.inr (Or.inl rfl) | exact Or.inr (Or.inr rfl)) (hd : (x == ("__debug__" : Str)) = false := by decide) (hcd : (x == ("__classdict__" : Str)) = false := by decide)
    (hg : Gl X "isinstance" := by rfl)
    (hs : starEach [.Name x p1, .Name tn p2] X.env = (false, eval (.Name x p1) X.env) :: starEach [.Name tn p2] X.env := by rfl) (hs2 : starEach [.Name tn p2] X.env = (false, eval (.Name tn p2) X.env) :: starEach [] X.env := by rfl)
    (hpl : (backTo pos (starEach [.Name tn p2] X.env)).any (·.1) = false := by rfl) :
    DE (X.suite a ((a, oe) :: pn)) E (.Call (.Name "isinstance" p) [.Name x p1, .Name tn p2] [] pos) (mIsE i a b) :=
  isE_sound (c := .ty T) (cv := .type T) Z hz hf (pe_bltn (v := .ty T) hgT hmT hT rfl hn hdb) (fun u r => r) hk hm hN hv hd hcd hg hs hs2 hpl

/-! ### try: one call, except C as e: suite -/
open Classical in
/-- what comes out whatever the exception's address is -/
noncomputable def unif (f : Addr → Option Out) : Option Out := if h : ∃ o, ∀ a, f a = some o then some h.choose else none
theorem unif_eq {f : Addr → Option Out} {o : Out} (h : ∀ a, f a = some o) : unif f = some o := by
  unfold unif
  have z : ∃ o, ∀ a, f a = some o := ⟨o, h⟩
  rw [dif_pos z]
  have := z.choose_spec 0
  rw [h 0] at this
  exact this.symm
theorem unif_at {f : Addr → Option Out} {o : Out} (h : unif f = some o) (a : Addr) : f a = some o := by
  unfold unif at h
  split at h
  · rename_i z
    cases h
    exact z.choose_spec a
  · cases h
def offE (i : Nat) : Option Out → Option Out
  | some (.nx ρ) => some (.nx (ρ.set i .no))
  | some (.rt r) => some (.rt r)
  | _ => none
def putR : Option Nat → Rs → List Sl → List Sl
  | none, _, ρ => ρ
  | some j, r, ρ => ρ.set j r.sl
/-- try: f(..), or name = f(..); cs: the classes that are caught; e is slot i's -/
noncomputable def sTry (i : Nat) (set : Option Nat) (g : List PD → Option (Ro Rs)) (ma : M (List PD)) (cs : List Addr) (suite : Addr → Addr → MS) : MS := fun ρ => match ma ρ with
  | some (.ok xs) => (match g xs with
    | some (.ok r) => some (.nx (putR set r ρ))
    | some (.ex c) => if c ∈ cs then unif fun a => offE i (suite c a (ρ.set i (.e a))) else none
    | none => none)
  | _ => none
/-- what the body of the try reads -/
def tArgs (K : PySem.W.Frag) (ma : M (List PD)) : TA := fun σ H Q => ∃ F0 H0 F ρ r, Rel K F0 H0 F H σ ρ ∧ ma ρ = some r ∧ PoA K F H Q NoE r
def tSuite (K : PySem.W.Frag) (cs : List Addr) (suite : Addr → Addr → MS) : Addr → Value → Option Addr → TS := fun a cls d D σ H =>
  ∃ c F0 H0 F ρ r, cls = .ref c ∧ c ∈ cs ∧ d = none ∧ Rel K F0 H0 F H σ ρ ∧ suite c a ρ = some r ∧ PoS K F0 H0 F D NoE r
theorem try_suite {cs : List Addr} {suite : Addr → Addr → MS} {sts : List Stmt} (hS : ∀ c ∈ cs, ∀ (a : Addr) (oe : Obj) (pn : List (Addr × Obj)), Zc (.ref c) none oe → (∃ vs, oe.data = .fields vs) → DSs (X.suite a ((a, oe) :: pn)) NoE sts (suite c a))
    (a : Addr) (oe : Obj) (cls : Value) (d : Option Addr) (pn : List (Addr × Obj)) (hz : Zc cls d oe) (hf : ∃ vs, oe.data = .fields vs) : PSs (X.suite a ((a, oe) :: pn)) sts (tSuite X.K cs suite a cls d) := by
  refine ⟨fun pins s σ H D I h => ?_⟩
  obtain ⟨c, F0, H0, F, ρ, r, rfl, hc, rfl, R, hr, p⟩ := h
  obtain ⟨t, q1, q2⟩ := hS c hc a oe pn hz hf
  exact q1.run pins s σ H D I (q2 F0 H0 F H σ ρ r D R hr p)
theorem try_args {es : List Expr} {ma : M (List PD)} {pn : List (Addr × Obj)} {xe : Value → Shared → Prop} (ha : DA (X.tr pn xe) NoE es ma) : PA (X.tr pn xe) es (tArgs X.K ma) := by
  obtain ⟨t, q1, q2⟩ := ha
  exact ⟨fun pos pins s σ H Q I ⟨F0, H0, F, ρ, r, R, h, p⟩ => q1.run pos pins s σ H Q I (q2 F0 H0 F H σ ρ r Q R h p)⟩
theorem Rel.offE {K : PySem.W.Frag} {F0 H0 F H : Hp} {σ : St} {ρ : List Sl} {i : Nat} {a : Addr} (R : Rel K F0 H0 F H σ ρ) : Rel K F0 H0 F H (σ.set i (some (.ref a))) (ρ.set i (.e a)) := R.setE
/-- what the clause wishes, from what the suite does -/
theorem try_wish {K : PySem.W.Frag} {C : Addr} {i : Nat} {cs : List Addr} {suite : Addr → Addr → MS} {F0 H0 F H F' H' : Hp} {σ : St} {ρ : List Sl} {D : Ends} {E : XK} {c : Addr} {r : Out} (hC : ∀ c ∈ cs, PySem.W.exmOne K (.ref c) (.ref C) = some true) (hc : c ∈ cs)
    (R : Rel K F0 H0 F H σ ρ) (g : Grow F H F' H') (h : (unif fun a => offE i (suite c a (ρ.set i (.e a)))) = some r) (p : PoS K F0 H0 F D E r) : wAs K (.ref C) i (tSuite K cs suite) (fun _ _ _ _ => False) D (.ref c) none σ H' := by
  refine ⟨true, hC c hc, fun _ a _ => ?_, fun z => nomatch z⟩
  have q := unif_at h a
  unfold DL.offE at q
  have R2 := (R.grow g).setE (i := i) (a := a)
  split at q
  · rename_i ρ' e
    cases q
    refine ⟨c, F0, H0, F', _, _, rfl, hc, rfl, R2, e, fun σ' F2 H2 R3 s3 => ?_⟩
    exact p _ F2 H2 R3.setN (g.f.trans s3)
  · rename_i rr e
    cases q
    exact ⟨c, F0, H0, F', _, _, rfl, hc, rfl, R2, e, p⟩
  · cases q
theorem ds_try (i : Nat) {xc n x : Str} {C : Addr} {j : Nat} {g : List PD → Option (Ro Rs)} {cs : List Addr} {suite : Addr → Addr → MS} {b₀ : Stmt} {sts : List Stmt} {np pos pos' pos2 p cp : Pos} {e : Expr} {es : List Expr} {ma : M (List PD)} (c : Cok X E k)
    (hstk : X.stack = X.env :: X.outer) (hfr : X.env.frame = some X.env.locals) (hgC : X.mg xc = some (.ref C)) (hC : ∀ c ∈ cs, PySem.W.exmOne X.K (.ref c) (.ref C) = some true)
    (hF : DefOk X.prog X.w X.K X.mg X.base x j g) (hj : j ≤ k) (ha : ∀ (pn : List (Addr × Obj)) (xe : Value → Shared → Prop), Cok (X.tr pn xe) NoE k → DA (X.tr pn xe) NoE (e :: es) ma)
    (hS : ∀ c ∈ cs, ∀ (a : Addr) (oe : Obj) (pn : List (Addr × Obj)), Zc (.ref c) none oe → (∃ vs, oe.data = .fields vs) → DSs (X.suite a ((a, oe) :: pn)) NoE (b₀ :: sts) (suite c a))
    (hi : X.N[i]? = some n := by rfl) (hln : X.env.kindOf n = some .local := by rfl) (hgx : Gl X xc := by rfl) (hdx : (xc == ("__debug__" : Str)) = false := by decide)
    (hg : Gl X x := by rfl) (hdb : (x == ("__debug__" : Str)) = false := by decide) (he : starEach (e :: es) X.env = (false, eval e X.env) :: starEach es X.env := by rfl) (hpl : (backTo cp (starEach es X.env)).any (·.1) = false := by rfl)
    (hs : swapsWith (.Call (.Name x p) (e :: es) [] cp) none pos2.line X.env = pure false := by rfl) :
    DS X E (.Try [.Expr (.Call (.Name x p) (e :: es) [] cp) pos2] [.ExceptHandler (some (.Name xc np)) (some n) (b₀ :: sts) pos'] [] [] pos) (sTry i none g ma cs suite) := by
  obtain ⟨f, fd, ps, F, hm, hk, hb⟩ := hF
  refine ⟨_, ps_try_as (i := i) (Wout := fun _ _ _ _ => False) (ts := tSuite X.K cs suite) hstk hfr c.nd hi hln ⟨hgx, hdx, .inl hgC⟩ takes0
    (fun W pn xe tk _ => pss_one (ps_expr (pe_callS (X := X.tr pn xe) (k := j) F (c.hr.mono hj) hg hm hk hb (fun σ => passAt tk σ) (try_args (ha pn xe ⟨c.calm, c.nd, takes0, c.hr⟩)) hdb he hpl) hs))
    (fun a oe cls d pn hz hf => try_suite hS a oe cls d pn hz hf), fun F0 H0 F1 H σ ρ r D R h p => ?_⟩
  unfold sTry at h
  split at h
  · rename_i xs ex
    refine ⟨F0, H0, F1, ρ, _, R, ex, fun vs F' H' gr d => ?_⟩
    show spD X.K g vs H' _ _
    split at h
    · rename_i rr eg
      cases h
      exact ⟨F', xs, _, gr.fh, d, eg, fun v F2 H2 g2 d2 => p _ F2 H2 (R.grow (gr.trans g2)) (gr.trans g2).f⟩
    · rename_i cc eg
      split at h
      · rename_i hcc
        exact ⟨F', xs, _, gr.fh, d, eg, fun F2 H2 g2 => try_wish hC hcc R (gr.trans g2) h p⟩
      · cases h
    · cases h
  · cases h
theorem ds_tryS (i l : Nat) {xc n x y : Str} {C : Addr} {j : Nat} {g : List PD → Option (Ro Rs)} {cs : List Addr} {suite : Addr → Addr → MS} {b₀ : Stmt} {sts : List Stmt} {np py pos pos' pos2 p cp : Pos} {e : Expr} {es : List Expr} {ma : M (List PD)} (c : Cok X E k)
    (hstk : X.stack = X.env :: X.outer) (hfr : X.env.frame = some X.env.locals) (hgC : X.mg xc = some (.ref C)) (hC : ∀ c ∈ cs, PySem.W.exmOne X.K (.ref c) (.ref C) = some true)
    (hF : DefOk X.prog X.w X.K X.mg X.base x j g) (hj : j ≤ k) (ha : ∀ (pn : List (Addr × Obj)) (xe : Value → Shared → Prop), Cok (X.tr pn xe) NoE k → DA (X.tr pn xe) NoE (e :: es) ma)
    (hS : ∀ c ∈ cs, ∀ (a : Addr) (oe : Obj) (pn : List (Addr × Obj)), Zc (.ref c) none oe → (∃ vs, oe.data = .fields vs) → DSs (X.suite a ((a, oe) :: pn)) NoE (b₀ :: sts) (suite c a))
    (hl : X.N[l]? = some y := by rfl) (hyl : Loc X.env.scope y := by first | exact Or.inl rfl | exact Or.inr rfl) (hyf : X.fn y = true ∨ X.env.scope.names.lookup y = some .local := by first | exact .inl rfl | exact .inr rfl | assumption)
    (hi : X.N[i]? = some n := by rfl) (hln : X.env.kindOf n = some .local := by rfl) (hgx : Gl X xc := by rfl) (hdx : (xc == ("__debug__" : Str)) = false := by decide)
    (hg : Gl X x := by rfl) (hdb : (x == ("__debug__" : Str)) = false := by decide) (he : starEach (e :: es) X.env = (false, eval e X.env) :: starEach es X.env := by rfl) (hpl : (backTo cp (starEach es X.env)).any (·.1) = false := by rfl)
    (hs : swapsWith (.Call (.Name x p) (e :: es) [] cp) (some (.Name y py)) pos2.line X.env = pure false := by rfl) :
    DS X E (.Try [.Assign [.Name y py] (.Call (.Name x p) (e :: es) [] cp) pos2] [.ExceptHandler (some (.Name xc np)) (some n) (b₀ :: sts) pos'] [] [] pos) (sTry i (some l) g ma cs suite) := by
  obtain ⟨f, fd, ps, F, hm, hk, hb⟩ := hF
  refine ⟨_, ps_try_as (i := i) (Wout := fun _ _ _ _ => False) (ts := tSuite X.K cs suite) hstk hfr c.nd hi hln ⟨hgx, hdx, .inl hgC⟩ takes0
    (fun W pn xe tk _ => pss_one (ps_set (X := X.tr pn xe) c.nd hl hyl (pe_callS (X := X.tr pn xe) (k := j) F (c.hr.mono hj) hg hm hk hb (fun σ => passAt tk σ) (try_args (ha pn xe ⟨c.calm, c.nd, takes0, c.hr⟩)) hdb he hpl) hs hyf))
    (fun a oe cls d pn hz hf => try_suite hS a oe cls d pn hz hf), fun F0 H0 F1 H σ ρ r D R h p => ?_⟩
  unfold sTry at h
  split at h
  · rename_i xs ex
    refine ⟨F0, H0, F1, ρ, _, R, ex, fun vs F' H' gr d => ?_⟩
    show spD X.K g vs H' _ _
    split at h
    · rename_i rr eg
      cases h
      refine ⟨F', xs, _, gr.fh, d, eg, fun v F2 H2 g2 d2 => ?_⟩
      cases rr with
      | d z => exact p _ F2 H2 ((R.grow (gr.trans g2)).setD d2) (gr.trans g2).f
      | o s =>
        obtain ⟨ft, k1, k2⟩ := d2
        exact p _ F2 H2 ((R.grow gr).setO g2 k1 k2) (gr.trans g2).f
    · rename_i cc eg
      split at h
      · rename_i hcc
        exact ⟨F', xs, _, gr.fh, d, eg, fun F2 H2 g2 => try_wish hC hcc R (gr.trans g2) h p⟩
      · cases h
    · cases h
  · cases h
/-- isinstance asks subtypes -/
theorem kit_ref {K : PySem.W.Frag} {D C : Addr} {b : Bool} (hd : PySem.W.hasDictIn K C = true) (ht : PySem.W.typeIn K (.ref C) = some (.type "type")) (hs : PySem.W.subIn K (.ref D) (.ref C) = some b) (hb : D = C → b = true) : PySem.W.kitOne K (.ref D) (.ref C) = some b := by
  unfold PySem.W.kitOne
  split
  · rename_i e
    have : D = C := Value.ref.inj (beq_iff_eq.mp e)
    rw [hb this]
  · obtain ⟨cd, hc, _⟩ := PySem.W.any_some hd
    have e2 : ((PySem.W.clsIn K C).isSome && PySem.W.typeIn K (.ref C) == some (.type "type")) = true := by rw [hc, ht] <;> rfl
    show (if ((PySem.W.clsIn K C).isSome && PySem.W.typeIn K (.ref C) == some (.type "type")) = true then PySem.W.subIn K (.ref D) (.ref C) else none) = some b
    rw [if_pos e2]
    exact hs
theorem kit_bt {K : PySem.W.Frag} {D : Addr} {T : String} {b : Bool} (hm : PySem.W.kitMeta T = true) (hs : PySem.W.subIn K (.ref D) (.type T) = some b) : PySem.W.kitOne K (.ref D) (.type T) = some b := by
  unfold PySem.W.kitOne
  rw [if_neg (by intro z; cases beq_iff_eq.mp z)]
  show (if PySem.W.kitMeta T = true then PySem.W.subIn K (.ref D) (.type T) else none) = some b
  rw [if_pos hm]
  exact hs
/-- an own class of the text, told apart -/
structure ClT (K : PySem.W.Frag) (mg : Str → Option Value) (n : Str) (C : Addr) : Prop where
  g : mg n = some (.ref C)
  t : PySem.W.typeIn K (.ref C) = some (.type "type")
  d : PySem.W.hasDictIn K C = true
  b : PySem.W.subIn K (.ref C) (.type "BaseException") = some true
theorem ClT.kit {K : PySem.W.Frag} {mg : Str → Option Value} {n : Str} {C D : Addr} {b : Bool} (T : ClT K mg n C) (hs : PySem.W.subIn K (.ref D) (.ref C) = some b) (hb : D = C → b = true) : PySem.W.kitOne K (.ref D) (.ref C) = some b := kit_ref T.d T.t hs hb
theorem ClT.exm {K : PySem.W.Frag} {mg : Str → Option Value} {n : Str} {C D : Addr} (T : ClT K mg n C) (hs : PySem.W.subIn K (.ref D) (.ref C) = some true) : PySem.W.exmOne K (.ref D) (.ref C) = some true := PySem.W.exm_ref T.b T.d T.t hs
end
end DL

/-! Running the text's functions over data. -/
namespace DL
open PySem L2
/-- what holds behind a loop or a block -/
def OutOk (N : List Sl → Prop) (G : Rs → Prop) : Out → Prop
  | .nx ρ => N ρ
  | .rt r => G r
  | _ => False
theorem forL_go {i : Nat} {b : MS} (I : Nat → List Sl → Prop) (G : Rs → Prop) : ∀ (xs : List PD) (n : Nat) (ρ : List Sl), I n ρ →
    (∀ k x ρ, xs[k]? = some x → I (n + k) ρ → ∃ o, b (ρ.set i (.d x)) = some o ∧ OutOk (I (n + k + 1)) G o) → ∃ o, forL i b xs ρ = some o ∧ OutOk (I (n + xs.length)) G o
  | [], n, ρ, h, _ => ⟨.nx ρ, rfl, h⟩
  | x :: xs, n, ρ, h, hs => by
    obtain ⟨o, e, ho⟩ := hs 0 x ρ rfl h
    unfold forL
    rw [e]
    cases o with
    | nx ρ' =>
      obtain ⟨o2, e2, ho2⟩ := forL_go I G xs (n + 1) ρ' ho fun k y ρ'' hy hI => by
        have z := hs (k + 1) y ρ'' hy (by rw [show n + (k + 1) = n + 1 + k by omega]; exact hI)
        rw [show n + (k + 1) + 1 = n + 1 + k + 1 by omega] at z
        exact z
      exact ⟨o2, e2, by rw [List.length_cons, show n + (xs.length + 1) = n + 1 + xs.length by omega]; exact ho2⟩
    | rt r => exact ⟨.rt r, rfl, ho⟩
    | bk _ => exact ho.elim
    | ct _ => exact ho.elim
    | ex _ => exact ho.elim
/-- a loop that runs to its end -/
theorem forL_end {i : Nat} {b : MS} {xs : List PD} {ρ : List Sl} (I : Nat → List Sl → Prop) (h0 : I 0 ρ) (hs : ∀ k x ρ, xs[k]? = some x → I k ρ → ∃ ρ', b (ρ.set i (.d x)) = some (.nx ρ') ∧ I (k + 1) ρ') : ∃ ρ', forL i b xs ρ = some (.nx ρ') ∧ I xs.length ρ' := by
  obtain ⟨o, e, ho⟩ := forL_go (i := i) (b := b) I (fun _ => False) xs 0 ρ h0 fun k x ρ hx hI => by
    rw [Nat.zero_add] at hI ⊢
    obtain ⟨ρ', e, h⟩ := hs k x ρ hx hI
    exact ⟨_, e, h⟩
  rw [Nat.zero_add] at ho
  cases o with
  | nx ρ' => exact ⟨ρ', e, ho⟩
  | rt _ => exact ho.elim
  | bk _ => exact ho.elim
  | ct _ => exact ho.elim
  | ex _ => exact ho.elim
theorem forL_at {i : Nat} {b : MS} {xs : List PD} {ρ : List Sl} {o : Option Out} (hf : forL i b xs ρ = o) (I : Nat → List Sl → Prop) (h0 : I 0 ρ) (hs : ∀ k x ρ, xs[k]? = some x → I k ρ → ∃ ρ', b (ρ.set i (.d x)) = some (.nx ρ') ∧ I (k + 1) ρ') : ∃ ρ', o = some (.nx ρ') ∧ I xs.length ρ' := by
  obtain ⟨ρ', e, h⟩ := forL_end I h0 hs
  exact ⟨ρ', by rw [← hf, e], h⟩
theorem forL_ret {i : Nat} {b : MS} {xs : List PD} {ρ : List Sl} {o : Option Out} (hf : forL i b xs ρ = o) (I : Nat → List Sl → Prop) (G : Rs → Prop) (h0 : I 0 ρ) (hs : ∀ k x ρ, xs[k]? = some x → I k ρ → ∃ o, b (ρ.set i (.d x)) = some o ∧ OutOk (I (k + 1)) G o) :
    (∃ ρ', o = some (.nx ρ') ∧ I xs.length ρ') ∨ ∃ r, o = some (.rt r) ∧ G r := by
  obtain ⟨o', e, h⟩ := forL_go (i := i) (b := b) I G xs 0 ρ h0 fun k x ρ hx hI => by rw [Nat.zero_add] at hI ⊢; exact hs k x ρ hx hI
  rw [Nat.zero_add] at h
  cases o' with
  | nx ρ' => exact .inl ⟨ρ', by rw [← hf, e], h⟩
  | rt r => exact .inr ⟨r, by rw [← hf, e], h⟩
  | bk _ => exact h.elim
  | ct _ => exact h.elim
  | ex _ => exact h.elim
theorem lcL_map {α : Type} {i : Nat} {mt : M Bool} {me : M PD} {ρ : List Sl} (f : α → PD) (t : α → Bool) (g : α → PD) : ∀ (l : List α) (acc : List PD), (∀ a ∈ l, mt (ρ.set i (.d (f a))) = some (.ok (t a))) → (∀ a ∈ l, t a = true → me (ρ.set i (.d (f a))) = some (.ok (g a))) → acc.length + l.length ≤ big →
    lcL i mt me ρ (l.map f) acc = some (acc ++ (l.filter t).map g)
  | [], acc, _, _, _ => by simp [lcL]
  | a :: l, acc, ht, hg, hl => by
    have h1 := ht a List.mem_cons_self
    rw [List.length_cons] at hl
    rw [List.map_cons, List.filter_cons]
    unfold lcL
    rw [h1]
    cases e : t a with
    | true =>
      rw [hg a List.mem_cons_self e]
      simp only [if_true]
      rw [if_pos (by omega), lcL_map f t g l (acc ++ [g a]) (fun b hb => ht b (List.mem_cons_of_mem _ hb)) (fun b hb => hg b (List.mem_cons_of_mem _ hb)) (by rw [List.length_append]; simp; omega)]
      simp
    | false =>
      simp only [Bool.false_eq_true, if_false]
      exact lcL_map f t g l acc (fun b hb => ht b (List.mem_cons_of_mem _ hb)) (fun b hb => hg b (List.mem_cons_of_mem _ hb)) (by omega)

/-! ### what each piece does, once it is applied -/
section
variable {α β : Type} {ρ : List Sl} {a b : MS} {i j n : Nat} {x y : PD}
@[simp] theorem mr_ap {x : α} : mr x ρ = some (.ok x) := rfl
@[simp] theorem ml_some {x : α} : ml (some x) ρ = some (.ok x) := rfl
theorem ml_ap {o : Option α} : ml o ρ = o.map .ok := rfl
def bS (o : Option (Ro α)) (k : α → M β) (ρ : List Sl) : Option (Ro β) := match o with | some (.ok a) => k a ρ | some (.ex c) => some (.ex c) | none => none
@[simp] theorem bS_ok {k : α → M β} {x : α} : bS (some (.ok x)) k ρ = k x ρ := rfl
@[simp] theorem bS_ex {k : α → M β} {c : Addr} : bS (some (.ex c)) k ρ = some (.ex c) := rfl
@[simp] theorem mb_ap {m : M α} {k : α → M β} : mb m k ρ = bS (m ρ) k ρ := rfl
theorem mb_go {m : M α} {k : α → M β} {x : α} (h : m ρ = some (.ok x)) : mb m k ρ = k x ρ := by rw [mb_ap, h]; rfl
def thenS (o : Option Out) (b : MS) : Option Out := match o with | some (.nx ρ') => b ρ' | r => r
@[simp] theorem thenS_nx : thenS (some (.nx ρ)) b = b ρ := rfl
@[simp] theorem thenS_rt {r : Rs} : thenS (some (.rt r)) b = some (.rt r) := rfl
@[simp] theorem thenS_ex {c : Addr} : thenS (some (.ex c)) b = some (.ex c) := rfl
@[simp] theorem thenS_bk : thenS (some (.bk ρ)) b = some (.bk ρ) := rfl
@[simp] theorem thenS_ct : thenS (some (.ct ρ)) b = some (.ct ρ) := rfl
@[simp] theorem sSeq_ap : sSeq a b ρ = thenS (a ρ) b := by
  show (match a ρ with | some (.nx ρ') => b ρ' | r => r) = _
  rfl
def ifS (o : Option (Ro Bool)) (a b : MS) (ρ : List Sl) : Option Out := match o with | some (.ok k) => if k = true then a ρ else b ρ | some (.ex c) => some (.ex c) | none => none
@[simp] theorem ifS_ok {k : Bool} : ifS (some (.ok k)) a b ρ = if k = true then a ρ else b ρ := rfl
@[simp] theorem ifS_ex {c : Addr} : ifS (some (.ex c)) a b ρ = some (.ex c) := rfl
@[simp] theorem sIf_ap {c : M Bool} : sIf c a b ρ = ifS (c ρ) a b ρ := rfl
@[simp] theorem m1_ap {f : PD → Option PD} {m : M PD} : m1 f m ρ = mb m (fun x => ml (f x)) ρ := rfl
@[simp] theorem m2_ap {f : PD → PD → Option PD} {m m' : M PD} : m2 f m m' ρ = mb m (fun x => mb m' fun y => ml (f x y)) ρ := rfl
@[simp] theorem mDat_ap {m : M Rs} : mDat m ρ = mb m (fun x => ml x.data) ρ := rfl
@[simp] theorem mRs_ap {m : M PD} : mRs m ρ = mb m (fun x => mr (.d x)) ρ := rfl
@[simp] theorem mB_ap {m : M PD} : mB m ρ = mb m (fun x => ml (asB x)) ρ := rfl
@[simp] theorem mC_ap {f : List PD → Option Rs} {m : M (List PD)} : mC f m ρ = mb m (fun x => ml (f x)) ρ := rfl
@[simp] theorem mS1_ap {f : PD → Option Rs} {m : M PD} : mS1 f m ρ = mb m (fun x => ml (f x)) ρ := rfl
@[simp] theorem mCons_ap {m : M PD} {m' : M (List PD)} : mCons m m' ρ = mb m (fun x => mb m' fun xs => mr (x :: xs)) ρ := rfl
@[simp] theorem mNil_ap : mNil ρ = some (.ok []) := rfl
@[simp] theorem mTup_ap {m : M (List PD)} : mTup m ρ = mb m (fun xs => ml (if xs.length ≤ big then some (.tuple xs) else none)) ρ := rfl
@[simp] theorem mLst_ap {m : M (List PD)} : mLst m ρ = mb m (fun xs => ml (if xs.length ≤ big then some (.o (.lst xs)) else none)) ρ := rfl
@[simp] theorem mIf_ap {c : M Bool} {m m' : M α} : mIf c m m' ρ = mb c (fun k => if k = true then m else m') ρ := rfl
@[simp] theorem mAnd_ap {c d : M Bool} : mAnd c d ρ = mb c (fun k => if k = true then d else mr false) ρ := rfl
@[simp] theorem mOr_ap {c d : M Bool} : mOr c d ρ = mb c (fun k => if k = true then mr true else d) ρ := rfl
@[simp] theorem mNot_ap {c : M Bool} : mNot c ρ = mb c (fun k => mr (!k)) ρ := rfl
@[simp] theorem mAndV_ap {c d : M PD} : mAndV c d ρ = mb (mB c) (fun k => if k = true then d else mr (.bool false)) ρ := rfl
@[simp] theorem mOrV_ap {c d : M PD} : mOrV c d ρ = mb (mB c) (fun k => if k = true then mr (.bool true) else d) ρ := rfl
@[simp] theorem mNotV_ap {c : M PD} : mNotV c ρ = mb (mB c) (fun k => mr (.bool (!k))) ρ := rfl
@[simp] theorem mChain_ap {f g : PD → PD → Option PD} {p q r : M PD} : mChain f g p q r ρ = mb p (fun x => mb q fun y => mb (ml ((f x y).bind asB)) fun k => if k = true then mb r fun z => ml (g y z) else mr (.bool false)) ρ := rfl
@[simp] theorem mPart_ap {m : M PD} : mPart m ρ = mb m (fun x => ml ((asI x).map some)) ρ := rfl
@[simp] theorem mSl_ap {p : M PD} {l h : M (Option Int)} : mSl p l h ρ = mb p (fun x => mb l fun l => mb h fun u => ml (fSl l u x)) ρ := rfl
@[simp] theorem mCall_ap {g : GF} {m : M (List PD)} : mCall g m ρ = mb m (fun xs _ => g xs) ρ := rfl
@[simp] theorem mSeq_ap {m : M PD} : mSeq m ρ = mb m (fun x => ml (asSeq x)) ρ := rfl
@[simp] theorem mRng_ap {f : List PD → Option (List PD)} {m : M (List PD)} : mRng f m ρ = mb m (fun xs => ml (f xs)) ρ := rfl
@[simp] theorem mLR_ap {m : M PD} : mLR m ρ = mb m (fun x => ml ((asRng1 [x]).map fun ys => .o (.lst ys))) ρ := rfl
@[simp] theorem mRev_ap {m : M PD} : mRev m ρ = mb m (fun x => ml ((asRev [x]).map fun ys => .o (.lst ys))) ρ := rfl
@[simp] theorem mM1_ap {f : Str → PD → Option Rs} {p q : M PD} : mM1 f p q ρ = mb p (fun x => mb (ml (asT x)) fun z => mb q fun y => ml (f z y)) ρ := rfl
@[simp] theorem mFl_ap {m : M PD} : mFl m ρ = mb m (fun x => ml (if isFlat x = true then some x else none)) ρ := rfl
@[simp] theorem mIsi_ap {T : String} {m : M PD} : mIsi T m ρ = mb m (fun x => ml (fIsi T x)) ρ := rfl
theorem mV_d (h : ρ[i]? = some (.d x)) : mV i ρ = some (.ok x) := by unfold mV; rw [h]
@[simp] theorem mV_ap : mV i ρ = match ρ[i]? with | some (.d x) => some (.ok x) | _ => none := rfl
@[simp] theorem mPk_ap {m : M α} : mPk i m ρ = match ρ[i]? with | some (.o (.lst xs)) => m (ρ.set i (.d (.list xs))) | some (.o (.box x xs)) => m (ρ.set i (.d (.tuple [x, .list xs]))) | _ => m ρ := rfl
@[simp] theorem mLc_ap {mi : M (List PD)} {mt : M Bool} {me : M PD} : mLc i mi mt me ρ = match mi ρ with | some (.ok xs) => (lcL i mt me ρ xs []).map (fun ys => .ok (.o (.lst ys))) | some (.ex c) => some (.ex c) | none => none := rfl
@[simp] theorem sNil_ap : sNil ρ = some (.nx ρ) := rfl
@[simp] theorem sBrk_ap : sBrk ρ = some (.bk ρ) := rfl
@[simp] theorem sCnt_ap : sCnt ρ = some (.ct ρ) := rfl
@[simp] theorem sRetN_ap : sRetN ρ = some (.rt (.d .none)) := rfl
@[simp] theorem sRaise_ap {c : Addr} : sRaise c ρ = some (.ex c) := rfl
@[simp] theorem sSet_ap {m : M Rs} : sSet i m ρ = match m ρ with | some (.ok r) => some (.nx (ρ.set i r.sl)) | some (.ex c) => some (.ex c) | none => none := rfl
@[simp] theorem sRet_ap {m : M Rs} : sRet m ρ = match m ρ with | some (.ok r) => some (.rt r) | some (.ex c) => some (.ex c) | none => none := rfl
@[simp] theorem sExp_ap {m : M Rs} : sExp m ρ = match m ρ with | some (.ok _) => some (.nx ρ) | some (.ex c) => some (.ex c) | none => none := rfl
@[simp] theorem sRetV_ap : sRetV i ρ = match ρ[i]? with | some (.d x) => some (.rt (.d x)) | some (.o s) => some (.rt (.o s)) | _ => none := rfl
@[simp] theorem sMove_ap : sMove i j ρ = match ρ[j]? with | some (.d x) => some (.nx (ρ.set i (.d x))) | some (.o (.lst xs)) => some (.nx ((ρ.set j (.d (.list xs))).set i (.d (.list xs)))) | _ => none := rfl
@[simp] theorem sFix_ap : sFix i a ρ = match ρ[i]? with | some (.o (.lst xs)) => a (ρ.set i (.d (.list xs))) | _ => a ρ := rfl
@[simp] theorem sFor_ap {mi : M (List PD)} : sFor i mi a ρ = match mi ρ with | some (.ok xs) => forL i a xs ρ | some (.ex c) => some (.ex c) | none => none := rfl
@[simp] theorem sApp_ap {m : M PD} : sApp i m ρ = match ρ[i]? with | some (.o (.lst xs)) => (match m ρ with | some (.ok y) => if xs.length < big then some (.nx (ρ.set i (.o (.lst (xs ++ [y]))))) else none | some (.ex c) => some (.ex c) | none => none) | _ => none := rfl
@[simp] theorem sAppPop_ap {m : M PD} : sAppPop i j m ρ = match ρ[i]?, ρ[j]?, m ρ with | some (.o (.lst xs)), some (.o (.lst ys)), some (.ok (.int n)) => if i ≠ j ∧ 0 ≤ n ∧ xs.length < big ∧ ys.length < big then (match ys[n.toNat]? with | some y => some (.nx ((ρ.set j (.o (.lst (ys.eraseIdx n.toNat)))).set i (.o (.lst (xs ++ [y]))))) | none => none) else none | _, _, _ => none := rfl
@[simp] theorem sPut_ap {mv mn : M PD} : sPut i mv mn ρ = match ρ[i]?, mv ρ, mn ρ with | some (.o (.lst xs)), some (.ok y), some (.ok (.int n)) => (match ixN xs.length n with | some j => some (.nx (ρ.set i (.o (.lst (xs.set j y))))) | none => none) | _, _, _ => none := rfl
@[simp] theorem sPop_ap {m : M PD} : sPop i m ρ = match ρ[i]?, m ρ with | some (.o (.lst xs)), some (.ok (.int n)) => if 0 ≤ n ∧ n < xs.length ∧ xs.length < big then some (.nx (ρ.set i (.o (.lst (xs.eraseIdx n.toNat))))) else none | _, _ => none := rfl
@[simp] theorem sClr_ap : sClr i ρ = match ρ[i]? with | some (.o (.lst _)) => some (.nx (ρ.set i (.o (.lst [])))) | _ => none := rfl
@[simp] theorem sAll_ap {mt : M Bool} {c : Bool} : sAll i j mt c ρ = match ρ[j]? with | some (.o (.lst xs)) => if i ≠ j then allL i mt c (ρ.set j (.d (.list xs))) xs ρ else none | _ => none := rfl
theorem defD_ap {m : MS} {ds : List PD} : defD n i m ds = if ds.length = n then finD (m (ds.map .d ++ List.replicate (i - n) .no)) else none := rfl
@[simp] theorem finD_nx : finD (some (.nx ρ)) = some (.ok (.d .none)) := rfl
@[simp] theorem finD_rt {r : Rs} : finD (some (.rt r)) = some (.ok r) := rfl
@[simp] theorem finD_ex {c : Addr} : finD (some (.ex c)) = some (.ex c) := rfl
@[simp] theorem data_d : (Rs.d x).data = some x := rfl
@[simp] theorem data_l {xs : List PD} : (Rs.o (.lst xs)).data = some (.list xs) := rfl
@[simp] theorem data_b {xs : List PD} : (Rs.o (.box x xs)).data = some (.tuple [x, .list xs]) := rfl
@[simp] theorem sl_d : (Rs.d x).sl = .d x := rfl
@[simp] theorem sl_o {s : Ow} : (Rs.o s).sl = .o s := rfl
@[simp] theorem asB_b {c : Bool} : asB (.bool c) = some c := rfl
@[simp] theorem asI_i {z : Int} : asI (.int z) = some z := rfl
@[simp] theorem asT_s {z : Str} : asT (.str z) = some z := rfl
@[simp] theorem asSeq_l {xs : List PD} : asSeq (.list xs) = some xs := rfl
@[simp] theorem asSeq_t {xs : List PD} : asSeq (.tuple xs) = some xs := rfl
@[simp] theorem asSeq_s {z : Str} : asSeq (.str z) = some (chars z) := rfl
@[simp] theorem asRev_l {xs : List PD} : asRev [.list xs] = some xs.reverse := rfl
@[simp] theorem flat_i {z : Int} : isFlat (.int z) = true := rfl
@[simp] theorem flat_b {c : Bool} : isFlat (.bool c) = true := rfl
@[simp] theorem flat_n : isFlat .none = true := rfl
@[simp] theorem flat_s {z : Str} : isFlat (.str z) = true := rfl
@[simp] theorem fLen_l {xs : List PD} : fLen [.list xs] = some (.d (.int xs.length)) := rfl
@[simp] theorem fLen_t {xs : List PD} : fLen [.tuple xs] = some (.d (.int xs.length)) := rfl
@[simp] theorem fLen_scr {ns : List Int} : fLen [scrD ns] = some (.d (.int ns.length)) := by show some (Rs.d (.int (ns.map _).length)) = _; rw [List.length_map]
@[simp] theorem fList_l {xs : List PD} : fList [.list xs] = some (.o (.lst xs)) := rfl
section
variable {p q : Int} {s t : Str}
@[simp] theorem fAdd_i : fAdd (.int p) (.int q) = some (.int (p + q)) := rfl
@[simp] theorem fAdd_l {xs ys : List PD} : fAdd (.list xs) (.list ys) = if xs.length + ys.length ≤ big then some (.list (xs ++ ys)) else none := rfl
@[simp] theorem fAdd_s : fAdd (.str s) (.str t) = if s.length + t.length ≤ big then some (.str (s ++ t)) else none := by
  show (match (if s.length + t.length ≤ big then some (PyData.str (s ++ t)) else none) with | some z => some z | none => none) = _
  split <;> simp_all
@[simp] theorem fSub_i : fSub (.int p) (.int q) = some (.int (p - q)) := rfl
theorem fMul_i : fMul (.int p) (.int q) = if mulOk p q = true then some (.int (p * q)) else none := by
  show (match (if mulOk p q = true then some (PyData.int (p * q)) else none) with | some z => some z | none => none) = _
  split <;> simp_all
theorem fDiv_i : fDiv (.int p) (.int q) = if divOk p q = true then some (.int (Int.fdiv p q)) else none := rfl
theorem fMod_i : fMod (.int p) (.int q) = if modOk p q = true then some (.int (Int.fmod p q)) else none := rfl
theorem fDiv_pos (h : 0 < q) (h2 : q < 1073741824) : fDiv (.int p) (.int q) = some (.int (p / q)) := by
  rw [fDiv_i, Int.fdiv_eq_ediv_of_nonneg _ (by omega), if_pos]
  unfold divOk
  simp only [Bool.and_eq_true, decide_eq_true_eq]
  omega
theorem fMod_pos (h : 0 < q) : fMod (.int p) (.int q) = some (.int (p % q)) := by
  rw [fMod_i, Int.fmod_eq_emod_of_nonneg _ (by omega), if_pos]
  unfold modOk
  simp only [decide_eq_true_eq]
  omega
@[simp] theorem fNeg_i : fNeg (.int p) = some (.int (-p)) := rfl
@[simp] theorem fLt_i : fLt (.int p) (.int q) = some (.bool (decide (p < q))) := rfl
@[simp] theorem fLe_i : fLe (.int p) (.int q) = some (.bool (decide (p ≤ q))) := rfl
@[simp] theorem fGt_i : fGt (.int p) (.int q) = some (.bool (decide (q < p))) := rfl
@[simp] theorem fGe_i : fGe (.int p) (.int q) = some (.bool (decide (q ≤ p))) := rfl
@[simp] theorem fIsN_n {c : Bool} : fIsN c x .none = some (.bool (if c then !isN x else isN x)) := rfl
@[simp] theorem isN_n : isN .none = true := rfl
@[simp] theorem isN_i : isN (.int p) = false := rfl
@[simp] theorem isN_l {xs : List PD} : isN (.list xs) = false := rfl
@[simp] theorem isN_t {xs : List PD} : isN (.tuple xs) = false := rfl
theorem fEq_ap (h1 : SeqAt.shaped x = true) (h2 : SeqAt.shaped y = true) : fEq x y = some (.bool (PyData.eqv x y)) := by unfold fEq; rw [h1, h2]; rfl
theorem fNe_ap (h1 : SeqAt.shaped x = true) (h2 : SeqAt.shaped y = true) : fNe x y = some (.bool (!PyData.eqv x y)) := by unfold fNe; rw [h1, h2]; rfl
theorem fIn_ap {c : Bool} {ds : List PD} (h1 : SeqAt.shaped x = true) (h2 : SeqAt.shaped (.list ds) = true) : fIn c x (.list ds) = some (.bool (if c then !(ds.any fun z => PyData.eqv z x) else ds.any fun z => PyData.eqv z x)) := by
  have e : fInL c x (.list ds) = some (.bool (if c then !(ds.any fun z => PyData.eqv z x) else ds.any fun z => PyData.eqv z x)) := by show (if (SeqAt.shaped x && SeqAt.shaped (.list ds)) = true then _ else _) = _; rw [h1, h2]; rfl
  unfold fIn orF
  rw [e]
@[simp] theorem fEq_i : fEq (.int p) (.int q) = some (.bool (decide (p = q))) := by
  rw [fEq_ap rfl rfl]
  unfold PyData.eqv
  rw [Bool.beq_eq_decide_eq]
@[simp] theorem fNe_i : fNe (.int p) (.int q) = some (.bool (!decide (p = q))) := by
  rw [fNe_ap rfl rfl]
  unfold PyData.eqv
  rw [Bool.beq_eq_decide_eq]
end
end
/-! ### shapes -/
theorem lay_all : ∀ {xs : List PD}, (∀ x ∈ xs, x.canLay0 = true) → PyData.canLayAll0 xs = true
  | [], _ => by simp [PyData.canLayAll0]
  | x :: xs, h => by simp [PyData.canLayAll0, h x List.mem_cons_self, lay_all fun y hy => h y (List.mem_cons_of_mem _ hy)]
theorem dep_all {n : Nat} : ∀ {xs : List PD}, (∀ x ∈ xs, x.depth ≤ n) → PyData.depthAll xs ≤ n
  | [], _ => by simp [PyData.depthAll]
  | x :: xs, h => by
    have h1 := h x List.mem_cons_self
    have h2 := dep_all fun y hy => h y (List.mem_cons_of_mem _ hy)
    simp only [PyData.depthAll]
    omega
/-- data that may be compared, at most n deep -/
structure Shp (n : Nat) (x : PD) : Prop where
  lay : x.canLay0 = true
  dep : x.depth ≤ n
theorem Shp.mono {n m : Nat} {x : PD} (h : Shp n x) (hm : n ≤ m) : Shp m x := ⟨h.lay, Nat.le_trans h.dep hm⟩
theorem Shp.list {n : Nat} {xs : List PD} (h : ∀ x ∈ xs, Shp n x) : Shp (n + 1) (.list xs) :=
  ⟨by simp only [PyData.canLay0]; exact lay_all fun x hx => (h x hx).lay, by simp only [PyData.depth]; have := dep_all fun x hx => (h x hx).dep; omega⟩
theorem Shp.tuple {n : Nat} {xs : List PD} (h : ∀ x ∈ xs, Shp n x) : Shp (n + 1) (.tuple xs) :=
  ⟨by simp only [PyData.canLay0]; exact lay_all fun x hx => (h x hx).lay, by simp only [PyData.depth]; have := dep_all fun x hx => (h x hx).dep; omega⟩
theorem Shp.int (i : Int) : Shp 0 (.int i) := ⟨by simp [PyData.canLay0], by simp [PyData.depth]⟩
theorem Shp.bool (i : Bool) : Shp 0 (.bool i) := ⟨by simp [PyData.canLay0], by simp [PyData.depth]⟩
theorem Shp.none : Shp 0 .none := ⟨by simp [PyData.canLay0], by simp [PyData.depth]⟩
theorem Shp.ok {n : Nat} {x : PD} (h : Shp n x) (hn : n ≤ 64 := by decide) : SeqAt.shaped x = true := by
  show (x.canLay0 && decide (x.depth ≤ 64)) = true
  rw [Bool.and_eq_true]
  exact ⟨h.lay, decide_eq_true (Nat.le_trans h.dep hn)⟩
/-- data that stands for an α, told apart by == -/
structure Enc {α : Type} [DecidableEq α] (n : Nat) (f : α → PD) : Prop where
  shp : ∀ a, Shp n (f a)
  eqv : ∀ a b, PyData.eqv (f a) (f b) = decide (a = b)
theorem eqvAll_map {α : Type} [DecidableEq α] {f : α → PD} (h : ∀ a b, PyData.eqv (f a) (f b) = decide (a = b)) : ∀ l m : List α, PyData.eqvAll (l.map f) (m.map f) = decide (l = m)
  | [], [] => by simp [PyData.eqvAll]
  | [], _ :: _ => by simp [PyData.eqvAll]
  | _ :: _, [] => by simp [PyData.eqvAll]
  | a :: l, b :: m => by
    simp only [List.map_cons, PyData.eqvAll, h, eqvAll_map h l m, List.cons.injEq]
    rw [Bool.decide_and]
theorem Enc.list {α : Type} [DecidableEq α] {n : Nat} {f : α → PD} (h : Enc n f) : Enc (n + 1) (fun l : List α => PyData.list (l.map f)) :=
  ⟨fun l => Shp.list fun x hx => by obtain ⟨a, _, rfl⟩ := List.mem_map.mp hx; exact h.shp a, fun l m => by simp only [PyData.eqv]; exact eqvAll_map h.eqv l m⟩
theorem Enc.int : Enc 0 PyData.int := ⟨Shp.int, fun a b => by unfold PyData.eqv; rw [Bool.beq_eq_decide_eq]⟩
theorem Enc.any {α : Type} [DecidableEq α] {n : Nat} {f : α → PD} (h : Enc n f) (l : List α) (a : α) : ((l.map f).any fun z => PyData.eqv z (f a)) = decide (a ∈ l) := by
  rw [List.any_map, Bool.eq_iff_iff, List.any_eq_true, decide_eq_true_eq]
  constructor
  · rintro ⟨b, hb, e⟩
    have e' : PyData.eqv (f b) (f a) = true := e
    rw [h.eqv, decide_eq_true_eq] at e'
    exact e' ▸ hb
  · intro ha
    refine ⟨a, ha, ?_⟩
    show PyData.eqv (f a) (f a) = true
    rw [h.eqv]
    simp
theorem Enc.fEq {α : Type} [DecidableEq α] {n : Nat} {f : α → PD} (h : Enc n f) (a b : α) (hn : n ≤ 64 := by decide) : fEq (f a) (f b) = some (.bool (decide (a = b))) := by rw [fEq_ap ((h.shp a).ok hn) ((h.shp b).ok hn), h.eqv]
theorem Enc.fNe {α : Type} [DecidableEq α] {n : Nat} {f : α → PD} (h : Enc n f) (a b : α) (hn : n ≤ 64 := by decide) : fNe (f a) (f b) = some (.bool (!decide (a = b))) := by rw [fNe_ap ((h.shp a).ok hn) ((h.shp b).ok hn), h.eqv]
theorem Enc.fIn {α : Type} [DecidableEq α] {n : Nat} {f : α → PD} (h : Enc n f) (c : Bool) (l : List α) (a : α) (hn : n ≤ 63 := by decide) : fIn c (f a) (.list (l.map f)) = some (.bool (if c then !decide (a ∈ l) else decide (a ∈ l))) := by
  rw [fIn_ap ((h.shp a).ok (by omega)) ((h.list.shp l).ok (by omega)), h.any]
abbrev dL (w : List Int) : PD := .list (w.map .int)
abbrev dW (ws : List (List Int)) : PD := .list (ws.map dL)
theorem encL : Enc 1 dL := Enc.int.list
theorem encW : Enc 2 dW := encL.list
theorem rngI_nat (n : Nat) : rngI 0 (n : Int) = (List.range n).map fun (i : Nat) => (i : Int) := by
  unfold rngI
  simp
theorem small_nat {n : Nat} (h : n ≤ 1000) : small (n : Int) = true := by
  unfold small
  simp only [Bool.and_eq_true, decide_eq_true_eq]
  omega
@[simp] theorem rng1_nat {n : Nat} (h : n ≤ 1000) : asRng1 [.int (n : Int)] = some ((List.range n).map fun (i : Nat) => .int (i : Int)) := by
  show (if small (n : Int) = true then _ else _) = _
  rw [if_pos (small_nat h), rngI_nat, List.map_map]
  rfl
theorem atI_lt {α : Type} {xs : List α} {k : Nat} (h : k < xs.length) : atI xs (k : Int) = some xs[k] := atI_nat (List.getElem?_eq_getElem h)
@[simp] theorem fIx_l {xs : List PD} {i : Int} : fIx (.list xs) (.int i) = atI xs i := rfl
@[simp] theorem fIx_t {xs : List PD} {i : Int} : fIx (.tuple xs) (.int i) = atI xs i := rfl
theorem fIx_scr {ns : List Int} {k : Nat} (h : k < ns.length) : fIx (scrD ns) (.int (k : Int)) = some (.int ns[k]) := by
  show (atI (ns.map fun n => ((PyData.int n : PD), (PyData.none : PD))) (k : Int)).map Prod.fst = _
  rw [atI_lt (by simpa using h)]
  simp
/-! ### loops that stop at the first item of a kind -/
def Stops : Out → Prop
  | .rt _ => True
  | .ex _ => True
  | _ => False
theorem forL_stop {i : Nat} {b : MS} {X : Out} (hX : Stops X) {x : PD} {xs : List PD} {ρ : List Sl} (h : b (ρ.set i (.d x)) = some X) : forL i b (x :: xs) ρ = some X := by
  unfold forL
  rw [h]
  cases X with
  | rt _ => rfl
  | ex _ => rfl
  | nx _ => exact hX.elim
  | bk _ => exact hX.elim
  | ct _ => exact hX.elim
theorem forL_first {α : Type} {i : Nat} {b : MS} {X : Out} (hX : Stops X) (f : α → PD) (t : α → Bool) (I : List Sl → Prop) : ∀ (l : List α) (ρ : List Sl), I ρ →
    (∀ a ∈ l, ∀ ρ, I ρ → (t a = true → b (ρ.set i (.d (f a))) = some X) ∧ (t a = false → ∃ ρ', b (ρ.set i (.d (f a))) = some (.nx ρ') ∧ I ρ')) →
    (l.any t = true ∧ forL i b (l.map f) ρ = some X) ∨ (l.any t = false ∧ ∃ ρ', forL i b (l.map f) ρ = some (.nx ρ') ∧ I ρ')
  | [], ρ, h, _ => .inr ⟨rfl, ρ, rfl, h⟩
  | a :: l, ρ, h, hs => by
    have z := hs a List.mem_cons_self ρ h
    rw [List.map_cons, List.any_cons]
    cases e : t a with
    | true => exact .inl ⟨rfl, forL_stop hX (z.1 e)⟩
    | false =>
      obtain ⟨ρ', e2, h2⟩ := z.2 e
      have e3 : forL i b (f a :: l.map f) ρ = forL i b (l.map f) ρ' := by
        rw [forL, e2]
      rw [e3, Bool.false_or]
      exact forL_first hX f t I l ρ' h2 fun a ha => hs a (List.mem_cons_of_mem _ ha)
theorem forL_firstAt {α : Type} {i : Nat} {b : MS} {X : Out} {xs : List PD} {ρ : List Sl} {o : Option Out} (hf : forL i b xs ρ = o) (l : List α) (f : α → PD) (hx : xs = l.map f) (hX : Stops X) (t : α → Bool) (I : List Sl → Prop) (h0 : I ρ)
    (hs : ∀ a ∈ l, ∀ ρ, I ρ → (t a = true → b (ρ.set i (.d (f a))) = some X) ∧ (t a = false → ∃ ρ', b (ρ.set i (.d (f a))) = some (.nx ρ') ∧ I ρ')) :
    (l.any t = true ∧ o = some X) ∨ (l.any t = false ∧ ∃ ρ', o = some (.nx ρ') ∧ I ρ') := by
  subst hx
  subst hf
  exact forL_first hX f t I l ρ h0 hs
theorem fSorted_i {ns : List Int} (h : ns.length < 64) : fSorted [dL ns] = some (.o (.lst ((sortI ns).map .int))) := by
  show ((asInts (ns.map .int)).bind _) = _
  rw [asInts_map]
  show (if ns.length < 64 then _ else _) = _
  rw [if_pos h]
theorem atI_neg {α : Type} (xs : List α) : atI xs (-1) = xs.getLast? := by
  cases e : xs.getLast? with
  | none =>
    rw [List.getLast?_eq_none_iff] at e
    subst e
    rfl
  | some v =>
    obtain ⟨ys, rfl⟩ := List.getLast?_eq_some_iff.mp e
    exact atI_last ys v
theorem atI_0 {α : Type} (xs : List α) : atI xs 0 = xs[0]? := by
  cases xs with
  | nil => rfl
  | cons x xs => exact atI_nat (j := 0) rfl
@[simp] theorem sFixA_ap {i : Nat} {m : MS} {ρ : List Sl} : sFixA i m ρ = fixS i (m ρ) := rfl
@[simp] theorem fixS_nx {i : Nat} {ρ : List Sl} : fixS i (some (.nx ρ)) = match ρ[i]? with | some (.o (.lst xs)) => some (.nx (ρ.set i (.d (.list xs)))) | _ => some (.nx ρ) := rfl
@[simp] theorem fixS_rt {i : Nat} {r : Rs} : fixS i (some (.rt r)) = some (.rt r) := rfl
@[simp] theorem fixS_ex {i : Nat} {c : Addr} : fixS i (some (.ex c)) = some (.ex c) := rfl
@[simp] theorem atI_map_lt {α β : Type} {f : α → β} {xs : List α} {k : Nat} (h : k < xs.length) : atI (xs.map f) (k : Int) = some (f xs[k]) := by
  rw [atI_lt (by simpa using h)]
  simp
@[simp] theorem atI_c0 {α : Type} {x : α} {xs : List α} : atI (x :: xs) 0 = some x := by rw [atI_0]; rfl
@[simp] theorem atI_c1 {α : Type} {x y : α} {xs : List α} : atI (x :: y :: xs) 1 = some y := atI_nat (j := 1) rfl
@[simp] theorem ml_none {α : Type} {ρ : List Sl} : ml (none : Option α) ρ = none := rfl
@[simp] theorem bS_none {α β : Type} {ρ : List Sl} {k : α → M β} : bS none k ρ = none := rfl
@[simp] theorem ifS_none {ρ : List Sl} {a b : MS} : ifS none a b ρ = none := rfl
@[simp] theorem thenS_none {b : MS} : thenS none b = none := rfl
theorem fEq_refl {x : PD} {n : Nat} (h : Shp n x) (hn : n ≤ 64 := by decide) : fEq x x = some (.bool true) := by rw [fEq_ap (h.ok hn) (h.ok hn), PySem.SeqAt.eqv_refl x h.lay]
theorem fNe_refl {x : PD} {n : Nat} (h : Shp n x) (hn : n ≤ 64 := by decide) : fNe x x = some (.bool false) := by rw [fNe_ap (h.ok hn) (h.ok hn), PySem.SeqAt.eqv_refl x h.lay]; rfl
@[simp] theorem fEq_b {a b : Bool} : fEq (.bool a) (.bool b) = some (.bool (a == b)) := by
  rw [fEq_ap rfl rfl]
  unfold PyData.eqv
  rfl
@[simp] theorem fNe_b {a b : Bool} : fNe (.bool a) (.bool b) = some (.bool (!(a == b))) := by
  rw [fNe_ap rfl rfl]
  unfold PyData.eqv
  rfl
@[simp] theorem isi_ii {z : Int} : fIsi "int" (.int z) = some (.bool true) := rfl
@[simp] theorem isi_bi {z : Int} : fIsi "bool" (.int z) = some (.bool false) := rfl
@[simp] theorem isi_bb {z : Bool} : fIsi "bool" (.bool z) = some (.bool true) := rfl
@[simp] theorem isi_ll {z : List PD} : fIsi "list" (.list z) = some (.bool true) := rfl
@[simp] theorem isi_tt {z : List PD} : fIsi "tuple" (.tuple z) = some (.bool true) := rfl
@[simp] theorem isi_ss {z : Str} : fIsi "str" (.str z) = some (.bool true) := rfl
theorem Enc.nat : Enc 0 fun (i : Nat) => PyData.int (i : Int) := ⟨fun i => Shp.int i, fun a b => by
  unfold PyData.eqv
  rw [Bool.beq_eq_decide_eq]
  exact decide_eq_decide.mpr ⟨fun h => by omega, fun h => by omega⟩⟩
theorem allL_none {i : Nat} {mt : M Bool} {c : Bool} {ρ1 : List Sl} : ∀ (xs : List PD) (ρ : List Sl), i < ρ.length → (∀ x ∈ xs, isFlat x = true ∧ mt (ρ1.set i (.d x)) = some (.ok false)) → ∃ s, allL i mt c ρ1 xs ρ = some (.nx (ρ.set i s))
  | [], ρ, hi, _ => ⟨ρ[i], by simp [allL]⟩
  | x :: xs, ρ, hi, h => by
    obtain ⟨h1, h2⟩ := h x List.mem_cons_self
    obtain ⟨s, hs⟩ := allL_none xs (ρ.set i (.d x)) (by simpa using hi) (fun y hy => h y (List.mem_cons_of_mem _ hy))
    refine ⟨s, ?_⟩
    unfold allL
    rw [if_pos h1, h2]
    show allL i mt c ρ1 xs (ρ.set i (.d x)) = _
    rw [hs, List.set_set]
@[simp] theorem rng1_2 : asRng1 [.int 2] = some [.int 0, .int 1] := rfl
@[simp] theorem forL_nil {i : Nat} {b : MS} {ρ : List Sl} : forL i b [] ρ = some (.nx ρ) := rfl
/-- one turn of a loop -/
def goS (o : Option Out) (k : MS) : Option Out := match o with
  | some (.nx ρ') => k ρ'
  | some (.ct ρ') => k ρ'
  | some (.bk ρ') => some (.nx ρ')
  | r => r
theorem forL_cons {i : Nat} {b : MS} {x : PD} {xs : List PD} {ρ : List Sl} : forL i b (x :: xs) ρ = goS (b (ρ.set i (.d x))) (forL i b xs) := rfl
@[simp] theorem goS_nx {k : MS} {ρ : List Sl} : goS (some (.nx ρ)) k = k ρ := rfl
@[simp] theorem goS_ct {k : MS} {ρ : List Sl} : goS (some (.ct ρ)) k = k ρ := rfl
@[simp] theorem goS_bk {k : MS} {ρ : List Sl} : goS (some (.bk ρ)) k = some (.nx ρ) := rfl
@[simp] theorem goS_rt {k : MS} {r : Rs} : goS (some (.rt r)) k = some (.rt r) := rfl
@[simp] theorem goS_ex {k : MS} {c : Addr} : goS (some (.ex c)) k = some (.ex c) := rfl
@[simp] theorem fEq_t2 {a b c d : Int} : fEq (.tuple [.int a, .int b]) (.tuple [.int c, .int d]) = some (.bool (decide (a = c ∧ b = d))) := by
  rw [fEq_ap rfl rfl]
  simp [PyData.eqv, PyData.eqvAll, Bool.decide_and, Bool.beq_eq_decide_eq]
@[simp] theorem fNe_t2 {a b c d : Int} : fNe (.tuple [.int a, .int b]) (.tuple [.int c, .int d]) = some (.bool (!decide (a = c ∧ b = d))) := by
  rw [fNe_ap rfl rfl]
  simp [PyData.eqv, PyData.eqvAll, Bool.decide_and, Bool.beq_eq_decide_eq]
@[simp] theorem fMax_i {p q : Int} : fMax [.int p, .int q] = some (.d (.int (if q > p then q else p))) := rfl
@[simp] theorem fMin_i {p q : Int} : fMin [.int p, .int q] = some (.d (.int (if q < p then q else p))) := rfl
@[simp] theorem mIxO_ap {i : Nat} {mn : M PD} {ρ : List Sl} : mIxO i mn ρ = match ρ[i]?, mn ρ with | some (.o (.lst xs)), some (.ok (.int n)) => (atI xs n).map .ok | _, _ => none := rfl
@[simp] theorem mIsE_ap {i : Nat} {a : Addr} {b : Bool} {ρ : List Sl} : mIsE i a b ρ = match ρ[i]? with | some (.e a') => if a' = a then some (.ok (.bool b)) else none | _ => none := rfl
@[simp] theorem offE_nx {i : Nat} {ρ : List Sl} : offE i (some (.nx ρ)) = some (.nx (ρ.set i .no)) := rfl
@[simp] theorem offE_rt {i : Nat} {r : Rs} : offE i (some (.rt r)) = some (.rt r) := rfl
theorem sTry_ok {i : Nat} {set : Option Nat} {g : GF} {ma : M (List PD)} {cs : List Addr} {suite : Addr → Addr → MS} {ρ : List Sl} {xs : List PD} {r : Rs} (h : ma ρ = some (.ok xs)) (hg : g xs = some (.ok r)) : sTry i set g ma cs suite ρ = some (.nx (putR set r ρ)) := by
  unfold sTry
  simp only [h, hg]
theorem sTry_ex {i : Nat} {set : Option Nat} {g : GF} {ma : M (List PD)} {cs : List Addr} {suite : Addr → Addr → MS} {ρ : List Sl} {xs : List PD} {c : Addr} {y : Out} (h : ma ρ = some (.ok xs)) (hg : g xs = some (.ex c)) (hc : c ∈ cs) (hy : ∀ a, offE i (suite c a (ρ.set i (.e a))) = some y) : sTry i set g ma cs suite ρ = some y := by
  unfold sTry
  simp only [h, hg]
  rw [if_pos hc]
  exact unif_eq hy
@[simp] theorem putR_none {r : Rs} {ρ : List Sl} : putR none r ρ = ρ := rfl
@[simp] theorem putR_some {j : Nat} {r : Rs} {ρ : List Sl} : putR (some j) r ρ = ρ.set j r.sl := rfl
@[simp] theorem atI_c2 {α : Type} {x y z : α} {xs : List α} : atI (x :: y :: z :: xs) 2 = some z := atI_nat (j := 2) rfl
@[simp] theorem atI_c3 {α : Type} {x y z u : α} {xs : List α} : atI (x :: y :: z :: u :: xs) 3 = some u := atI_nat (j := 3) rfl
@[simp] theorem fInt_i {p : Int} : fInt [.int p] = some (.d (.int p)) := rfl
@[simp] theorem fInt_b {b : Bool} : fInt [.bool b] = some (.d (.int (if b then 1 else 0))) := rfl
theorem fMul_l {xs : List PD} {n : Int} : fMul (.list xs) (.int n) = if xs.length * n.toNat ≤ big ∧ -1000 ≤ n ∧ n ≤ 1000 then some (.list (List.replicate n.toNat xs).flatten) else none := rfl
end DL

namespace G
open PySem L2 DL DX
def top (i : Nat) : Stmt := PySem.Challenge.pw_shelfruns_k15_each_refusal_its_own.main.body.getD i (.Pass ⟨0, 0, 0, 0⟩)
/-- the built-in names that the text leaves as they are -/
structure Blt (mg : Str → Option Value) : Prop where
  «ValueError» : mg "ValueError" = none
  «int» : mg "int" = none
  «isinstance» : mg "isinstance" = none
  «len» : mg "len" = none
  «list» : mg "list" = none
  «min» : mg "min" = none
  «range» : mg "range" = none
  «sorted» : mg "sorted" = none
def m__law_cell_at : MS :=
    (sSeq (sIf (mB (m2 fLt (mV 1) (mDat (mC fLen (mCons (mV 0) mNil))))) (sRet (mRs (m2 fIx (mV 0) (mV 1)))) sNil)
    (sRet (mRs (mr (.int 0)))))
def m__law_set : MS :=
    (sSeq (sSet 2 (mLst mNil))
    (sSeq (sFor 3 (mRng asRng1 (mCons (mV 1) mNil))
    (sSeq (sIf (mB (m2 fEq (m2 fMod (mV 0) (mr (.int 2))) (mr (.int 1)))) (sApp 2 (mV 3)) sNil)
    (sSet 0 (mRs (m2 fDiv (mV 0) (mr (.int 2)))))))
    (sRetV 2)))
def m__law_no_order : MS :=
    (sSeq (sSet 2 (mLR (mV 1)))
    (sSeq (sSet 3 (mRs (m2 fMod (m2 fDiv (mV 0) (mr (.int 4))) (mV 1))))
    (sSeq (sIf (mB (m2 fEq (m2 fMod (mV 0) (mr (.int 4))) (mr (.int 0)))) (sPut 2 (mPk 2 (mFl (m2 fAdd (m2 fIx (mV 2) (m2 fSub (mV 3) (mr (.int 1)))) (mDat (mC fInt (mCons (m2 fEq (mV 1) (mr (.int 1))) mNil)))))) (mV 3)) sNil)
    (sSeq (sIf (mB (m2 fEq (m2 fMod (mV 0) (mr (.int 4))) (mr (.int 1)))) (sPop 2 (mV 3)) sNil)
    (sSeq (sIf (mB (m2 fEq (m2 fMod (mV 0) (mr (.int 4))) (mr (.int 2)))) (sApp 2 (mV 3)) sNil)
    (sSeq (sIf (mB (m2 fEq (m2 fMod (mV 0) (mr (.int 4))) (mr (.int 3)))) (sPut 2 (m2 fIx (mDat (mLst (mCons (m1 fNeg (mr (.int 1))) (mCons (mV 1) mNil)))) (m2 fMod (m2 fDiv (mV 0) (mr (.int 40))) (mr (.int 2)))) (mV 3)) sNil)
    (sRetV 2)))))))
def m_ask (C_NoBook : Addr) : MS :=
    (sFor 2 (mSeq (mV 1))
    (sFor 3 (mSeq (mV 2))
    (sIf (mOr (mB (m2 fLt (mV 3) (mr (.int 0)))) (mB (m2 fGe (mV 3) (mV 0)))) (sRaise C_NoBook) sNil)))
def m_ask_order (C_NoOrder : Addr) : MS :=
    (sIf (mB (m2 fNe (mDat (mC fSorted (mCons (mV 1) mNil))) (mDat (mLR (mV 0))))) (sRaise C_NoOrder) sNil)
def m_together : MS :=
    (sSeq (sFixA 2 (sSet 2 (mLc 3 (mRng asRng1 (mCons (mDat (mC fLen (mCons (mV 0) mNil))) mNil)) (mB (m2 (fIn false) (m2 fIx (mV 0) (mV 3)) (mV 1))) (mV 3))))
    (sRet (mRs (mOrV (m2 fEq (mDat (mC fLen (mCons (mV 2) mNil))) (mr (.int 0))) (m2 fEq (m2 fAdd (m2 fSub (m2 fIx (mV 2) (m1 fNeg (mr (.int 1)))) (m2 fIx (mV 2) (mr (.int 0)))) (mr (.int 1))) (mDat (mC fLen (mCons (mV 2) mNil))))))))
def m_kept (g_ask : GF) (g_ask_order : GF) (g_together : GF) : MS :=
    (sSeq (sExp (mCall g_ask (mCons (mV 0) (mCons (mV 2) mNil))))
    (sSeq (sExp (mCall g_ask_order (mCons (mV 0) (mCons (mV 1) mNil))))
    (sRet (mLc 3 (mRng asRng1 (mCons (mDat (mC fLen (mCons (mV 2) mNil))) mNil)) (mB (mDat (mCall g_together (mCons (mV 1) (mCons (m2 fIx (mV 2) (mV 3)) mNil))))) (mV 3)))))
def m_following (g_ask_order : GF) (g_ask : GF) : MS :=
    (sSeq (sExp (mCall g_ask (mCons (mV 0) (mCons (mV 1) mNil))))
    (sSeq (sExp (mCall g_ask_order (mCons (mV 0) (mCons (mV 2) mNil))))
    sAny))
def m_stands (g_ask : GF) (g_ask_order : GF) (g_together : GF) : MS :=
    (sSeq (sExp (mCall g_ask (mCons (mV 0) (mCons (mDat (mLst (mCons (mV 2) mNil))) mNil))))
    (sSeq (sExp (mCall g_ask_order (mCons (mV 0) (mCons (mV 1) mNil))))
    (sRet (mCall g_together (mCons (mV 1) (mCons (mV 2) mNil))))))
def m_ask_turns (g_ask : GF) (C_NoTurn : Addr) : MS :=
    (sSeq (sExp (mCall g_ask (mCons (mV 0) (mCons (mV 1) mNil))))
    (sSeq (sExp (mCall g_ask (mCons (mV 0) (mCons (mDat (mLst (mCons (mV 2) (mCons (mV 3) mNil)))) mNil))))
    (sIf (mOr (mB (m2 fEq (m2 fIx (mV 2) (mr (.int 0))) (m2 fIx (mV 2) (mr (.int 1))))) (mB (m2 fEq (m2 fIx (mV 3) (mr (.int 0))) (m2 fIx (mV 3) (mr (.int 1)))))) (sRaise C_NoTurn) sNil)))
def m_split : MS :=
    (sSeq (sFor 4 (mSeq (mV 0))
    (sIf (mAnd (mB (m2 (fIn false) (mV 1) (mV 4))) (mAnd (mB (m2 (fIn false) (mV 3) (mV 4))) (mB (m2 (fIn true) (mV 2) (mV 4))))) (sRet (mRs (mr (.bool true)))) sNil))
    (sRet (mRs (mr (.bool false)))))
def m_barred (g_split : GF) : MS :=
    (sSeq (sIf (mAnd (mB (m2 fEq (m2 fIx (mV 1) (mr (.int 0))) (m2 fIx (mV 2) (mr (.int 1))))) (mB (m2 fEq (m2 fIx (mV 1) (mr (.int 1))) (m2 fIx (mV 2) (mr (.int 0)))))) (sRet (mRs (mr (.bool true)))) sNil)
    (sSeq (sIf (mAnd (mB (m2 fEq (m2 fIx (mV 1) (mr (.int 1))) (m2 fIx (mV 2) (mr (.int 0))))) (mB (m2 fNe (m2 fIx (mV 1) (mr (.int 0))) (m2 fIx (mV 2) (mr (.int 1)))))) (sRet (mCall g_split (mCons (mV 0) (mCons (m2 fIx (mV 1) (mr (.int 0))) (mCons (m2 fIx (mV 1) (mr (.int 1))) (mCons (m2 fIx (mV 2) (mr (.int 1))) mNil)))))) sNil)
    (sSeq (sIf (mAnd (mB (m2 fEq (m2 fIx (mV 2) (mr (.int 1))) (m2 fIx (mV 1) (mr (.int 0))))) (mB (m2 fNe (m2 fIx (mV 2) (mr (.int 0))) (m2 fIx (mV 1) (mr (.int 1)))))) (sRet (mCall g_split (mCons (mV 0) (mCons (m2 fIx (mV 2) (mr (.int 0))) (mCons (m2 fIx (mV 2) (mr (.int 1))) (mCons (m2 fIx (mV 1) (mr (.int 1))) mNil)))))) sNil)
    (sRet (mRs (mr (.bool false)))))))
def m_bar (g_ask_turns : GF) (g_barred : GF) : MS :=
    (sSeq (sExp (mCall g_ask_turns (mCons (mV 0) (mCons (mV 1) (mCons (mV 2) (mCons (mV 3) mNil))))))
    (sRet (mCall g_barred (mCons (mV 1) (mCons (mV 2) (mCons (mV 3) mNil))))))
def m_chain (g_ask_turns : GF) : MS :=
    (sSeq (sExp (mCall g_ask_turns (mCons (mV 0) (mCons (mV 1) (mCons (mV 2) (mCons (mV 3) mNil))))))
    sAny)
def m_odd_ring (g_ask : GF) : MS :=
    (sSeq (sExp (mCall g_ask (mCons (mV 0) (mCons (mV 1) mNil))))
    sAny)
def m_first (g_odd_ring : GF) : MS :=
    (sSeq (sIf (mB (m2 (fIsN true) (mDat (mCall g_odd_ring (mCons (mV 0) (mCons (mV 1) mNil)))) (mr .none))) (sRet (mRs (mr .none))) sNil)
    sAny)
def m_judged (g_odd_ring : GF) : MS :=
    (sSeq (sSet 2 (mRs (mDat (mCall g_odd_ring (mCons (mV 0) (mCons (mV 1) mNil))))))
    sAny)
def m_clash (g_odd_ring : GF) : MS :=
    (sSeq (sIf (mB (m2 (fIsN false) (mDat (mCall g_odd_ring (mCons (mV 0) (mCons (mV 1) mNil)))) (mr .none))) (sRet (mRs (mr .none))) sNil)
    sAny)
def m_shown (g_ask : GF) : MS :=
    (sSeq (sExp (mCall g_ask (mCons (mV 0) (mCons (mV 1) mNil))))
    sAny)
def m__law_asked (g_kept : GF) (g_following : GF) (g_stands : GF) (g_bar : GF) (g_chain : GF) (g_odd_ring : GF) (g_first : GF) (g_judged : GF) (g_clash : GF) (g_shown : GF) : MS :=
    (sIf (mB (m2 fEq (mV 0) (mr (.int 0)))) (sExp (mCall g_kept (mCons (mV 1) (mCons (mV 3) (mCons (mV 2) mNil))))) (sIf (mB (m2 fEq (mV 0) (mr (.int 1)))) (sExp (mCall g_following (mCons (mV 1) (mCons (mV 2) (mCons (mV 3) mNil))))) (sIf (mB (m2 fEq (mV 0) (mr (.int 2)))) (sExp (mCall g_stands (mCons (mV 1) (mCons (mV 3) (mCons (m2 fIx (mV 2) (mr (.int 0))) mNil))))) (sIf (mB (m2 fEq (mV 0) (mr (.int 3)))) (sExp (mCall g_bar (mCons (mV 1) (mCons (mV 2) (mCons (mV 4) (mCons (mV 5) mNil)))))) (sIf (mB (m2 fEq (mV 0) (mr (.int 4)))) (sExp (mCall g_bar (mCons (mV 1) (mCons (mV 2) (mCons (mV 5) (mCons (mV 4) mNil)))))) (sIf (mB (m2 fEq (mV 0) (mr (.int 5)))) (sExp (mCall g_chain (mCons (mV 1) (mCons (mV 2) (mCons (mV 4) (mCons (mV 5) mNil)))))) (sIf (mB (m2 fEq (mV 0) (mr (.int 6)))) (sExp (mCall g_chain (mCons (mV 1) (mCons (mV 2) (mCons (mV 5) (mCons (mV 4) mNil)))))) (sIf (mB (m2 fEq (mV 0) (mr (.int 7)))) (sExp (mCall g_odd_ring (mCons (mV 1) (mCons (mV 2) mNil)))) (sIf (mB (m2 fEq (mV 0) (mr (.int 8)))) (sExp (mCall g_first (mCons (mV 1) (mCons (mV 2) mNil)))) (sIf (mB (m2 fEq (mV 0) (mr (.int 9)))) (sExp (mCall g_judged (mCons (mV 1) (mCons (mV 2) mNil)))) (sIf (mB (m2 fEq (mV 0) (mr (.int 10)))) (sExp (mCall g_clash (mCons (mV 1) (mCons (mV 2) mNil)))) (sExp (mCall g_shown (mCons (mV 1) (mCons (mV 2) mNil)))))))))))))))
noncomputable def m__law_which (g__law_asked : GF) (C_NoBook : Addr) (C_NoTurn : Addr) (C_NoOrder : Addr) (C_NoWish : Addr) (C_BadLine : Addr) (C_FullShelf : Addr) : MS :=
    (sSeq (sSet 6 (mRs (mDat (mLst mNil))))
    (sSeq (sTry 7 none g__law_asked (mCons (mV 0) (mCons (mV 1) (mCons (mV 2) (mCons (mV 3) (mCons (mV 4) (mCons (mV 5) mNil)))))) [C_NoBook, C_NoTurn, C_NoOrder] (fun cc a => (sSeq (sSet 6 (mRs (mDat (mLst (mCons (mIsE 7 a (decide (cc = C_NoBook))) (mCons (mIsE 7 a (decide (cc = C_NoOrder))) (mCons (mIsE 7 a (decide (cc = C_NoTurn))) (mCons (mIsE 7 a (decide (cc = C_NoWish))) mNil))))))))
    (sSet 6 (mRs (m2 fAdd (mV 6) (mDat (mLst (mCons (mIsE 7 a (decide (cc = C_FullShelf))) (mCons (mIsE 7 a (decide (cc = C_BadLine))) (mCons (mIsE 7 a true) mNil)))))))))))
    (sRetV 6)))
def m_law (g__law_cell_at : GF) (g__law_set : GF) (g__law_no_order : GF) (g__law_which : GF) : MS :=
    (sSeq (sSet 1 (mRs (m2 fAdd (mr (.int 1)) (m2 fMod (mDat (mCall g__law_cell_at (mCons (mV 0) (mCons (mr (.int 0)) mNil)))) (mr (.int 8))))))
    (sSeq (sSet 2 (mRs (m2 fMod (mDat (mCall g__law_cell_at (mCons (mV 0) (mCons (mr (.int 5)) mNil)))) (mr (.int 3)))))
    (sSeq (sSet 3 (mRs (m2 fMod (mDat (mCall g__law_cell_at (mCons (mV 0) (mCons (mr (.int 1)) mNil)))) (mr (.int 7)))))
    (sSeq (sIf (mB (m2 fEq (mV 2) (mr (.int 0)))) (sSet 3 (mRs (m2 fAdd (mr (.int 1)) (m2 fMod (mDat (mCall g__law_cell_at (mCons (mV 0) (mCons (mr (.int 1)) mNil)))) (mr (.int 12)))))) sNil)
    (sSeq (sSet 4 (mLc 5 (mRng asRng1 (mCons (mV 3) mNil)) (mr true) (mDat (mCall g__law_set (mCons (mDat (mCall g__law_cell_at (mCons (mV 0) (mCons (m2 fAdd (mr (.int 10)) (mV 5)) mNil)))) (mCons (mV 1) mNil))))))
    (sSeq (sSet 6 (mRs (m2 fMod (mDat (mCall g__law_cell_at (mCons (mV 0) (mCons (mr (.int 2)) mNil)))) (m2 fPow (mr (.int 10)) (mr (.int 39))))))
    (sSeq (sSet 7 (mRs (m2 fIx (mDat (mLst (mCons (m1 fNeg (mr (.int 1))) (mCons (mV 1) (mCons (m2 fSub (m1 fNeg (mr (.int 1))) (mV 6)) (mCons (m2 fAdd (mV 1) (mV 6)) mNil)))))) (m2 fMod (mDat (mCall g__law_cell_at (mCons (mV 0) (mCons (mr (.int 3)) mNil)))) (mr (.int 4))))))
    (sSeq (sSet 8 (mRs (m2 fMod (mDat (mCall g__law_cell_at (mCons (mV 0) (mCons (mr (.int 4)) mNil)))) (mr (.int 12)))))
    (sSeq (sSet 9 (mRs (mDat (mCall g__law_no_order (mCons (mDat (mCall g__law_cell_at (mCons (mV 0) (mCons (mr (.int 6)) mNil)))) (mCons (mV 1) mNil))))))
    (sSeq (sSet 10 (mRs (mTup (mCons (m2 fMod (mDat (mCall g__law_cell_at (mCons (mV 0) (mCons (mr (.int 7)) mNil)))) (mV 1)) (mCons (m2 fMod (mDat (mCall g__law_cell_at (mCons (mV 0) (mCons (mr (.int 7)) mNil)))) (mV 1)) mNil)))))
    (sSeq (sSet 11 (mRs (mTup (mCons (mr (.int 0)) (mCons (mDat (mC fMin (mCons (mr (.int 1)) (mCons (m2 fSub (mV 1) (mr (.int 1))) mNil)))) mNil)))))
    (sSeq (sIf (mB (m2 fEq (m2 fMod (m2 fDiv (mDat (mCall g__law_cell_at (mCons (mV 0) (mCons (mr (.int 7)) mNil)))) (mr (.int 8))) (mr (.int 2))) (mr (.int 1)))) (sSet 11 (mRs (mTup (mCons (m2 fIx (mV 11) (mr (.int 1))) (mCons (m2 fIx (mV 11) (mr (.int 1))) mNil))))) sNil)
    (sSeq (sIf (mB (m2 fEq (mV 2) (mr (.int 0)))) (sSeq (sSet 12 (mRs (mPk 4 (mFl (m2 fMod (mDat (mCall g__law_cell_at (mCons (mV 0) (mCons (mr (.int 8)) mNil)))) (mDat (mC fLen (mCons (mV 4) mNil))))))))
    (sSeq (sSet 13 (mRs (mIxO 4 (mV 12))))
    (sSeq (sSet 14 (mRs (m2 fMod (mDat (mCall g__law_cell_at (mCons (mV 0) (mCons (mr (.int 9)) mNil)))) (m2 fAdd (mDat (mC fLen (mCons (mV 13) mNil))) (mr (.int 1))))))
    (sSeq (sPut 4 (m2 fAdd (m2 fAdd (mDat (mSl (mV 13) (mr none) (mPart (mV 14)))) (mDat (mLst (mCons (mV 7) mNil)))) (mDat (mSl (mV 13) (mPart (mV 14)) (mr none)))) (mV 12))
    (sSeq (sIf (mB (m2 fEq (mV 8) (mr (.int 2)))) (sPut 4 (mIxO 4 (mV 12)) (mr (.int 0))) sNil)
    (sRet (mRs (mPk 4 (mFl (m2 fEq (mDat (mCall g__law_which (mCons (mV 8) (mCons (mV 1) (mCons (mV 4) (mCons (mV 9) (mCons (mV 10) (mCons (mV 11) mNil)))))))) (m2 fAdd (m2 fAdd (mDat (mLst (mCons (mr (.bool true)) mNil))) (m2 fMul (mDat (mLst (mCons (mr (.bool false)) mNil))) (mr (.int 5)))) (mDat (mLst (mCons (mr (.bool true)) mNil)))))))))))))) sNil)
    (sSeq (sIf (mB (m2 fEq (mV 2) (mr (.int 1)))) (sSeq (sSet 10 (mRs (m2 fIx (mDat (mLst (mCons (mTup (mCons (mV 7) (mCons (m2 fIx (mV 10) (mr (.int 0))) mNil))) (mCons (mTup (mCons (m2 fIx (mV 10) (mr (.int 0))) (mCons (mV 7) mNil))) (mCons (mTup (mCons (mV 7) (mCons (mV 7) mNil))) mNil))))) (m2 fMod (mDat (mCall g__law_cell_at (mCons (mV 0) (mCons (mr (.int 8)) mNil)))) (mr (.int 3))))))
    (sRet (mRs (mPk 4 (mFl (m2 fEq (mDat (mCall g__law_which (mCons (m2 fAdd (mr (.int 3)) (m2 fMod (mV 8) (mr (.int 4)))) (mCons (mV 1) (mCons (mV 4) (mCons (mV 9) (mCons (mV 10) (mCons (mV 11) mNil)))))))) (m2 fAdd (m2 fAdd (mDat (mLst (mCons (mr (.bool true)) mNil))) (m2 fMul (mDat (mLst (mCons (mr (.bool false)) mNil))) (mr (.int 5)))) (mDat (mLst (mCons (mr (.bool true)) mNil)))))))))) sNil)
    (sSeq (sIf (mB (m2 fLt (mV 8) (mr (.int 6)))) (sSeq (sSet 8 (mRs (m2 fMod (mV 8) (mr (.int 3)))))
    (sFix 4 (sSeq (sSet 4 (mRs (m2 fAdd (mV 4) (m2 fMul (mDat (mLst (mCons (mDat (mLst mNil)) mNil))) (mDat (mC fInt (mCons (m2 fEq (mV 8) (mr (.int 2))) mNil)))))))
    (sRet (mRs (m2 fEq (mDat (mCall g__law_which (mCons (mV 8) (mCons (mV 1) (mCons (mV 4) (mCons (mV 9) (mCons (mV 10) (mCons (mV 11) mNil)))))))) (m2 fAdd (m2 fAdd (mDat (mLst (mCons (mr (.bool false)) (mCons (mr (.bool true)) mNil)))) (m2 fMul (mDat (mLst (mCons (mr (.bool false)) mNil))) (mr (.int 4)))) (mDat (mLst (mCons (mr (.bool true)) mNil)))))))))) sNil)
    (sRet (mRs (mPk 4 (mFl (m2 fEq (mDat (mCall g__law_which (mCons (m2 fAdd (mr (.int 3)) (m2 fMod (mV 8) (mr (.int 4)))) (mCons (mV 1) (mCons (mV 4) (mCons (mV 9) (mCons (mV 10) (mCons (mV 11) mNil)))))))) (m2 fAdd (m2 fAdd (mDat (mLst (mCons (mr (.bool false)) (mCons (mr (.bool false)) (mCons (mr (.bool true)) mNil))))) (m2 fMul (mDat (mLst (mCons (mr (.bool false)) mNil))) (mr (.int 3)))) (mDat (mLst (mCons (mr (.bool true)) mNil))))))))))))))))))))))))
section
variable {P : Program} {w : World} {K : PySem.W.Frag} {mg : Str → Option Value} {base : Heap}
abbrev s__law_cell_at : Stmt := top 36
theorem sc__law_cell_at : FnScope ["script", "k"] ["script", "k"] (defScope s__law_cell_at) := ⟨rfl, rfl, rfl, by decide +kernel, rfl, by decide +kernel, by decide +kernel⟩
theorem fn__law_cell_at {f : Addr} {fd : FuncData} (F : Fun K "_law_cell_at" "_law_cell_at" s__law_cell_at f fd) (B : Blt mg) : FnOk P w K mg base (L2.CX P w) 1 f fd ["script", "k"] (spD K (defD 2 2 (m__law_cell_at))) :=
  def_fn F sc__law_cell_at rfl rfl fun cdv A outer s H E c hp => by
    unfold m__law_cell_at
    exact (dss_cons (ds_if (dt_lt (dv 1) ((dr_len B.len (da_cons (dv 0) da_nil))).e) (dss_one (ds_ret ((de_ix (dv 0) (dv 1))).r)) dss_nil)
    (dss_one (ds_ret (de_int).r)))
abbrev s__law_set : Stmt := top 37
theorem sc__law_set : FnScope ["cell", "many", "some", "book"] ["cell", "many"] (defScope s__law_set) := ⟨rfl, rfl, rfl, by decide +kernel, rfl, by decide +kernel, by decide +kernel⟩
theorem fn__law_set {f : Addr} {fd : FuncData} (F : Fun K "_law_set" "_law_set" s__law_set f fd) (B : Blt mg) : FnOk P w K mg base (L2.CX P w) 1 f fd ["cell", "many"] (spD K (defD 2 4 (m__law_set))) :=
  def_fn F sc__law_set rfl rfl fun cdv A outer s H E c hp => by
    unfold m__law_set
    exact (dss_cons (ds_set (i := 2) c.nd (dr_lst da_nil))
    (dss_cons (ds_for (i := 3) c hp (di_range1 B.range (da_cons (dv 1) da_nil))
    (dss_cons (ds_if (dt_eq c (de_mod (dv 0) de_int) de_int) (dss_one (ds_app 2 (dv 3))) dss_nil)
    (dss_one (ds_set (i := 0) c.nd ((de_fdiv (dv 0) de_int)).r))))
    (dss_one (ds_retV 2))))
abbrev s__law_no_order : Stmt := top 43
theorem sc__law_no_order : FnScope ["cell", "many", "order", "at"] ["cell", "many"] (defScope s__law_no_order) := ⟨rfl, rfl, rfl, by decide +kernel, rfl, by decide +kernel, by decide +kernel⟩
theorem fn__law_no_order {f : Addr} {fd : FuncData} (F : Fun K "_law_no_order" "_law_no_order" s__law_no_order f fd) (B : Blt mg) : FnOk P w K mg base (L2.CX P w) 1 f fd ["cell", "many"] (spD K (defD 2 4 (m__law_no_order))) :=
  def_fn F sc__law_no_order rfl rfl fun cdv A outer s H E c hp => by
    unfold m__law_no_order
    exact (dss_cons (ds_set (i := 2) c.nd (dr_listRg c B.list B.range (dv 1)))
    (dss_cons (ds_set (i := 3) c.nd ((de_mod (de_fdiv (dv 0) de_int) (dv 1))).r)
    (dss_cons (ds_if (dt_eq c (de_mod (dv 0) de_int) de_int) (dss_one (ds_put 2 (de_pk 2 (de_add (de_ix (dv 2) (de_sub (dv 3) de_int)) ((dr_int B.int (da_cons (de_eq c (dv 1) de_int) da_nil))).e)) (dv 3))) dss_nil)
    (dss_cons (ds_if (dt_eq c (de_mod (dv 0) de_int) de_int) (dss_one (ds_pop 2 (dv 3))) dss_nil)
    (dss_cons (ds_if (dt_eq c (de_mod (dv 0) de_int) de_int) (dss_one (ds_app 2 (dv 3))) dss_nil)
    (dss_cons (ds_if (dt_eq c (de_mod (dv 0) de_int) de_int) (dss_one (ds_put 2 (de_ix ((dr_lst (da_cons (de_neg de_int) (da_cons (dv 1) da_nil)))).e (de_mod (de_fdiv (dv 0) de_int) de_int)) (dv 3))) dss_nil)
    (dss_one (ds_retV 2))))))))
abbrev s_ask : Stmt := top 9
theorem sc_ask : FnScope ["many", "wishes", "wish", "book"] ["many", "wishes"] (defScope s_ask) := ⟨rfl, rfl, rfl, by decide +kernel, rfl, by decide +kernel, by decide +kernel⟩
theorem fn_ask {f : Addr} {fd : FuncData} (F : Fun K "ask" "ask" s_ask f fd) (B : Blt mg) {C_NoBook : Addr} (x_NoBook : ExT K mg "NoBook" C_NoBook) : FnOk P w K mg base (L2.CX P w) 1 f fd ["many", "wishes"] (spD K (defD 2 4 (m_ask C_NoBook))) :=
  def_fn F sc_ask rfl rfl fun cdv A outer s H E c hp => by
    unfold m_ask
    exact (dss_one (ds_for (i := 2) c hp (di_any (dv 1))
    (dss_one (ds_for (i := 3) c hp (di_any (dv 2))
    (dss_one (ds_if ((dw_or (dt_lt (dv 3) de_int) (dw_or1 (dt_ge (dv 3) (dv 0))))).t (dss_one (ds_raise c PySem.F.excBase_ValueError x_NoBook.x x_NoBook.g x_NoBook.k x_NoBook.b x_NoBook.t)) dss_nil))))))
abbrev s_ask_order : Stmt := top 10
theorem sc_ask_order : FnScope ["many", "order"] ["many", "order"] (defScope s_ask_order) := ⟨rfl, rfl, rfl, by decide +kernel, rfl, by decide +kernel, by decide +kernel⟩
theorem fn_ask_order {f : Addr} {fd : FuncData} (F : Fun K "ask_order" "ask_order" s_ask_order f fd) (B : Blt mg) {C_NoOrder : Addr} (x_NoOrder : ExT K mg "NoOrder" C_NoOrder) : FnOk P w K mg base (L2.CX P w) 1 f fd ["many", "order"] (spD K (defD 2 2 (m_ask_order C_NoOrder))) :=
  def_fn F sc_ask_order rfl rfl fun cdv A outer s H E c hp => by
    unfold m_ask_order
    exact (dss_one (ds_if (dt_ne c ((dr_sorted B.sorted (da_cons (dv 1) da_nil))).e ((dr_listRg c B.list B.range (dv 0))).e) (dss_one (ds_raise c PySem.F.excBase_ValueError x_NoOrder.x x_NoOrder.g x_NoOrder.k x_NoOrder.b x_NoOrder.t)) dss_nil))
abbrev s_together : Stmt := top 11
theorem sc_together : FnScope ["order", "wish", "places", "k"] ["order", "wish"] (defScope s_together) := ⟨rfl, rfl, rfl, by decide +kernel, rfl, by decide +kernel, by decide +kernel⟩
theorem fn_together {f : Addr} {fd : FuncData} (F : Fun K "together" "together" s_together f fd) (B : Blt mg) : FnOk P w K mg base (L2.CX P w) 1 f fd ["order", "wish"] (spD K (defD 2 4 (m_together))) :=
  def_fn F sc_together rfl rfl fun cdv A outer s H E c hp => by
    unfold m_together
    exact (dss_cons (ds_fixA 2 (ds_setLc (j := 2) (i := 3) c (di_range1 B.range (da_cons ((dr_len B.len (da_cons (dv 0) da_nil))).e da_nil)) (fun _ _ _ _ _ => pg_own c.nd) (fun _ _ _ _ _ c => (dts_one (dt_in c (de_ix (dv 0) (dv 3)) (dv 1)))) (fun _ _ _ _ _ c => (dv 3)) (sw_true rfl rfl rfl (by decide +kernel)) (N := ["order", "wish", "places", "k"]) (sc := defScope s_together)))
    (dss_one (ds_ret ((de_or (de_eq c ((dr_len B.len (da_cons (dv 2) da_nil))).e de_int) (de_one (de_eq c (de_add (de_sub (de_ix (dv 2) (de_neg de_int)) (de_ix (dv 2) de_int)) de_int) ((dr_len B.len (da_cons (dv 2) da_nil))).e)))).r)))
abbrev s_kept : Stmt := top 13
theorem sc_kept : FnScope ["many", "order", "wishes", "k"] ["many", "order", "wishes"] (defScope s_kept) := ⟨rfl, rfl, rfl, by decide +kernel, rfl, by decide +kernel, by decide +kernel⟩
theorem fn_kept {f : Addr} {fd : FuncData} {g_ask : GF} {g_ask_order : GF} {g_together : GF} (F : Fun K "kept" "kept" s_kept f fd) (B : Blt mg) (h_ask : DefOk P w K mg base "ask" 1 g_ask) (h_ask_order : DefOk P w K mg base "ask_order" 1 g_ask_order) (h_together : DefOk P w K mg base "together" 1 g_together) : FnOk P w K mg base (L2.CX P w) 2 f fd ["many", "order", "wishes"] (spD K (defD 3 4 (m_kept g_ask g_ask_order g_together))) :=
  def_fn F sc_kept rfl rfl fun cdv A outer s H E c hp => by
    unfold m_kept
    exact (dss_cons (ds_exp (dr_call c h_ask (by decide) (da_cons (dv 0) (da_cons (dv 2) da_nil))))
    (dss_cons (ds_exp (dr_call c h_ask_order (by decide) (da_cons (dv 0) (da_cons (dv 1) da_nil))))
    (dss_one (ds_ret (dr_lc (i := 3) c (di_range1 B.range (da_cons ((dr_len B.len (da_cons (dv 2) da_nil))).e da_nil)) (fun _ _ _ _ _ => pg_own c.nd) (fun _ _ _ _ _ c => (dts_one (dt_val ((dr_call c h_together (by decide) (da_cons (dv 1) (da_cons (de_ix (dv 2) (dv 3)) da_nil)))).e))) (fun _ _ _ _ _ c => (dv 3)) (N := ["many", "order", "wishes", "k"]) (sc := defScope s_kept))))))
abbrev s_following : Stmt := top 32
theorem sc_following : FnScope ["many", "wishes", "order", "k", "book", "found"] ["many", "wishes", "order"] (defScope s_following) := ⟨rfl, rfl, rfl, by decide +kernel, rfl, by decide +kernel, by decide +kernel⟩
theorem fn_following {f : Addr} {fd : FuncData} {g_ask_order : GF} {g_ask : GF} (F : Fun K "following" "following" s_following f fd) (B : Blt mg) (h_ask_order : DefOk P w K mg base "ask_order" 1 g_ask_order) (h_ask : DefOk P w K mg base "ask" 1 g_ask) : FnOk P w K mg base (L2.CX P w) 2 f fd ["many", "wishes", "order"] (spD K (defD 3 6 (m_following g_ask_order g_ask))) :=
  def_fn F sc_following rfl rfl fun cdv A outer s H E c hp => by
    unfold m_following
    exact (dss_cons (ds_exp (dr_call c h_ask (by decide) (da_cons (dv 0) (da_cons (dv 1) da_nil))))
    (dss_cons (ds_exp (dr_call c h_ask_order (by decide) (da_cons (dv 0) (da_cons (dv 2) da_nil))))
    dss_any))
abbrev s_stands : Stmt := top 12
theorem sc_stands : FnScope ["many", "order", "wish"] ["many", "order", "wish"] (defScope s_stands) := ⟨rfl, rfl, rfl, by decide +kernel, rfl, by decide +kernel, by decide +kernel⟩
theorem fn_stands {f : Addr} {fd : FuncData} {g_ask : GF} {g_ask_order : GF} {g_together : GF} (F : Fun K "stands" "stands" s_stands f fd) (B : Blt mg) (h_ask : DefOk P w K mg base "ask" 1 g_ask) (h_ask_order : DefOk P w K mg base "ask_order" 1 g_ask_order) (h_together : DefOk P w K mg base "together" 1 g_together) : FnOk P w K mg base (L2.CX P w) 2 f fd ["many", "order", "wish"] (spD K (defD 3 3 (m_stands g_ask g_ask_order g_together))) :=
  def_fn F sc_stands rfl rfl fun cdv A outer s H E c hp => by
    unfold m_stands
    exact (dss_cons (ds_exp (dr_call c h_ask (by decide) (da_cons (dv 0) (da_cons ((dr_lst (da_cons (dv 2) da_nil))).e da_nil))))
    (dss_cons (ds_exp (dr_call c h_ask_order (by decide) (da_cons (dv 0) (da_cons (dv 1) da_nil))))
    (dss_one (ds_ret (dr_call c h_together (by decide) (da_cons (dv 1) (da_cons (dv 2) da_nil)))))))
abbrev s_ask_turns : Stmt := top 16
theorem sc_ask_turns : FnScope ["many", "wishes", "one", "other"] ["many", "wishes", "one", "other"] (defScope s_ask_turns) := ⟨rfl, rfl, rfl, by decide +kernel, rfl, by decide +kernel, by decide +kernel⟩
theorem fn_ask_turns {f : Addr} {fd : FuncData} {g_ask : GF} (F : Fun K "ask_turns" "ask_turns" s_ask_turns f fd) (B : Blt mg) (h_ask : DefOk P w K mg base "ask" 1 g_ask) {C_NoTurn : Addr} (x_NoTurn : ExT K mg "NoTurn" C_NoTurn) : FnOk P w K mg base (L2.CX P w) 2 f fd ["many", "wishes", "one", "other"] (spD K (defD 4 4 (m_ask_turns g_ask C_NoTurn))) :=
  def_fn F sc_ask_turns rfl rfl fun cdv A outer s H E c hp => by
    unfold m_ask_turns
    exact (dss_cons (ds_exp (dr_call c h_ask (by decide) (da_cons (dv 0) (da_cons (dv 1) da_nil))))
    (dss_cons (ds_exp (dr_call c h_ask (by decide) (da_cons (dv 0) (da_cons ((dr_lst (da_cons (dv 2) (da_cons (dv 3) da_nil)))).e da_nil))))
    (dss_one (ds_if ((dw_or (dt_eq c (de_ix (dv 2) de_int) (de_ix (dv 2) de_int)) (dw_or1 (dt_eq c (de_ix (dv 3) de_int) (de_ix (dv 3) de_int))))).t (dss_one (ds_raise c PySem.F.excBase_ValueError x_NoTurn.x x_NoTurn.g x_NoTurn.k x_NoTurn.b x_NoTurn.t)) dss_nil))))
abbrev s_split : Stmt := top 15
theorem sc_split : FnScope ["wishes", "a", "b", "c", "wish"] ["wishes", "a", "b", "c"] (defScope s_split) := ⟨rfl, rfl, rfl, by decide +kernel, rfl, by decide +kernel, by decide +kernel⟩
theorem fn_split {f : Addr} {fd : FuncData} (F : Fun K "split" "split" s_split f fd) (B : Blt mg) : FnOk P w K mg base (L2.CX P w) 1 f fd ["wishes", "a", "b", "c"] (spD K (defD 4 5 (m_split))) :=
  def_fn F sc_split rfl rfl fun cdv A outer s H E c hp => by
    unfold m_split
    exact (dss_cons (ds_for (i := 4) c hp (di_any (dv 0))
    (dss_one (ds_if ((dw_and (dt_in c (dv 1) (dv 4)) (dw_and (dt_in c (dv 3) (dv 4)) (dw_and1 (dt_nin c (dv 2) (dv 4)))))).t (dss_one (ds_ret (de_bl).r)) dss_nil)))
    (dss_one (ds_ret (de_bl).r)))
abbrev s_barred : Stmt := top 17
theorem sc_barred : FnScope ["wishes", "one", "other"] ["wishes", "one", "other"] (defScope s_barred) := ⟨rfl, rfl, rfl, by decide +kernel, rfl, by decide +kernel, by decide +kernel⟩
theorem fn_barred {f : Addr} {fd : FuncData} {g_split : GF} (F : Fun K "barred" "barred" s_barred f fd) (B : Blt mg) (h_split : DefOk P w K mg base "split" 1 g_split) : FnOk P w K mg base (L2.CX P w) 2 f fd ["wishes", "one", "other"] (spD K (defD 3 3 (m_barred g_split))) :=
  def_fn F sc_barred rfl rfl fun cdv A outer s H E c hp => by
    unfold m_barred
    exact (dss_cons (ds_if ((dw_and (dt_eq c (de_ix (dv 1) de_int) (de_ix (dv 2) de_int)) (dw_and1 (dt_eq c (de_ix (dv 1) de_int) (de_ix (dv 2) de_int))))).t (dss_one (ds_ret (de_bl).r)) dss_nil)
    (dss_cons (ds_if ((dw_and (dt_eq c (de_ix (dv 1) de_int) (de_ix (dv 2) de_int)) (dw_and1 (dt_ne c (de_ix (dv 1) de_int) (de_ix (dv 2) de_int))))).t (dss_one (ds_ret (dr_call c h_split (by decide) (da_cons (dv 0) (da_cons (de_ix (dv 1) de_int) (da_cons (de_ix (dv 1) de_int) (da_cons (de_ix (dv 2) de_int) da_nil))))))) dss_nil)
    (dss_cons (ds_if ((dw_and (dt_eq c (de_ix (dv 2) de_int) (de_ix (dv 1) de_int)) (dw_and1 (dt_ne c (de_ix (dv 2) de_int) (de_ix (dv 1) de_int))))).t (dss_one (ds_ret (dr_call c h_split (by decide) (da_cons (dv 0) (da_cons (de_ix (dv 2) de_int) (da_cons (de_ix (dv 2) de_int) (da_cons (de_ix (dv 1) de_int) da_nil))))))) dss_nil)
    (dss_one (ds_ret (de_bl).r)))))
abbrev s_bar : Stmt := top 18
theorem sc_bar : FnScope ["many", "wishes", "one", "other"] ["many", "wishes", "one", "other"] (defScope s_bar) := ⟨rfl, rfl, rfl, by decide +kernel, rfl, by decide +kernel, by decide +kernel⟩
theorem fn_bar {f : Addr} {fd : FuncData} {g_ask_turns : GF} {g_barred : GF} (F : Fun K "bar" "bar" s_bar f fd) (B : Blt mg) (h_ask_turns : DefOk P w K mg base "ask_turns" 2 g_ask_turns) (h_barred : DefOk P w K mg base "barred" 2 g_barred) : FnOk P w K mg base (L2.CX P w) 3 f fd ["many", "wishes", "one", "other"] (spD K (defD 4 4 (m_bar g_ask_turns g_barred))) :=
  def_fn F sc_bar rfl rfl fun cdv A outer s H E c hp => by
    unfold m_bar
    exact (dss_cons (ds_exp (dr_call c h_ask_turns (by decide) (da_cons (dv 0) (da_cons (dv 1) (da_cons (dv 2) (da_cons (dv 3) da_nil))))))
    (dss_one (ds_ret (dr_call c h_barred (by decide) (da_cons (dv 1) (da_cons (dv 2) (da_cons (dv 3) da_nil)))))))
abbrev s_chain : Stmt := top 22
theorem sc_chain : FnScope ["many", "wishes", "one", "other", "leads"] ["many", "wishes", "one", "other"] (defScope s_chain) := ⟨rfl, rfl, rfl, by decide +kernel, rfl, by decide +kernel, by decide +kernel⟩
theorem fn_chain {f : Addr} {fd : FuncData} {g_ask_turns : GF} (F : Fun K "chain" "chain" s_chain f fd) (B : Blt mg) (h_ask_turns : DefOk P w K mg base "ask_turns" 2 g_ask_turns) : FnOk P w K mg base (L2.CX P w) 3 f fd ["many", "wishes", "one", "other"] (spD K (defD 4 5 (m_chain g_ask_turns))) :=
  def_fn F sc_chain rfl rfl fun cdv A outer s H E c hp => by
    unfold m_chain
    exact (dss_cons (ds_exp (dr_call c h_ask_turns (by decide) (da_cons (dv 0) (da_cons (dv 1) (da_cons (dv 2) (da_cons (dv 3) da_nil))))))
    dss_any)
abbrev s_odd_ring : Stmt := top 24
theorem sc_odd_ring : FnScope ["many", "wishes", "met", "start", "leads", "one", "other", "first", "second"] ["many", "wishes"] (defScope s_odd_ring) := ⟨rfl, rfl, rfl, by decide +kernel, rfl, by decide +kernel, by decide +kernel⟩
theorem fn_odd_ring {f : Addr} {fd : FuncData} {g_ask : GF} (F : Fun K "odd_ring" "odd_ring" s_odd_ring f fd) (B : Blt mg) (h_ask : DefOk P w K mg base "ask" 1 g_ask) : FnOk P w K mg base (L2.CX P w) 2 f fd ["many", "wishes"] (spD K (defD 2 9 (m_odd_ring g_ask))) :=
  def_fn F sc_odd_ring rfl rfl fun cdv A outer s H E c hp => by
    unfold m_odd_ring
    exact (dss_cons (ds_exp (dr_call c h_ask (by decide) (da_cons (dv 0) (da_cons (dv 1) da_nil))))
    dss_any)
abbrev s_first : Stmt := top 30
theorem sc_first : FnScope ["many", "wishes"] ["many", "wishes"] (defScope s_first) := ⟨rfl, rfl, rfl, by decide +kernel, rfl, by decide +kernel, by decide +kernel⟩
theorem fn_first {f : Addr} {fd : FuncData} {g_odd_ring : GF} (F : Fun K "first" "first" s_first f fd) (B : Blt mg) (h_odd_ring : DefOk P w K mg base "odd_ring" 2 g_odd_ring) : FnOk P w K mg base (L2.CX P w) 3 f fd ["many", "wishes"] (spD K (defD 2 2 (m_first g_odd_ring))) :=
  def_fn F sc_first rfl rfl fun cdv A outer s H E c hp => by
    unfold m_first
    exact (dss_cons (ds_if (dt_nis ((dr_call c h_odd_ring (by decide) (da_cons (dv 0) (da_cons (dv 1) da_nil)))).e de_non) (dss_one (ds_ret (de_non).r)) dss_nil)
    dss_any)
abbrev s_judged : Stmt := top 33
theorem sc_judged : FnScope ["many", "wishes", "ring"] ["many", "wishes"] (defScope s_judged) := ⟨rfl, rfl, rfl, by decide +kernel, rfl, by decide +kernel, by decide +kernel⟩
theorem fn_judged {f : Addr} {fd : FuncData} {g_odd_ring : GF} (F : Fun K "judged" "judged" s_judged f fd) (B : Blt mg) (h_odd_ring : DefOk P w K mg base "odd_ring" 2 g_odd_ring) : FnOk P w K mg base (L2.CX P w) 3 f fd ["many", "wishes"] (spD K (defD 2 3 (m_judged g_odd_ring))) :=
  def_fn F sc_judged rfl rfl fun cdv A outer s H E c hp => by
    unfold m_judged
    exact (dss_cons (ds_set (i := 2) c.nd (((dr_call c h_odd_ring (by decide) (da_cons (dv 0) (da_cons (dv 1) da_nil)))).e).r)
    dss_any)
abbrev s_clash : Stmt := top 34
theorem sc_clash : FnScope ["many", "wishes", "left", "k", "rest", "one"] ["many", "wishes"] (defScope s_clash) := ⟨rfl, rfl, rfl, by decide +kernel, rfl, by decide +kernel, by decide +kernel⟩
theorem fn_clash {f : Addr} {fd : FuncData} {g_odd_ring : GF} (F : Fun K "clash" "clash" s_clash f fd) (B : Blt mg) (h_odd_ring : DefOk P w K mg base "odd_ring" 2 g_odd_ring) : FnOk P w K mg base (L2.CX P w) 3 f fd ["many", "wishes"] (spD K (defD 2 6 (m_clash g_odd_ring))) :=
  def_fn F sc_clash rfl rfl fun cdv A outer s H E c hp => by
    unfold m_clash
    exact (dss_cons (ds_if (dt_is ((dr_call c h_odd_ring (by decide) (da_cons (dv 0) (da_cons (dv 1) da_nil)))).e de_non) (dss_one (ds_ret (de_non).r)) dss_nil)
    dss_any)
abbrev s_shown : Stmt := top 26
theorem sc_shown : FnScope ["many", "wishes", "words", "wish", "some", "book"] ["many", "wishes"] (defScope s_shown) := ⟨rfl, rfl, rfl, by decide +kernel, rfl, by decide +kernel, by decide +kernel⟩
theorem fn_shown {f : Addr} {fd : FuncData} {g_ask : GF} (F : Fun K "shown" "shown" s_shown f fd) (B : Blt mg) (h_ask : DefOk P w K mg base "ask" 1 g_ask) : FnOk P w K mg base (L2.CX P w) 2 f fd ["many", "wishes"] (spD K (defD 2 6 (m_shown g_ask))) :=
  def_fn F sc_shown rfl rfl fun cdv A outer s H E c hp => by
    unfold m_shown
    exact (dss_cons (ds_exp (dr_call c h_ask (by decide) (da_cons (dv 0) (da_cons (dv 1) da_nil))))
    dss_any)
abbrev s__law_asked : Stmt := top 41
theorem sc__law_asked : FnScope ["way", "many", "wishes", "order", "turn", "second"] ["way", "many", "wishes", "order", "turn", "second"] (defScope s__law_asked) := ⟨rfl, rfl, rfl, by decide +kernel, rfl, by decide +kernel, by decide +kernel⟩
theorem fn__law_asked {f : Addr} {fd : FuncData} {g_kept : GF} {g_following : GF} {g_stands : GF} {g_bar : GF} {g_chain : GF} {g_odd_ring : GF} {g_first : GF} {g_judged : GF} {g_clash : GF} {g_shown : GF} (F : Fun K "_law_asked" "_law_asked" s__law_asked f fd) (B : Blt mg) (h_kept : DefOk P w K mg base "kept" 2 g_kept) (h_following : DefOk P w K mg base "following" 2 g_following) (h_stands : DefOk P w K mg base "stands" 2 g_stands) (h_bar : DefOk P w K mg base "bar" 3 g_bar) (h_chain : DefOk P w K mg base "chain" 3 g_chain) (h_odd_ring : DefOk P w K mg base "odd_ring" 2 g_odd_ring) (h_first : DefOk P w K mg base "first" 3 g_first) (h_judged : DefOk P w K mg base "judged" 3 g_judged) (h_clash : DefOk P w K mg base "clash" 3 g_clash) (h_shown : DefOk P w K mg base "shown" 2 g_shown) : FnOk P w K mg base (L2.CX P w) 4 f fd ["way", "many", "wishes", "order", "turn", "second"] (spD K (defD 6 6 (m__law_asked g_kept g_following g_stands g_bar g_chain g_odd_ring g_first g_judged g_clash g_shown))) :=
  def_fn F sc__law_asked rfl rfl fun cdv A outer s H E c hp => by
    unfold m__law_asked
    exact (dss_one (ds_if (dt_eq c (dv 0) de_int) (dss_one (ds_exp (dr_call c h_kept (by decide) (da_cons (dv 1) (da_cons (dv 3) (da_cons (dv 2) da_nil)))))) (dss_one (ds_if (dt_eq c (dv 0) de_int) (dss_one (ds_exp (dr_call c h_following (by decide) (da_cons (dv 1) (da_cons (dv 2) (da_cons (dv 3) da_nil)))))) (dss_one (ds_if (dt_eq c (dv 0) de_int) (dss_one (ds_exp (dr_call c h_stands (by decide) (da_cons (dv 1) (da_cons (dv 3) (da_cons (de_ix (dv 2) de_int) da_nil)))))) (dss_one (ds_if (dt_eq c (dv 0) de_int) (dss_one (ds_exp (dr_call c h_bar (by decide) (da_cons (dv 1) (da_cons (dv 2) (da_cons (dv 4) (da_cons (dv 5) da_nil))))))) (dss_one (ds_if (dt_eq c (dv 0) de_int) (dss_one (ds_exp (dr_call c h_bar (by decide) (da_cons (dv 1) (da_cons (dv 2) (da_cons (dv 5) (da_cons (dv 4) da_nil))))))) (dss_one (ds_if (dt_eq c (dv 0) de_int) (dss_one (ds_exp (dr_call c h_chain (by decide) (da_cons (dv 1) (da_cons (dv 2) (da_cons (dv 4) (da_cons (dv 5) da_nil))))))) (dss_one (ds_if (dt_eq c (dv 0) de_int) (dss_one (ds_exp (dr_call c h_chain (by decide) (da_cons (dv 1) (da_cons (dv 2) (da_cons (dv 5) (da_cons (dv 4) da_nil))))))) (dss_one (ds_if (dt_eq c (dv 0) de_int) (dss_one (ds_exp (dr_call c h_odd_ring (by decide) (da_cons (dv 1) (da_cons (dv 2) da_nil))))) (dss_one (ds_if (dt_eq c (dv 0) de_int) (dss_one (ds_exp (dr_call c h_first (by decide) (da_cons (dv 1) (da_cons (dv 2) da_nil))))) (dss_one (ds_if (dt_eq c (dv 0) de_int) (dss_one (ds_exp (dr_call c h_judged (by decide) (da_cons (dv 1) (da_cons (dv 2) da_nil))))) (dss_one (ds_if (dt_eq c (dv 0) de_int) (dss_one (ds_exp (dr_call c h_clash (by decide) (da_cons (dv 1) (da_cons (dv 2) da_nil))))) (dss_one (ds_exp (dr_call c h_shown (by decide) (da_cons (dv 1) (da_cons (dv 2) da_nil)))))))))))))))))))))))))))
abbrev s__law_which : Stmt := top 42
theorem sc__law_which : FnScope ["way", "many", "wishes", "order", "turn", "second", "told", "e"] ["way", "many", "wishes", "order", "turn", "second"] (defScope s__law_which) := ⟨rfl, rfl, rfl, by decide +kernel, rfl, by decide +kernel, by decide +kernel⟩
theorem fn__law_which {f : Addr} {fd : FuncData} {g__law_asked : GF} (F : Fun K "_law_which" "_law_which" s__law_which f fd) (B : Blt mg) (h__law_asked : DefOk P w K mg base "_law_asked" 4 g__law_asked) {C_NoBook : Addr} {C_NoTurn : Addr} {C_NoOrder : Addr} {C_ShelfError : Addr} (y_ShelfError : ClT K mg "ShelfError" C_ShelfError) {C_NoWish : Addr} (y_NoWish : ClT K mg "NoWish" C_NoWish) (y_NoTurn : ClT K mg "NoTurn" C_NoTurn) (y_NoOrder : ClT K mg "NoOrder" C_NoOrder) (y_NoBook : ClT K mg "NoBook" C_NoBook) {C_BadLine : Addr} (y_BadLine : ClT K mg "BadLine" C_BadLine) {C_FullShelf : Addr} (y_FullShelf : ClT K mg "FullShelf" C_FullShelf) (Z : ∀ c ∈ [C_NoBook, C_NoTurn, C_NoOrder], ExcC K c) (me_ShelfError : ∀ c ∈ [C_NoBook, C_NoTurn, C_NoOrder], PySem.W.exmOne K (.ref c) (.ref C_ShelfError) = some true) (kt_NoWish : ∀ c ∈ [C_NoBook, C_NoTurn, C_NoOrder], PySem.W.kitOne K (.ref c) (.ref C_NoWish) = some (decide (c = C_NoWish))) (kt_NoTurn : ∀ c ∈ [C_NoBook, C_NoTurn, C_NoOrder], PySem.W.kitOne K (.ref c) (.ref C_NoTurn) = some (decide (c = C_NoTurn))) (kt_NoOrder : ∀ c ∈ [C_NoBook, C_NoTurn, C_NoOrder], PySem.W.kitOne K (.ref c) (.ref C_NoOrder) = some (decide (c = C_NoOrder))) (kt_NoBook : ∀ c ∈ [C_NoBook, C_NoTurn, C_NoOrder], PySem.W.kitOne K (.ref c) (.ref C_NoBook) = some (decide (c = C_NoBook))) (kt_BadLine : ∀ c ∈ [C_NoBook, C_NoTurn, C_NoOrder], PySem.W.kitOne K (.ref c) (.ref C_BadLine) = some (decide (c = C_BadLine))) (kt_FullShelf : ∀ c ∈ [C_NoBook, C_NoTurn, C_NoOrder], PySem.W.kitOne K (.ref c) (.ref C_FullShelf) = some (decide (c = C_FullShelf))) (kb_ValueError : ∀ c ∈ [C_NoBook, C_NoTurn, C_NoOrder], PySem.W.kitOne K (.ref c) (.type "ValueError") = some true) : FnOk P w K mg base (L2.CX P w) 5 f fd ["way", "many", "wishes", "order", "turn", "second"] (spD K (defD 6 8 (m__law_which g__law_asked C_NoBook C_NoTurn C_NoOrder C_NoWish C_BadLine C_FullShelf))) :=
  def_fn F sc__law_which rfl rfl fun cdv A outer s H E c hp => by
    unfold m__law_which
    exact (dss_cons (ds_set (i := 6) c.nd (((dr_lst da_nil)).e).r)
    (dss_cons (ds_try 7 c rfl rfl y_ShelfError.g me_ShelfError h__law_asked (by decide) (fun _ _ c => (da_cons (dv 0) (da_cons (dv 1) (da_cons (dv 2) (da_cons (dv 3) (da_cons (dv 4) (da_cons (dv 5) da_nil))))))) (fun cc hcc a oe pn hz hf => (dss_cons (ds_set (i := 6) c.nd (((dr_lst (da_cons (de_isE 7 (Z cc hcc) hz hf B.isinstance y_NoBook.g (kt_NoBook cc hcc)) (da_cons (de_isE 7 (Z cc hcc) hz hf B.isinstance y_NoOrder.g (kt_NoOrder cc hcc)) (da_cons (de_isE 7 (Z cc hcc) hz hf B.isinstance y_NoTurn.g (kt_NoTurn cc hcc)) (da_cons (de_isE 7 (Z cc hcc) hz hf B.isinstance y_NoWish.g (kt_NoWish cc hcc)) da_nil)))))).e).r)
    (dss_one (ds_set (i := 6) c.nd ((de_add (dv 6) ((dr_lst (da_cons (de_isE 7 (Z cc hcc) hz hf B.isinstance y_FullShelf.g (kt_FullShelf cc hcc)) (da_cons (de_isE 7 (Z cc hcc) hz hf B.isinstance y_BadLine.g (kt_BadLine cc hcc)) (da_cons (de_isEb 7 (Z cc hcc) hz hf B.isinstance B.ValueError (by decide +kernel) (kb_ValueError cc hcc)) da_nil))))).e)).r)))))
    (dss_one (ds_retV 6))))
abbrev s_law : Stmt := top 44
theorem sc_law : FnScope ["script", "many", "kind", "count", "wishes", "k", "far", "gone", "way", "order", "turn", "second", "at", "some", "place"] ["script"] (defScope s_law) := ⟨rfl, rfl, rfl, by decide +kernel, rfl, by decide +kernel, by decide +kernel⟩
theorem fn_law {f : Addr} {fd : FuncData} {g__law_cell_at : GF} {g__law_set : GF} {g__law_no_order : GF} {g__law_which : GF} (F : Fun K "law" "law" s_law f fd) (B : Blt mg) (h__law_cell_at : DefOk P w K mg base "_law_cell_at" 1 g__law_cell_at) (h__law_set : DefOk P w K mg base "_law_set" 1 g__law_set) (h__law_no_order : DefOk P w K mg base "_law_no_order" 1 g__law_no_order) (h__law_which : DefOk P w K mg base "_law_which" 5 g__law_which) : FnOk P w K mg base (L2.CX P w) 6 f fd ["script"] (spD K (defD 1 15 (m_law g__law_cell_at g__law_set g__law_no_order g__law_which))) :=
  def_fn F sc_law rfl rfl fun cdv A outer s H E c hp => by
    unfold m_law
    exact (dss_cons (ds_set (i := 1) c.nd ((de_add de_int (de_mod ((dr_call c h__law_cell_at (by decide) (da_cons (dv 0) (da_cons de_int da_nil)))).e de_int))).r)
    (dss_cons (ds_set (i := 2) c.nd ((de_mod ((dr_call c h__law_cell_at (by decide) (da_cons (dv 0) (da_cons de_int da_nil)))).e de_int)).r)
    (dss_cons (ds_set (i := 3) c.nd ((de_mod ((dr_call c h__law_cell_at (by decide) (da_cons (dv 0) (da_cons de_int da_nil)))).e de_int)).r)
    (dss_cons (ds_if (dt_eq c (dv 2) de_int) (dss_one (ds_set (i := 3) c.nd ((de_add de_int (de_mod ((dr_call c h__law_cell_at (by decide) (da_cons (dv 0) (da_cons de_int da_nil)))).e de_int))).r)) dss_nil)
    (dss_cons (ds_setLc (j := 4) (i := 5) c (di_range1 B.range (da_cons (dv 3) da_nil)) (fun _ _ _ _ _ => pg_own c.nd) (fun _ _ _ _ _ c => dts_nil) (fun _ _ _ _ _ c => ((dr_call c h__law_set (by decide) (da_cons ((dr_call c h__law_cell_at (by decide) (da_cons (dv 0) (da_cons (de_add de_int (dv 5)) da_nil)))).e (da_cons (dv 1) da_nil)))).e) (sw_true rfl rfl rfl (by decide +kernel)) (N := ["script", "many", "kind", "count", "wishes", "k", "far", "gone", "way", "order", "turn", "second", "at", "some", "place"]) (sc := defScope s_law))
    (dss_cons (ds_set (i := 6) c.nd ((de_mod ((dr_call c h__law_cell_at (by decide) (da_cons (dv 0) (da_cons de_int da_nil)))).e (de_pow de_int de_int))).r)
    (dss_cons (ds_set (i := 7) c.nd ((de_ix ((dr_lst (da_cons (de_neg de_int) (da_cons (dv 1) (da_cons (de_sub (de_neg de_int) (dv 6)) (da_cons (de_add (dv 1) (dv 6)) da_nil)))))).e (de_mod ((dr_call c h__law_cell_at (by decide) (da_cons (dv 0) (da_cons de_int da_nil)))).e de_int))).r)
    (dss_cons (ds_set (i := 8) c.nd ((de_mod ((dr_call c h__law_cell_at (by decide) (da_cons (dv 0) (da_cons de_int da_nil)))).e de_int)).r)
    (dss_cons (ds_set (i := 9) c.nd (((dr_call c h__law_no_order (by decide) (da_cons ((dr_call c h__law_cell_at (by decide) (da_cons (dv 0) (da_cons de_int da_nil)))).e (da_cons (dv 1) da_nil)))).e).r)
    (dss_cons (ds_set (i := 10) c.nd ((de_tup (da_cons (de_mod ((dr_call c h__law_cell_at (by decide) (da_cons (dv 0) (da_cons de_int da_nil)))).e (dv 1)) (da_cons (de_mod ((dr_call c h__law_cell_at (by decide) (da_cons (dv 0) (da_cons de_int da_nil)))).e (dv 1)) da_nil)))).r)
    (dss_cons (ds_set (i := 11) c.nd ((de_tup (da_cons de_int (da_cons ((dr_min c B.min (da_cons de_int (da_cons (de_sub (dv 1) de_int) da_nil)))).e da_nil)))).r)
    (dss_cons (ds_if (dt_eq c (de_mod (de_fdiv ((dr_call c h__law_cell_at (by decide) (da_cons (dv 0) (da_cons de_int da_nil)))).e de_int) de_int) de_int) (dss_one (ds_set (i := 11) c.nd ((de_tup (da_cons (de_ix (dv 11) de_int) (da_cons (de_ix (dv 11) de_int) da_nil)))).r)) dss_nil)
    (dss_cons (ds_if (dt_eq c (dv 2) de_int) (dss_cons (ds_set (i := 12) c.nd ((de_pk 4 (de_mod ((dr_call c h__law_cell_at (by decide) (da_cons (dv 0) (da_cons de_int da_nil)))).e ((dr_len B.len (da_cons (dv 4) da_nil))).e))).r)
    (dss_cons (ds_set (i := 13) c.nd (de_ixO 4 (dv 12)).r)
    (dss_cons (ds_set (i := 14) c.nd ((de_mod ((dr_call c h__law_cell_at (by decide) (da_cons (dv 0) (da_cons de_int da_nil)))).e (de_add ((dr_len B.len (da_cons (dv 13) da_nil))).e de_int))).r)
    (dss_cons (ds_put 4 (de_add (de_add ((dr_sl (dv 13) do_none (do_some (dv 14)))).e ((dr_lst (da_cons (dv 7) da_nil))).e) ((dr_sl (dv 13) (do_some (dv 14)) do_none)).e) (dv 12))
    (dss_cons (ds_if (dt_eq c (dv 8) de_int) (dss_one (ds_put 4 (de_ixO 4 (dv 12)) de_int)) dss_nil)
    (dss_one (ds_ret ((de_pk 4 (de_eq c ((dr_call c h__law_which (by decide) (da_cons (dv 8) (da_cons (dv 1) (da_cons (dv 4) (da_cons (dv 9) (da_cons (dv 10) (da_cons (dv 11) da_nil)))))))).e (de_add (de_add ((dr_lst (da_cons de_bl da_nil))).e (de_mul ((dr_lst (da_cons de_bl da_nil))).e de_int)) ((dr_lst (da_cons de_bl da_nil))).e)))).r))))))) dss_nil)
    (dss_cons (ds_if (dt_eq c (dv 2) de_int) (dss_cons (ds_set (i := 10) c.nd ((de_ix ((dr_lst (da_cons (de_tup (da_cons (dv 7) (da_cons (de_ix (dv 10) de_int) da_nil))) (da_cons (de_tup (da_cons (de_ix (dv 10) de_int) (da_cons (dv 7) da_nil))) (da_cons (de_tup (da_cons (dv 7) (da_cons (dv 7) da_nil))) da_nil))))).e (de_mod ((dr_call c h__law_cell_at (by decide) (da_cons (dv 0) (da_cons de_int da_nil)))).e de_int))).r)
    (dss_one (ds_ret ((de_pk 4 (de_eq c ((dr_call c h__law_which (by decide) (da_cons (de_add de_int (de_mod (dv 8) de_int)) (da_cons (dv 1) (da_cons (dv 4) (da_cons (dv 9) (da_cons (dv 10) (da_cons (dv 11) da_nil)))))))).e (de_add (de_add ((dr_lst (da_cons de_bl da_nil))).e (de_mul ((dr_lst (da_cons de_bl da_nil))).e de_int)) ((dr_lst (da_cons de_bl da_nil))).e)))).r))) dss_nil)
    (dss_cons (ds_if (dt_lt (dv 8) de_int) (dss_cons (ds_set (i := 8) c.nd ((de_mod (dv 8) de_int)).r)
    (dss_fix 4 (dss_cons (ds_set (i := 4) c.nd ((de_add (dv 4) (de_mul ((dr_lst (da_cons ((dr_lst da_nil)).e da_nil))).e ((dr_int B.int (da_cons (de_eq c (dv 8) de_int) da_nil))).e))).r)
    (dss_one (ds_ret ((de_eq c ((dr_call c h__law_which (by decide) (da_cons (dv 8) (da_cons (dv 1) (da_cons (dv 4) (da_cons (dv 9) (da_cons (dv 10) (da_cons (dv 11) da_nil)))))))).e (de_add (de_add ((dr_lst (da_cons de_bl (da_cons de_bl da_nil)))).e (de_mul ((dr_lst (da_cons de_bl da_nil))).e de_int)) ((dr_lst (da_cons de_bl da_nil))).e))).r))))) dss_nil)
    (dss_one (ds_ret ((de_pk 4 (de_eq c ((dr_call c h__law_which (by decide) (da_cons (de_add de_int (de_mod (dv 8) de_int)) (da_cons (dv 1) (da_cons (dv 4) (da_cons (dv 9) (da_cons (dv 10) (da_cons (dv 11) da_nil)))))))).e (de_add (de_add ((dr_lst (da_cons de_bl (da_cons de_bl (da_cons de_bl da_nil))))).e (de_mul ((dr_lst (da_cons de_bl da_nil))).e de_int)) ((dr_lst (da_cons de_bl da_nil))).e)))).r)))))))))))))))))
end
section
/-- one def of the top, by what k_is finds -/
theorem at_def {K : PySem.W.Frag} {h : Heap} {mg : Str → Option Value} {x : Str} {st : Stmt} {f : Addr} {od an : Option Addr} {sl : Array (Option Value)} {oc kV dc pm cd ct : Value} (X : K.In h) (G : h.Ns mainGlobals mg)
    (a : PySem.W.nsIn K mainGlobals x = some (some (.ref f))) (l : K.lookup f = some ⟨oc, od, .func (PySem.W.fnOf x x (defArgs st) (defBody st) (defScope st) .none kV dc pm an cd ct), sl⟩) (c : PySem.W.codeIn K cd x = true) (k : PySem.W.keepIn K (.ref f) = true) :
    mg x = some (.ref f) ∧ Fun K x x st f (PySem.W.fnOf x x (defArgs st) (defBody st) (defScope st) .none kV dc pm an cd ct) := ⟨PySem.W.mg_of X G a, fun_mk l c k⟩
def w__law_cell_at : GF := defD 2 2 (m__law_cell_at)
def w__law_set : GF := defD 2 4 (m__law_set)
def w__law_no_order : GF := defD 2 4 (m__law_no_order)
def w_ask (C_NoBook : Addr) : GF := defD 2 4 (m_ask C_NoBook)
def w_ask_order (C_NoOrder : Addr) : GF := defD 2 2 (m_ask_order C_NoOrder)
def w_together : GF := defD 2 4 (m_together)
def w_split : GF := defD 4 5 (m_split)
def w_kept (C_NoBook : Addr) (C_NoOrder : Addr) : GF := defD 3 4 (m_kept (w_ask C_NoBook) (w_ask_order C_NoOrder) w_together)
def w_following (C_NoBook : Addr) (C_NoOrder : Addr) : GF := defD 3 6 (m_following (w_ask_order C_NoOrder) (w_ask C_NoBook))
def w_stands (C_NoBook : Addr) (C_NoOrder : Addr) : GF := defD 3 3 (m_stands (w_ask C_NoBook) (w_ask_order C_NoOrder) w_together)
def w_ask_turns (C_NoBook : Addr) (C_NoTurn : Addr) : GF := defD 4 4 (m_ask_turns (w_ask C_NoBook) C_NoTurn)
def w_barred : GF := defD 3 3 (m_barred w_split)
def w_odd_ring (C_NoBook : Addr) : GF := defD 2 9 (m_odd_ring (w_ask C_NoBook))
def w_shown (C_NoBook : Addr) : GF := defD 2 6 (m_shown (w_ask C_NoBook))
def w_bar (C_NoBook : Addr) (C_NoTurn : Addr) : GF := defD 4 4 (m_bar (w_ask_turns C_NoBook C_NoTurn) w_barred)
def w_chain (C_NoBook : Addr) (C_NoTurn : Addr) : GF := defD 4 5 (m_chain (w_ask_turns C_NoBook C_NoTurn))
def w_first (C_NoBook : Addr) : GF := defD 2 2 (m_first (w_odd_ring C_NoBook))
def w_judged (C_NoBook : Addr) : GF := defD 2 3 (m_judged (w_odd_ring C_NoBook))
def w_clash (C_NoBook : Addr) : GF := defD 2 6 (m_clash (w_odd_ring C_NoBook))
def w__law_asked (C_NoBook : Addr) (C_NoTurn : Addr) (C_NoOrder : Addr) : GF := defD 6 6 (m__law_asked (w_kept C_NoBook C_NoOrder) (w_following C_NoBook C_NoOrder) (w_stands C_NoBook C_NoOrder) (w_bar C_NoBook C_NoTurn) (w_chain C_NoBook C_NoTurn) (w_odd_ring C_NoBook) (w_first C_NoBook) (w_judged C_NoBook) (w_clash C_NoBook) (w_shown C_NoBook))
noncomputable def w__law_which (C_NoBook : Addr) (C_NoTurn : Addr) (C_NoOrder : Addr) (C_NoWish : Addr) (C_FullShelf : Addr) (C_BadLine : Addr) : GF := defD 6 8 (m__law_which (w__law_asked C_NoBook C_NoTurn C_NoOrder) C_NoBook C_NoTurn C_NoOrder C_NoWish C_BadLine C_FullShelf)
noncomputable def w_law (C_NoBook : Addr) (C_NoTurn : Addr) (C_NoOrder : Addr) (C_NoWish : Addr) (C_FullShelf : Addr) (C_BadLine : Addr) : GF := defD 1 15 (m_law w__law_cell_at w__law_set w__law_no_order (w__law_which C_NoBook C_NoTurn C_NoOrder C_NoWish C_FullShelf C_BadLine))
theorem all_mk {P : Program} {w : World} {K : PySem.W.Frag} {h : Heap} {mg : Str → Option Value} {fa : Addr} (X : K.In h) (G : h.Ns mainGlobals mg) (hfa : mg "law" = some (.ref fa))
    {f0 : Addr} {od0 an0 : Option Addr} {sl0 : Array (Option Value)} {oc0 kV0 dc0 pm0 cd0 ct0 : Value}
    {f1 : Addr} {od1 an1 : Option Addr} {sl1 : Array (Option Value)} {oc1 kV1 dc1 pm1 cd1 ct1 : Value}
    {f2 : Addr} {od2 an2 : Option Addr} {sl2 : Array (Option Value)} {oc2 kV2 dc2 pm2 cd2 ct2 : Value}
    {f3 : Addr} {od3 an3 : Option Addr} {sl3 : Array (Option Value)} {oc3 kV3 dc3 pm3 cd3 ct3 : Value}
    {f4 : Addr} {od4 an4 : Option Addr} {sl4 : Array (Option Value)} {oc4 kV4 dc4 pm4 cd4 ct4 : Value}
    {f5 : Addr} {od5 an5 : Option Addr} {sl5 : Array (Option Value)} {oc5 kV5 dc5 pm5 cd5 ct5 : Value}
    {f6 : Addr} {od6 an6 : Option Addr} {sl6 : Array (Option Value)} {oc6 kV6 dc6 pm6 cd6 ct6 : Value}
    {f7 : Addr} {od7 an7 : Option Addr} {sl7 : Array (Option Value)} {oc7 kV7 dc7 pm7 cd7 ct7 : Value}
    {f8 : Addr} {od8 an8 : Option Addr} {sl8 : Array (Option Value)} {oc8 kV8 dc8 pm8 cd8 ct8 : Value}
    {f9 : Addr} {od9 an9 : Option Addr} {sl9 : Array (Option Value)} {oc9 kV9 dc9 pm9 cd9 ct9 : Value}
    {f10 : Addr} {od10 an10 : Option Addr} {sl10 : Array (Option Value)} {oc10 kV10 dc10 pm10 cd10 ct10 : Value}
    {f11 : Addr} {od11 an11 : Option Addr} {sl11 : Array (Option Value)} {oc11 kV11 dc11 pm11 cd11 ct11 : Value}
    {f12 : Addr} {od12 an12 : Option Addr} {sl12 : Array (Option Value)} {oc12 kV12 dc12 pm12 cd12 ct12 : Value}
    {f13 : Addr} {od13 an13 : Option Addr} {sl13 : Array (Option Value)} {oc13 kV13 dc13 pm13 cd13 ct13 : Value}
    {f14 : Addr} {od14 an14 : Option Addr} {sl14 : Array (Option Value)} {oc14 kV14 dc14 pm14 cd14 ct14 : Value}
    {f15 : Addr} {od15 an15 : Option Addr} {sl15 : Array (Option Value)} {oc15 kV15 dc15 pm15 cd15 ct15 : Value}
    {f16 : Addr} {od16 an16 : Option Addr} {sl16 : Array (Option Value)} {oc16 kV16 dc16 pm16 cd16 ct16 : Value}
    {f17 : Addr} {od17 an17 : Option Addr} {sl17 : Array (Option Value)} {oc17 kV17 dc17 pm17 cd17 ct17 : Value}
    {f18 : Addr} {od18 an18 : Option Addr} {sl18 : Array (Option Value)} {oc18 kV18 dc18 pm18 cd18 ct18 : Value}
    {f19 : Addr} {od19 an19 : Option Addr} {sl19 : Array (Option Value)} {oc19 kV19 dc19 pm19 cd19 ct19 : Value}
    {f20 : Addr} {od20 an20 : Option Addr} {sl20 : Array (Option Value)} {oc20 kV20 dc20 pm20 cd20 ct20 : Value}
    {f21 : Addr} {od21 an21 : Option Addr} {sl21 : Array (Option Value)} {oc21 kV21 dc21 pm21 cd21 ct21 : Value}
    {C_ShelfError : Addr}
    {C_NoBook : Addr}
    {C_NoTurn : Addr}
    {C_NoOrder : Addr}
    {C_NoWish : Addr}
    {C_FullShelf : Addr}
    {C_BadLine : Addr}
    (a0 : PySem.W.nsIn K mainGlobals "_law_cell_at" = some (some (.ref f0)))
    (l0 : K.lookup f0 = some ⟨oc0, od0, .func (PySem.W.fnOf "_law_cell_at" "_law_cell_at" (defArgs s__law_cell_at) (defBody s__law_cell_at) (defScope s__law_cell_at) .none kV0 dc0 pm0 an0 cd0 ct0), sl0⟩)
    (c0 : PySem.W.codeIn K cd0 "_law_cell_at" = true)
    (k0 : PySem.W.keepIn K (.ref f0) = true)
    (a1 : PySem.W.nsIn K mainGlobals "_law_set" = some (some (.ref f1)))
    (l1 : K.lookup f1 = some ⟨oc1, od1, .func (PySem.W.fnOf "_law_set" "_law_set" (defArgs s__law_set) (defBody s__law_set) (defScope s__law_set) .none kV1 dc1 pm1 an1 cd1 ct1), sl1⟩)
    (c1 : PySem.W.codeIn K cd1 "_law_set" = true)
    (k1 : PySem.W.keepIn K (.ref f1) = true)
    (a2 : PySem.W.nsIn K mainGlobals "_law_no_order" = some (some (.ref f2)))
    (l2 : K.lookup f2 = some ⟨oc2, od2, .func (PySem.W.fnOf "_law_no_order" "_law_no_order" (defArgs s__law_no_order) (defBody s__law_no_order) (defScope s__law_no_order) .none kV2 dc2 pm2 an2 cd2 ct2), sl2⟩)
    (c2 : PySem.W.codeIn K cd2 "_law_no_order" = true)
    (k2 : PySem.W.keepIn K (.ref f2) = true)
    (a3 : PySem.W.nsIn K mainGlobals "ask" = some (some (.ref f3)))
    (l3 : K.lookup f3 = some ⟨oc3, od3, .func (PySem.W.fnOf "ask" "ask" (defArgs s_ask) (defBody s_ask) (defScope s_ask) .none kV3 dc3 pm3 an3 cd3 ct3), sl3⟩)
    (c3 : PySem.W.codeIn K cd3 "ask" = true)
    (k3 : PySem.W.keepIn K (.ref f3) = true)
    (a4 : PySem.W.nsIn K mainGlobals "ask_order" = some (some (.ref f4)))
    (l4 : K.lookup f4 = some ⟨oc4, od4, .func (PySem.W.fnOf "ask_order" "ask_order" (defArgs s_ask_order) (defBody s_ask_order) (defScope s_ask_order) .none kV4 dc4 pm4 an4 cd4 ct4), sl4⟩)
    (c4 : PySem.W.codeIn K cd4 "ask_order" = true)
    (k4 : PySem.W.keepIn K (.ref f4) = true)
    (a5 : PySem.W.nsIn K mainGlobals "together" = some (some (.ref f5)))
    (l5 : K.lookup f5 = some ⟨oc5, od5, .func (PySem.W.fnOf "together" "together" (defArgs s_together) (defBody s_together) (defScope s_together) .none kV5 dc5 pm5 an5 cd5 ct5), sl5⟩)
    (c5 : PySem.W.codeIn K cd5 "together" = true)
    (k5 : PySem.W.keepIn K (.ref f5) = true)
    (a6 : PySem.W.nsIn K mainGlobals "kept" = some (some (.ref f6)))
    (l6 : K.lookup f6 = some ⟨oc6, od6, .func (PySem.W.fnOf "kept" "kept" (defArgs s_kept) (defBody s_kept) (defScope s_kept) .none kV6 dc6 pm6 an6 cd6 ct6), sl6⟩)
    (c6 : PySem.W.codeIn K cd6 "kept" = true)
    (k6 : PySem.W.keepIn K (.ref f6) = true)
    (a7 : PySem.W.nsIn K mainGlobals "following" = some (some (.ref f7)))
    (l7 : K.lookup f7 = some ⟨oc7, od7, .func (PySem.W.fnOf "following" "following" (defArgs s_following) (defBody s_following) (defScope s_following) .none kV7 dc7 pm7 an7 cd7 ct7), sl7⟩)
    (c7 : PySem.W.codeIn K cd7 "following" = true)
    (k7 : PySem.W.keepIn K (.ref f7) = true)
    (a8 : PySem.W.nsIn K mainGlobals "stands" = some (some (.ref f8)))
    (l8 : K.lookup f8 = some ⟨oc8, od8, .func (PySem.W.fnOf "stands" "stands" (defArgs s_stands) (defBody s_stands) (defScope s_stands) .none kV8 dc8 pm8 an8 cd8 ct8), sl8⟩)
    (c8 : PySem.W.codeIn K cd8 "stands" = true)
    (k8 : PySem.W.keepIn K (.ref f8) = true)
    (a9 : PySem.W.nsIn K mainGlobals "ask_turns" = some (some (.ref f9)))
    (l9 : K.lookup f9 = some ⟨oc9, od9, .func (PySem.W.fnOf "ask_turns" "ask_turns" (defArgs s_ask_turns) (defBody s_ask_turns) (defScope s_ask_turns) .none kV9 dc9 pm9 an9 cd9 ct9), sl9⟩)
    (c9 : PySem.W.codeIn K cd9 "ask_turns" = true)
    (k9 : PySem.W.keepIn K (.ref f9) = true)
    (a10 : PySem.W.nsIn K mainGlobals "split" = some (some (.ref f10)))
    (l10 : K.lookup f10 = some ⟨oc10, od10, .func (PySem.W.fnOf "split" "split" (defArgs s_split) (defBody s_split) (defScope s_split) .none kV10 dc10 pm10 an10 cd10 ct10), sl10⟩)
    (c10 : PySem.W.codeIn K cd10 "split" = true)
    (k10 : PySem.W.keepIn K (.ref f10) = true)
    (a11 : PySem.W.nsIn K mainGlobals "barred" = some (some (.ref f11)))
    (l11 : K.lookup f11 = some ⟨oc11, od11, .func (PySem.W.fnOf "barred" "barred" (defArgs s_barred) (defBody s_barred) (defScope s_barred) .none kV11 dc11 pm11 an11 cd11 ct11), sl11⟩)
    (c11 : PySem.W.codeIn K cd11 "barred" = true)
    (k11 : PySem.W.keepIn K (.ref f11) = true)
    (a12 : PySem.W.nsIn K mainGlobals "bar" = some (some (.ref f12)))
    (l12 : K.lookup f12 = some ⟨oc12, od12, .func (PySem.W.fnOf "bar" "bar" (defArgs s_bar) (defBody s_bar) (defScope s_bar) .none kV12 dc12 pm12 an12 cd12 ct12), sl12⟩)
    (c12 : PySem.W.codeIn K cd12 "bar" = true)
    (k12 : PySem.W.keepIn K (.ref f12) = true)
    (a13 : PySem.W.nsIn K mainGlobals "chain" = some (some (.ref f13)))
    (l13 : K.lookup f13 = some ⟨oc13, od13, .func (PySem.W.fnOf "chain" "chain" (defArgs s_chain) (defBody s_chain) (defScope s_chain) .none kV13 dc13 pm13 an13 cd13 ct13), sl13⟩)
    (c13 : PySem.W.codeIn K cd13 "chain" = true)
    (k13 : PySem.W.keepIn K (.ref f13) = true)
    (a14 : PySem.W.nsIn K mainGlobals "odd_ring" = some (some (.ref f14)))
    (l14 : K.lookup f14 = some ⟨oc14, od14, .func (PySem.W.fnOf "odd_ring" "odd_ring" (defArgs s_odd_ring) (defBody s_odd_ring) (defScope s_odd_ring) .none kV14 dc14 pm14 an14 cd14 ct14), sl14⟩)
    (c14 : PySem.W.codeIn K cd14 "odd_ring" = true)
    (k14 : PySem.W.keepIn K (.ref f14) = true)
    (a15 : PySem.W.nsIn K mainGlobals "first" = some (some (.ref f15)))
    (l15 : K.lookup f15 = some ⟨oc15, od15, .func (PySem.W.fnOf "first" "first" (defArgs s_first) (defBody s_first) (defScope s_first) .none kV15 dc15 pm15 an15 cd15 ct15), sl15⟩)
    (c15 : PySem.W.codeIn K cd15 "first" = true)
    (k15 : PySem.W.keepIn K (.ref f15) = true)
    (a16 : PySem.W.nsIn K mainGlobals "judged" = some (some (.ref f16)))
    (l16 : K.lookup f16 = some ⟨oc16, od16, .func (PySem.W.fnOf "judged" "judged" (defArgs s_judged) (defBody s_judged) (defScope s_judged) .none kV16 dc16 pm16 an16 cd16 ct16), sl16⟩)
    (c16 : PySem.W.codeIn K cd16 "judged" = true)
    (k16 : PySem.W.keepIn K (.ref f16) = true)
    (a17 : PySem.W.nsIn K mainGlobals "clash" = some (some (.ref f17)))
    (l17 : K.lookup f17 = some ⟨oc17, od17, .func (PySem.W.fnOf "clash" "clash" (defArgs s_clash) (defBody s_clash) (defScope s_clash) .none kV17 dc17 pm17 an17 cd17 ct17), sl17⟩)
    (c17 : PySem.W.codeIn K cd17 "clash" = true)
    (k17 : PySem.W.keepIn K (.ref f17) = true)
    (a18 : PySem.W.nsIn K mainGlobals "shown" = some (some (.ref f18)))
    (l18 : K.lookup f18 = some ⟨oc18, od18, .func (PySem.W.fnOf "shown" "shown" (defArgs s_shown) (defBody s_shown) (defScope s_shown) .none kV18 dc18 pm18 an18 cd18 ct18), sl18⟩)
    (c18 : PySem.W.codeIn K cd18 "shown" = true)
    (k18 : PySem.W.keepIn K (.ref f18) = true)
    (a19 : PySem.W.nsIn K mainGlobals "_law_asked" = some (some (.ref f19)))
    (l19 : K.lookup f19 = some ⟨oc19, od19, .func (PySem.W.fnOf "_law_asked" "_law_asked" (defArgs s__law_asked) (defBody s__law_asked) (defScope s__law_asked) .none kV19 dc19 pm19 an19 cd19 ct19), sl19⟩)
    (c19 : PySem.W.codeIn K cd19 "_law_asked" = true)
    (k19 : PySem.W.keepIn K (.ref f19) = true)
    (a20 : PySem.W.nsIn K mainGlobals "_law_which" = some (some (.ref f20)))
    (l20 : K.lookup f20 = some ⟨oc20, od20, .func (PySem.W.fnOf "_law_which" "_law_which" (defArgs s__law_which) (defBody s__law_which) (defScope s__law_which) .none kV20 dc20 pm20 an20 cd20 ct20), sl20⟩)
    (c20 : PySem.W.codeIn K cd20 "_law_which" = true)
    (k20 : PySem.W.keepIn K (.ref f20) = true)
    (a21 : PySem.W.nsIn K mainGlobals "law" = some (some (.ref f21)))
    (l21 : K.lookup f21 = some ⟨oc21, od21, .func (PySem.W.fnOf "law" "law" (defArgs s_law) (defBody s_law) (defScope s_law) .none kV21 dc21 pm21 an21 cd21 ct21), sl21⟩)
    (c21 : PySem.W.codeIn K cd21 "law" = true)
    (k21 : PySem.W.keepIn K (.ref f21) = true)
    (e_ShelfError : PySem.W.nsIn K mainGlobals "ShelfError" = some (some (.ref C_ShelfError)))
    (e_NoBook : PySem.W.nsIn K mainGlobals "NoBook" = some (some (.ref C_NoBook)))
    (e_NoTurn : PySem.W.nsIn K mainGlobals "NoTurn" = some (some (.ref C_NoTurn)))
    (e_NoOrder : PySem.W.nsIn K mainGlobals "NoOrder" = some (some (.ref C_NoOrder)))
    (e_NoWish : PySem.W.nsIn K mainGlobals "NoWish" = some (some (.ref C_NoWish)))
    (e_FullShelf : PySem.W.nsIn K mainGlobals "FullShelf" = some (some (.ref C_FullShelf)))
    (e_BadLine : PySem.W.nsIn K mainGlobals "BadLine" = some (some (.ref C_BadLine)))
    (ex_NoBook : PySem.W.excIn K C_NoBook [.type "ValueError", .type "Exception", .type "BaseException", .type "object"] "ValueError.__new__" = true)
    (ek_NoBook : PySem.W.keepIn K (.ref C_NoBook) = true)
    (ex_NoTurn : PySem.W.excIn K C_NoTurn [.type "ValueError", .type "Exception", .type "BaseException", .type "object"] "ValueError.__new__" = true)
    (ek_NoTurn : PySem.W.keepIn K (.ref C_NoTurn) = true)
    (ex_NoOrder : PySem.W.excIn K C_NoOrder [.type "ValueError", .type "Exception", .type "BaseException", .type "object"] "ValueError.__new__" = true)
    (ek_NoOrder : PySem.W.keepIn K (.ref C_NoOrder) = true)
    (eb_ShelfError : PySem.W.subIn K (.ref C_ShelfError) (.type "BaseException") = some true)
    (et_ShelfError : PySem.W.typeIn K (.ref C_ShelfError) = some (.type "type"))
    (eb_NoBook : PySem.W.subIn K (.ref C_NoBook) (.type "BaseException") = some true)
    (et_NoBook : PySem.W.typeIn K (.ref C_NoBook) = some (.type "type"))
    (eb_NoTurn : PySem.W.subIn K (.ref C_NoTurn) (.type "BaseException") = some true)
    (et_NoTurn : PySem.W.typeIn K (.ref C_NoTurn) = some (.type "type"))
    (eb_NoOrder : PySem.W.subIn K (.ref C_NoOrder) (.type "BaseException") = some true)
    (et_NoOrder : PySem.W.typeIn K (.ref C_NoOrder) = some (.type "type"))
    (eb_NoWish : PySem.W.subIn K (.ref C_NoWish) (.type "BaseException") = some true)
    (et_NoWish : PySem.W.typeIn K (.ref C_NoWish) = some (.type "type"))
    (eb_FullShelf : PySem.W.subIn K (.ref C_FullShelf) (.type "BaseException") = some true)
    (et_FullShelf : PySem.W.typeIn K (.ref C_FullShelf) = some (.type "type"))
    (eb_BadLine : PySem.W.subIn K (.ref C_BadLine) (.type "BaseException") = some true)
    (et_BadLine : PySem.W.typeIn K (.ref C_BadLine) = some (.type "type"))
    (hd_ShelfError : PySem.W.hasDictIn K C_ShelfError = true)
    (hd_NoBook : PySem.W.hasDictIn K C_NoBook = true)
    (hd_NoTurn : PySem.W.hasDictIn K C_NoTurn = true)
    (hd_NoOrder : PySem.W.hasDictIn K C_NoOrder = true)
    (hd_NoWish : PySem.W.hasDictIn K C_NoWish = true)
    (hd_FullShelf : PySem.W.hasDictIn K C_FullShelf = true)
    (hd_BadLine : PySem.W.hasDictIn K C_BadLine = true)
    (sp_ : PySem.W.specialIn K (.builtin "object.__class__") "__get__" = some (some (.builtin "getset_descriptor.__get__")))
    (tk_ : PySem.W.takesIn K (.builtin "object.__class__") = some true)
    (ga_NoBook : PySem.W.findIn K (.ref C_NoBook) "__getattribute__" = some (some (.builtin "BaseException.__getattribute__")))
    (gt_NoBook : PySem.W.findIn K (.ref C_NoBook) "__getattr__" = some none)
    (gc_NoBook : PySem.W.findIn K (.ref C_NoBook) "__class__" = some (some (.builtin "object.__class__")))
    (mo_NoBook : PySem.W.mroIn K C_NoBook (.type "object") = some true)
    (sv_NoBook_ValueError : PySem.W.subIn K (.ref C_NoBook) (.type "ValueError") = some true)
    (ga_NoTurn : PySem.W.findIn K (.ref C_NoTurn) "__getattribute__" = some (some (.builtin "BaseException.__getattribute__")))
    (gt_NoTurn : PySem.W.findIn K (.ref C_NoTurn) "__getattr__" = some none)
    (gc_NoTurn : PySem.W.findIn K (.ref C_NoTurn) "__class__" = some (some (.builtin "object.__class__")))
    (mo_NoTurn : PySem.W.mroIn K C_NoTurn (.type "object") = some true)
    (sv_NoTurn_ValueError : PySem.W.subIn K (.ref C_NoTurn) (.type "ValueError") = some true)
    (ga_NoOrder : PySem.W.findIn K (.ref C_NoOrder) "__getattribute__" = some (some (.builtin "BaseException.__getattribute__")))
    (gt_NoOrder : PySem.W.findIn K (.ref C_NoOrder) "__getattr__" = some none)
    (gc_NoOrder : PySem.W.findIn K (.ref C_NoOrder) "__class__" = some (some (.builtin "object.__class__")))
    (mo_NoOrder : PySem.W.mroIn K C_NoOrder (.type "object") = some true)
    (sv_NoOrder_ValueError : PySem.W.subIn K (.ref C_NoOrder) (.type "ValueError") = some true)
    (su_NoBook_NoBook : PySem.W.subIn K (.ref C_NoBook) (.ref C_NoBook) = some true)
    (su_NoBook_NoTurn : PySem.W.subIn K (.ref C_NoBook) (.ref C_NoTurn) = some false)
    (su_NoBook_NoOrder : PySem.W.subIn K (.ref C_NoBook) (.ref C_NoOrder) = some false)
    (su_NoBook_NoWish : PySem.W.subIn K (.ref C_NoBook) (.ref C_NoWish) = some false)
    (su_NoBook_FullShelf : PySem.W.subIn K (.ref C_NoBook) (.ref C_FullShelf) = some false)
    (su_NoBook_BadLine : PySem.W.subIn K (.ref C_NoBook) (.ref C_BadLine) = some false)
    (su_NoTurn_NoBook : PySem.W.subIn K (.ref C_NoTurn) (.ref C_NoBook) = some false)
    (su_NoTurn_NoTurn : PySem.W.subIn K (.ref C_NoTurn) (.ref C_NoTurn) = some true)
    (su_NoTurn_NoOrder : PySem.W.subIn K (.ref C_NoTurn) (.ref C_NoOrder) = some false)
    (su_NoTurn_NoWish : PySem.W.subIn K (.ref C_NoTurn) (.ref C_NoWish) = some false)
    (su_NoTurn_FullShelf : PySem.W.subIn K (.ref C_NoTurn) (.ref C_FullShelf) = some false)
    (su_NoTurn_BadLine : PySem.W.subIn K (.ref C_NoTurn) (.ref C_BadLine) = some false)
    (su_NoOrder_NoBook : PySem.W.subIn K (.ref C_NoOrder) (.ref C_NoBook) = some false)
    (su_NoOrder_NoTurn : PySem.W.subIn K (.ref C_NoOrder) (.ref C_NoTurn) = some false)
    (su_NoOrder_NoOrder : PySem.W.subIn K (.ref C_NoOrder) (.ref C_NoOrder) = some true)
    (su_NoOrder_NoWish : PySem.W.subIn K (.ref C_NoOrder) (.ref C_NoWish) = some false)
    (su_NoOrder_FullShelf : PySem.W.subIn K (.ref C_NoOrder) (.ref C_FullShelf) = some false)
    (su_NoOrder_BadLine : PySem.W.subIn K (.ref C_NoOrder) (.ref C_BadLine) = some false)
    (su_NoWish_NoWish : PySem.W.subIn K (.ref C_NoWish) (.ref C_NoWish) = some true)
    (su_NoWish_FullShelf : PySem.W.subIn K (.ref C_NoWish) (.ref C_FullShelf) = some false)
    (su_NoWish_BadLine : PySem.W.subIn K (.ref C_NoWish) (.ref C_BadLine) = some false)
    (su_FullShelf_FullShelf : PySem.W.subIn K (.ref C_FullShelf) (.ref C_FullShelf) = some true)
    (su_FullShelf_BadLine : PySem.W.subIn K (.ref C_FullShelf) (.ref C_BadLine) = some false)
    (su_BadLine_BadLine : PySem.W.subIn K (.ref C_BadLine) (.ref C_BadLine) = some true)
    (su_NoBook_ShelfError : PySem.W.subIn K (.ref C_NoBook) (.ref C_ShelfError) = some true)
    (su_NoTurn_ShelfError : PySem.W.subIn K (.ref C_NoTurn) (.ref C_ShelfError) = some true)
    (su_NoOrder_ShelfError : PySem.W.subIn K (.ref C_NoOrder) (.ref C_ShelfError) = some true)
    (z_ValueError : PySem.W.nsIn K mainGlobals "ValueError" = some none)
    (z_int : PySem.W.nsIn K mainGlobals "int" = some none)
    (z_isinstance : PySem.W.nsIn K mainGlobals "isinstance" = some none)
    (z_len : PySem.W.nsIn K mainGlobals "len" = some none)
    (z_list : PySem.W.nsIn K mainGlobals "list" = some none)
    (z_min : PySem.W.nsIn K mainGlobals "min" = some none)
    (z_range : PySem.W.nsIn K mainGlobals "range" = some none)
    (z_sorted : PySem.W.nsIn K mainGlobals "sorted" = some none)
    (true_ : [C_NoBook, C_NoTurn, C_NoOrder, C_NoWish, C_FullShelf, C_BadLine].Nodup → ∀ ns : List Int, ns.length ≤ 63 → (w_law C_NoBook C_NoTurn C_NoOrder C_NoWish C_FullShelf C_BadLine) [scrD ns] = some (.ok (.d (.bool true)))) :
    ∃ fd : FuncData, (∀ (s : Shared) (v : Value), BindsTo s fd ⟨[v], []⟩ [("script", v)]) ∧ ∀ base : Heap, K.In base → base.Ns mainGlobals mg → FnOk P w K mg base (L2.CX P w) 6 fa fd ["script"] (spLaw K) := by
  have e := hfa.symm.trans (PySem.W.mg_of X G a21)
  cases e
  have B : Blt mg := ⟨PySem.W.mg_none_of X G z_ValueError, PySem.W.mg_none_of X G z_int, PySem.W.mg_none_of X G z_isinstance, PySem.W.mg_none_of X G z_len, PySem.W.mg_none_of X G z_list, PySem.W.mg_none_of X G z_min, PySem.W.mg_none_of X G z_range, PySem.W.mg_none_of X G z_sorted⟩
  have x_NoBook : ExT K mg "NoBook" C_NoBook := ⟨PySem.W.mg_of X G e_NoBook, ex_NoBook, ek_NoBook, eb_NoBook, et_NoBook⟩
  have x_NoTurn : ExT K mg "NoTurn" C_NoTurn := ⟨PySem.W.mg_of X G e_NoTurn, ex_NoTurn, ek_NoTurn, eb_NoTurn, et_NoTurn⟩
  have x_NoOrder : ExT K mg "NoOrder" C_NoOrder := ⟨PySem.W.mg_of X G e_NoOrder, ex_NoOrder, ek_NoOrder, eb_NoOrder, et_NoOrder⟩
  have y_ShelfError : ClT K mg "ShelfError" C_ShelfError := ⟨PySem.W.mg_of X G e_ShelfError, et_ShelfError, hd_ShelfError, eb_ShelfError⟩
  have y_NoBook : ClT K mg "NoBook" C_NoBook := ⟨PySem.W.mg_of X G e_NoBook, et_NoBook, hd_NoBook, eb_NoBook⟩
  have y_NoTurn : ClT K mg "NoTurn" C_NoTurn := ⟨PySem.W.mg_of X G e_NoTurn, et_NoTurn, hd_NoTurn, eb_NoTurn⟩
  have y_NoOrder : ClT K mg "NoOrder" C_NoOrder := ⟨PySem.W.mg_of X G e_NoOrder, et_NoOrder, hd_NoOrder, eb_NoOrder⟩
  have y_NoWish : ClT K mg "NoWish" C_NoWish := ⟨PySem.W.mg_of X G e_NoWish, et_NoWish, hd_NoWish, eb_NoWish⟩
  have y_FullShelf : ClT K mg "FullShelf" C_FullShelf := ⟨PySem.W.mg_of X G e_FullShelf, et_FullShelf, hd_FullShelf, eb_FullShelf⟩
  have y_BadLine : ClT K mg "BadLine" C_BadLine := ⟨PySem.W.mg_of X G e_BadLine, et_BadLine, hd_BadLine, eb_BadLine⟩
  have zc_NoBook : ExcC K C_NoBook := ⟨ga_NoBook, gt_NoBook, eb_NoBook, hd_NoBook, gc_NoBook, sp_, tk_, mo_NoBook⟩
  have zc_NoTurn : ExcC K C_NoTurn := ⟨ga_NoTurn, gt_NoTurn, eb_NoTurn, hd_NoTurn, gc_NoTurn, sp_, tk_, mo_NoTurn⟩
  have zc_NoOrder : ExcC K C_NoOrder := ⟨ga_NoOrder, gt_NoOrder, eb_NoOrder, hd_NoOrder, gc_NoOrder, sp_, tk_, mo_NoOrder⟩
  have ne_NoBook_NoTurn : ¬ C_NoBook = C_NoTurn := fun e => by rw [e, su_NoTurn_NoTurn] at su_NoBook_NoTurn; cases su_NoBook_NoTurn
  have ne_NoBook_NoOrder : ¬ C_NoBook = C_NoOrder := fun e => by rw [e, su_NoOrder_NoOrder] at su_NoBook_NoOrder; cases su_NoBook_NoOrder
  have ne_NoBook_NoWish : ¬ C_NoBook = C_NoWish := fun e => by rw [e, su_NoWish_NoWish] at su_NoBook_NoWish; cases su_NoBook_NoWish
  have ne_NoBook_FullShelf : ¬ C_NoBook = C_FullShelf := fun e => by rw [e, su_FullShelf_FullShelf] at su_NoBook_FullShelf; cases su_NoBook_FullShelf
  have ne_NoBook_BadLine : ¬ C_NoBook = C_BadLine := fun e => by rw [e, su_BadLine_BadLine] at su_NoBook_BadLine; cases su_NoBook_BadLine
  have ne_NoTurn_NoBook : ¬ C_NoTurn = C_NoBook := fun e => by rw [e, su_NoBook_NoBook] at su_NoTurn_NoBook; cases su_NoTurn_NoBook
  have ne_NoTurn_NoOrder : ¬ C_NoTurn = C_NoOrder := fun e => by rw [e, su_NoOrder_NoOrder] at su_NoTurn_NoOrder; cases su_NoTurn_NoOrder
  have ne_NoTurn_NoWish : ¬ C_NoTurn = C_NoWish := fun e => by rw [e, su_NoWish_NoWish] at su_NoTurn_NoWish; cases su_NoTurn_NoWish
  have ne_NoTurn_FullShelf : ¬ C_NoTurn = C_FullShelf := fun e => by rw [e, su_FullShelf_FullShelf] at su_NoTurn_FullShelf; cases su_NoTurn_FullShelf
  have ne_NoTurn_BadLine : ¬ C_NoTurn = C_BadLine := fun e => by rw [e, su_BadLine_BadLine] at su_NoTurn_BadLine; cases su_NoTurn_BadLine
  have ne_NoOrder_NoBook : ¬ C_NoOrder = C_NoBook := fun e => by rw [e, su_NoBook_NoBook] at su_NoOrder_NoBook; cases su_NoOrder_NoBook
  have ne_NoOrder_NoTurn : ¬ C_NoOrder = C_NoTurn := fun e => by rw [e, su_NoTurn_NoTurn] at su_NoOrder_NoTurn; cases su_NoOrder_NoTurn
  have ne_NoOrder_NoWish : ¬ C_NoOrder = C_NoWish := fun e => by rw [e, su_NoWish_NoWish] at su_NoOrder_NoWish; cases su_NoOrder_NoWish
  have ne_NoOrder_FullShelf : ¬ C_NoOrder = C_FullShelf := fun e => by rw [e, su_FullShelf_FullShelf] at su_NoOrder_FullShelf; cases su_NoOrder_FullShelf
  have ne_NoOrder_BadLine : ¬ C_NoOrder = C_BadLine := fun e => by rw [e, su_BadLine_BadLine] at su_NoOrder_BadLine; cases su_NoOrder_BadLine
  have ne_NoWish_FullShelf : ¬ C_NoWish = C_FullShelf := fun e => by rw [e, su_FullShelf_FullShelf] at su_NoWish_FullShelf; cases su_NoWish_FullShelf
  have ne_NoWish_BadLine : ¬ C_NoWish = C_BadLine := fun e => by rw [e, su_BadLine_BadLine] at su_NoWish_BadLine; cases su_NoWish_BadLine
  have ne_FullShelf_BadLine : ¬ C_FullShelf = C_BadLine := fun e => by rw [e, su_BadLine_BadLine] at su_FullShelf_BadLine; cases su_FullShelf_BadLine
  have Z__law_which : ∀ c ∈ [C_NoBook, C_NoTurn, C_NoOrder], ExcC K c := fun c hc => by
    simp only [List.mem_cons, List.not_mem_nil, or_false] at hc
    rcases hc with rfl | rfl | rfl
    · exact zc_NoBook
    · exact zc_NoTurn
    · exact zc_NoOrder
  have me__law_which : ∀ c ∈ [C_NoBook, C_NoTurn, C_NoOrder], PySem.W.exmOne K (.ref c) (.ref C_ShelfError) = some true := fun c hc => by
    simp only [List.mem_cons, List.not_mem_nil, or_false] at hc
    rcases hc with rfl | rfl | rfl
    · exact y_ShelfError.exm su_NoBook_ShelfError
    · exact y_ShelfError.exm su_NoTurn_ShelfError
    · exact y_ShelfError.exm su_NoOrder_ShelfError
  have kt_NoWish__law_which : ∀ c ∈ [C_NoBook, C_NoTurn, C_NoOrder], PySem.W.kitOne K (.ref c) (.ref C_NoWish) = some (decide (c = C_NoWish)) := fun c hc => by
    simp only [List.mem_cons, List.not_mem_nil, or_false] at hc
    rcases hc with rfl | rfl | rfl
    · exact by rw [decide_eq_false ne_NoBook_NoWish]; exact y_NoWish.kit su_NoBook_NoWish (fun e => (ne_NoBook_NoWish e).elim)
    · exact by rw [decide_eq_false ne_NoTurn_NoWish]; exact y_NoWish.kit su_NoTurn_NoWish (fun e => (ne_NoTurn_NoWish e).elim)
    · exact by rw [decide_eq_false ne_NoOrder_NoWish]; exact y_NoWish.kit su_NoOrder_NoWish (fun e => (ne_NoOrder_NoWish e).elim)
  have kt_NoTurn__law_which : ∀ c ∈ [C_NoBook, C_NoTurn, C_NoOrder], PySem.W.kitOne K (.ref c) (.ref C_NoTurn) = some (decide (c = C_NoTurn)) := fun c hc => by
    simp only [List.mem_cons, List.not_mem_nil, or_false] at hc
    rcases hc with rfl | rfl | rfl
    · exact by rw [decide_eq_false ne_NoBook_NoTurn]; exact y_NoTurn.kit su_NoBook_NoTurn (fun e => (ne_NoBook_NoTurn e).elim)
    · exact by rw [decide_eq_true rfl]; exact y_NoTurn.kit su_NoTurn_NoTurn (fun _ => rfl)
    · exact by rw [decide_eq_false ne_NoOrder_NoTurn]; exact y_NoTurn.kit su_NoOrder_NoTurn (fun e => (ne_NoOrder_NoTurn e).elim)
  have kt_NoOrder__law_which : ∀ c ∈ [C_NoBook, C_NoTurn, C_NoOrder], PySem.W.kitOne K (.ref c) (.ref C_NoOrder) = some (decide (c = C_NoOrder)) := fun c hc => by
    simp only [List.mem_cons, List.not_mem_nil, or_false] at hc
    rcases hc with rfl | rfl | rfl
    · exact by rw [decide_eq_false ne_NoBook_NoOrder]; exact y_NoOrder.kit su_NoBook_NoOrder (fun e => (ne_NoBook_NoOrder e).elim)
    · exact by rw [decide_eq_false ne_NoTurn_NoOrder]; exact y_NoOrder.kit su_NoTurn_NoOrder (fun e => (ne_NoTurn_NoOrder e).elim)
    · exact by rw [decide_eq_true rfl]; exact y_NoOrder.kit su_NoOrder_NoOrder (fun _ => rfl)
  have kt_NoBook__law_which : ∀ c ∈ [C_NoBook, C_NoTurn, C_NoOrder], PySem.W.kitOne K (.ref c) (.ref C_NoBook) = some (decide (c = C_NoBook)) := fun c hc => by
    simp only [List.mem_cons, List.not_mem_nil, or_false] at hc
    rcases hc with rfl | rfl | rfl
    · exact by rw [decide_eq_true rfl]; exact y_NoBook.kit su_NoBook_NoBook (fun _ => rfl)
    · exact by rw [decide_eq_false ne_NoTurn_NoBook]; exact y_NoBook.kit su_NoTurn_NoBook (fun e => (ne_NoTurn_NoBook e).elim)
    · exact by rw [decide_eq_false ne_NoOrder_NoBook]; exact y_NoBook.kit su_NoOrder_NoBook (fun e => (ne_NoOrder_NoBook e).elim)
  have kt_BadLine__law_which : ∀ c ∈ [C_NoBook, C_NoTurn, C_NoOrder], PySem.W.kitOne K (.ref c) (.ref C_BadLine) = some (decide (c = C_BadLine)) := fun c hc => by
    simp only [List.mem_cons, List.not_mem_nil, or_false] at hc
    rcases hc with rfl | rfl | rfl
    · exact by rw [decide_eq_false ne_NoBook_BadLine]; exact y_BadLine.kit su_NoBook_BadLine (fun e => (ne_NoBook_BadLine e).elim)
    · exact by rw [decide_eq_false ne_NoTurn_BadLine]; exact y_BadLine.kit su_NoTurn_BadLine (fun e => (ne_NoTurn_BadLine e).elim)
    · exact by rw [decide_eq_false ne_NoOrder_BadLine]; exact y_BadLine.kit su_NoOrder_BadLine (fun e => (ne_NoOrder_BadLine e).elim)
  have kt_FullShelf__law_which : ∀ c ∈ [C_NoBook, C_NoTurn, C_NoOrder], PySem.W.kitOne K (.ref c) (.ref C_FullShelf) = some (decide (c = C_FullShelf)) := fun c hc => by
    simp only [List.mem_cons, List.not_mem_nil, or_false] at hc
    rcases hc with rfl | rfl | rfl
    · exact by rw [decide_eq_false ne_NoBook_FullShelf]; exact y_FullShelf.kit su_NoBook_FullShelf (fun e => (ne_NoBook_FullShelf e).elim)
    · exact by rw [decide_eq_false ne_NoTurn_FullShelf]; exact y_FullShelf.kit su_NoTurn_FullShelf (fun e => (ne_NoTurn_FullShelf e).elim)
    · exact by rw [decide_eq_false ne_NoOrder_FullShelf]; exact y_FullShelf.kit su_NoOrder_FullShelf (fun e => (ne_NoOrder_FullShelf e).elim)
  have kb_ValueError__law_which : ∀ c ∈ [C_NoBook, C_NoTurn, C_NoOrder], PySem.W.kitOne K (.ref c) (.type "ValueError") = some true := fun c hc => by
    simp only [List.mem_cons, List.not_mem_nil, or_false] at hc
    rcases hc with rfl | rfl | rfl
    · exact kit_bt (by decide +kernel) sv_NoBook_ValueError
    · exact kit_bt (by decide +kernel) sv_NoTurn_ValueError
    · exact kit_bt (by decide +kernel) sv_NoOrder_ValueError
  obtain ⟨r0, F0⟩ := at_def (st := s__law_cell_at) X G a0 l0 c0 k0
  have b0 := F0.binds (ps := ["script", "k"]) fun _ _ _ _ _ _ us hl => match us, hl with | [_, _], _ => rfl
  obtain ⟨r1, F1⟩ := at_def (st := s__law_set) X G a1 l1 c1 k1
  have b1 := F1.binds (ps := ["cell", "many"]) fun _ _ _ _ _ _ us hl => match us, hl with | [_, _], _ => rfl
  obtain ⟨r2, F2⟩ := at_def (st := s__law_no_order) X G a2 l2 c2 k2
  have b2 := F2.binds (ps := ["cell", "many"]) fun _ _ _ _ _ _ us hl => match us, hl with | [_, _], _ => rfl
  obtain ⟨r3, F3⟩ := at_def (st := s_ask) X G a3 l3 c3 k3
  have b3 := F3.binds (ps := ["many", "wishes"]) fun _ _ _ _ _ _ us hl => match us, hl with | [_, _], _ => rfl
  obtain ⟨r4, F4⟩ := at_def (st := s_ask_order) X G a4 l4 c4 k4
  have b4 := F4.binds (ps := ["many", "order"]) fun _ _ _ _ _ _ us hl => match us, hl with | [_, _], _ => rfl
  obtain ⟨r5, F5⟩ := at_def (st := s_together) X G a5 l5 c5 k5
  have b5 := F5.binds (ps := ["order", "wish"]) fun _ _ _ _ _ _ us hl => match us, hl with | [_, _], _ => rfl
  obtain ⟨r6, F6⟩ := at_def (st := s_kept) X G a6 l6 c6 k6
  have b6 := F6.binds (ps := ["many", "order", "wishes"]) fun _ _ _ _ _ _ us hl => match us, hl with | [_, _, _], _ => rfl
  obtain ⟨r7, F7⟩ := at_def (st := s_following) X G a7 l7 c7 k7
  have b7 := F7.binds (ps := ["many", "wishes", "order"]) fun _ _ _ _ _ _ us hl => match us, hl with | [_, _, _], _ => rfl
  obtain ⟨r8, F8⟩ := at_def (st := s_stands) X G a8 l8 c8 k8
  have b8 := F8.binds (ps := ["many", "order", "wish"]) fun _ _ _ _ _ _ us hl => match us, hl with | [_, _, _], _ => rfl
  obtain ⟨r9, F9⟩ := at_def (st := s_ask_turns) X G a9 l9 c9 k9
  have b9 := F9.binds (ps := ["many", "wishes", "one", "other"]) fun _ _ _ _ _ _ us hl => match us, hl with | [_, _, _, _], _ => rfl
  obtain ⟨r10, F10⟩ := at_def (st := s_split) X G a10 l10 c10 k10
  have b10 := F10.binds (ps := ["wishes", "a", "b", "c"]) fun _ _ _ _ _ _ us hl => match us, hl with | [_, _, _, _], _ => rfl
  obtain ⟨r11, F11⟩ := at_def (st := s_barred) X G a11 l11 c11 k11
  have b11 := F11.binds (ps := ["wishes", "one", "other"]) fun _ _ _ _ _ _ us hl => match us, hl with | [_, _, _], _ => rfl
  obtain ⟨r12, F12⟩ := at_def (st := s_bar) X G a12 l12 c12 k12
  have b12 := F12.binds (ps := ["many", "wishes", "one", "other"]) fun _ _ _ _ _ _ us hl => match us, hl with | [_, _, _, _], _ => rfl
  obtain ⟨r13, F13⟩ := at_def (st := s_chain) X G a13 l13 c13 k13
  have b13 := F13.binds (ps := ["many", "wishes", "one", "other"]) fun _ _ _ _ _ _ us hl => match us, hl with | [_, _, _, _], _ => rfl
  obtain ⟨r14, F14⟩ := at_def (st := s_odd_ring) X G a14 l14 c14 k14
  have b14 := F14.binds (ps := ["many", "wishes"]) fun _ _ _ _ _ _ us hl => match us, hl with | [_, _], _ => rfl
  obtain ⟨r15, F15⟩ := at_def (st := s_first) X G a15 l15 c15 k15
  have b15 := F15.binds (ps := ["many", "wishes"]) fun _ _ _ _ _ _ us hl => match us, hl with | [_, _], _ => rfl
  obtain ⟨r16, F16⟩ := at_def (st := s_judged) X G a16 l16 c16 k16
  have b16 := F16.binds (ps := ["many", "wishes"]) fun _ _ _ _ _ _ us hl => match us, hl with | [_, _], _ => rfl
  obtain ⟨r17, F17⟩ := at_def (st := s_clash) X G a17 l17 c17 k17
  have b17 := F17.binds (ps := ["many", "wishes"]) fun _ _ _ _ _ _ us hl => match us, hl with | [_, _], _ => rfl
  obtain ⟨r18, F18⟩ := at_def (st := s_shown) X G a18 l18 c18 k18
  have b18 := F18.binds (ps := ["many", "wishes"]) fun _ _ _ _ _ _ us hl => match us, hl with | [_, _], _ => rfl
  obtain ⟨r19, F19⟩ := at_def (st := s__law_asked) X G a19 l19 c19 k19
  have b19 := F19.binds (ps := ["way", "many", "wishes", "order", "turn", "second"]) fun _ _ _ _ _ _ us hl => match us, hl with | [_, _, _, _, _, _], _ => rfl
  obtain ⟨r20, F20⟩ := at_def (st := s__law_which) X G a20 l20 c20 k20
  have b20 := F20.binds (ps := ["way", "many", "wishes", "order", "turn", "second"]) fun _ _ _ _ _ _ us hl => match us, hl with | [_, _, _, _, _, _], _ => rfl
  obtain ⟨r21, F21⟩ := at_def (st := s_law) X G a21 l21 c21 k21
  refine ⟨PySem.W.fnOf "law" "law" (defArgs s_law) (defBody s_law) (defScope s_law) .none kV21 dc21 pm21 an21 cd21 ct21, fun s v => .of_eq rfl, fun base _ _ => ?_⟩
  have h__law_cell_at : DefOk P w K mg base "_law_cell_at" 1 w__law_cell_at := DefOk.of F0 (fn__law_cell_at F0 B) r0 b0
  have h__law_set : DefOk P w K mg base "_law_set" 1 w__law_set := DefOk.of F1 (fn__law_set F1 B) r1 b1
  have h__law_no_order : DefOk P w K mg base "_law_no_order" 1 w__law_no_order := DefOk.of F2 (fn__law_no_order F2 B) r2 b2
  have h_ask : DefOk P w K mg base "ask" 1 (w_ask C_NoBook) := DefOk.of F3 (fn_ask F3 B x_NoBook) r3 b3
  have h_ask_order : DefOk P w K mg base "ask_order" 1 (w_ask_order C_NoOrder) := DefOk.of F4 (fn_ask_order F4 B x_NoOrder) r4 b4
  have h_together : DefOk P w K mg base "together" 1 w_together := DefOk.of F5 (fn_together F5 B) r5 b5
  have h_split : DefOk P w K mg base "split" 1 w_split := DefOk.of F10 (fn_split F10 B) r10 b10
  have h_kept : DefOk P w K mg base "kept" 2 (w_kept C_NoBook C_NoOrder) := DefOk.of F6 (fn_kept F6 B h_ask h_ask_order h_together) r6 b6
  have h_following : DefOk P w K mg base "following" 2 (w_following C_NoBook C_NoOrder) := DefOk.of F7 (fn_following F7 B h_ask_order h_ask) r7 b7
  have h_stands : DefOk P w K mg base "stands" 2 (w_stands C_NoBook C_NoOrder) := DefOk.of F8 (fn_stands F8 B h_ask h_ask_order h_together) r8 b8
  have h_ask_turns : DefOk P w K mg base "ask_turns" 2 (w_ask_turns C_NoBook C_NoTurn) := DefOk.of F9 (fn_ask_turns F9 B h_ask x_NoTurn) r9 b9
  have h_barred : DefOk P w K mg base "barred" 2 w_barred := DefOk.of F11 (fn_barred F11 B h_split) r11 b11
  have h_odd_ring : DefOk P w K mg base "odd_ring" 2 (w_odd_ring C_NoBook) := DefOk.of F14 (fn_odd_ring F14 B h_ask) r14 b14
  have h_shown : DefOk P w K mg base "shown" 2 (w_shown C_NoBook) := DefOk.of F18 (fn_shown F18 B h_ask) r18 b18
  have h_bar : DefOk P w K mg base "bar" 3 (w_bar C_NoBook C_NoTurn) := DefOk.of F12 (fn_bar F12 B h_ask_turns h_barred) r12 b12
  have h_chain : DefOk P w K mg base "chain" 3 (w_chain C_NoBook C_NoTurn) := DefOk.of F13 (fn_chain F13 B h_ask_turns) r13 b13
  have h_first : DefOk P w K mg base "first" 3 (w_first C_NoBook) := DefOk.of F15 (fn_first F15 B h_odd_ring) r15 b15
  have h_judged : DefOk P w K mg base "judged" 3 (w_judged C_NoBook) := DefOk.of F16 (fn_judged F16 B h_odd_ring) r16 b16
  have h_clash : DefOk P w K mg base "clash" 3 (w_clash C_NoBook) := DefOk.of F17 (fn_clash F17 B h_odd_ring) r17 b17
  have h__law_asked : DefOk P w K mg base "_law_asked" 4 (w__law_asked C_NoBook C_NoTurn C_NoOrder) := DefOk.of F19 (fn__law_asked F19 B h_kept h_following h_stands h_bar h_chain h_odd_ring h_first h_judged h_clash h_shown) r19 b19
  have h__law_which : DefOk P w K mg base "_law_which" 5 (w__law_which C_NoBook C_NoTurn C_NoOrder C_NoWish C_FullShelf C_BadLine) := DefOk.of F20 (fn__law_which F20 B h__law_asked y_ShelfError y_NoWish y_NoTurn y_NoOrder y_NoBook y_BadLine y_FullShelf Z__law_which me__law_which kt_NoWish__law_which kt_NoTurn__law_which kt_NoOrder__law_which kt_NoBook__law_which kt_BadLine__law_which kt_FullShelf__law_which kb_ValueError__law_which) r20 b20
  exact law_imp (fn_law F21 B h__law_cell_at h__law_set h__law_no_order h__law_which) (true_ (by simp [ne_NoBook_NoTurn, ne_NoBook_NoOrder, ne_NoBook_NoWish, ne_NoBook_FullShelf, ne_NoBook_BadLine, ne_NoTurn_NoBook, ne_NoTurn_NoOrder, ne_NoTurn_NoWish, ne_NoTurn_FullShelf, ne_NoTurn_BadLine, ne_NoOrder_NoBook, ne_NoOrder_NoTurn, ne_NoOrder_NoWish, ne_NoOrder_FullShelf, ne_NoOrder_BadLine, ne_NoWish_FullShelf, ne_NoWish_BadLine, ne_FullShelf_BadLine]))
end
end G

namespace G
open PySem L2 DL DX
/-! ### how a law draws its input -/
local macro_rules | `(tactic| walk_at "run") => `(tactic| simp [*])
def cellAt (ns : List Int) (k : Nat) : Int := ns.getD k 0
theorem e_cell (ns : List Int) (k : Nat) : w__law_cell_at [scrD ns, .int k] = some (.ok (.d (.int (cellAt ns k)))) := by
  unfold w__law_cell_at defD m__law_cell_at cellAt
  by_cases h : k < ns.length
  · walk_at "run"
    simp [h, fIx_scr h]
  · walk_at "run"
theorem x_cell (ns : List Int) (z : Int) (h : 0 ≤ z) : w__law_cell_at [scrD ns, .int z] = some (.ok (.d (.int (cellAt ns z.toNat)))) := by
  have e := e_cell ns z.toNat
  rwa [Int.toNat_of_nonneg h] at e
theorem range_at {many k : Nat} {x : PD} (hx : ((List.range many).map fun (i : Nat) => (PyData.int (i : Int) : PD))[k]? = some x) : k < many ∧ x = .int (k : Int) := by
  rw [List.getElem?_map] at hx
  obtain ⟨i, hi, rfl⟩ := Option.map_eq_some_iff.mp hx
  obtain ⟨h1, h2⟩ := List.getElem?_eq_some_iff.mp hi
  simp at h1 h2
  subst h2
  exact ⟨h1, rfl⟩
/-- the numbers 0, 1, .. below many -/
def rgI (many : Nat) : List Int := (List.range many).map fun (i : Nat) => (i : Int)
theorem mem_rgI {many : Nat} {b : Int} : b ∈ rgI many ↔ 0 ≤ b ∧ b < many := by
  unfold rgI
  rw [List.mem_map]
  constructor
  · rintro ⟨i, hi, rfl⟩
    have := List.mem_range.mp hi
    omega
  · rintro ⟨h1, h2⟩
    exact ⟨b.toNat, List.mem_range.mpr (by omega), by omega⟩
theorem rgI_len (many : Nat) : (rgI many).length = many := by unfold rgI; simp
/-- which books a cell tells -/
theorem x_set (cell : Int) (many : Nat) (hm : many ≤ 1000) : ∃ s : List Int, w__law_set [.int cell, .int many] = some (.ok (.o (.lst (s.map .int)))) ∧ s.Pairwise (· < ·) ∧ (∀ b ∈ s, 0 ≤ b ∧ b < many) ∧ s.length ≤ many := by
  unfold w__law_set defD m__law_set
  walk_at "run"
  generalize hf : forL _ _ _ _ = o
  obtain ⟨ρ', rfl, c', s, x, rfl, h1, h2, h3⟩ := forL_at hf (fun k ρ => ∃ (c' : Int) (s : List Int) (x : Sl), ρ = [.d (.int c'), .d (.int many), .o (.lst (s.map .int)), x] ∧ s.Pairwise (· < ·) ∧ (∀ b ∈ s, 0 ≤ b ∧ b < (k : Int)) ∧ s.length ≤ k)
    ⟨cell, [], .no, rfl, .nil, by simp, by simp⟩ (by
      rintro k x ρ hx ⟨c', s, y, rfl, h1, h2, h3⟩
      obtain ⟨hk, rfl⟩ := range_at hx
      have b1 : s.length < big := by unfold big; omega
      rcases Int.emod_two_eq c' with e | e
      · refine ⟨_, by walk_at "run"; simp [fMod_pos, fDiv_pos, e], c' / 2, s, .d (.int k), rfl, h1, fun b hb => ?_, by omega⟩
        have := h2 b hb
        omega
      · refine ⟨_, by walk_at "run"; simp [fMod_pos, fDiv_pos, e, b1]; rfl, c' / 2, s ++ [(k : Int)], .d (.int k), by simp, ?_, fun b hb => ?_, by simp; omega⟩
        · rw [List.pairwise_append]
          exact ⟨h1, List.pairwise_singleton _ _, fun a ha b hb => by rw [List.mem_singleton.mp hb]; exact (h2 a ha).2⟩
        · rcases List.mem_append.mp hb with hb | hb
          · have := h2 b hb; omega
          · rw [List.mem_singleton.mp hb]; omega)
  simp only [List.length_map, List.length_range] at h2 h3
  exact ⟨s, by simp, h1, h2, h3⟩
theorem erase_map {α β : Type} (f : α → β) : ∀ (l : List α) (n : Nat), (l.map f).eraseIdx n = (l.eraseIdx n).map f
  | [], _ => by simp
  | _ :: _, 0 => by simp
  | _ :: l, n + 1 => by simp [erase_map f l n]
theorem erase_perm {α : Type} : ∀ (l : List α) (n : Nat) (h : n < l.length), (l[n] :: l.eraseIdx n).Perm l
  | _ :: _, 0, _ => by simp
  | a :: l, n + 1, h => by
    rw [List.eraseIdx_cons_succ, List.getElem_cons_succ]
    exact (List.Perm.swap a _ _).trans ((erase_perm l n (by simpa using h)).cons a)
theorem lc_copy {ws : List (List Int)} {ρ : List Sl} {i : Nat} (hi : i < ρ.length) (hw : ws.length ≤ 1000) : lcL i (mr true) (mDat (mC fList (mCons (mV i) mNil))) ρ (ws.map dL) [] = some (ws.map dL) := by
  rw [lcL_map dL (fun _ => true) dL]
  · rw [List.filter_eq_self.mpr (fun _ _ => rfl)]
    rfl
  · intro w hw
    rfl
  · intro w hw _
    simp [hi]
  · unfold big; simp; omega
theorem cutL_map (l : List Int) (lo hi : Option Int) : ∃ a b : Nat, cutL (l.map .int) lo hi = ((l.drop a).take b).map .int :=
  ⟨HT.sIx (l.map PyData.int).length 0 lo, HT.sIx (l.map PyData.int).length (l.map PyData.int).length hi - HT.sIx (l.map PyData.int).length 0 lo, by unfold cutL; simp⟩
/-- sets, each by a cell -/
theorem x_sets (ns : List Int) (at_ : Nat) (many : Nat) (hm : many ≤ 1000) : ∃ sf : Nat → List Int, ∀ i, w__law_set [.int (cellAt ns (at_ + i)), .int many] = some (.ok (.o (.lst ((sf i).map .int)))) ∧ (sf i).Pairwise (· < ·) ∧ (∀ b ∈ sf i, 0 ≤ b ∧ b < many) ∧ (sf i).length ≤ many :=
  ⟨fun i => (x_set (cellAt ns (at_ + i)) many hm).choose, fun i => (x_set (cellAt ns (at_ + i)) many hm).choose_spec⟩
theorem ixN_in {n : Nat} {z : Int} (h0 : 0 ≤ z) (h1 : z < n) : ixN n z = some z.toNat := by unfold ixN; rw [if_pos h0, if_pos h1]
theorem x_c (ns : List Int) (z : Int) (h : 0 ≤ z) : ∃ y, w__law_cell_at [scrD ns, .int z] = some (.ok (.d (.int y))) := ⟨_, x_cell ns z h⟩

end G

namespace G
open PySem L2 DL DX
local macro_rules | `(tactic| walk_at "run") => `(tactic| simp [*])
/-- a book that isn't there -/
def offB (many : Int) (b : Int) : Bool := decide (b < 0) || decide (many ≤ b)
def offW (many : Int) (w : List Int) : Bool := w.any (offB many)
def offWs (many : Int) (ws : List (List Int)) : Bool := ws.any (offW many)
theorem x_askG (C : Addr) (many : Int) {α : Type} (f : α → PD) (g : α → List Int) (h : ∀ a, asSeq (f a) = some ((g a).map .int)) (l : List α) : w_ask C [.int many, .list (l.map f)] = if l.any (fun a => offW many (g a)) = true then some (.ex C) else some (.ok (.d .none)) := by
  unfold w_ask defD m_ask
  generalize hB : (l.any fun a => offW many (g a)) = B
  walk_at "run"
  generalize hf : forL _ _ _ _ = O
  rcases forL_firstAt hf l f rfl (X := .ex C) trivial (fun a => offW many (g a)) (fun ρ => ∃ x y, ρ = [.d (.int many), .d (.list (l.map f)), x, y]) ⟨_, _, rfl⟩ (by
      rintro w hw ρ ⟨x, y, rfl⟩
      have hw' := h w
      walk_at "run"
      generalize hg : forL _ _ _ _ = O2
      rcases forL_firstAt hg (g w) PyData.int rfl (X := .ex C) trivial (offB many) (fun ρ => ∃ x y, ρ = [.d (.int many), .d (.list (l.map f)), x, y]) ⟨_, _, rfl⟩ (by
          rintro b hb ρ ⟨x, y, rfl⟩
          unfold offB
          by_cases h1 : b < 0
          · walk_at "run"
          · by_cases h2 : many ≤ b
            · walk_at "run"
            · walk_at "run") with ⟨e1, e2⟩ | ⟨e1, ρ', e2, x, y, e3⟩
      · have : offW many (g w) = true := e1
        simp [this, e2]
      · have : offW many (g w) = false := e1
        subst e3
        simp [this, e2]) with ⟨e1, e2⟩ | ⟨e1, ρ', e2, x, y, e3⟩
  · cases hB.symm.trans e1
    rw [e2]
    rfl
  · cases hB.symm.trans e1
    rw [e2]
    rfl
theorem x_ask (C : Addr) (many : Int) (ws : List (List Int)) : w_ask C [.int many, dW ws] = if offWs many ws = true then some (.ex C) else some (.ok (.d .none)) := x_askG C many dL id (fun _ => rfl) ws
theorem offWs_ok {many : Nat} {ws : List (List Int)} (h : ∀ w ∈ ws, ∀ b ∈ w, 0 ≤ b ∧ b < many) : offWs many ws = false := by
  unfold offWs
  rw [List.any_eq_false]
  intro w hw e
  unfold offW at e
  obtain ⟨b, hb, e⟩ := List.any_eq_true.mp e
  have := h w hw b hb
  unfold offB at e
  simp at e
  omega
theorem x_ask_ok (C : Addr) {many : Nat} {ws : List (List Int)} (h : ∀ w ∈ ws, ∀ b ∈ w, 0 ≤ b ∧ b < many) : w_ask C [.int many, dW ws] = some (.ok (.d .none)) := by
  rw [x_ask, offWs_ok h]
  rfl

end G

namespace G
open PySem L2 DL DX
local macro_rules | `(tactic| walk_at "run") => `(tactic| simp [*])
theorem rgI_sorted (n : Nat) : (rgI n).Pairwise (· ≤ ·) := by
  unfold rgI
  rw [List.pairwise_map]
  exact List.Pairwise.imp (fun h => by omega) List.pairwise_lt_range
theorem x_ask_order (C : Addr) (many : Nat) (o : List Int) (hm : many ≤ 1000) (ho : o.length < 64) : w_ask_order C [.int many, dL o] = if sortI o = rgI many then some (.ok (.d .none)) else some (.ex C) := by
  unfold w_ask_order defD m_ask_order
  have e : fNe (dL (sortI o)) (.list ((List.range many).map fun (i : Nat) => .int (i : Int))) = some (.bool (!decide (sortI o = rgI many))) := by
    have t := encL.fNe (sortI o) (rgI many)
    have q : dL (rgI many) = .list ((List.range many).map fun (i : Nat) => .int (i : Int)) := by
      unfold rgI dL
      rw [List.map_map]
      rfl
    rw [q] at t
    exact t
  have e1 := fSorted_i ho
  by_cases h : sortI o = rgI many
  · have h' := h
    rw [h] at e e1
    clear h
    walk_at "run"
  · walk_at "run"
theorem sort_perm {o : List Int} {many : Nat} (h : o.Perm (rgI many)) : sortI o = rgI many := sorted_uniq ((sortI_perm o).trans h) (sortI_sorted o) (rgI_sorted many)
theorem x_ask_order_ok (C : Addr) {many : Nat} {o : List Int} (hm : many < 64) (h : o.Perm (rgI many)) : w_ask_order C [.int many, dL o] = some (.ok (.d .none)) := by
  rw [x_ask_order C many o (by omega) (by rw [h.length_eq, rgI_len]; exact hm), if_pos (sort_perm h)]

end G

namespace G
open PySem L2 DL DX
/-! ### turns, and how they bar one another -/
local macro_rules | `(tactic| walk_at "run") => `(tactic| simp [*])
abbrev tD (t : Int × Int) : PD := .tuple [.int t.1, .int t.2]
/-- some wish has a and c, but not b -/
def spB (ws : List (List Int)) (a b c : Int) : Bool := ws.any fun w => decide (a ∈ w) && (decide (c ∈ w) && !decide (b ∈ w))
def barB (ws : List (List Int)) (s t : Int × Int) : Bool :=
  if s.1 = t.2 ∧ s.2 = t.1 then true else if s.2 = t.1 ∧ ¬ s.1 = t.2 then spB ws s.1 s.2 t.2 else if t.2 = s.1 ∧ ¬ t.1 = s.2 then spB ws t.1 t.2 s.2 else false
theorem x_split (ws : List (List Int)) (a b c : Int) : w_split [dW ws, .int a, .int b, .int c] = some (.ok (.d (.bool (spB ws a b c)))) := by
  unfold w_split defD m_split
  walk_at "run"
  generalize hf : forL _ _ _ _ = O
  rcases forL_firstAt hf ws dL rfl (X := .rt (.d (.bool true))) trivial (fun w => decide (a ∈ w) && (decide (c ∈ w) && !decide (b ∈ w))) (fun ρ => ∃ x, ρ = [.d (dW ws), .d (.int a), .d (.int b), .d (.int c), x]) ⟨_, rfl⟩ (by
      rintro w hw ρ ⟨x, rfl⟩
      have e1 := Enc.int.fIn false w a
      have e2 := Enc.int.fIn false w c
      have e3 := Enc.int.fIn true w b
      by_cases h1 : a ∈ w
      · by_cases h2 : c ∈ w
        · by_cases h3 : b ∈ w
          · walk_at "run"
          · walk_at "run"
        · walk_at "run"
      · walk_at "run") with ⟨e1, e2⟩ | ⟨e1, ρ', e2, _⟩
  · have : spB ws a b c = true := e1
    rw [e2, this]; rfl
  · have : spB ws a b c = false := e1
    rw [e2, this]; rfl
theorem x_barred (ws : List (List Int)) (s t : Int × Int) : w_barred [dW ws, tD s, tD t] = some (.ok (.d (.bool (barB ws s t)))) := by
  obtain ⟨a, b⟩ := s
  obtain ⟨c, d⟩ := t
  unfold w_barred defD m_barred barB
  have e := x_split ws
  by_cases h1 : a = d
  · by_cases h2 : b = c
    · walk_at "run"
    · have h3 : ¬ c = b := fun z => h2 z.symm
      walk_at "run"
  · have h3 : ¬ d = a := fun z => h1 z.symm
    by_cases h2 : b = c
    · walk_at "run"
    · walk_at "run"
theorem bar_comm (ws : List (List Int)) (s t : Int × Int) : barB ws s t = barB ws t s := by
  obtain ⟨a, b⟩ := s
  obtain ⟨c, d⟩ := t
  unfold barB
  by_cases h1 : a = d
  · by_cases h2 : b = c
    · simp [h1, h2]
    · have h3 : ¬ c = b := fun z => h2 z.symm
      simp [h1, h2, h3]
  · have h3 : ¬ d = a := fun z => h1 z.symm
    by_cases h2 : b = c
    · simp [h1, h2, h3]
    · have h4 : ¬ c = b := fun z => h2 z.symm
      simp [h1, h2, h3, h4]
/-- refusals of turns -/
theorem x_ask_turns (C D : Addr) (many : Int) (ws : List (List Int)) (s t : Int × Int) : w_ask_turns C D [.int many, dW ws, tD s, tD t] =
    if (offWs many ws || (offW many [s.1, s.2] || offW many [t.1, t.2])) = true then some (.ex C) else if s.1 = s.2 ∨ t.1 = t.2 then some (.ex D) else some (.ok (.d .none)) := by
  unfold w_ask_turns defD m_ask_turns
  have e1 := x_ask C many ws
  have e2 : w_ask C [.int many, .list [tD s, tD t]] = if (offW many [s.1, s.2] || offW many [t.1, t.2]) = true then some (.ex C) else some (.ok (.d .none)) := by
    have := x_askG C many tD (fun t => [t.1, t.2]) (fun _ => rfl) [s, t]
    simpa using this
  have e3 : 2 ≤ big := by decide
  by_cases h1 : offWs many ws = true
  · walk_at "run"
  · by_cases h2 : (offW many [s.1, s.2] || offW many [t.1, t.2]) = true
    · simp only [h2, if_true] at e2
      rw [if_neg h1] at e1
      rw [h2]
      walk_at "run"
    · simp only [h2] at e2
      rw [if_neg h1] at e1
      have h2' : (offW many [s.1, s.2] || offW many [t.1, t.2]) = false := by simpa using h2
      have h1' : offWs many ws = false := by simpa using h1
      rw [h2', h1']
      by_cases h3 : s.1 = s.2
      · walk_at "run"
      · by_cases h4 : t.1 = t.2
        · walk_at "run"
        · walk_at "run"
/-- a turn of books that are there -/
def TOk (many : Nat) (t : Int × Int) : Prop := (0 ≤ t.1 ∧ t.1 < many) ∧ (0 ≤ t.2 ∧ t.2 < many) ∧ t.1 ≠ t.2
theorem TOk.off {many : Nat} {t : Int × Int} (h : TOk many t) : offW many [t.1, t.2] = false := by
  obtain ⟨⟨h1, h2⟩, ⟨h3, h4⟩, _⟩ := h
  unfold offW offB
  simp
  omega
theorem x_ask_turns_ok (C D : Addr) {many : Nat} {ws : List (List Int)} {s t : Int × Int} (hb : ∀ w ∈ ws, ∀ b ∈ w, 0 ≤ b ∧ b < (many : Int)) (hs : TOk many s) (ht : TOk many t) :
    w_ask_turns C D [.int many, dW ws, tD s, tD t] = some (.ok (.d .none)) := by
  rw [x_ask_turns, offWs_ok hb, hs.off, ht.off]
  simp [hs.2.2, ht.2.2]

end G

namespace G
open PySem L2 DL DX
local macro_rules | `(tactic| walk_at "run") => `(tactic| simp [*])
/-! what is no order -/
def bad0 (m a : Nat) : List Int := (rgI m).set a ((if a = 0 then (m : Int) - 1 else (a : Int) - 1) + (if m = 1 then 1 else 0))
def bad3 (m a b : Nat) : List Int := (rgI m).set a (if b = 0 then -1 else (m : Int))
theorem bad0_ne : ∀ m, m < 9 → ∀ a, a < m → sortI (bad0 m a) ≠ rgI m := by decide +kernel
theorem bad1_ne : ∀ m, m < 9 → ∀ a, a < m → sortI ((rgI m).eraseIdx a) ≠ rgI m := by decide +kernel
theorem bad2_ne : ∀ m, m < 9 → ∀ a, a < m → sortI (rgI m ++ [(a : Int)]) ≠ rgI m := by decide +kernel
theorem bad3_ne : ∀ m, m < 9 → ∀ a, a < m → ∀ b, b < 2 → sortI (bad3 m a b) ≠ rgI m := by decide +kernel
theorem rgI_pd (m : Nat) : ((List.range m).map fun (i : Nat) => PyData.int (i : Int)) = (rgI m).map .int := by
  unfold rgI
  rw [List.map_map]
  rfl
theorem rgI_at {m a : Nat} (h : a < m) : (rgI m)[a]? = some (a : Int) := by
  unfold rgI
  rw [List.getElem?_map, List.getElem?_range h]
  rfl
theorem x_no_order (cell : Int) (m : Nat) (h1 : 1 ≤ m) (h2 : m < 9) : ∃ o : List Int, w__law_no_order [.int cell, .int m] = some (.ok (.o (.lst (o.map .int)))) ∧ o.length < 64 ∧ sortI o ≠ rgI m := by
  have hm : m ≤ 1000 := by omega
  have e1 := rng1_nat hm
  rw [rgI_pd] at e1
  have p1 : (0 : Int) < m := by omega
  have f1 : ∀ p, fMod (.int p) (.int (m : Int)) = some (.int (p % (m : Int))) := fun p => fMod_pos p1
  have f2 : ∀ p, fMod (.int p) (.int 4) = some (.int (p % 4)) := fun p => fMod_pos (by decide)
  have f3 : ∀ p, fDiv (.int p) (.int 4) = some (.int (p / 4)) := fun p => fDiv_pos (by decide) (by decide)
  have f4 : ∀ p, fDiv (.int p) (.int 40) = some (.int (p / 40)) := fun p => fDiv_pos (by decide) (by decide)
  have f5 : ∀ p, fMod (.int p) (.int 2) = some (.int (p % 2)) := fun p => fMod_pos (by decide)
  have q1 := Int.emod_nonneg (cell / 4) (show (m : Int) ≠ 0 by omega)
  have q2 := Int.emod_lt_of_pos (cell / 4) p1
  obtain ⟨a, ha⟩ : ∃ a : Nat, cell / 4 % (m : Int) = (a : Int) := ⟨(cell / 4 % (m : Int)).toNat, by omega⟩
  have ham : a < m := by omega
  have hx : ixN m (a : Int) = some a := by unfold ixN; rw [if_pos (by omega), if_pos (by omega)]; rfl
  have hl := rgI_len m
  unfold w__law_no_order defD m__law_no_order
  have hb : m < big := by unfold big; omega
  have hb2 : 2 ≤ big := by decide
  rcases (show cell % 4 = 0 ∨ cell % 4 = 1 ∨ cell % 4 = 2 ∨ cell % 4 = 3 by omega) with h | h | h | h
  · refine ⟨bad0 m a, ?_, by unfold bad0; simp [hl]; omega, bad0_ne m h2 a ham⟩
    have e2 : atI ((rgI m).map PyData.int) ((a : Int) - 1) = some (.int (if a = 0 then (m : Int) - 1 else (a : Int) - 1)) := by
      by_cases z : a = 0
      · subst z
        rw [if_pos rfl]
        show atI ((rgI m).map PyData.int) (-1) = _
        rw [atI_neg, List.getLast?_eq_getElem?, List.length_map, hl, List.getElem?_map, rgI_at (by omega)]
        show some (PyData.int ((m - 1 : Nat) : Int)) = _
        congr 2
        omega
      · rw [if_neg z]
        have : (a : Int) - 1 = ((a - 1 : Nat) : Int) := by omega
        rw [this]
        exact atI_nat (by rw [List.getElem?_map, rgI_at (by omega)]; rfl)
    have e3 : fInt [.bool (decide ((m : Int) = 1))] = some (.d (.int (if m = 1 then 1 else 0))) := by
      by_cases z : m = 1
      · subst z; rfl
      · have z' : ¬ (m : Int) = 1 := by omega
        rw [decide_eq_false z', if_neg z]; rfl
    walk_at "run"
    unfold bad0
    rw [List.map_set]
  · refine ⟨(rgI m).eraseIdx a, ?_, by rw [List.length_eraseIdx]; split <;> omega, bad1_ne m h2 a ham⟩
    walk_at "run"
    exact erase_map _ _ _
  · refine ⟨rgI m ++ [(a : Int)], ?_, by simp [hl]; omega, bad2_ne m h2 a ham⟩
    walk_at "run"
  · have e4 : cell / 40 % 2 = 0 ∨ cell / 40 % 2 = 1 := by omega
    rcases e4 with z | z
    · refine ⟨bad3 m a 0, ?_, by unfold bad3; simp [hl]; omega, bad3_ne m h2 a ham 0 (by decide)⟩
      walk_at "run"
      unfold bad3
      rw [List.map_set]
      rfl
    · refine ⟨bad3 m a 1, ?_, by unfold bad3; simp [hl]; omega, bad3_ne m h2 a ham 1 (by decide)⟩
      walk_at "run"
      unfold bad3
      rw [List.map_set]
      rfl
/-! what is refused -/
section
variable (C1 C2 C3 : Addr) {m : Nat} {ws : List (List Int)} {o : List Int} {s t : Int × Int}
theorem y_kept_b (h : offWs m ws = true) (ho : o.length < 64) : w_kept C1 C3 [.int m, dL o, dW ws] = some (.ex C1) := by
  have e := x_ask C1 m ws
  rw [h] at e
  unfold w_kept defD m_kept
  walk_at "run"
theorem y_kept_o (h : offWs m ws = false) (hm : m ≤ 1000) (ho : o.length < 64) (hn : sortI o ≠ rgI m) : w_kept C1 C3 [.int m, dL o, dW ws] = some (.ex C3) := by
  have e := x_ask C1 m ws
  rw [h] at e
  have e2 := x_ask_order C3 m o hm ho
  rw [if_neg hn] at e2
  unfold w_kept defD m_kept
  walk_at "run"
theorem y_fol_b (h : offWs m ws = true) : w_following C1 C3 [.int m, dW ws, dL o] = some (.ex C1) := by
  have e := x_ask C1 m ws
  rw [h] at e
  unfold w_following defD m_following
  walk_at "run"
theorem y_fol_o (h : offWs m ws = false) (hm : m ≤ 1000) (ho : o.length < 64) (hn : sortI o ≠ rgI m) : w_following C1 C3 [.int m, dW ws, dL o] = some (.ex C3) := by
  have e := x_ask C1 m ws
  rw [h] at e
  have e2 := x_ask_order C3 m o hm ho
  rw [if_neg hn] at e2
  unfold w_following defD m_following
  walk_at "run"
theorem ask_one (w : List Int) : w_ask C1 [.int m, .list [dL w]] = if offW m w = true then some (.ex C1) else some (.ok (.d .none)) := by
  have e := x_ask C1 m [w]
  have : offWs m [w] = offW m w := by unfold offWs; simp
  rw [this] at e
  exact e
theorem y_sta_b {w : List Int} (h : offW m w = true) : w_stands C1 C3 [.int m, dL o, dL w] = some (.ex C1) := by
  have e := ask_one C1 (m := m) w
  rw [if_pos h] at e
  have b : 1 ≤ big := by decide
  unfold w_stands defD m_stands
  walk_at "run"
theorem y_sta_o {w : List Int} (h : offW m w = false) (hm : m ≤ 1000) (ho : o.length < 64) (hn : sortI o ≠ rgI m) : w_stands C1 C3 [.int m, dL o, dL w] = some (.ex C3) := by
  have e := ask_one C1 (m := m) w
  rw [if_neg (by rw [h]; decide)] at e
  have e2 := x_ask_order C3 m o hm ho
  rw [if_neg hn] at e2
  have b : 1 ≤ big := by decide
  unfold w_stands defD m_stands
  walk_at "run"
/-- what is refused of turns -/
def badT (m : Nat) (ws : List (List Int)) (s t : Int × Int) : Bool := offWs m ws || (offW m [s.1, s.2] || offW m [t.1, t.2])
theorem y_bar_b (h : badT m ws s t = true) : w_bar C1 C2 [.int m, dW ws, tD s, tD t] = some (.ex C1) := by
  have e := (x_ask_turns C1 C2 m ws s t).trans (if_pos h)
  unfold w_bar defD m_bar
  walk_at "run"
theorem y_bar_t (h : badT m ws s t = false) (h2 : s.1 = s.2 ∨ t.1 = t.2) : w_bar C1 C2 [.int m, dW ws, tD s, tD t] = some (.ex C2) := by
  have e := ((x_ask_turns C1 C2 m ws s t).trans (if_neg (fun z => Bool.false_ne_true (h.symm.trans z)))).trans (if_pos h2)
  unfold w_bar defD m_bar
  walk_at "run"
theorem y_chn_b (h : badT m ws s t = true) : w_chain C1 C2 [.int m, dW ws, tD s, tD t] = some (.ex C1) := by
  have e := (x_ask_turns C1 C2 m ws s t).trans (if_pos h)
  unfold w_chain defD m_chain
  walk_at "run"
theorem y_chn_t (h : badT m ws s t = false) (h2 : s.1 = s.2 ∨ t.1 = t.2) : w_chain C1 C2 [.int m, dW ws, tD s, tD t] = some (.ex C2) := by
  have e := ((x_ask_turns C1 C2 m ws s t).trans (if_neg (fun z => Bool.false_ne_true (h.symm.trans z)))).trans (if_pos h2)
  unfold w_chain defD m_chain
  walk_at "run"
theorem y_odd_b (h : offWs m ws = true) : w_odd_ring C1 [.int m, dW ws] = some (.ex C1) := by
  have e := x_ask C1 m ws
  rw [h] at e
  unfold w_odd_ring defD m_odd_ring
  walk_at "run"
theorem y_fst_b (h : offWs m ws = true) : w_first C1 [.int m, dW ws] = some (.ex C1) := by
  have e := y_odd_b C1 h
  unfold w_first defD m_first
  walk_at "run"
theorem y_jud_b (h : offWs m ws = true) : w_judged C1 [.int m, dW ws] = some (.ex C1) := by
  have e := y_odd_b C1 h
  unfold w_judged defD m_judged
  walk_at "run"
theorem y_cla_b (h : offWs m ws = true) : w_clash C1 [.int m, dW ws] = some (.ex C1) := by
  have e := y_odd_b C1 h
  unfold w_clash defD m_clash
  walk_at "run"
theorem y_sho_b (h : offWs m ws = true) : w_shown C1 [.int m, dW ws] = some (.ex C1) := by
  have e := x_ask C1 m ws
  rw [h] at e
  unfold w_shown defD m_shown
  walk_at "run"
theorem z_b {way : Int} (h0 : 0 ≤ way) (h1 : way < 12) (h : offWs m ws = true) (h2 : way = 2 → ∃ w r, ws = w :: r ∧ offW m w = true) (ho : o.length < 64) : w__law_asked C1 C2 C3 [.int way, .int m, dW ws, dL o, tD s, tD t] = some (.ex C1) := by
  have hb : badT m ws s t = true := by unfold badT; rw [h]; rfl
  have hb' : badT m ws t s = true := by unfold badT; rw [h]; rfl
  have e0 := y_kept_b C1 C3 (o := o) h ho
  have e1 := y_fol_b C1 C3 (o := o) h
  have e3 := y_bar_b C1 C2 hb
  have e4 := y_bar_b C1 C2 hb'
  have e5 := y_chn_b C1 C2 hb
  have e6 := y_chn_b C1 C2 hb'
  have e7 := y_odd_b C1 h
  have e8 := y_fst_b C1 h
  have e9 := y_jud_b C1 h
  have e10 := y_cla_b C1 h
  have e11 := y_sho_b C1 h
  unfold w__law_asked defD m__law_asked
  rcases (show way = 0 ∨ way = 1 ∨ way = 2 ∨ way = 3 ∨ way = 4 ∨ way = 5 ∨ way = 6 ∨ way = 7 ∨ way = 8 ∨ way = 9 ∨ way = 10 ∨ way = 11 by omega) with q | q | q | q | q | q | q | q | q | q | q | q
  case inr.inr.inl =>
    obtain ⟨w, r, rfl, k⟩ := h2 q
    have e2 := y_sta_b C1 C3 (o := o) k
    subst q
    clear e0 e1 e3 e4 e5 e6 e7 e8 e9 e10 e11 h2
    walk_at "run"
  all_goals (subst q; clear h2; walk_at "run")
theorem z_t {way : Int} (h0 : 3 ≤ way) (h1 : way < 7) (h : badT m ws s t = true) : w__law_asked C1 C2 C3 [.int way, .int m, dW ws, dL o, tD s, tD t] = some (.ex C1) := by
  have hb' : badT m ws t s = true := by
    unfold badT at h ⊢
    rw [Bool.or_comm (offW m [t.1, t.2])]
    exact h
  have e3 := y_bar_b C1 C2 h
  have e4 := y_bar_b C1 C2 hb'
  have e5 := y_chn_b C1 C2 h
  have e6 := y_chn_b C1 C2 hb'
  unfold w__law_asked defD m__law_asked
  rcases (show way = 3 ∨ way = 4 ∨ way = 5 ∨ way = 6 by omega) with q | q | q | q
  all_goals (subst q; walk_at "run")
theorem z_n {way : Int} (h0 : 3 ≤ way) (h1 : way < 7) (h : badT m ws s t = false) (h2 : s.1 = s.2 ∨ t.1 = t.2) : w__law_asked C1 C2 C3 [.int way, .int m, dW ws, dL o, tD s, tD t] = some (.ex C2) := by
  have hb' : badT m ws t s = false := by
    unfold badT at h ⊢
    rw [Bool.or_comm (offW m [t.1, t.2])]
    exact h
  have e3 := y_bar_t C1 C2 h h2
  have e4 := y_bar_t C1 C2 hb' h2.symm
  have e5 := y_chn_t C1 C2 h h2
  have e6 := y_chn_t C1 C2 hb' h2.symm
  clear h2
  unfold w__law_asked defD m__law_asked
  rcases (show way = 3 ∨ way = 4 ∨ way = 5 ∨ way = 6 by omega) with q | q | q | q
  all_goals (subst q; walk_at "run")
theorem z_o {way : Int} (h0 : 0 ≤ way) (h1 : way < 3) (h : offWs m ws = false) (h2 : way = 2 → ∃ w r, ws = w :: r) (hm : m ≤ 1000) (ho : o.length < 64) (hn : sortI o ≠ rgI m) : w__law_asked C1 C2 C3 [.int way, .int m, dW ws, dL o, tD s, tD t] = some (.ex C3) := by
  have e0 := y_kept_o C1 C3 h hm ho hn
  have e1 := y_fol_o C1 C3 h hm ho hn
  unfold w__law_asked defD m__law_asked
  rcases (show way = 0 ∨ way = 1 ∨ way = 2 by omega) with q | q | q
  case inr.inr =>
    obtain ⟨w, r, rfl⟩ := h2 q
    have k : offW m w = false := by
      unfold offWs at h
      rw [List.any_cons] at h
      exact (Bool.or_eq_false_iff.mp h).1
    have e2 := y_sta_o C1 C3 k hm ho hn
    subst q
    clear e0 e1 h2 hn
    walk_at "run"
  all_goals (subst q; clear h2 hn; walk_at "run")
/-- what the law makes of the refusal -/
theorem x_which {C4 C5 C6 : Addr} {way : Int} {D : Addr} (hD : D ∈ [C1, C2, C3]) (h : w__law_asked C1 C2 C3 [.int way, .int m, dW ws, dL o, tD s, tD t] = some (.ex D)) :
    w__law_which C1 C2 C3 C4 C5 C6 [.int way, .int m, dW ws, dL o, tD s, tD t] = some (.ok (.d (.list [.bool (decide (D = C1)), .bool (decide (D = C3)), .bool (decide (D = C2)), .bool (decide (D = C4)), .bool (decide (D = C5)), .bool (decide (D = C6)), .bool true]))) := by
  unfold w__law_which defD m__law_which
  have b0 : 0 ≤ big := by decide
  have b3 : 3 ≤ big := by decide
  have b4 : 4 ≤ big := by decide
  have b7 : 4 + 3 ≤ big := by decide
  simp
  rw [sTry_ex (c := D) (xs := [.int way, .int m, dW ws, dL o, tD s, tD t]) (y := .nx [.d (.int way), .d (.int m), .d (dW ws), .d (dL o), .d (tD s), .d (tD t), .d (.list [.bool (decide (D = C1)), .bool (decide (D = C3)), .bool (decide (D = C2)), .bool (decide (D = C4)), .bool (decide (D = C5)), .bool (decide (D = C6)), .bool true]), .no])]
  · simp
  · simp
  · exact h
  · exact hD
  · intro a
    simp [b0, b3, b4, big]
end

end G

namespace G
open PySem L2 DL DX
local macro_rules | `(tactic| walk_at "run") => `(tactic| simp [*])
theorem off_mem {m : Int} {w : List Int} {b : Int} (h : b ∈ w) (hb : offB m b = true) : offW m w = true := List.any_eq_true.mpr ⟨b, h, hb⟩
theorem offs_mem {m : Int} {ws : List (List Int)} {w : List Int} (h : w ∈ ws) (hb : offW m w = true) : offWs m ws = true := List.any_eq_true.mpr ⟨w, h, hb⟩
theorem law_true {C1 C2 C3 C4 C5 C6 : Addr} (hN : [C1, C2, C3, C4, C5, C6].Nodup) (ns : List Int) (_ : ns.length ≤ 63) : w_law C1 C2 C3 C4 C5 C6 [scrD ns] = some (.ok (.d (.bool true))) := by
  obtain ⟨z0, c0⟩ := x_c ns 0 (by decide)
  obtain ⟨z1, c1⟩ := x_c ns 1 (by decide)
  obtain ⟨z2, c2⟩ := x_c ns 2 (by decide)
  obtain ⟨z3, c3⟩ := x_c ns 3 (by decide)
  obtain ⟨z4, c4⟩ := x_c ns 4 (by decide)
  obtain ⟨z5, c5⟩ := x_c ns 5 (by decide)
  obtain ⟨z6, c6⟩ := x_c ns 6 (by decide)
  obtain ⟨z7, c7⟩ := x_c ns 7 (by decide)
  obtain ⟨z8, c8⟩ := x_c ns 8 (by decide)
  obtain ⟨z9, c9⟩ := x_c ns 9 (by decide)
  obtain ⟨m, em⟩ : ∃ m : Nat, 1 + z0 % 8 = (m : Int) := ⟨(1 + z0 % 8).toNat, by omega⟩
  have hm1 : 1 ≤ m := by omega
  have hm2 : m < 9 := by omega
  have hm3 : m ≤ 1000 := by omega
  obtain ⟨o, do1, do2, do3⟩ := x_no_order z6 m hm1 hm2
  obtain ⟨sf, hsf⟩ := x_sets ns 10 m (by omega)
  have p1 : (0 : Int) < m := by omega
  have f1 : ∀ p, fMod (.int p) (.int (m : Int)) = some (.int (p % (m : Int))) := fun p => fMod_pos p1
  have f2 : ∀ p, fMod (.int p) (.int 2) = some (.int (p % 2)) := fun p => fMod_pos (by decide)
  have f3 : ∀ p, fMod (.int p) (.int 3) = some (.int (p % 3)) := fun p => fMod_pos (by decide)
  have f4 : ∀ p, fMod (.int p) (.int 4) = some (.int (p % 4)) := fun p => fMod_pos (by decide)
  have f7 : ∀ p, fMod (.int p) (.int 7) = some (.int (p % 7)) := fun p => fMod_pos (by decide)
  have f8 : ∀ p, fMod (.int p) (.int 8) = some (.int (p % 8)) := fun p => fMod_pos (by decide)
  have f12 : ∀ p, fMod (.int p) (.int 12) = some (.int (p % 12)) := fun p => fMod_pos (by decide)
  have fd : ∀ p, fDiv (.int p) (.int 8) = some (.int (p / 8)) := fun p => fDiv_pos (by decide) (by decide)
  obtain ⟨N10, fp, hp10⟩ : ∃ N : Int, fPow (.int 10) (.int 39) = some (.int N) ∧ 0 < N := ⟨10 ^ 39, rfl, by decide⟩
  have f39 : ∀ p, fMod (.int p) (.int N10) = some (.int (p % N10)) := fun p => fMod_pos hp10
  have hfar : 0 ≤ z2 % N10 := Int.emod_nonneg _ (by omega)
  obtain ⟨gone, g1, g2⟩ : ∃ g, atI [PyData.int (-1), .int (m : Int), .int (-1 - z2 % N10), .int ((m : Int) + z2 % N10)] (z3 % 4) = some (.int g) ∧ offB m g = true := by
    unfold offB
    rcases (show z3 % 4 = 0 ∨ z3 % 4 = 1 ∨ z3 % 4 = 2 ∨ z3 % 4 = 3 by omega) with h | h | h | h
    · exact ⟨-1, by rw [h]; rfl, by simp⟩
    · exact ⟨m, by rw [h]; rfl, by simp⟩
    · exact ⟨-1 - z2 % N10, by rw [h]; rfl, by simp; omega⟩
    · exact ⟨(m : Int) + z2 % N10, by rw [h]; rfl, by simp; omega⟩
  obtain ⟨t, ht⟩ : ∃ t, z7 % (m : Int) = t := ⟨_, rfl⟩
  have ht0 : 0 ≤ t := by rw [← ht]; exact Int.emod_nonneg _ (by omega)
  have ht1 : t < m := by rw [← ht]; exact Int.emod_lt_of_pos _ p1
  obtain ⟨q, hq⟩ : ∃ q, (if (m : Int) - 1 < 1 then (m : Int) - 1 else 1) = q := ⟨_, rfl⟩
  have hq0 : 0 ≤ q ∧ q < m := by rw [← hq]; split <;> omega
  obtain ⟨sc, hsc, hsc0⟩ : ∃ x : Int, (x = 0 ∧ ¬ z7 / 8 % 2 = 1 ∨ x = q ∧ z7 / 8 % 2 = 1) ∧ (0 ≤ x ∧ x < m) := by
    by_cases h : z7 / 8 % 2 = 1
    · exact ⟨q, .inr ⟨rfl, h⟩, hq0⟩
    · exact ⟨0, .inl ⟨rfl, h⟩, by omega, by omega⟩
  obtain ⟨w, hw⟩ : ∃ w, z4 % 12 = w := ⟨_, rfl⟩
  have hw0 : 0 ≤ w ∧ w < 12 := by omega
  have b2 : 2 ≤ big := by decide
  have b4 : 4 ≤ big := by decide
  have b3 : 3 ≤ big := by decide
  have b1 : 1 ≤ big := by decide
  have b0 : 0 ≤ big := by decide
  have b5 : 5 ≤ big := by decide
  have b6 : 6 ≤ big := by decide
  have b7 : 7 ≤ big := by decide
  have lc : ∀ (cnt : Nat), cnt ≤ 1000 → ∀ S2 S3 : Sl, lcL 5 (mr true) (mDat (mCall w__law_set (mCons (mDat (mCall w__law_cell_at (mCons (mV 0) (mCons (m2 fAdd (mr (.int 10)) (mV 5)) mNil)))) (mCons (mV 1) mNil)))) [.d (scrD ns), .d (.int m), S2, S3, .no, .no, .no, .no, .no, .no, .no, .no, .no, .no, .no] ((List.range cnt).map fun (i : Nat) => PyData.int (i : Int)) [] = some (((List.range cnt).map sf).map dL) := by
    intro cnt hc S2 S3
    rw [lcL_map (fun (i : Nat) => PyData.int (i : Int)) (fun _ => true) (fun i => dL (sf i))]
    · rw [List.filter_eq_self.mpr (fun _ _ => rfl), List.map_map]
      rfl
    · intro i _; rfl
    · intro i hi _
      have k1 := x_cell ns (10 + i) (by omega)
      have k2 := (hsf i).1
      have k3 : (10 + (i : Int)).toNat = 10 + i := by omega
      rw [k3] at k1
      simp [k1, k2]
    · unfold big; simp; omega
  have wok : ∀ cnt, ∀ v ∈ (List.range cnt).map sf, ∀ b ∈ v, 0 ≤ b ∧ b < (m : Int) := by
    intro cnt v hv b hb
    obtain ⟨i, _, rfl⟩ := List.mem_map.mp hv
    exact (hsf i).2.2.1 b hb
  have wln : ∀ cnt, ∀ v ∈ (List.range cnt).map sf, v.length ≤ 8 := by
    intro cnt v hv
    obtain ⟨i, _, rfl⟩ := List.mem_map.mp hv
    have := (hsf i).2.2.2
    omega
  clear hsf
  unfold w_law defD m_law
  have l1 : ∀ a b c d e f g : Bool, fEq (.list [.bool a, .bool b, .bool c, .bool d, .bool e, .bool f, .bool g]) (.list [.bool a, .bool b, .bool c, .bool d, .bool e, .bool f, .bool g]) = some (.bool true) := fun a b c d e f g => fEq_refl (n := 1) (Shp.list fun x hx => by
    simp only [List.mem_cons, List.not_mem_nil, or_false] at hx
    rcases hx with rfl | rfl | rfl | rfl | rfl | rfl | rfl <;> exact Shp.bool _)
  have l2 : fMul (.list [.bool false]) (.int 5) = some (.list [.bool false, .bool false, .bool false, .bool false, .bool false]) := rfl
  have l3 : fMul (.list [.bool false]) (.int 4) = some (.list [.bool false, .bool false, .bool false, .bool false]) := rfl
  have l4 : fMul (.list [.bool false]) (.int 3) = some (.list [.bool false, .bool false, .bool false]) := rfl
  simp only [List.nodup_cons, List.mem_cons, List.not_mem_nil, or_false, not_or, not_false_eq_true, List.nodup_nil, and_true] at hN
  obtain ⟨⟨n12, n13, n14, n15, n16⟩, ⟨n23, n24, n25, n26⟩, ⟨n34, n35, n36⟩, ⟨n45, n46⟩, n56⟩ := hN
  have n21 : ¬ C2 = C1 := fun e => n12 e.symm
  have n31 : ¬ C3 = C1 := fun e => n13 e.symm
  have n32 : ¬ C3 = C2 := fun e => n23 e.symm
  rcases (show z5 % 3 = 0 ∨ z5 % 3 = 1 ∨ z5 % 3 = 2 by omega) with hk | hk | hk
  · obtain ⟨cnt, hc⟩ : ∃ cnt : Nat, 1 + z1 % 12 = (cnt : Int) := ⟨(1 + z1 % 12).toNat, by omega⟩
    have hc2 : cnt ≤ 1000 := by omega
    have hc1 : 0 < cnt := by omega
    have r1 := rng1_nat hc2
    have k1 := lc cnt hc2 (.d (.int 0)) (.d (.int cnt))
    have k2 := wok cnt
    have k3 : ((List.range cnt).map sf).length = cnt := by simp
    have k4 := wln cnt
    clear lc wok wln
    generalize (List.range cnt).map sf = ws at k1 k2 k3 k4
    have q0 : (0 : Int) < cnt := by omega
    have fc : ∀ p, fMod (.int p) (.int (cnt : Int)) = some (.int (p % (cnt : Int))) := fun p => fMod_pos q0
    have q1 := Int.emod_nonneg z8 (show (cnt : Int) ≠ 0 by omega)
    have q2 := Int.emod_lt_of_pos z8 q0
    obtain ⟨a, ha⟩ : ∃ a : Nat, z8 % (cnt : Int) = (a : Int) := ⟨(z8 % (cnt : Int)).toNat, by omega⟩
    have haw : a < ws.length := by omega
    have hax := atI_map_lt (f := dL) haw
    have hln := k4 ws[a] (List.getElem_mem haw)
    generalize ws[a] = sm at hax hln
    have q3 : (0 : Int) < (sm.length : Int) + 1 := by omega
    have fs : ∀ p, fMod (.int p) (.int ((sm.length : Int) + 1)) = some (.int (p % ((sm.length : Int) + 1))) := fun p => fMod_pos q3
    obtain ⟨pl, hpl⟩ : ∃ pl, z9 % ((sm.length : Int) + 1) = pl := ⟨_, rfl⟩
    obtain ⟨u, hu, hu2⟩ : ∃ u : List Int, fSl none (some pl) (.list (sm.map .int)) = some (.o (.lst (u.map .int))) ∧ u.length ≤ sm.length := by
      obtain ⟨x, y, e⟩ := cutL_map sm none (some pl)
      refine ⟨_, (congrArg (fun z => some (Rs.o (.lst z))) e), by simp; omega⟩
    obtain ⟨v, hv, hv2⟩ : ∃ v : List Int, fSl (some pl) none (.list (sm.map .int)) = some (.o (.lst (v.map .int))) ∧ v.length ≤ sm.length := by
      obtain ⟨x, y, e⟩ := cutL_map sm (some pl) none
      refine ⟨_, (congrArg (fun z => some (Rs.o (.lst z))) e), by simp; omega⟩
    have hix : ixN cnt (a : Int) = some a := ixN_in (by omega) (by omega)
    have hi0 : ixN cnt 0 = some 0 := ixN_in (by omega) (by omega)
    have s1 : u.length + 1 ≤ big := by unfold big; omega
    have s2 : u.length + 1 + v.length ≤ big := by unfold big; omega
    have hoff : offW m (u ++ gone :: v) = true := off_mem (b := gone) (by simp) g2
    by_cases hw2 : w = 2
    · subst hw2
      have hat : ∀ X : PD, atI ((ws.map dL).set a X) (a : Int) = some X := fun X => atI_nat (by simp [haw])
      obtain ⟨r, hr⟩ : ∃ r, (ws.set a (u ++ gone :: v)).set 0 (u ++ gone :: v) = (u ++ gone :: v) :: r := by
        cases hx : ws.set a (u ++ gone :: v) with
        | nil =>
          have z : (ws.set a (u ++ gone :: v)).length = 0 := by rw [hx]; rfl
          rw [List.length_set] at z
          omega
        | cons x y => exact ⟨y, rfl⟩
      have e1 : offWs m ((ws.set a (u ++ gone :: v)).set 0 (u ++ gone :: v)) = true := offs_mem (by rw [hr]; exact List.mem_cons_self) hoff
      have a2 := x_which C1 C2 C3 (C4 := C4) (C5 := C5) (C6 := C6) (D := C1) (by simp) (z_b C1 C2 C3 (o := o) (s := (t, t)) (t := (sc, q)) (way := 2) (by decide) (by decide) e1 (fun _ => ⟨_, _, hr, hoff⟩) do2)
      have a3 : w__law_which C1 C2 C3 C4 C5 C6 [.int 2, .int m, .list (((ws.map dL).set a (.list (u.map .int ++ .int gone :: v.map .int))).set 0 (.list (u.map .int ++ .int gone :: v.map .int))), dL o, tD (t, t), tD (sc, q)] = some (.ok (.d (.list [.bool true, .bool false, .bool false, .bool false, .bool false, .bool false, .bool true]))) := by
        have z : PyData.list (((ws.map dL).set a (.list (u.map .int ++ .int gone :: v.map .int))).set 0 (.list (u.map .int ++ .int gone :: v.map .int))) = dW ((ws.set a (u ++ gone :: v)).set 0 (u ++ gone :: v)) := by
          show _ = PyData.list (((ws.set a _).set 0 _).map dL)
          rw [List.map_set, List.map_set]
          unfold dL
          rw [List.map_append, List.map_cons]
        rw [z]
        simpa only [decide_eq_true_eq, decide_true, decide_eq_false n12, decide_eq_false n13, decide_eq_false n14, decide_eq_false n15, decide_eq_false n16] using a2
      clear a2
      rcases hsc with ⟨rfl, hz⟩ | ⟨rfl, hz⟩
      · walk_at "run"
      · walk_at "run"
    · have e1 : offWs m (ws.set a (u ++ gone :: v)) = true := offs_mem (List.mem_set haw _) hoff
      have a2 := x_which C1 C2 C3 (C4 := C4) (C5 := C5) (C6 := C6) (D := C1) (by simp) (z_b C1 C2 C3 (o := o) (s := (t, t)) (t := (sc, q)) (way := w) hw0.1 hw0.2 e1 (fun z => (hw2 z).elim) do2)
      have a3 : w__law_which C1 C2 C3 C4 C5 C6 [.int w, .int m, .list ((ws.map dL).set a (.list (u.map .int ++ .int gone :: v.map .int))), dL o, tD (t, t), tD (sc, q)] = some (.ok (.d (.list [.bool true, .bool false, .bool false, .bool false, .bool false, .bool false, .bool true]))) := by
        have z : PyData.list ((ws.map dL).set a (.list (u.map .int ++ .int gone :: v.map .int))) = dW (ws.set a (u ++ gone :: v)) := by
          show _ = PyData.list ((ws.set a _).map dL)
          rw [List.map_set]
          unfold dL
          rw [List.map_append, List.map_cons]
        rw [z]
        simpa only [decide_eq_true_eq, decide_true, decide_eq_false n12, decide_eq_false n13, decide_eq_false n14, decide_eq_false n15, decide_eq_false n16] using a2
      clear a2
      rcases hsc with ⟨rfl, hz⟩ | ⟨rfl, hz⟩
      · walk_at "run"
        done
      · walk_at "run"
  · obtain ⟨cnt, hc⟩ : ∃ cnt : Nat, z1 % 7 = (cnt : Int) := ⟨(z1 % 7).toNat, by omega⟩
    have hc2 : cnt ≤ 1000 := by omega
    have r1 := rng1_nat hc2
    have k1 := lc cnt hc2 (.d (.int 1)) (.d (.int cnt))
    have k2 := wok cnt
    clear lc wok wln
    generalize (List.range cnt).map sf = ws at k1 k2
    have key : ∀ s : Int × Int, (s.1 = gone ∨ s.2 = gone) → w__law_which C1 C2 C3 C4 C5 C6 [.int (3 + w % 4), .int m, dW ws, dL o, tD s, tD (sc, q)] = some (.ok (.d (.list [.bool true, .bool false, .bool false, .bool false, .bool false, .bool false, .bool true]))) := by
      intro s hs
      have a1 : badT m ws s (sc, q) = true := by
        unfold badT
        have : offW m [s.1, s.2] = true := by
          rcases hs with e | e
          · exact off_mem (b := gone) (by simp [e]) g2
          · exact off_mem (b := gone) (by simp [e]) g2
        rw [this]
        simp
      have a2 := x_which C1 C2 C3 (C4 := C4) (C5 := C5) (C6 := C6) (D := C1) (by simp) (z_t C1 C2 C3 (o := o) (way := 3 + w % 4) (by omega) (by omega) a1)
      simpa [n12, n13, n14, n15, n16] using a2
    have key1 := key (gone, t) (.inl rfl)
    have key2 := key (t, gone) (.inr rfl)
    have key3 := key (gone, gone) (.inl rfl)
    clear key
    have h8 : z8 % 3 = 0 ∨ z8 % 3 = 1 ∨ z8 % 3 = 2 := by omega
    rcases hsc with ⟨rfl, hz⟩ | ⟨rfl, hz⟩
    · rcases h8 with h8 | h8 | h8
      · walk_at "run"
        done
      · walk_at "run"
      · walk_at "run"
    · rcases h8 with h8 | h8 | h8
      · walk_at "run"
      · walk_at "run"
      · walk_at "run"
  · obtain ⟨cnt, hc⟩ : ∃ cnt : Nat, z1 % 7 = (cnt : Int) := ⟨(z1 % 7).toNat, by omega⟩
    have hc2 : cnt ≤ 1000 := by omega
    have r1 := rng1_nat hc2
    have k1 := lc cnt hc2 (.d (.int 2)) (.d (.int cnt))
    have k2 := offWs_ok (wok cnt)
    have k3 : ((List.range cnt).map sf).length = cnt := by simp
    clear lc wok wln
    generalize (List.range cnt).map sf = ws at k1 k2 k3
    by_cases hw6 : w < 6
    · have l6 : fMul (.list [.list []]) (.int 0) = some (.list []) := rfl
      have l7 : fMul (.list [.list []]) (.int 1) = some (.list [.list []]) := rfl
      have d1 : cnt + 1 ≤ big := by unfold big; omega
      have d0 : cnt ≤ big := by omega
      by_cases h3 : w % 3 = 2
      · have k4 : offWs m (ws ++ [[]]) = false := by
          unfold offWs at k2 ⊢
          rw [List.any_append, k2]
          rfl
        have a2 := x_which C1 C2 C3 (C4 := C4) (C5 := C5) (C6 := C6) (D := C3) (by simp) (z_o C1 C2 C3 (o := o) (s := (t, t)) (t := (sc, q)) (way := 2) (by omega) (by omega) k4 (fun _ => by
          cases ws with
          | nil => exact ⟨_, _, rfl⟩
          | cons a b => exact ⟨_, _, rfl⟩) (by omega) do2 do3)
        have a3 : w__law_which C1 C2 C3 C4 C5 C6 [.int 2, .int m, .list (ws.map dL ++ [.list []]), dL o, tD (t, t), tD (sc, q)] = some (.ok (.d (.list [.bool false, .bool true, .bool false, .bool false, .bool false, .bool false, .bool true]))) := by
          have z : PyData.list (ws.map dL ++ [.list []]) = dW (ws ++ [[]]) := by
            show _ = PyData.list ((ws ++ [[]]).map dL)
            rw [List.map_append]
            rfl
          rw [z]
          simpa only [decide_true, decide_eq_false n31, decide_eq_false n32, decide_eq_false n34, decide_eq_false n35, decide_eq_false n36] using a2
        clear a2
        rcases hsc with ⟨rfl, hz⟩ | ⟨rfl, hz⟩
        · walk_at "run"
        · walk_at "run"
      · have a2 := x_which C1 C2 C3 (C4 := C4) (C5 := C5) (C6 := C6) (D := C3) (by simp) (z_o C1 C2 C3 (o := o) (s := (t, t)) (t := (sc, q)) (way := w % 3) (by omega) (by omega) k2 (fun z => (h3 z).elim) (by omega) do2 do3)
        have a3 : w__law_which C1 C2 C3 C4 C5 C6 [.int (w % 3), .int m, dW ws, dL o, tD (t, t), tD (sc, q)] = some (.ok (.d (.list [.bool false, .bool true, .bool false, .bool false, .bool false, .bool false, .bool true]))) := by
          simpa [n31, n32, n34, n35, n36] using a2
        clear a2
        rcases hsc with ⟨rfl, hz⟩ | ⟨rfl, hz⟩
        · walk_at "run"
        · walk_at "run"
    · have a1 : badT m ws (t, t) (sc, q) = false := by
        unfold badT offW offB
        rw [k2]
        simp
        omega
      have a2 := x_which C1 C2 C3 (C4 := C4) (C5 := C5) (C6 := C6) (D := C2) (by simp) (z_n C1 C2 C3 (o := o) (way := 3 + w % 4) (by omega) (by omega) a1 (.inl rfl))
      have a3 : w__law_which C1 C2 C3 C4 C5 C6 [.int (3 + w % 4), .int m, dW ws, dL o, tD (t, t), tD (sc, q)] = some (.ok (.d (.list [.bool false, .bool false, .bool true, .bool false, .bool false, .bool false, .bool true]))) := by
        simpa [n21, n23, n24, n25, n26] using a2
      clear a2
      rcases hsc with ⟨rfl, hz⟩ | ⟨rfl, hz⟩
      · walk_at "run"
      · walk_at "run"

end G

open PySem PySem.W PyProof.Rows
set_option maxRecDepth 100000 in
set_option maxHeartbeats 0 in
theorem PySem.Challenge.cw_shelfruns_k15_each_refusal_its_own_holds : PySem.Challenge.rw_shelfruns_k15_each_refusal_its_own.Holds := by
  w_on; o_law; k_head; (case hw => w_witness2)
  k_fill
  refine DL.walk_law (k := 6) (l := PySem.Challenge.rw_shelfruns_k15_each_refusal_its_own) rfl rfl ⟨rfl, by decide, by decide⟩ (fun w h Y => PySem.W.kIn_of Y) ?F
  case F =>
    intro w mg fa h KX hG hmg
    refine' G.all_mk KX hG hmg ?a0 ?l0 ?c0 ?k0 ?a1 ?l1 ?c1 ?k1 ?a2 ?l2 ?c2 ?k2 ?a3 ?l3 ?c3 ?k3 ?a4 ?l4 ?c4 ?k4 ?a5 ?l5 ?c5 ?k5 ?a6 ?l6 ?c6 ?k6 ?a7 ?l7 ?c7 ?k7 ?a8 ?l8 ?c8 ?k8 ?a9 ?l9 ?c9 ?k9 ?a10 ?l10 ?c10 ?k10 ?a11 ?l11 ?c11 ?k11 ?a12 ?l12 ?c12 ?k12 ?a13 ?l13 ?c13 ?k13 ?a14 ?l14 ?c14 ?k14 ?a15 ?l15 ?c15 ?k15 ?a16 ?l16 ?c16 ?k16 ?a17 ?l17 ?c17 ?k17 ?a18 ?l18 ?c18 ?k18 ?a19 ?l19 ?c19 ?k19 ?a20 ?l20 ?c20 ?k20 ?a21 ?l21 ?c21 ?k21 ?e_ShelfError ?e_NoBook ?e_NoTurn ?e_NoOrder ?e_NoWish ?e_FullShelf ?e_BadLine ?ex_NoBook ?ek_NoBook ?ex_NoTurn ?ek_NoTurn ?ex_NoOrder ?ek_NoOrder ?eb_ShelfError ?et_ShelfError ?eb_NoBook ?et_NoBook ?eb_NoTurn ?et_NoTurn ?eb_NoOrder ?et_NoOrder ?eb_NoWish ?et_NoWish ?eb_FullShelf ?et_FullShelf ?eb_BadLine ?et_BadLine ?hd_ShelfError ?hd_NoBook ?hd_NoTurn ?hd_NoOrder ?hd_NoWish ?hd_FullShelf ?hd_BadLine ?sp_ ?tk_ ?ga_NoBook ?gt_NoBook ?gc_NoBook ?mo_NoBook ?sv_NoBook_ValueError ?ga_NoTurn ?gt_NoTurn ?gc_NoTurn ?mo_NoTurn ?sv_NoTurn_ValueError ?ga_NoOrder ?gt_NoOrder ?gc_NoOrder ?mo_NoOrder ?sv_NoOrder_ValueError ?su_NoBook_NoBook ?su_NoBook_NoTurn ?su_NoBook_NoOrder ?su_NoBook_NoWish ?su_NoBook_FullShelf ?su_NoBook_BadLine ?su_NoTurn_NoBook ?su_NoTurn_NoTurn ?su_NoTurn_NoOrder ?su_NoTurn_NoWish ?su_NoTurn_FullShelf ?su_NoTurn_BadLine ?su_NoOrder_NoBook ?su_NoOrder_NoTurn ?su_NoOrder_NoOrder ?su_NoOrder_NoWish ?su_NoOrder_FullShelf ?su_NoOrder_BadLine ?su_NoWish_NoWish ?su_NoWish_FullShelf ?su_NoWish_BadLine ?su_FullShelf_FullShelf ?su_FullShelf_BadLine ?su_BadLine_BadLine ?su_NoBook_ShelfError ?su_NoTurn_ShelfError ?su_NoOrder_ShelfError ?z_ValueError ?z_int ?z_isinstance ?z_len ?z_list ?z_min ?z_range ?z_sorted G.law_true
    (case a0 => k_is)
    (case l0 => k_is)
    (case c0 => k_is)
    (case k0 => k_is)
    (case a1 => k_is)
    (case l1 => k_is)
    (case c1 => k_is)
    (case k1 => k_is)
    (case a2 => k_is)
    (case l2 => k_is)
    (case c2 => k_is)
    (case k2 => k_is)
    (case a3 => k_is)
    (case l3 => k_is)
    (case c3 => k_is)
    (case k3 => k_is)
    (case a4 => k_is)
    (case l4 => k_is)
    (case c4 => k_is)
    (case k4 => k_is)
    (case a5 => k_is)
    (case l5 => k_is)
    (case c5 => k_is)
    (case k5 => k_is)
    (case a6 => k_is)
    (case l6 => k_is)
    (case c6 => k_is)
    (case k6 => k_is)
    (case a7 => k_is)
    (case l7 => k_is)
    (case c7 => k_is)
    (case k7 => k_is)
    (case a8 => k_is)
    (case l8 => k_is)
    (case c8 => k_is)
    (case k8 => k_is)
    (case a9 => k_is)
    (case l9 => k_is)
    (case c9 => k_is)
    (case k9 => k_is)
    (case a10 => k_is)
    (case l10 => k_is)
    (case c10 => k_is)
    (case k10 => k_is)
    (case a11 => k_is)
    (case l11 => k_is)
    (case c11 => k_is)
    (case k11 => k_is)
    (case a12 => k_is)
    (case l12 => k_is)
    (case c12 => k_is)
    (case k12 => k_is)
    (case a13 => k_is)
    (case l13 => k_is)
    (case c13 => k_is)
    (case k13 => k_is)
    (case a14 => k_is)
    (case l14 => k_is)
    (case c14 => k_is)
    (case k14 => k_is)
    (case a15 => k_is)
    (case l15 => k_is)
    (case c15 => k_is)
    (case k15 => k_is)
    (case a16 => k_is)
    (case l16 => k_is)
    (case c16 => k_is)
    (case k16 => k_is)
    (case a17 => k_is)
    (case l17 => k_is)
    (case c17 => k_is)
    (case k17 => k_is)
    (case a18 => k_is)
    (case l18 => k_is)
    (case c18 => k_is)
    (case k18 => k_is)
    (case a19 => k_is)
    (case l19 => k_is)
    (case c19 => k_is)
    (case k19 => k_is)
    (case a20 => k_is)
    (case l20 => k_is)
    (case c20 => k_is)
    (case k20 => k_is)
    (case a21 => k_is)
    (case l21 => k_is)
    (case c21 => k_is)
    (case k21 => k_is)
    (case e_ShelfError => k_is)
    (case e_NoBook => k_is)
    (case e_NoTurn => k_is)
    (case e_NoOrder => k_is)
    (case e_NoWish => k_is)
    (case e_FullShelf => k_is)
    (case e_BadLine => k_is)
    (case ex_NoBook => k_exc)
    (case ek_NoBook => k_is)
    (case ex_NoTurn => k_exc)
    (case ek_NoTurn => k_is)
    (case ex_NoOrder => k_exc)
    (case ek_NoOrder => k_is)
    (case eb_ShelfError => k_is)
    (case et_ShelfError => k_is)
    (case eb_NoBook => k_is)
    (case et_NoBook => k_is)
    (case eb_NoTurn => k_is)
    (case et_NoTurn => k_is)
    (case eb_NoOrder => k_is)
    (case et_NoOrder => k_is)
    (case eb_NoWish => k_is)
    (case et_NoWish => k_is)
    (case eb_FullShelf => k_is)
    (case et_FullShelf => k_is)
    (case eb_BadLine => k_is)
    (case et_BadLine => k_is)
    (case hd_ShelfError => k_is)
    (case hd_NoBook => k_is)
    (case hd_NoTurn => k_is)
    (case hd_NoOrder => k_is)
    (case hd_NoWish => k_is)
    (case hd_FullShelf => k_is)
    (case hd_BadLine => k_is)
    (case sp_ => k_is)
    (case tk_ => k_is)
    (case ga_NoBook => k_is)
    (case gt_NoBook => k_is)
    (case gc_NoBook => k_is)
    (case mo_NoBook => k_is)
    (case sv_NoBook_ValueError => k_is)
    (case ga_NoTurn => k_is)
    (case gt_NoTurn => k_is)
    (case gc_NoTurn => k_is)
    (case mo_NoTurn => k_is)
    (case sv_NoTurn_ValueError => k_is)
    (case ga_NoOrder => k_is)
    (case gt_NoOrder => k_is)
    (case gc_NoOrder => k_is)
    (case mo_NoOrder => k_is)
    (case sv_NoOrder_ValueError => k_is)
    (case su_NoBook_NoBook => k_is)
    (case su_NoBook_NoTurn => k_is)
    (case su_NoBook_NoOrder => k_is)
    (case su_NoBook_NoWish => k_is)
    (case su_NoBook_FullShelf => k_is)
    (case su_NoBook_BadLine => k_is)
    (case su_NoTurn_NoBook => k_is)
    (case su_NoTurn_NoTurn => k_is)
    (case su_NoTurn_NoOrder => k_is)
    (case su_NoTurn_NoWish => k_is)
    (case su_NoTurn_FullShelf => k_is)
    (case su_NoTurn_BadLine => k_is)
    (case su_NoOrder_NoBook => k_is)
    (case su_NoOrder_NoTurn => k_is)
    (case su_NoOrder_NoOrder => k_is)
    (case su_NoOrder_NoWish => k_is)
    (case su_NoOrder_FullShelf => k_is)
    (case su_NoOrder_BadLine => k_is)
    (case su_NoWish_NoWish => k_is)
    (case su_NoWish_FullShelf => k_is)
    (case su_NoWish_BadLine => k_is)
    (case su_FullShelf_FullShelf => k_is)
    (case su_FullShelf_BadLine => k_is)
    (case su_BadLine_BadLine => k_is)
    (case su_NoBook_ShelfError => k_is)
    (case su_NoTurn_ShelfError => k_is)
    (case su_NoOrder_ShelfError => k_is)
    (case z_ValueError => k_is)
    (case z_int => k_is)
    (case z_isinstance => k_is)
    (case z_len => k_is)
    (case z_list => k_is)
    (case z_min => k_is)
    (case z_range => k_is)
    (case z_sorted => k_is)
