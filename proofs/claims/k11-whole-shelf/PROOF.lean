import PyProof.Rows.All
import Wide.All
import OpenK.AllK
import Wide.FinOn
import HandS.ForMost
import HandS.ForExc
import HandS.Deep
import HandS.Walk
import HandS.IsInst
import HandS.Conv
import HandS.Rev
import HandS.SetFor
import HandS.Strs
import HandS.ExcIs
import HandS.ExcOwn
import HandS.Dict
import HandS.Iter
import KE.KDictDisplayH
import KE.KDictCopyH
import KE.DataCmp
import HandS.HotCalls
import PySem.Challenge.RW_shelfruns_k11_whole_shelf
set_option Elab.async false
set_option linter.all false
set_option maxRecDepth 100000
set_option maxHeartbeats 8000000
/-! The data layer: what a def's text computes, told over plain data (PyData), proved once a construct over the hand layer. -/
namespace DL
open PySem L2

abbrev PD := PyData
/-- the script as data: told apart from lists, it is read only -/
def scrD (ns : List Int) : PD := .dict (ns.map fun n => (.int n, .none))

/-- a dict whose keys are tuples of whole numbers, as data: told apart from the script -/
def dctL (kvs : List (List Int × PD)) : List (PD × PD) := (.none, .none) :: kvs.map fun p => (.tuple (p.1.map .int), p.2)
def dctD (kvs : List (List Int × PD)) : PD := .dict (dctL kvs)
/-- what such a dict may hold: None, a tuple of whole numbers -/
def KvV (F : Hp) (v : V) (x : PD) : Prop := (v = .non ∧ x = .none) ∨ ∃ b, ∃ ks : List Int, v = .ref b ∧ F b = some (.tup (ks.map V.int)) ∧ x = .tuple (ks.map .int)
def DcAt (F : Hp) : List (List Key × V) → List (List Int × PD) → Prop := Paired fun p q => p.1 = q.1.map Sum.inl ∧ KvV F p.2 q.2
theorem KvV.mono {F F' : Hp} {v : V} {x : PD} (h : KvV F v x) (e : Same F F') : KvV F' v x := by
  rcases h with h | ⟨b, ks, h1, h2, h3⟩
  · exact .inl h
  · exact .inr ⟨b, ks, h1, e _ _ h2, h3⟩
theorem DcAt.mono {F F' : Hp} {ks : List (List Key × V)} {kvs : List (List Int × PD)} (h : DcAt F ks kvs) (e : Same F F') : DcAt F' ks kvs := Paired.mapP h fun _ _ z => ⟨z.1, z.2.mono e⟩
/-- the attributes of a shelf: how many books, the list of its wishes -/
def shfF (m : Int) (b : Addr) : List (Str × V) := [("many", .int m), ("held", .ref b)]
/-- the class of shelves stands at C -/
def ShC (K : PySem.W.Frag) (C : Addr) : Prop := PySem.W.nsIn K mainGlobals "Shelf" = some (some (.ref C))
theorem ShC.uniq {K : PySem.W.Frag} {C D : Addr} (h : ShC K C) (h' : ShC K D) : C = D := by
  unfold ShC at h h'
  rw [h] at h'
  cases h'
  rfl
/-- a shelf as data, read only: told apart from the script, from dicts -/
def shfL (m : Int) (held : List (List Int)) : List (PD × PD) := [(.bool true, .none), (.int m, .list (held.map fun w => .list (w.map .int)))]
def shfD (m : Int) (held : List (List Int)) : PD := .dict (shfL m held)
/-- lists of whole numbers, each one a settled list -/
def HeldAt (F : Hp) : List V → List (List Int) → Prop := Paired fun v w => ∃ b, v = .ref b ∧ F b = some (.lst (w.map V.int))
theorem HeldAt.mono {F F' : Hp} {xs : List V} {held : List (List Int)} (h : HeldAt F xs held) (e : Same F F') : HeldAt F' xs held := Paired.mapP h fun _ _ ⟨b, h1, h2⟩ => ⟨b, h1, e _ _ h2⟩
mutual
/-- the value v is the data d, all of it in F -/
inductive Da (K : PySem.W.Frag) (F : Hp) : V → PD → Prop
  | non : Da K F .non .none
  | bl (b : Bool) : Da K F (.bl b) (.bool b)
  | int (i : Int) : Da K F (.int i) (.int i)
  | str (x : Str) : Da K F (.str x) (.str x)
  | lst {a : Addr} {xs : List V} {ds : List PD} : F a = some (.lst xs) → DaAll K F xs ds → Da K F (.ref a) (.list ds)
  | tup {a : Addr} {xs : List V} {ds : List PD} : F a = some (.tup xs) → DaAll K F xs ds → Da K F (.ref a) (.tuple ds)
  | scr {a : Addr} {ns : List Int} {ds : List (PD × PD)} : SqL K F a (ns.map V.int) → ds = ns.map (fun n => ((PyData.int n : PD), (PyData.none : PD))) → Da K F (.ref a) (.dict ds)
  | dct {a : Addr} {od : Obj} {ks : List (List Key × V)} {kvs : List (List Int × PD)} {ds : List (PD × PD)} : F a = some (.frz od (.dT ks)) → DcAt F ks kvs → ds = dctL kvs → Da K F (.ref a) (.dict ds)
  | shf {a dx b C : Addr} {m : Int} {xs : List V} {held : List (List Int)} {ds : List (PD × PD)} : ShC K C → F a = some (.ins C dx (shfF m b)) → F dx = some (.own a) → F b = some (.lst xs) → HeldAt F xs held → ds = shfL m held → Da K F (.ref a) (.dict ds)
inductive DaAll (K : PySem.W.Frag) (F : Hp) : List V → List PD → Prop
  | nil : DaAll K F [] []
  | cons {v : V} {vs : List V} {d : PD} {ds : List PD} : Da K F v d → DaAll K F vs ds → DaAll K F (v :: vs) (d :: ds)
end
section
variable {K : PySem.W.Frag} {F F' H : Hp} {v : V} {vs : List V} {d : PD} {ds : List PD}
mutual
theorem Da.ext (e : Same F F') : ∀ (d : PD) (v : V), Da K F v d → Da K F' v d
  | .none, _, h => by cases h; exact .non
  | .bool b, _, h => by cases h; exact .bl b
  | .int i, _, h => by cases h; exact .int i
  | .str x, _, h => by cases h; exact .str x
  | .list ds, _, h => by cases h with | lst h1 h2 => exact .lst (e _ _ h1) (DaAll.ext e ds _ h2)
  | .tuple ds, _, h => by cases h with | tup h1 h2 => exact .tup (e _ _ h1) (DaAll.ext e ds _ h2)
  | .dict ds, _, h => by
    cases h with
    | scr h1 h2 => exact .scr (e.seq h1) h2
    | dct h1 h2 h3 => exact .dct (e _ _ h1) (h2.mono e) h3
    | shf h0 h1 h2 h3 h4 h5 => exact .shf h0 (e _ _ h1) (e _ _ h2) (e _ _ h3) (h4.mono e) h5
theorem DaAll.ext (e : Same F F') : ∀ (ds : List PD) (vs : List V), DaAll K F vs ds → DaAll K F' vs ds
  | [], _, h => by cases h; exact .nil
  | d :: ds, _, h => by cases h with | cons h1 h2 => exact .cons (Da.ext e d _ h1) (DaAll.ext e ds _ h2)
end
theorem Da.mono (h : Da K F v d) (e : Same F F') : Da K F' v d := Da.ext e d v h
theorem DaAll.mono (h : DaAll K F vs ds) (e : Same F F') : DaAll K F' vs ds := DaAll.ext e ds vs h
mutual
theorem Da.dp' (e : Same F H) : ∀ (d : PD) (v : V), d.canLay0 = true → Da K F v d → Dp K H v d
  | .none, _, _, h => by cases h; exact .non
  | .bool b, _, _, h => by cases h; exact .bl b
  | .int i, _, _, h => by cases h; exact .int i
  | .str x, _, _, h => by cases h; exact .str x
  | .list ds, _, c, h => by cases h with | lst h1 h2 => exact .lst (SqL.of (e _ _ h1)) (DaAll.dp' e ds _ (by simpa [PyData.canLay0] using c) h2)
  | .tuple ds, _, c, h => by cases h with | tup h1 h2 => exact .tup (SqT.of (e _ _ h1)) (DaAll.dp' e ds _ (by simpa [PyData.canLay0] using c) h2)
  | .dict ds, _, c, _ => by simp [PyData.canLay0] at c
theorem DaAll.dp' (e : Same F H) : ∀ (ds : List PD) (vs : List V), PyData.canLayAll0 ds = true → DaAll K F vs ds → DpAll K H vs ds
  | [], _, _, h => by cases h; exact .nil
  | d :: ds, _, c, h => by
    have c' : d.canLay0 = true ∧ PyData.canLayAll0 ds = true := by simpa [PyData.canLayAll0] using c
    cases h with | cons h1 h2 => exact .cons (Da.dp' e d _ c'.1 h1) (DaAll.dp' e ds _ c'.2 h2)
end
theorem DaAll.len : ∀ {vs : List V} {ds : List PD}, DaAll K F vs ds → vs.length = ds.length
  | _, _, .nil => rfl
  | _, _, .cons _ t => congrArg (· + 1) (DaAll.len t)
theorem DaAll.get : ∀ {vs : List V} {ds : List PD} {i : Nat} {v : V}, DaAll K F vs ds → vs[i]? = some v → ∃ d, ds[i]? = some d ∧ Da K F v d
  | _, _, _, _, .nil, e => by simp at e
  | _, _, 0, _, .cons h _, e => by simp at e; subst e; exact ⟨_, rfl, h⟩
  | _, _, i + 1, _, .cons _ t, e => by simpa using DaAll.get (i := i) t (by simpa using e)
theorem DaAll.get' : ∀ {vs : List V} {ds : List PD} {i : Nat} {d : PD}, DaAll K F vs ds → ds[i]? = some d → ∃ v, vs[i]? = some v ∧ Da K F v d
  | _, _, _, _, .nil, e => by simp at e
  | _, _, 0, _, .cons h _, e => by simp at e; subst e; exact ⟨_, rfl, h⟩
  | _, _, i + 1, _, .cons _ t, e => by simpa using DaAll.get' (i := i) t (by simpa using e)
theorem DaAll.append : ∀ {vs us : List V} {ds es : List PD}, DaAll K F vs ds → DaAll K F us es → DaAll K F (vs ++ us) (ds ++ es)
  | _, _, _, _, .nil, s => s
  | _, _, _, _, .cons h t, s => .cons h (DaAll.append t s)
theorem DaAll.take : ∀ {vs : List V} {ds : List PD} (n : Nat), DaAll K F vs ds → DaAll K F (vs.take n) (ds.take n)
  | _, _, 0, _ => .nil
  | _, _, _ + 1, .nil => .nil
  | _, _, n + 1, .cons h t => .cons h (DaAll.take n t)
theorem DaAll.drop : ∀ {vs : List V} {ds : List PD} (n : Nat), DaAll K F vs ds → DaAll K F (vs.drop n) (ds.drop n)
  | _, _, 0, r => r
  | _, _, _ + 1, .nil => .nil
  | _, _, n + 1, .cons _ t => DaAll.drop n t
theorem DaAll.eraseIdx : ∀ {vs : List V} {ds : List PD} (n : Nat), DaAll K F vs ds → DaAll K F (vs.eraseIdx n) (ds.eraseIdx n)
  | _, _, _, .nil => .nil
  | _, _, 0, .cons _ t => t
  | _, _, n + 1, .cons h t => .cons h (DaAll.eraseIdx n t)
theorem DaAll.set {v : V} {d : PD} (h : Da K F v d) : ∀ {vs : List V} {ds : List PD} (n : Nat), DaAll K F vs ds → DaAll K F (vs.set n v) (ds.set n d)
  | _, _, _, .nil => .nil
  | _, _, 0, .cons _ t => .cons h t
  | _, _, n + 1, .cons g t => .cons g (DaAll.set h n t)
theorem DaAll.reverse : ∀ {vs : List V} {ds : List PD}, DaAll K F vs ds → DaAll K F vs.reverse ds.reverse
  | _, _, .nil => .nil
  | _, _, .cons h t => by rw [List.reverse_cons, List.reverse_cons]; exact (DaAll.reverse t).append (.cons h .nil)
theorem DaAll.ints : ∀ (ns : List Int) {vs : List V}, DaAll K F vs (ns.map PyData.int) → vs = ns.map V.int
  | [], _, h => by cases h; rfl
  | n :: ns, _, h => by
    cases h with
    | cons h1 h2 => cases h1; rw [DaAll.ints ns h2]; rfl
theorem DaAll.of_ints : ∀ (ns : List Int), DaAll K F (ns.map V.int) (ns.map PyData.int)
  | [] => .nil
  | n :: ns => .cons (.int n) (DaAll.of_ints ns)
theorem DaAll.strs : ∀ (ns : List Str) {vs : List V}, DaAll K F vs (ns.map PyData.str) → vs = ns.map V.str
  | [], _, h => by cases h; rfl
  | n :: ns, _, h => by
    cases h with
    | cons h1 h2 => cases h1; rw [DaAll.strs ns h2]; rfl
theorem DaAll.of_strs : ∀ (ns : List Str), DaAll K F (ns.map V.str) (ns.map PyData.str)
  | [] => .nil
  | n :: ns => .cons (.str n) (DaAll.of_strs ns)
end

/-! ### heaps that grow: F what is settled for good, H all that is tracked -/
def Ints (xs : List V) : Prop := ∀ x ∈ xs, ∃ i, x = V.int i
/-- every tuple of whole numbers is settled -/
def TupIn (F H : Hp) : Prop := ∀ b xs, H b = some (.tup xs) → Ints xs → F b = some (.tup xs)
structure Grow (F H F' H' : Hp) : Prop where
  f : Same F F'
  h : Same H H'
  fh : Same F' H'
  n : ∀ b, H b ≠ none → F' b = F b
  t : TupIn F H → TupIn F' H'
theorem Grow.refl {F H : Hp} (e : Same F H) : Grow F H F H := ⟨Same.refl _, Same.refl _, e, fun _ _ => rfl, fun z => z⟩
theorem ne_none_of {H H' : Hp} (e : Same H H') {b : Addr} (h : H b ≠ none) : H' b ≠ none := by
  cases q : H b with
  | none => exact absurd q h
  | some o => rw [e _ _ q]; exact fun z => nomatch z
theorem Grow.trans {F H F1 H1 F2 H2 : Hp} (a : Grow F H F1 H1) (b : Grow F1 H1 F2 H2) : Grow F H F2 H2 :=
  ⟨a.f.trans b.f, a.h.trans b.h, b.fh, fun c q => (b.n c (ne_none_of a.h q)).trans (a.n c q), fun z => b.t (a.t z)⟩
theorem Same.upd_new {H : Hp} {p : Addr} {o : HO} (n : H p = none) : Same H (upd H p o) := fun b u e => by rw [upd_ne (ne_of_none e n)]; exact e
theorem Same.upd_both {F H : Hp} {p : Addr} {o : HO} (e : Same F H) : Same (upd F p o) (upd H p o) := fun b u q => by
  by_cases z : b = p
  · subst z; rw [upd_same] at q ⊢; exact q
  · rw [upd_ne z] at q ⊢; exact e b u q
/-- a new object, settled at once -/
theorem Grow.new {F H : Hp} {p : Addr} {o : HO} (e : Same F H) (n : H p = none) : Grow F H (upd F p o) (upd H p o) :=
  ⟨Same.upd_new (e.free n), Same.upd_new n, Same.upd_both e, fun b q => upd_ne fun z => q (by rw [z]; exact n), fun z b xs q i => by
    by_cases y : b = p
    · subst y; rw [upd_same] at q ⊢; exact q
    · rw [upd_ne y] at q ⊢; exact z b xs q i⟩
/-- a new object, not settled -/
theorem Grow.newO {F H : Hp} {p : Addr} {o : HO} (e : Same F H) (n : H p = none) (ho : ∀ xs, o = .tup xs → Ints xs → False := by intro _ z; cases z) : Grow F H F (upd H p o) :=
  ⟨Same.refl _, Same.upd_new n, e.trans (Same.upd_new n), fun _ _ => rfl, fun z b xs q i => by
    by_cases y : b = p
    · subst y; rw [upd_same] at q; exact (ho xs (Option.some.inj q) i).elim
    · rw [upd_ne y] at q; exact z b xs q i⟩
/-- what is new is settled later -/
theorem Grow.settle {F H F' H' : Hp} {p : Addr} {o : HO} (g : Grow F H F' H') (n : H p = none) (nf : F' p = none) (h : H' p = some o) : Grow F H (upd F' p o) H' :=
  ⟨g.f.trans (Same.upd_new nf), g.h, fun b u q => by
    by_cases z : b = p
    · subst z; rw [upd_same] at q; cases q; exact h
    · rw [upd_ne z] at q; exact g.fh b u q, fun b q => (upd_ne fun z => q (by rw [z]; exact n)).trans (g.n b q), fun z b xs q i => by
    by_cases y : b = p
    · subst y; rw [upd_same, ← h]; exact q
    · rw [upd_ne y]; exact g.t z b xs q i⟩

/-! ### slots: nothing known, data, or an object that only this slot knows -/
/-- an object that is changed -/
inductive Ob where
  /-- a list of data -/
  | lst (xs : List PD)
  /-- a shelf -/
  | shf (m : Int) (held : List (List Int))
inductive Ow where
  /-- a list of data -/
  | lst (xs : List PD)
  /-- a dict keyed by tuples -/
  | dic (kvs : List (List Int × PD))
  /-- such a dict, read only from here on -/
  | fz (kvs : List (List Int × PD))
  /-- a tuple of data and a list that only it knows -/
  | box (x : PD) (xs : List PD)
  /-- a shelf -/
  | shf (m : Int) (held : List (List Int))
  /-- a list of objects that only it knows, perhaps behind data in a pair -/
  | arr (x : Option PD) (os : List Ob)
  /-- an object that was handed in: it stands at a, at ft with what it alone knows -/
  | par (a : Addr) (ft : List Addr) (o : Ob)
def Ob.ow : Ob → Ow
  | .lst xs => .lst xs
  | .shf m held => .shf m held
def Ob.dat : Ob → PD
  | .lst xs => .list xs
  | .shf m held => shfD m held
/-- as data -/
def Ow.dat : Ow → Option PD
  | .lst xs => some (.list xs)
  | .box x xs => some (.tuple [x, .list xs])
  | .dic _ => none
  | .fz _ => none
  | .shf m held => some (shfD m held)
  | .arr none os => some (.list (os.map Ob.dat))
  | .arr (some x) os => some (.tuple [x, .list (os.map Ob.dat)])
  | .par _ _ o => some o.dat
inductive Sl where
  | no
  | d (x : PD)
  | o (s : Ow)
  /-- the exception that is being handled -/
  | e (a : Addr)
/-- the value v is the object o, which stands at ft in H, its parts in F -/
def ObAt (K : PySem.W.Frag) (F H : Hp) (v : V) (ft : List Addr) : Ob → Prop
  | .lst xs => ∃ a vs, v = .ref a ∧ ft = [a] ∧ H a = some (.lst vs) ∧ DaAll K F vs xs
  | .shf m held => ∃ C a dx b xs, ShC K C ∧ v = .ref a ∧ ft = [a, dx, b] ∧ ft.Nodup ∧ H a = some (.ins C dx (shfF m b)) ∧ H dx = some (.own a) ∧ H b = some (.lst xs) ∧ HeldAt F xs held
inductive ObAll (K : PySem.W.Frag) (F H : Hp) : List V → List (List Addr) → List Ob → Prop
  | nil : ObAll K F H [] [] []
  | cons {v : V} {vs : List V} {ft : List Addr} {fts : List (List Addr)} {o : Ob} {os : List Ob} : ObAt K F H v ft o → ObAll K F H vs fts os → ObAll K F H (v :: vs) (ft :: fts) (o :: os)
/-- what stands ahead of the list at a: nothing, or the pair with data -/
def HeadAt (K : PySem.W.Frag) (F H : Hp) (v : V) (a : Addr) (ts : List Addr) : Option PD → Prop
  | none => v = .ref a ∧ ts = []
  | some x => ∃ t v0, v = .ref t ∧ ts = [t] ∧ H t = some (.tup [v0, .ref a]) ∧ Da K F v0 x
/-- the value v is the object s, which stands at ft in H, its parts in F -/
def OwAt (K : PySem.W.Frag) (F H : Hp) (v : V) (ft : List Addr) : Ow → Prop
  | .lst xs => ∃ a vs, v = .ref a ∧ ft = [a] ∧ H a = some (.lst vs) ∧ DaAll K F vs xs
  | .dic kvs => ∃ a ks, v = .ref a ∧ ft = [a] ∧ H a = some (.dT ks) ∧ DcAt F ks kvs
  | .fz kvs => ∃ a od ks, v = .ref a ∧ ft = [a] ∧ H a = some (.frz od (.dT ks)) ∧ DcAt F ks kvs
  | .box x xs => ∃ t a v0 vs, v = .ref t ∧ ft = [t, a] ∧ t ≠ a ∧ H t = some (.tup [v0, .ref a]) ∧ Da K F v0 x ∧ H a = some (.lst vs) ∧ DaAll K F vs xs
  | .shf m held => ObAt K F H v ft (.shf m held)
  | .par a fp o => v = .ref a ∧ ft = fp ∧ ObAt K F H v ft o
  | .arr x os => ∃ a vs ts fts, HeadAt K F H v a ts x ∧ ft = ts ++ a :: fts.flatten ∧ ft.Nodup ∧ H a = some (.lst vs) ∧ ObAll K F H vs fts os
theorem ObAt.ow {K : PySem.W.Frag} {F H : Hp} {v : V} {ft : List Addr} {o : Ob} (x : ObAt K F H v ft o) : OwAt K F H v ft o.ow := by
  cases o with
  | lst xs => exact x
  | shf m held => exact x
theorem OwAt.ob {K : PySem.W.Frag} {F H : Hp} {v : V} {ft : List Addr} {o : Ob} (x : OwAt K F H v ft o.ow) : ObAt K F H v ft o := by
  cases o with
  | lst xs => exact x
  | shf m held => exact x
theorem ObAt.mono {K : PySem.W.Frag} {F H F' H' : Hp} {v : V} {ft : List Addr} {s : Ob} (x : ObAt K F H v ft s) (f : Same F F') (h : ∀ a ∈ ft, H' a = H a) : ObAt K F' H' v ft s := by
  cases s with
  | lst xs =>
    obtain ⟨a, vs, e1, e2, e3, e4⟩ := x
    exact ⟨a, vs, e1, e2, (h a (by simp [e2])).trans e3, e4.mono f⟩
  | shf m held =>
    obtain ⟨C, a, dx, b, xs, e0, e1, e2, e3, e4, e5, e6, e7⟩ := x
    exact ⟨C, a, dx, b, xs, e0, e1, e2, e3, (h a (by simp [e2])).trans e4, (h dx (by simp [e2])).trans e5, (h b (by simp [e2])).trans e6, e7.mono f⟩
theorem ObAll.mono {K : PySem.W.Frag} {F H F' H' : Hp} (f : Same F F') : ∀ {vs : List V} {fts : List (List Addr)} {os : List Ob}, ObAll K F H vs fts os → (∀ a ∈ fts.flatten, H' a = H a) → ObAll K F' H' vs fts os
  | _, _, _, .nil, _ => .nil
  | _, _, _, .cons x t, h => .cons (x.mono f fun a ha => h a (by simp [ha])) (ObAll.mono f t fun a ha => h a (by rw [List.flatten_cons]; exact List.mem_append_right _ ha))
theorem OwAt.mono {K : PySem.W.Frag} {F H F' H' : Hp} {v : V} {ft : List Addr} {s : Ow} (x : OwAt K F H v ft s) (f : Same F F') (h : ∀ a ∈ ft, H' a = H a) : OwAt K F' H' v ft s := by
  cases s with
  | lst xs =>
    obtain ⟨a, vs, e1, e2, e3, e4⟩ := x
    exact ⟨a, vs, e1, e2, (h a (by simp [e2])).trans e3, e4.mono f⟩
  | dic kvs =>
    obtain ⟨a, vs, e1, e2, e3, e4⟩ := x
    exact ⟨a, vs, e1, e2, (h a (by simp [e2])).trans e3, e4.mono f⟩
  | fz kvs =>
    obtain ⟨a, od, vs, e1, e2, e3, e4⟩ := x
    exact ⟨a, od, vs, e1, e2, (h a (by simp [e2])).trans e3, e4.mono f⟩
  | box x xs =>
    obtain ⟨t, a, v0, vs, e1, e2, e3, e4, e5, e6, e7⟩ := x
    exact ⟨t, a, v0, vs, e1, e2, e3, (h t (by simp [e2])).trans e4, e5.mono f, (h a (by simp [e2])).trans e6, e7.mono f⟩
  | shf m held => exact ObAt.mono (K := K) (s := .shf m held) x f h
  | par a fp o =>
    obtain ⟨e1, e2, e3⟩ := x
    exact ⟨e1, e2, e3.mono f h⟩
  | arr y os =>
    obtain ⟨a, vs, ts, fts, e1, e2, e3, e4, e5⟩ := x
    refine ⟨a, vs, ts, fts, ?_, e2, e3, (h a (by simp [e2])).trans e4, e5.mono f fun b hb => h b (by rw [e2]; exact List.mem_append_right _ (List.mem_cons_of_mem _ hb))⟩
    cases y with
    | none => exact e1
    | some y =>
      obtain ⟨t, v0, k1, k2, k3, k4⟩ := e1
      exact ⟨t, v0, k1, k2, (h t (by simp [e2, k2])).trans k3, k4.mono f⟩
theorem ObAt.nofl {K : PySem.W.Frag} {F H : Hp} {v : V} {ft : List Addr} {s : Ob} (x : ObAt K F H v ft s) : ∀ a ∈ ft, ∀ xs, H a = some (.tup xs) → Ints xs → False := by
  intro a ha xs e i
  cases s with
  | lst ys =>
    obtain ⟨b, vs, e1, e2, e3, e4⟩ := x
    have : a = b := by rw [e2] at ha; simpa using ha
    subst this
    rw [e3] at e
    cases e
  | shf m held =>
    obtain ⟨C, b, dx, c, vs, e0, e1, e2, e3, e4, e5, e6, e7⟩ := x
    rw [e2] at ha
    simp only [List.mem_cons, List.not_mem_nil, or_false] at ha
    rcases ha with rfl | rfl | rfl
    · rw [e4] at e; cases e
    · rw [e5] at e; cases e
    · rw [e6] at e; cases e
theorem ObAll.nofl {K : PySem.W.Frag} {F H : Hp} : ∀ {vs : List V} {fts : List (List Addr)} {os : List Ob}, ObAll K F H vs fts os → ∀ a ∈ fts.flatten, ∀ xs, H a = some (.tup xs) → Ints xs → False
  | _, _, _, .nil, _, ha => by simp at ha
  | _, _, _, .cons x t, a, ha => by
    rw [List.flatten_cons] at ha
    rcases List.mem_append.mp ha with q | q
    · exact x.nofl a q
    · exact ObAll.nofl t a q
theorem OwAt.nofl {K : PySem.W.Frag} {F H : Hp} {v : V} {ft : List Addr} {s : Ow} (x : OwAt K F H v ft s) : ∀ a ∈ ft, ∀ xs, H a = some (.tup xs) → Ints xs → False := by
  intro a ha xs e i
  cases s with
  | lst ys =>
    obtain ⟨b, vs, e1, e2, e3, e4⟩ := x
    have : a = b := by rw [e2] at ha; simpa using ha
    subst this
    rw [e3] at e
    cases e
  | dic kvs =>
    obtain ⟨b, vs, e1, e2, e3, e4⟩ := x
    have : a = b := by rw [e2] at ha; simpa using ha
    subst this
    rw [e3] at e
    cases e
  | fz kvs =>
    obtain ⟨b, od, vs, e1, e2, e3, e4⟩ := x
    have : a = b := by rw [e2] at ha; simpa using ha
    subst this
    rw [e3] at e
    cases e
  | box y ys =>
    obtain ⟨t, b, v0, vs, e1, e2, e3, e4, e5, e6, e7⟩ := x
    have : a = t ∨ a = b := by rw [e2] at ha; simpa using ha
    rcases this with z | z
    · subst z
      rw [e4] at e
      cases e
      obtain ⟨j, hj⟩ := i (.ref b) (by simp)
      cases hj
    · subst z
      rw [e6] at e
      cases e
  | shf m held => exact ObAt.nofl (K := K) (F := F) (s := .shf m held) x a ha xs e i
  | par b fp o => exact ObAt.nofl x.2.2 a ha xs e i
  | arr y os =>
    obtain ⟨b, vs, ts, fts, e1, e2, e3, e4, e5⟩ := x
    rw [e2] at ha
    rcases List.mem_append.mp ha with q | q
    · cases y with
      | none => rw [e1.2] at q; cases q
      | some y =>
        obtain ⟨t, v0, k1, k2, k3, k4⟩ := e1
        have : a = t := by rw [k2] at q; simpa using q
        subst this
        rw [k3] at e
        cases e
        obtain ⟨j, hj⟩ := i (.ref b) (by simp)
        cases hj
    · rcases List.mem_cons.mp q with q | q
      · subst q; rw [e4] at e; cases e
      · exact e5.nofl a q xs e i
/-! ### what only one knows, told as data -/
/-- F, and what stands at ft in H -/
def mixF (F H : Hp) (ft : List Addr) : Hp := fun b => if b ∈ ft then H b else F b
theorem mixF_in {F H : Hp} {ft : List Addr} {b : Addr} (h : b ∈ ft) : mixF F H ft b = H b := if_pos h
theorem mixF_off {F H : Hp} {ft : List Addr} {b : Addr} (h : b ∉ ft) : mixF F H ft b = F b := if_neg h
theorem mixF_ge {F H : Hp} {ft : List Addr} (n : ∀ a ∈ ft, F a = none) : Same F (mixF F H ft) := fun b o e => by
  rw [mixF_off fun h => by rw [n b h] at e; cases e]; exact e
theorem mixF_le {F H : Hp} {ft : List Addr} (e : Same F H) : Same (mixF F H ft) H := fun b o q => by
  by_cases z : b ∈ ft
  · rw [mixF_in z] at q; exact q
  · rw [mixF_off z] at q; exact e b o q
theorem HeldAt.da {K : PySem.W.Frag} {F : Hp} {xs : List V} {held : List (List Int)} (h : HeldAt F xs held) : DaAll K F xs (held.map fun w => .list (w.map .int)) := by
  unfold HeldAt at h
  induction h with
  | nil => exact .nil
  | cons q _ ih =>
    obtain ⟨b, e1, e2⟩ := q
    subst e1
    exact .cons (.lst e2 (DaAll.of_ints _)) ih
theorem ObAt.lay {K : PySem.W.Frag} {F H G : Hp} {v : V} {ft : List Addr} {s : Ob} (x : ObAt K F H v ft s) (f : Same F G) (h : ∀ a ∈ ft, G a = H a) : Da K G v s.dat := by
  cases s with
  | lst xs =>
    obtain ⟨a, vs, e1, e2, e3, e4⟩ := x
    subst e1
    exact .lst ((h a (by simp [e2])).trans e3) (e4.mono f)
  | shf m held =>
    obtain ⟨C, a, dx, b, xs, e0, e1, e2, e3, e4, e5, e6, e7⟩ := x
    subst e1
    exact .shf e0 ((h a (by simp [e2])).trans e4) ((h dx (by simp [e2])).trans e5) ((h b (by simp [e2])).trans e6) (e7.mono f) rfl
theorem ObAll.lay {K : PySem.W.Frag} {F H G : Hp} (f : Same F G) : ∀ {vs : List V} {fts : List (List Addr)} {os : List Ob}, ObAll K F H vs fts os → (∀ a ∈ fts.flatten, G a = H a) → DaAll K G vs (os.map Ob.dat)
  | _, _, _, .nil, _ => .nil
  | _, _, _, .cons x t, h => .cons (x.lay f fun a ha => h a (by simp [ha])) (ObAll.lay f t fun a ha => h a (by rw [List.flatten_cons]; exact List.mem_append_right _ ha))
theorem OwAt.lay {K : PySem.W.Frag} {F H G : Hp} {v : V} {ft : List Addr} {s : Ow} {x : PD} (w : OwAt K F H v ft s) (f : Same F G) (h : ∀ a ∈ ft, G a = H a) (hx : s.dat = some x) : Da K G v x := by
  cases s with
  | lst xs => cases hx; exact ObAt.lay (K := K) (s := .lst xs) w f h
  | dic kvs => cases hx
  | fz kvs => cases hx
  | box y xs =>
    cases hx
    obtain ⟨t, a, v0, vs, e1, e2, e3, e4, e5, e6, e7⟩ := w
    subst e1
    exact .tup ((h t (by simp [e2])).trans e4) (.cons (e5.mono f) (.cons (.lst ((h a (by simp [e2])).trans e6) (e7.mono f)) .nil))
  | shf m held => cases hx; exact ObAt.lay (K := K) (s := .shf m held) w f h
  | par a fp o => cases hx; exact ObAt.lay w.2.2 f h
  | arr y os =>
    obtain ⟨a, vs, ts, fts, e1, e2, e3, e4, e5⟩ := w
    have k : Da K G (.ref a) (.list (os.map Ob.dat)) := .lst ((h a (by simp [e2])).trans e4) (e5.lay f fun b hb => h b (by rw [e2]; exact List.mem_append_right _ (List.mem_cons_of_mem _ hb)))
    cases y with
    | none => cases hx; rw [e1.1]; exact k
    | some y =>
      cases hx
      obtain ⟨t, v0, k1, k2, k3, k4⟩ := e1
      subst k1
      exact .tup ((h t (by simp [e2, k2])).trans k3) (.cons (k4.mono f) (.cons k .nil))
def SlAt (K : PySem.W.Frag) (F H : Hp) (o : Option V) (ft : List Addr) : Sl → Prop
  | .no => ft = []
  | .d x => ft = [] ∧ ∃ v, o = some v ∧ Da K F v x
  | .o s => ∃ v, o = some v ∧ OwAt K F H v ft s
  | .e a => ft = [] ∧ o = some (.ref a)
theorem SlAt.mono {K : PySem.W.Frag} {F H F' H' : Hp} {o : Option V} {ft : List Addr} {s : Sl} (x : SlAt K F H o ft s) (f : Same F F') (h : ∀ a ∈ ft, H' a = H a) : SlAt K F' H' o ft s := by
  cases s with
  | no => exact x
  | d y => obtain ⟨e, v, e1, e2⟩ := x; exact ⟨e, v, e1, e2.mono f⟩
  | o y => obtain ⟨v, e1, e2⟩ := x; exact ⟨v, e1, e2.mono f h⟩
  | e a => exact x
/-- what is known of the objects that stand at ft: new since H0, not settled, tracked -/
def Own (H0 F H : Hp) (ft : List Addr) : Prop := ∀ a ∈ ft, F a = none ∧ H0 a = none ∧ H a ≠ none
def ftSet (ft : Nat → List Addr) (i : Nat) (l : List Addr) : Nat → List Addr := fun j => if j = i then l else ft j
theorem ftSet_same {ft : Nat → List Addr} {i : Nat} {l : List Addr} : ftSet ft i l i = l := if_pos rfl
theorem ftSet_ne {ft : Nat → List Addr} {i j : Nat} {l : List Addr} (h : ¬ j = i) : ftSet ft i l j = ft j := if_neg h
structure Rel (K : PySem.W.Frag) (F0 H0 F H : Hp) (σ : St) (ρ : List Sl) : Prop where
  g : Grow F0 H0 F H
  len : σ.length = ρ.length
  t0 : TupIn F0 H0
  ft : ∃ ft : Nat → List Addr, (∀ i s o, ρ[i]? = some s → σ[i]? = some o → SlAt K F H o (ft i) s) ∧ (∀ i, Own H0 F H (ft i)) ∧ ∀ i j, i ≠ j → ∀ a ∈ ft i, a ∉ ft j
section
variable {K : PySem.W.Frag} {F0 H0 F H F' H' : Hp} {σ : St} {ρ : List Sl}
theorem Rel.fh (R : Rel K F0 H0 F H σ ρ) : Same F H := R.g.fh
theorem Rel.ti (R : Rel K F0 H0 F H σ ρ) : TupIn F H := R.g.t R.t0
/-- expressions only grow the heaps -/
theorem Rel.grow (R : Rel K F0 H0 F H σ ρ) (g : Grow F H F' H') : Rel K F0 H0 F' H' σ ρ := by
  obtain ⟨G, l, t0, ft, h1, h2, h3⟩ := R
  refine ⟨G.trans g, l, t0, ft, fun i s o e1 e2 => (h1 i s o e1 e2).mono g.f fun a ha => ?_, fun i a ha => ?_, h3⟩
  · obtain ⟨_, _, z⟩ := h2 i a ha
    cases q : H a with
    | none => exact absurd q z
    | some u => exact g.h _ _ q
  · obtain ⟨z1, z2, z3⟩ := h2 i a ha
    exact ⟨(g.n a z3).trans z1, z2, ne_none_of g.h z3⟩
theorem Rel.setD {i : Nat} {v : V} {x : PD} (R : Rel K F0 H0 F H σ ρ) (h : Da K F v x) : Rel K F0 H0 F H (σ.set i (some v)) (ρ.set i (.d x)) := by
  obtain ⟨G, l, t0, ft, h1, h2, h3⟩ := R
  refine ⟨G, by simp [l], t0, ftSet ft i [], fun j s o e1 e2 => ?_, fun j a ha => ?_, fun j k hjk a ha hk => ?_⟩
  · by_cases z : j = i
    · subst z
      rw [ftSet_same]
      have hl : j < ρ.length := by
        have := (List.getElem?_eq_some_iff.mp e1).1; simpa using this
      rw [List.getElem?_set_self hl] at e1
      rw [List.getElem?_set_self (by rw [l]; exact hl)] at e2
      cases e1; cases e2
      exact ⟨rfl, v, rfl, h⟩
    · rw [ftSet_ne z]
      rw [List.getElem?_set_ne (Ne.symm z)] at e1 e2
      exact h1 j s o e1 e2
  · by_cases z : j = i
    · rw [z, ftSet_same] at ha; exact absurd ha (by simp)
    · rw [ftSet_ne z] at ha; exact h2 j a ha
  · by_cases z : j = i
    · rw [z, ftSet_same] at ha; exact absurd ha (by simp)
    · by_cases z' : k = i
      · rw [z', ftSet_same] at hk; exact absurd hk (by simp)
      · rw [ftSet_ne z] at ha; rw [ftSet_ne z'] at hk; exact h3 j k hjk a ha hk
theorem Rel.setN {i : Nat} {o : Option V} (R : Rel K F0 H0 F H σ ρ) : Rel K F0 H0 F H (σ.set i o) (ρ.set i .no) := by
  obtain ⟨G, l, t0, ft, h1, h2, h3⟩ := R
  refine ⟨G, by simp [l], t0, ftSet ft i [], fun j s o e1 e2 => ?_, fun j a ha => ?_, fun j k hjk a ha hk => ?_⟩
  · by_cases z : j = i
    · subst z
      rw [ftSet_same]
      have hl : j < ρ.length := by
        have := (List.getElem?_eq_some_iff.mp e1).1; simpa using this
      rw [List.getElem?_set_self hl] at e1
      cases e1
      exact rfl
    · rw [ftSet_ne z]
      rw [List.getElem?_set_ne (Ne.symm z)] at e1 e2
      exact h1 j s o e1 e2
  · by_cases z : j = i
    · rw [z, ftSet_same] at ha; exact absurd ha (by simp)
    · rw [ftSet_ne z] at ha; exact h2 j a ha
  · by_cases z : j = i
    · rw [z, ftSet_same] at ha; exact absurd ha (by simp)
    · by_cases z' : k = i
      · rw [z', ftSet_same] at hk; exact absurd hk (by simp)
      · rw [ftSet_ne z] at ha; rw [ftSet_ne z'] at hk; exact h3 j k hjk a ha hk
theorem Rel.setE {i : Nat} {a : Addr} (R : Rel K F0 H0 F H σ ρ) : Rel K F0 H0 F H (σ.set i (some (.ref a))) (ρ.set i (.e a)) := by
  obtain ⟨G, l, t0, ft, h1, h2, h3⟩ := R
  refine ⟨G, by simp [l], t0, ftSet ft i [], fun j s o e1 e2 => ?_, fun j a ha => ?_, fun j k hjk a ha hk => ?_⟩
  · by_cases z : j = i
    · subst z
      rw [ftSet_same]
      have hl : j < ρ.length := by
        have := (List.getElem?_eq_some_iff.mp e1).1; simpa using this
      rw [List.getElem?_set_self hl] at e1
      rw [List.getElem?_set_self (by rw [l]; exact hl)] at e2
      cases e1; cases e2
      exact ⟨rfl, rfl⟩
    · rw [ftSet_ne z]
      rw [List.getElem?_set_ne (Ne.symm z)] at e1 e2
      exact h1 j s o e1 e2
  · by_cases z : j = i
    · rw [z, ftSet_same] at ha; exact absurd ha (by simp)
    · rw [ftSet_ne z] at ha; exact h2 j a ha
  · by_cases z : j = i
    · rw [z, ftSet_same] at ha; exact absurd ha (by simp)
    · by_cases z' : k = i
      · rw [z', ftSet_same] at hk; exact absurd hk (by simp)
      · rw [ftSet_ne z] at ha; rw [ftSet_ne z'] at hk; exact h3 j k hjk a ha hk
theorem Rel.getE {i : Nat} {a : Addr} (R : Rel K F0 H0 F H σ ρ) (e : ρ[i]? = some (.e a)) : σ[i]? = some (some (.ref a)) := by
  obtain ⟨G, l, t0, ft, h1, h2, h3⟩ := R
  have hl : i < σ.length := by rw [l]; exact (List.getElem?_eq_some_iff.mp e).1
  obtain ⟨_, e1⟩ := h1 i _ _ e (List.getElem?_eq_getElem hl)
  rw [List.getElem?_eq_getElem hl, e1]
/-- a new object comes to a slot -/
theorem Rel.setO {i : Nat} {v : V} {s : Ow} {f : List Addr} (R : Rel K F0 H0 F H σ ρ) (g : Grow F H F' H') (h : OwAt K F' H' v f s) (hf : ∀ a ∈ f, H a = none ∧ F' a = none ∧ H' a ≠ none) :
    Rel K F0 H0 F' H' (σ.set i (some v)) (ρ.set i (.o s)) := by
  have R2 := R.grow g
  obtain ⟨G, l, t0, ft, h1, h2, h3⟩ := R
  obtain ⟨G', _, _, _⟩ := R2
  have fr : ∀ j a, a ∈ ft j → a ∉ f := fun j a ha hb => (h2 j a ha).2.2 (hf a hb).1
  refine ⟨G', by simp [l], t0, ftSet ft i f, fun j s o e1 e2 => ?_, fun j a ha => ?_, fun j k hjk a ha hk => ?_⟩
  · by_cases z : j = i
    · subst z
      rw [ftSet_same]
      have hl : j < ρ.length := by
        have := (List.getElem?_eq_some_iff.mp e1).1; simpa using this
      rw [List.getElem?_set_self hl] at e1
      rw [List.getElem?_set_self (by rw [l]; exact hl)] at e2
      cases e1; cases e2
      exact ⟨v, rfl, h⟩
    · rw [ftSet_ne z]
      rw [List.getElem?_set_ne (Ne.symm z)] at e1 e2
      refine (h1 j s o e1 e2).mono g.f fun a ha => ?_
      obtain ⟨_, _, z⟩ := h2 j a ha
      cases q : H a with
      | none => exact absurd q z
      | some u => exact g.h _ _ q
  · by_cases z : j = i
    · rw [z, ftSet_same] at ha
      obtain ⟨q1, q2, q3⟩ := hf a ha
      exact ⟨q2, G.h.free q1, q3⟩
    · rw [ftSet_ne z] at ha
      obtain ⟨z1, z2, z3⟩ := h2 j a ha
      exact ⟨(g.n a z3).trans z1, z2, ne_none_of g.h z3⟩
  · by_cases z : j = i
    · rw [z, ftSet_same] at ha
      by_cases z' : k = i
      · exact hjk (z.trans z'.symm)
      · rw [ftSet_ne z'] at hk; exact fr k a hk ha
    · rw [ftSet_ne z] at ha
      by_cases z' : k = i
      · rw [z', ftSet_same] at hk; exact fr j a ha hk
      · rw [ftSet_ne z'] at hk; exact h3 j k hjk a ha hk
/-- what a slot holds -/
theorem Rel.getD {i : Nat} {x : PD} (R : Rel K F0 H0 F H σ ρ) (e : ρ[i]? = some (.d x)) : ∃ v, σ[i]? = some (some v) ∧ Da K F v x := by
  obtain ⟨G, l, t0, ft, h1, h2, h3⟩ := R
  have hl : i < σ.length := by rw [l]; exact (List.getElem?_eq_some_iff.mp e).1
  obtain ⟨_, v, e1, e2⟩ := h1 i _ _ e (List.getElem?_eq_getElem hl)
  exact ⟨v, by rw [List.getElem?_eq_getElem hl, e1], e2⟩
theorem Rel.getO {i : Nat} {s : Ow} (R : Rel K F0 H0 F H σ ρ) (e : ρ[i]? = some (.o s)) : ∃ v ft, σ[i]? = some (some v) ∧ OwAt K F H v ft s ∧ Own H0 F H ft ∧
    (∀ (H' : Hp) (s' : Ow), (∀ b, b ∉ ft → H' b = H b) → (∀ b ∈ ft, H' b ≠ none) → OwAt K F H' v ft s' → Rel K F0 H0 F H' σ (ρ.set i (.o s'))) ∧
    (∀ (F' : Hp) (x : PD), Same F F' → Same F' H → (∀ b, b ∉ ft → F' b = F b) → Da K F' v x → Rel K F0 H0 F' H σ (ρ.set i (.d x))) := by
  obtain ⟨G, l, t0, ft, h1, h2, h3⟩ := R
  have hl : i < σ.length := by rw [l]; exact (List.getElem?_eq_some_iff.mp e).1
  have hlr : i < ρ.length := (List.getElem?_eq_some_iff.mp e).1
  obtain ⟨v, e1, e2⟩ := h1 i _ _ e (List.getElem?_eq_getElem hl)
  have es : σ[i]? = some (some v) := by rw [List.getElem?_eq_getElem hl, e1]
  refine ⟨v, ft i, es, e2, h2 i, fun H' s' k1 k2 k3 => ?_, fun F' x k1 k2 k3 k4 => ?_⟩
  · have hH0 : ∀ b o, H0 b = some o → b ∉ ft i := fun b o q hb => by rw [(h2 i b hb).2.1] at q; cases q
    have hF : ∀ b o, F b = some o → b ∉ ft i := fun b o q hb => by rw [(h2 i b hb).1] at q; cases q
    refine ⟨⟨G.f, fun b o q => (k1 b (hH0 b o q)).trans (G.h b o q), fun b o q => (k1 b (hF b o q)).trans (G.fh b o q), G.n, fun z b xs q y => by
      by_cases hb : b ∈ ft i
      · exact (k3.nofl b hb xs q y).elim
      · rw [k1 b hb] at q; exact G.t z b xs q y⟩, by simp [l], t0, ft, fun j s o q1 q2 => ?_, fun j a ha => ?_, h3⟩
    · by_cases z : j = i
      · subst z
        rw [List.getElem?_set_self hlr] at q1
        rw [es] at q2
        cases q1; cases q2
        exact ⟨v, rfl, k3⟩
      · rw [List.getElem?_set_ne (Ne.symm z)] at q1
        exact (h1 j s o q1 q2).mono (Same.refl _) fun a ha => k1 a (h3 j i z a ha)
    · obtain ⟨z1, z2, z3⟩ := h2 j a ha
      refine ⟨z1, z2, ?_⟩
      by_cases z : j = i
      · subst z; exact k2 a ha
      · rw [k1 a (h3 j i z a ha)]; exact z3
  · refine ⟨⟨G.f.trans k1, G.h, k2, fun b q => (k3 b fun hb => q (h2 i b hb).2.1).trans (G.n b q), fun z b xs q y => k1 b _ (G.t z b xs q y)⟩, by simp [l], t0, ftSet ft i [], fun j s o q1 q2 => ?_, fun j a ha => ?_, fun j k hjk a ha hk => ?_⟩
    · by_cases z : j = i
      · subst z
        rw [ftSet_same]
        rw [List.getElem?_set_self hlr] at q1
        rw [es] at q2
        cases q1; cases q2
        exact ⟨rfl, v, rfl, k4⟩
      · rw [ftSet_ne z]
        rw [List.getElem?_set_ne (Ne.symm z)] at q1
        exact (h1 j s o q1 q2).mono k1 fun _ _ => rfl
    · by_cases z : j = i
      · rw [z, ftSet_same] at ha; exact absurd ha (by simp)
      · rw [ftSet_ne z] at ha
        obtain ⟨z1, z2, z3⟩ := h2 j a ha
        exact ⟨(k3 a (h3 j i z a ha)).trans z1, z2, z3⟩
    · by_cases z : j = i
      · rw [z, ftSet_same] at ha; exact absurd ha (by simp)
      · by_cases z' : k = i
        · rw [z', ftSet_same] at hk; exact absurd hk (by simp)
        · rw [ftSet_ne z] at ha; rw [ftSet_ne z'] at hk; exact h3 j k hjk a ha hk
/-- what a slot alone knew is changed, and not looked at again -/
theorem Rel.drop {i : Nat} {s : Ow} (R : Rel K F0 H0 F H σ ρ) (e : ρ[i]? = some (.o s)) : ∃ v ft, σ[i]? = some (some v) ∧ OwAt K F H v ft s ∧ Own H0 F H ft ∧
    ∀ H' : Hp, (∀ b, b ∉ ft → H' b = H b) → (∀ b ∈ ft, H' b ≠ none ∧ ∀ xs, H' b = some (.tup xs) → Ints xs → False) → Rel K F0 H0 F H' σ (ρ.set i .no) := by
  obtain ⟨G, l, t0, ft, h1, h2, h3⟩ := R
  have hl : i < σ.length := by rw [l]; exact (List.getElem?_eq_some_iff.mp e).1
  obtain ⟨v, e1, e2⟩ := h1 i _ _ e (List.getElem?_eq_getElem hl)
  refine ⟨v, ft i, by rw [List.getElem?_eq_getElem hl, e1], e2, h2 i, fun H' k1 k2 => ?_⟩
  have hH0 : ∀ b o, H0 b = some o → b ∉ ft i := fun b o q hb => by rw [(h2 i b hb).2.1] at q; cases q
  have hF : ∀ b o, F b = some o → b ∉ ft i := fun b o q hb => by rw [(h2 i b hb).1] at q; cases q
  refine ⟨⟨G.f, fun b o q => (k1 b (hH0 b o q)).trans (G.h b o q), fun b o q => (k1 b (hF b o q)).trans (G.fh b o q), G.n, fun z b xs q y => by
    by_cases hb : b ∈ ft i
    · exact ((k2 b hb).2 xs q y).elim
    · rw [k1 b hb] at q; exact G.t z b xs q y⟩, by simp [l], t0, ftSet ft i [], fun j s o q1 q2 => ?_, fun j a ha => ?_, fun j k hjk a ha hk => ?_⟩
  · by_cases z : j = i
    · subst z
      rw [ftSet_same]
      have hl : j < ρ.length := by
        have := (List.getElem?_eq_some_iff.mp q1).1; simpa using this
      rw [List.getElem?_set_self hl] at q1
      cases q1
      exact rfl
    · rw [ftSet_ne z]
      rw [List.getElem?_set_ne (Ne.symm z)] at q1
      exact (h1 j s o q1 q2).mono (Same.refl _) fun a ha => k1 a (h3 j i z a ha)
  · by_cases z : j = i
    · rw [z, ftSet_same] at ha; exact absurd ha (by simp)
    · rw [ftSet_ne z] at ha
      obtain ⟨z1, z2, z3⟩ := h2 j a ha
      exact ⟨z1, z2, by rw [k1 a (h3 j i z a ha)]; exact z3⟩
  · by_cases z : j = i
    · rw [z, ftSet_same] at ha; exact absurd ha (by simp)
    · by_cases z' : k = i
      · rw [z', ftSet_same] at hk; exact absurd hk (by simp)
      · rw [ftSet_ne z] at ha; rw [ftSet_ne z'] at hk; exact h3 j k hjk a ha hk
/-- a list that only a slot knows is settled -/
theorem Rel.settle {i : Nat} {xs : List PD} (R : Rel K F0 H0 F H σ ρ) (e : ρ[i]? = some (.o (.lst xs))) : ∃ F', Same F F' ∧ Rel K F0 H0 F' H σ (ρ.set i (.d (.list xs))) := by
  obtain ⟨v, ft, es, ⟨a, vs, rfl, rfl, h1, h2⟩, ow, _, k⟩ := R.getO e
  obtain ⟨n1, n2, n3⟩ := ow a (by simp)
  refine ⟨upd F a (.lst vs), Same.upd_new n1, k _ _ (Same.upd_new n1) (fun b u q => ?_) (fun b hb => upd_ne (by simpa using hb)) (.lst upd_same (h2.mono (Same.upd_new n1)))⟩
  by_cases z : b = a
  · subst z; rw [upd_same] at q; cases q; exact h1
  · rw [upd_ne z] at q; exact R.fh b u q
end
end DL

namespace DL
open PySem L2

/-! ### what a piece of text computes: a value, or an exception of the class at c -/
inductive Ro (α : Type) where
  | ok (a : α)
  | ex (c : Addr)
abbrev M (α : Type) := List Sl → Option (Ro α)
def mb {α β : Type} (m : M α) (k : α → M β) : M β := fun ρ => match m ρ with
  | some (.ok a) => k a ρ
  | some (.ex c) => some (.ex c)
  | none => none
def mr {α : Type} (a : α) : M α := fun _ => some (.ok a)
def ml {α : Type} (o : Option α) : M α := fun _ => o.map .ok
inductive Rs where
  | d (x : PD)
  | o (s : Ow)
inductive Out where
  | nx (ρ : List Sl)
  | bk (ρ : List Sl)
  | ct (ρ : List Sl)
  | rt (r : Rs)
  | ex (c : Addr)
abbrev MS := List Sl → Option Out

def ResAt (K : PySem.W.Frag) (H F' H' : Hp) (v : V) : Rs → Prop
  | .d x => Da K F' v x
  | .o s => ∃ ft, OwAt K F' H' v ft s ∧ ∀ a ∈ ft, H a = none ∧ F' a = none ∧ H' a ≠ none
def PoE (K : PySem.W.Frag) (F H : Hp) (Q : VK) (E : XK) : Ro PD → Prop
  | .ok x => ∀ v F' H', Grow F H F' H' → Da K F' v x → Q v H'
  | .ex c => ∀ F' H', Grow F H F' H' → E (.ref c) none H'
def PoR (K : PySem.W.Frag) (F H : Hp) (Q : VK) (E : XK) : Ro Rs → Prop
  | .ok r => ∀ v F' H', Grow F H F' H' → ResAt K H F' H' v r → Q v H'
  | .ex c => ∀ F' H', Grow F H F' H' → E (.ref c) none H'
def PoT (F H : Hp) (Q : Bool → Hp → Prop) (E : XK) : Ro Bool → Prop
  | .ok b => ∀ F' H', Grow F H F' H' → Q b H'
  | .ex c => ∀ F' H', Grow F H F' H' → E (.ref c) none H'
def PoA (K : PySem.W.Frag) (F H : Hp) (Q : List V → Hp → Prop) (E : XK) : Ro (List PD) → Prop
  | .ok xs => ∀ vs F' H', Grow F H F' H' → DaAll K F' vs xs → Q vs H'
  | .ex c => ∀ F' H', Grow F H F' H' → E (.ref c) none H'
def PoI (K : PySem.W.Frag) (F H : Hp) (Q : It → Hp → Prop) (E : XK) : Ro (List PD) → Prop
  | .ok xs => ∀ J vs F' H', Grow F H F' H' → DaAll K F' vs xs → Walk J vs.length (fun H'' => Same F' H'') (YAt vs) → Q J H'
  | .ex c => ∀ F' H', Grow F H F' H' → E (.ref c) none H'
def PoS (K : PySem.W.Frag) (F0 H0 F : Hp) (D : Ends) (E : XK) : Out → Prop
  | .nx ρ => ∀ σ F' H', Rel K F0 H0 F' H' σ ρ → Same F F' → D.nx σ H'
  | .bk ρ => ∀ σ F' H', Rel K F0 H0 F' H' σ ρ → Same F F' → D.bk σ H'
  | .ct ρ => ∀ σ F' H', Rel K F0 H0 F' H' σ ρ → Same F F' → D.ct σ H'
  | .rt r => ∀ v F' H', Grow F0 H0 F' H' → ResAt K H0 F' H' v r → D.rt v H'
  | .ex c => ∀ F' H', Grow F0 H0 F' H' → E (.ref c) none H'

structure DE (X : Cx) (E : XK) (e : Expr) (m : M PD) : Prop where
  ex : ∃ t, PE X e t ∧ ∀ F0 H0 F H σ ρ r Q, Rel X.K F0 H0 F H σ ρ → m ρ = some r → PoE X.K F H Q E r → t σ H Q
structure DR (X : Cx) (E : XK) (e : Expr) (m : M Rs) : Prop where
  ex : ∃ t, PE X e t ∧ ∀ F0 H0 F H σ ρ r Q, Rel X.K F0 H0 F H σ ρ → m ρ = some r → PoR X.K F H Q E r → t σ H Q
structure DT (X : Cx) (E : XK) (e : Expr) (m : M Bool) : Prop where
  ex : ∃ t, PT X e t ∧ ∀ F0 H0 F H σ ρ r Q, Rel X.K F0 H0 F H σ ρ → m ρ = some r → PoT F H Q E r → t σ H Q
structure DW (X : Cx) (E : XK) (e : Expr) (m : M Bool) : Prop where
  ex : ∃ t, PW X e t ∧ ∀ F0 H0 F H σ ρ r Q, Rel X.K F0 H0 F H σ ρ → m ρ = some r → PoT F H Q E r → t σ H Q
structure DA (X : Cx) (E : XK) (es : List Expr) (m : M (List PD)) : Prop where
  ex : ∃ t, PA X es t ∧ ∀ F0 H0 F H σ ρ r Q, Rel X.K F0 H0 F H σ ρ → m ρ = some r → PoA X.K F H Q E r → t σ H Q
structure DI (X : Cx) (E : XK) (tg e : Expr) (m : M (List PD)) : Prop where
  ex : ∃ t, PI X tg e t ∧ ∀ F0 H0 F H σ ρ r Q, Rel X.K F0 H0 F H σ ρ → m ρ = some r → PoI X.K F H Q E r → t σ H Q
structure DS (X : Cx) (E : XK) (st : Stmt) (m : MS) : Prop where
  ex : ∃ t, PS X st t ∧ ∀ F0 H0 F H σ ρ r D, Rel X.K F0 H0 F H σ ρ → m ρ = some r → PoS X.K F0 H0 F D E r → t D σ H
structure DSs (X : Cx) (E : XK) (st : List Stmt) (m : MS) : Prop where
  ex : ∃ t, PSs X st t ∧ ∀ F0 H0 F H σ ρ r D, Rel X.K F0 H0 F H σ ρ → m ρ = some r → PoS X.K F0 H0 F D E r → t D σ H

theorem mb_ok {α β : Type} {m : M α} {k : α → M β} {ρ : List Sl} {r : Ro β} (h : mb m k ρ = some r) : (∃ a, m ρ = some (.ok a) ∧ k a ρ = some r) ∨ ∃ c, m ρ = some (.ex c) ∧ r = .ex c := by
  unfold mb at h
  split at h
  · exact .inl ⟨_, by assumption, h⟩
  · cases h; exact .inr ⟨_, by assumption, rfl⟩
  · cases h

section
variable {X : Cx} {E : XK}
theorem PoE.grow {K : PySem.W.Frag} {F H F' H' : Hp} {Q : VK} {E : XK} {r : Ro PD} (p : PoE K F H Q E r) (g : Grow F H F' H') : PoE K F' H' Q E r := by
  cases r with
  | ok x => exact fun v F2 H2 g2 d => p v F2 H2 (g.trans g2) d
  | ex c => exact fun F2 H2 g2 => p F2 H2 (g.trans g2)
theorem PoA.grow {K : PySem.W.Frag} {F H F' H' : Hp} {Q : List V → Hp → Prop} {E : XK} {r : Ro (List PD)} (p : PoA K F H Q E r) (g : Grow F H F' H') : PoA K F' H' Q E r := by
  cases r with
  | ok x => exact fun v F2 H2 g2 d => p v F2 H2 (g.trans g2) d
  | ex c => exact fun F2 H2 g2 => p F2 H2 (g.trans g2)
theorem PoT.grow {F H F' H' : Hp} {Q : Bool → Hp → Prop} {E : XK} {r : Ro Bool} (p : PoT F H Q E r) (g : Grow F H F' H') : PoT F' H' Q E r := by
  cases r with
  | ok x => exact fun F2 H2 g2 => p F2 H2 (g.trans g2)
  | ex c => exact fun F2 H2 g2 => p F2 H2 (g.trans g2)
theorem ResAt.older {K : PySem.W.Frag} {H0 H F' H' : Hp} {v : V} {r : Rs} (h : ResAt K H F' H' v r) (e : Same H0 H) : ResAt K H0 F' H' v r := by
  cases r with
  | d x => exact h
  | o s => obtain ⟨ft, h1, h2⟩ := h; exact ⟨ft, h1, fun a ha => ⟨e.free (h2 a ha).1, (h2 a ha).2⟩⟩
theorem PoR.grow {K : PySem.W.Frag} {F H F' H' : Hp} {Q : VK} {E : XK} {r : Ro Rs} (p : PoR K F H Q E r) (g : Grow F H F' H') : PoR K F' H' Q E r := by
  cases r with
  | ok x => exact fun v F2 H2 g2 d => p v F2 H2 (g.trans g2) (d.older g.h)
  | ex c => exact fun F2 H2 g2 => p F2 H2 (g.trans g2)
theorem PoI.grow {K : PySem.W.Frag} {F H F' H' : Hp} {Q : It → Hp → Prop} {E : XK} {r : Ro (List PD)} (p : PoI K F H Q E r) (g : Grow F H F' H') : PoI K F' H' Q E r := by
  cases r with
  | ok x => exact fun J v F2 H2 g2 d => p J v F2 H2 (g.trans g2) d
  | ex c => exact fun F2 H2 g2 => p F2 H2 (g.trans g2)

/-! ### names and constants -/
def mV (i : Nat) : M PD := fun ρ => match ρ[i]? with | some (.d x) => some (.ok x) | _ => none
theorem dv (i : Nat) {x : Str} {pos : Pos} (hN : X.N[i]? = some x := by rfl) (hv : Vis X.env.scope x := by first | exact Or.inl rfl | exact Or.inr (Or.inl rfl) | exact Or.inr (Or.inr rfl)) (hd : (x == ("__debug__" : Str)) = false := by decide)
    (hcd : (x == ("__classdict__" : Str)) = false := by decide) : DE X E (.Name x pos) (mV i) := by
  refine ⟨_, pv i hN hv hd hcd, fun F0 H0 F H σ ρ r Q R h p => ?_⟩
  unfold mV at h
  split at h
  · rename_i y e
    cases h
    obtain ⟨v, e1, e2⟩ := R.getD e
    exact ⟨v, e1, p v F H (.refl R.fh) e2⟩
  · cases h
theorem de_int {i : Int} {j : Nat} {pos : Pos} : DE X E (.Constant (.int i) j pos) (mr (.int i)) :=
  ⟨_, pe_int, fun F0 H0 F H σ ρ r Q R h p => by cases h; exact p _ F H (.refl R.fh) (.int i)⟩
theorem de_bl {i : Bool} {j : Nat} {pos : Pos} : DE X E (.Constant (.bool i) j pos) (mr (.bool i)) :=
  ⟨_, pe_bl, fun F0 H0 F H σ ρ r Q R h p => by cases h; exact p _ F H (.refl R.fh) (.bl i)⟩
theorem de_non {j : Nat} {pos : Pos} : DE X E (.Constant .none j pos) (mr .none) :=
  ⟨_, pe_non, fun F0 H0 F H σ ρ r Q R h p => by cases h; exact p _ F H (.refl R.fh) .non⟩
theorem de_str {x : Str} {j : Nat} {pos : Pos} : DE X E (.Constant (.str x) j pos) (mr (.str x)) :=
  ⟨_, pe_str, fun F0 H0 F H σ ρ r Q R h p => by cases h; exact p _ F H (.refl R.fh) (.str x)⟩

/-! ### from one judgement to another -/
def mRs (m : M PD) : M Rs := mb m fun x => mr (.d x)
theorem DE.r {e : Expr} {m : M PD} (h : DE X E e m) : DR X E e (mRs m) := by
  obtain ⟨t, ht, hs⟩ := h
  refine ⟨t, ht, fun F0 H0 F H σ ρ r Q R h p => ?_⟩
  rcases mb_ok h with ⟨a, e1, e2⟩ | ⟨c, e1, e2⟩
  · cases e2
    exact hs F0 H0 F H σ ρ _ Q R e1 fun v F' H' g d => p v F' H' g d
  · cases e2
    exact hs F0 H0 F H σ ρ _ Q R e1 fun F' H' g => p F' H' g
def Rs.data : Rs → Option PD
  | .d x => some x
  | .o s => s.dat
def mDat (m : M Rs) : M PD := mb m fun x => ml x.data
theorem Grow.two {F H F' H' : Hp} {p q : Addr} {o u : HO} (g : Grow F H F' H') (n : H p = none) (nf : F' p = none) (h : H' p = some o) (n2 : H q = none) (nf2 : F' q = none) (h2 : H' q = some u) (ne : p ≠ q) : Grow F H (upd (upd F' p o) q u) H' :=
  (g.settle n nf h).settle n2 (by rw [upd_ne (Ne.symm ne)]; exact nf2) h2
theorem Grow.mix {F H F' H' : Hp} {ft : List Addr} (g : Grow F H F' H') (n : ∀ a ∈ ft, H a = none ∧ F' a = none ∧ H' a ≠ none) : Grow F H (mixF F' H' ft) H' :=
  ⟨g.f.trans (mixF_ge fun a ha => (n a ha).2.1), g.h, mixF_le g.fh, fun b q => (mixF_off fun z => q (n b z).1).trans (g.n b q), fun z b xs q y => by
    by_cases hb : b ∈ ft
    · rw [mixF_in hb]; exact q
    · rw [mixF_off hb]; exact g.t z b xs q y⟩
theorem settle_res {K : PySem.W.Frag} {F H F' H' : Hp} {v : V} {s : Rs} {x : PD} (g : Grow F H F' H') (h : ResAt K H F' H' v s) (e : s.data = some x) : ∃ F2, Grow F H F2 H' ∧ Da K F2 v x := by
  cases s with
  | d y => cases e; exact ⟨F', g, h⟩
  | o s =>
    obtain ⟨ft, h1, h2⟩ := h
    exact ⟨_, g.mix h2, h1.lay (mixF_ge fun a ha => (h2 a ha).2.1) (fun a ha => mixF_in ha) e⟩
theorem DR.e {e : Expr} {m : M Rs} (h : DR X E e m) : DE X E e (mDat m) := by
  obtain ⟨t, ht, hs⟩ := h
  refine ⟨t, ht, fun F0 H0 F H σ ρ r Q R h p => ?_⟩
  rcases mb_ok h with ⟨a, e1, e2⟩ | ⟨c, e1, e2⟩
  · unfold ml at e2
    obtain ⟨x, ex, rfl⟩ := Option.map_eq_some_iff.mp e2
    refine hs F0 H0 F H σ ρ _ Q R e1 fun v F' H' g d => ?_
    obtain ⟨F2, g2, d2⟩ := settle_res g d ex
    exact p v F2 H' g2 d2
  · cases e2
    exact hs F0 H0 F H σ ρ _ Q R e1 fun F' H' g => p F' H' g
/-- a value that is a bool, as a test -/
def asB : PD → Option Bool
  | .bool b => some b
  | _ => none
def mB (m : M PD) : M Bool := mb m fun x => ml (asB x)
theorem dt_val {e : Expr} {m : M PD} (h : DE X E e m) (he : ∀ whole, isTrue e X.env whole = (do let v ← whole; standAt e.pos; holding [v] (truthy v)) := by intro _; rfl) : DT X E e (mB m) := by
  obtain ⟨t, ht, hs⟩ := h
  refine ⟨_, pt_val ht he, fun F0 H0 F H σ ρ r Q R h p => ?_⟩
  rcases mb_ok h with ⟨a, e1, e2⟩ | ⟨c, e1, e2⟩
  · unfold ml asB at e2
    split at e2
    · cases e2
      refine hs F0 H0 F H σ ρ _ _ R e1 fun v F' H' g d => ?_
      cases d
      exact ⟨_, rfl, p F' H' g⟩
    · cases e2
  · cases e2
    exact hs F0 H0 F H σ ρ _ _ R e1 fun F' H' g => p F' H' g

/-! ### operators on two values, one value -/
def Snd2 (K : PySem.W.Frag) (r : R2) (f : PD → PD → Option PD) : Prop := ∀ F H v w x y z Q, Same F H → Da K F v x → Da K F w y → f x y = some z → (∀ u F' H', Grow F H F' H' → Da K F' u z → Q u H') → r v w H Q
def m2 (f : PD → PD → Option PD) (a b : M PD) : M PD := mb a fun x => mb b fun y => ml (f x y)
theorem two_sound {K : PySem.W.Frag} {ta tb : TE} {r : R2} {f : PD → PD → Option PD} {a b : M PD} {F0 H0 F H : Hp} {σ : St} {ρ : List Sl} {q : Ro PD} {Q : VK}
    (ha : ∀ F0 H0 F H σ ρ r Q, Rel K F0 H0 F H σ ρ → a ρ = some r → PoE K F H Q E r → ta σ H Q) (hb : ∀ F0 H0 F H σ ρ r Q, Rel K F0 H0 F H σ ρ → b ρ = some r → PoE K F H Q E r → tb σ H Q) (hr : Snd2 K r f)
    (R : Rel K F0 H0 F H σ ρ) (h : m2 f a b ρ = some q) (p : PoE K F H Q E q) : ta σ H fun x H1 => tb σ H1 fun y H2 => r x y H2 Q := by
  rcases mb_ok h with ⟨x, e1, e2⟩ | ⟨c, e1, e2⟩
  · refine ha F0 H0 F H σ ρ _ _ R e1 fun v F' H' g d => ?_
    have R' := R.grow g
    rcases mb_ok e2 with ⟨y, e3, e4⟩ | ⟨c, e3, e4⟩
    · refine hb F0 H0 F' H' σ ρ _ _ R' e3 fun w F2 H2 g2 d2 => ?_
      unfold ml at e4
      obtain ⟨z, ez, rfl⟩ := Option.map_eq_some_iff.mp e4
      exact hr F2 H2 v w x y z Q g2.fh (d.mono g2.f) d2 ez fun u F3 H3 g3 d3 => p u F3 H3 ((g.trans g2).trans g3) d3
    · cases e4
      exact hb F0 H0 F' H' σ ρ _ _ R' e3 fun F2 H2 g2 => p F2 H2 (g.trans g2)
  · cases e2
    exact ha F0 H0 F H σ ρ _ _ R e1 fun F' H' g => p F' H' g
theorem de_op {op : Operator} {r : R2} {f : PD → PD → Option PD} {a b : Expr} {ma mb' : M PD} {pos : Pos} (ho : OpR X (binaryOp op) r) (hr : Snd2 X.K r f) (ha : DE X E a ma) (hb : DE X E b mb') : DE X E (.BinOp a op b pos) (m2 f ma mb') := by
  obtain ⟨ta, h1, h2⟩ := ha
  obtain ⟨tb, h3, h4⟩ := hb
  exact ⟨_, pe_op ho h1 h3, fun F0 H0 F H σ ρ q Q R h p => two_sound h2 h4 hr R h p⟩
theorem de_cmp {op : CmpOp} {r : R2} {f : PD → PD → Option PD} {a b : Expr} {ma mb' : M PD} {pos : Pos} (ho : OpR X (compareOp op) r) (hr : Snd2 X.K r f) (ha : DE X E a ma) (hb : DE X E b mb') (hm : behindInMarks op b = false := by first | exact nomark _ | rfl) : DE X E (.Compare a [op] [b] pos) (m2 f ma mb') := by
  obtain ⟨ta, h1, h2⟩ := ha
  obtain ⟨tb, h3, h4⟩ := hb
  exact ⟨_, pe_cmpR ho h1 h3 hm, fun F0 H0 F H σ ρ q Q R h p => two_sound h2 h4 hr R h p⟩
theorem Snd2.bool {K : PySem.W.Frag} {r : R2} {f : PD → PD → Option PD} (h : Snd2 K r f) : Snd2 K r f := h
theorem dt_cmp {op : CmpOp} {r : R2} {f : PD → PD → Option PD} {a b : Expr} {ma mb' : M PD} {pos : Pos} (ho : OpR X (compareOp op) r) (hr : Snd2 X.K r f) (ha : DE X E a ma) (hb : DE X E b mb') (hm : behindInMarks op b = false := by first | exact nomark _ | rfl) : DT X E (.Compare a [op] [b] pos) (mB (m2 f ma mb')) := by
  obtain ⟨ta, h1, h2⟩ := ha
  obtain ⟨tb, h3, h4⟩ := hb
  refine ⟨_, pt_cmpR ho h1 h3 hm, fun F0 H0 F H σ ρ q Q R h p => ?_⟩
  rcases mb_ok h with ⟨a, e1, e2⟩ | ⟨c, e1, e2⟩
  · unfold ml asB at e2
    split at e2
    · cases e2
      refine two_sound h2 h4 hr R e1 fun v F' H' g d => ?_
      cases d
      exact ⟨_, rfl, p F' H' g⟩
    · cases e2
  · cases e2
    exact two_sound h2 h4 hr R e1 fun F' H' g => p F' H' g
def Snd1 (K : PySem.W.Frag) (r : V → Hp → VK → Prop) (f : PD → Option PD) : Prop := ∀ F H v x z Q, Same F H → Da K F v x → f x = some z → (∀ u F' H', Grow F H F' H' → Da K F' u z → Q u H') → r v H Q
def m1 (f : PD → Option PD) (a : M PD) : M PD := mb a fun x => ml (f x)
theorem de_un {op : UnaryOp} {r : V → Hp → VK → Prop} {f : PD → Option PD} {a : Expr} {ma : M PD} {pos : Pos} (ho : UnR X (unaryOp op) r) (hr : Snd1 X.K r f) (ha : DE X E a ma) : DE X E (.UnaryOp op a pos) (m1 f ma) := by
  obtain ⟨ta, h1, h2⟩ := ha
  refine ⟨_, pe_un ho h1, fun F0 H0 F H σ ρ q Q R h p => ?_⟩
  rcases mb_ok h with ⟨x, e1, e2⟩ | ⟨c, e1, e2⟩
  · refine h2 F0 H0 F H σ ρ _ _ R e1 fun v F' H' g d => ?_
    unfold ml at e2
    obtain ⟨z, ez, rfl⟩ := Option.map_eq_some_iff.mp e2
    exact hr F' H' v x z Q g.fh d ez fun u F3 H3 g3 d3 => p u F3 H3 (g.trans g3) d3
  · cases e2
    exact h2 F0 H0 F H σ ρ _ _ R e1 fun F' H' g => p F' H' g

/-! ### and, or, not, if -/
def mAnd (a b : M Bool) : M Bool := mb a fun c => if c = true then b else mr false
def mOr (a b : M Bool) : M Bool := mb a fun c => if c = true then mr true else b
def mNot (a : M Bool) : M Bool := mb a fun c => mr (!c)
theorem dw_and1 {a : Expr} {ma : M Bool} {pos : Pos} (ha : DT X E a ma) : DW X E (.BoolOp .And [a] pos) ma := by
  obtain ⟨ta, h1, h2⟩ := ha
  exact ⟨_, pw_and1 h1, h2⟩
theorem dw_or1 {a : Expr} {ma : M Bool} {pos : Pos} (ha : DT X E a ma) : DW X E (.BoolOp .Or [a] pos) ma := by
  obtain ⟨ta, h1, h2⟩ := ha
  exact ⟨_, pw_or1 h1, h2⟩
theorem dw_and {a b : Expr} {rest : List Expr} {ma mb' : M Bool} {pos : Pos} (ha : DT X E a ma) (hb : DW X E (.BoolOp .And (b :: rest) pos) mb') : DW X E (.BoolOp .And (a :: b :: rest) pos) (mAnd ma mb') := by
  obtain ⟨ta, h1, h2⟩ := ha
  obtain ⟨tb, h3, h4⟩ := hb
  refine ⟨_, pw_and h1 h3, fun F0 H0 F H σ ρ q Q R h p => ?_⟩
  rcases mb_ok h with ⟨x, e1, e2⟩ | ⟨c, e1, e2⟩
  · refine h2 F0 H0 F H σ ρ _ _ R e1 fun F' H' g => ?_
    cases x with
    | true => rw [if_pos rfl] at e2 ⊢; exact h4 F0 H0 F' H' σ ρ _ _ (R.grow g) e2 (p.grow g)
    | false => rw [if_neg (by decide)] at e2 ⊢; cases e2; exact p F' H' g
  · cases e2
    exact h2 F0 H0 F H σ ρ _ _ R e1 fun F' H' g => p F' H' g
theorem dw_or {a b : Expr} {rest : List Expr} {ma mb' : M Bool} {pos : Pos} (ha : DT X E a ma) (hb : DW X E (.BoolOp .Or (b :: rest) pos) mb') : DW X E (.BoolOp .Or (a :: b :: rest) pos) (mOr ma mb') := by
  obtain ⟨ta, h1, h2⟩ := ha
  obtain ⟨tb, h3, h4⟩ := hb
  refine ⟨_, pw_or h1 h3, fun F0 H0 F H σ ρ q Q R h p => ?_⟩
  rcases mb_ok h with ⟨x, e1, e2⟩ | ⟨c, e1, e2⟩
  · refine h2 F0 H0 F H σ ρ _ _ R e1 fun F' H' g => ?_
    cases x with
    | true => rw [if_pos rfl] at e2 ⊢; cases e2; exact p F' H' g
    | false => rw [if_neg (by decide)] at e2 ⊢; exact h4 F0 H0 F' H' σ ρ _ _ (R.grow g) e2 (p.grow g)
  · cases e2
    exact h2 F0 H0 F H σ ρ _ _ R e1 fun F' H' g => p F' H' g
theorem DW.t {e : Expr} {m : M Bool} (h : DW X E e m) : DT X E e m := by
  obtain ⟨t, h1, h2⟩ := h
  exact ⟨t, h1.pt, h2⟩
theorem dt_not {a : Expr} {ma : M Bool} {pos : Pos} (ha : DT X E a ma) : DT X E (.UnaryOp .Not a pos) (mNot ma) := by
  obtain ⟨ta, h1, h2⟩ := ha
  refine ⟨_, pt_not h1, fun F0 H0 F H σ ρ q Q R h p => ?_⟩
  rcases mb_ok h with ⟨x, e1, e2⟩ | ⟨c, e1, e2⟩
  · cases e2
    exact h2 F0 H0 F H σ ρ _ _ R e1 fun F' H' g => p F' H' g
  · cases e2
    exact h2 F0 H0 F H σ ρ _ _ R e1 fun F' H' g => p F' H' g
/-- as values: all of them bools -/
def mAndV (a b : M PD) : M PD := mb (mB a) fun c => if c = true then b else mr (.bool false)
def mOrV (a b : M PD) : M PD := mb (mB a) fun c => if c = true then mr (.bool true) else b
def mNotV (a : M PD) : M PD := mb (mB a) fun c => mr (.bool (!c))
theorem de_one {a : Expr} {op : BoolOp} {ma : M PD} {pos : Pos} (ha : DE X E a ma) : DE X E (.BoolOp op [a] pos) ma := by
  obtain ⟨ta, h1, h2⟩ := ha
  exact ⟨_, pe_one h1, h2⟩
theorem mB_ok {a : M PD} {ρ : List Sl} {r : Ro Bool} (h : mB a ρ = some r) : (∃ b, a ρ = some (.ok (.bool b)) ∧ r = .ok b) ∨ ∃ c, a ρ = some (.ex c) ∧ r = .ex c := by
  rcases mb_ok h with ⟨x, e1, e2⟩ | ⟨c, e1, e2⟩
  · unfold ml asB at e2
    split at e2
    · cases e2; exact .inl ⟨_, e1, rfl⟩
    · cases e2
  · exact .inr ⟨c, e1, e2⟩
theorem de_and {a b : Expr} {rest : List Expr} {ma mb' : M PD} {pos : Pos} (ha : DE X E a ma) (hb : DE X E (.BoolOp .And (b :: rest) pos) mb') : DE X E (.BoolOp .And (a :: b :: rest) pos) (mAndV ma mb') := by
  obtain ⟨ta, h1, h2⟩ := ha
  obtain ⟨tb, h3, h4⟩ := hb
  refine ⟨_, pe_and h1 h3, fun F0 H0 F H σ ρ q Q R h p => ?_⟩
  rcases mb_ok h with ⟨x, e1, e2⟩ | ⟨c, e1, e2⟩
  · rcases mB_ok e1 with ⟨b, e3, e4⟩ | ⟨c, e3, e4⟩
    · cases e4
      refine h2 F0 H0 F H σ ρ _ _ R e3 fun v F' H' g d => ?_
      cases d
      refine ⟨_, rfl, ?_⟩
      cases x with
      | true => rw [if_pos rfl] at e2 ⊢; exact h4 F0 H0 F' H' σ ρ _ _ (R.grow g) e2 (p.grow g)
      | false => rw [if_neg (by decide)] at e2 ⊢; cases e2; exact p _ F' H' g (.bl false)
    · cases e4
  · rcases mB_ok e1 with ⟨b, e3, e4⟩ | ⟨c', e3, e4⟩
    · cases e4
    · cases e4; cases e2
      exact h2 F0 H0 F H σ ρ _ _ R e3 fun F' H' g => p F' H' g
theorem de_or {a b : Expr} {rest : List Expr} {ma mb' : M PD} {pos : Pos} (ha : DE X E a ma) (hb : DE X E (.BoolOp .Or (b :: rest) pos) mb') : DE X E (.BoolOp .Or (a :: b :: rest) pos) (mOrV ma mb') := by
  obtain ⟨ta, h1, h2⟩ := ha
  obtain ⟨tb, h3, h4⟩ := hb
  refine ⟨_, pe_or h1 h3, fun F0 H0 F H σ ρ q Q R h p => ?_⟩
  rcases mb_ok h with ⟨x, e1, e2⟩ | ⟨c, e1, e2⟩
  · rcases mB_ok e1 with ⟨b, e3, e4⟩ | ⟨c, e3, e4⟩
    · cases e4
      refine h2 F0 H0 F H σ ρ _ _ R e3 fun v F' H' g d => ?_
      cases d
      refine ⟨_, rfl, ?_⟩
      cases x with
      | true => rw [if_pos rfl] at e2 ⊢; cases e2; exact p _ F' H' g (.bl true)
      | false => rw [if_neg (by decide)] at e2 ⊢; exact h4 F0 H0 F' H' σ ρ _ _ (R.grow g) e2 (p.grow g)
    · cases e4
  · rcases mB_ok e1 with ⟨b, e3, e4⟩ | ⟨c', e3, e4⟩
    · cases e4
    · cases e4; cases e2
      exact h2 F0 H0 F H σ ρ _ _ R e3 fun F' H' g => p F' H' g
theorem de_not {a : Expr} {ma : M PD} {pos : Pos} (ha : DE X E a ma) : DE X E (.UnaryOp .Not a pos) (mNotV ma) := by
  obtain ⟨ta, h1, h2⟩ := ha
  refine ⟨_, pe_not h1, fun F0 H0 F H σ ρ q Q R h p => ?_⟩
  rcases mb_ok h with ⟨x, e1, e2⟩ | ⟨c, e1, e2⟩
  · rcases mB_ok e1 with ⟨b, e3, e4⟩ | ⟨c, e3, e4⟩
    · cases e4; cases e2
      refine h2 F0 H0 F H σ ρ _ _ R e3 fun v F' H' g d => ?_
      cases d
      exact ⟨_, rfl, p _ F' H' g (.bl _)⟩
    · cases e4
  · rcases mB_ok e1 with ⟨b, e3, e4⟩ | ⟨c', e3, e4⟩
    · cases e4
    · cases e4; cases e2
      exact h2 F0 H0 F H σ ρ _ _ R e3 fun F' H' g => p F' H' g
def mIf {α : Type} (c : M Bool) (a b : M α) : M α := mb c fun k => if k = true then a else b
theorem de_if {c a b : Expr} {mc : M Bool} {ma mb' : M PD} {pos : Pos} (hc : DT X E c mc) (ha : DE X E a ma) (hb : DE X E b mb') : DE X E (.IfExp c a b pos) (mIf mc ma mb') := by
  obtain ⟨tc, k1, k2⟩ := hc
  obtain ⟨ta, h1, h2⟩ := ha
  obtain ⟨tb, h3, h4⟩ := hb
  refine ⟨_, pe_ifExp k1 h1 h3, fun F0 H0 F H σ ρ q Q R h p => ?_⟩
  rcases mb_ok h with ⟨x, e1, e2⟩ | ⟨c, e1, e2⟩
  · refine k2 F0 H0 F H σ ρ _ _ R e1 fun F' H' g => ?_
    cases x with
    | true => rw [if_pos rfl] at e2 ⊢; exact h2 F0 H0 F' H' σ ρ _ _ (R.grow g) e2 (p.grow g)
    | false => rw [if_neg (by decide)] at e2 ⊢; exact h4 F0 H0 F' H' σ ρ _ _ (R.grow g) e2 (p.grow g)
  · cases e2
    exact k2 F0 H0 F H σ ρ _ _ R e1 fun F' H' g => p F' H' g

/-! ### arguments, displays -/
def mNil : M (List PD) := mr []
def mCons (a : M PD) (b : M (List PD)) : M (List PD) := mb a fun x => mb b fun xs => mr (x :: xs)
theorem da_nil : DA X E [] mNil := ⟨_, pa_nil, fun F0 H0 F H σ ρ q Q R h p => by cases h; exact p _ F H (.refl R.fh) .nil⟩
theorem da_cons {e : Expr} {es : List Expr} {ma : M PD} {mb' : M (List PD)} (ha : DE X E e ma) (hb : DA X E es mb') (hs : starEach (e :: es) X.env = (false, eval e X.env) :: starEach es X.env := by rfl) : DA X E (e :: es) (mCons ma mb') := by
  obtain ⟨ta, h1, h2⟩ := ha
  obtain ⟨tb, h3, h4⟩ := hb
  refine ⟨_, pa_cons h1 h3 hs, fun F0 H0 F H σ ρ q Q R h p => ?_⟩
  rcases mb_ok h with ⟨x, e1, e2⟩ | ⟨c, e1, e2⟩
  · refine h2 F0 H0 F H σ ρ _ _ R e1 fun v F' H' g d => ?_
    rcases mb_ok e2 with ⟨y, e3, e4⟩ | ⟨c, e3, e4⟩
    · cases e4
      exact h4 F0 H0 F' H' σ ρ _ _ (R.grow g) e3 fun vs F2 H2 g2 d2 => p _ F2 H2 (g.trans g2) (.cons (d.mono g2.f) d2)
    · cases e4
      exact h4 F0 H0 F' H' σ ρ _ _ (R.grow g) e3 fun F2 H2 g2 => p F2 H2 (g.trans g2)
  · cases e2
    exact h2 F0 H0 F H σ ρ _ _ R e1 fun F' H' g => p F' H' g
/-- a bound that every list that is made must keep -/
def big : Nat := 1000000
theorem big_le : big ≤ sizeLine := by rw [sizeLine_eq]; decide
theorem le_line {n : Nat} (h : n ≤ big) : n ≤ sizeLine := Nat.le_trans h big_le
theorem lt_line {n : Nat} (h : n < big) : n < sizeLine := Nat.lt_of_lt_of_le h big_le
def mLst (a : M (List PD)) : M Rs := mb a fun xs => ml (if xs.length ≤ big then some (.o (.lst xs)) else none)
def mTup (a : M (List PD)) : M PD := mb a fun xs => ml (if xs.length ≤ big then some (.tuple xs) else none)
theorem dr_lst {es : List Expr} {ma : M (List PD)} {pos : Pos} (ha : DA X E es ma) : DR X E (.List es pos) (mLst ma) := by
  obtain ⟨ta, h1, h2⟩ := ha
  refine ⟨_, pe_lst h1, fun F0 H0 F H σ ρ q Q R h p => ?_⟩
  rcases mb_ok h with ⟨x, e1, e2⟩ | ⟨c, e1, e2⟩
  · unfold ml at e2
    split at e2
    · rename_i hz
      cases e2
      refine h2 F0 H0 F H σ ρ _ _ R e1 fun vs F' H' g d => ⟨le_line (by rw [d.len]; exact hz), fun a ha => ?_⟩
      exact p _ F' _ (g.trans (.newO g.fh ha)) ⟨[a], ⟨a, vs, rfl, rfl, upd_same, d⟩, fun b hb => by
        have e : b = a := by simpa using hb
        subst e
        exact ⟨g.h.free ha, g.fh.free ha, by rw [upd_same]; simp⟩⟩
    · cases e2
  · cases e2
    exact h2 F0 H0 F H σ ρ _ _ R e1 fun F' H' g => p F' H' g
theorem de_tup {es : List Expr} {ma : M (List PD)} {pos : Pos} {k} (ha : DA X E es ma) : DE X E (.Tuple es k pos) (mTup ma) := by
  obtain ⟨ta, h1, h2⟩ := ha
  refine ⟨_, pe_tup h1, fun F0 H0 F H σ ρ q Q R h p => ?_⟩
  rcases mb_ok h with ⟨x, e1, e2⟩ | ⟨c, e1, e2⟩
  · unfold ml at e2
    split at e2
    · rename_i hz
      cases e2
      refine h2 F0 H0 F H σ ρ _ _ R e1 fun vs F' H' g d => ⟨le_line (by rw [d.len]; exact hz), fun a ha => ?_⟩
      exact p _ _ _ (g.trans (.new g.fh ha)) (.tup upd_same (d.mono (Same.upd_new (g.fh.free ha))))
    · cases e2
  · cases e2
    exact h2 F0 H0 F H σ ρ _ _ R e1 fun F' H' g => p F' H' g
end
end DL

namespace DL
open PySem L2

/-- where a piece of text stands: no exception is being handled, a raise goes to E, there is room -/
structure Cok (X : Cx) (E : XK) (k : Nat) : Prop where
  calm : X.calm = true
  nd : X.N.Nodup
  tk : Takes X (fun cls d _ H => E cls d H)
  hr : Room k X.A
theorem PoS.later {K : PySem.W.Frag} {F0 H0 F F' : Hp} {D : Ends} {E : XK} {r : Out} (p : PoS K F0 H0 F D E r) (e : Same F F') : PoS K F0 H0 F' D E r := by
  cases r with
  | nx ρ => exact fun σ F2 H2 R q => p σ F2 H2 R (e.trans q)
  | bk ρ => exact fun σ F2 H2 R q => p σ F2 H2 R (e.trans q)
  | ct ρ => exact fun σ F2 H2 R q => p σ F2 H2 R (e.trans q)
  | rt r => exact p
  | ex c => exact p
def Rs.sl : Rs → Sl
  | .d x => .d x
  | .o s => .o s
section
variable {X : Cx} {E : XK} {k : Nat}
/-! ### blocks -/
def sNil : MS := fun ρ => some (.nx ρ)
def sSeq (a b : MS) : MS := fun ρ => match a ρ with
  | some (.nx ρ') => b ρ'
  | r => r
theorem dss_nil : DSs X E [] sNil := ⟨_, pss_nil, fun F0 H0 F H σ ρ r D R h p => by cases h; exact p σ F H R (Same.refl _)⟩
theorem dss_cons {st : Stmt} {rest : List Stmt} {ma mb' : MS} (ha : DS X E st ma) (hb : DSs X E rest mb') : DSs X E (st :: rest) (sSeq ma mb') := by
  obtain ⟨ta, h1, h2⟩ := ha
  obtain ⟨tb, h3, h4⟩ := hb
  refine ⟨_, pss_cons h1 h3, fun F0 H0 F H σ ρ r D R h p => ?_⟩
  unfold sSeq at h
  split at h
  · rename_i ρ' e
    exact h2 F0 H0 F H σ ρ _ _ R e fun σ' F' H' R' q => h4 F0 H0 F' H' σ' ρ' r D R' h (p.later q)
  · rename_i hn
    refine h2 F0 H0 F H σ ρ r _ R h ?_
    cases r with
    | nx ρ' => exact absurd h (hn ρ')
    | bk ρ' => exact p
    | ct ρ' => exact p
    | rt x => exact p
    | ex c => exact p
theorem dss_one {st : Stmt} {ma : MS} (ha : DS X E st ma) : DSs X E [st] ma := by
  obtain ⟨ta, h1, h2⟩ := ha
  exact ⟨_, pss_one h1, h2⟩
def sBrk : MS := fun ρ => some (.bk ρ)
def sCnt : MS := fun ρ => some (.ct ρ)
theorem ds_pass {pos : Pos} : DS X E (.Pass pos) sNil := ⟨_, ps_pass, fun F0 H0 F H σ ρ r D R h p => by cases h; exact p σ F H R (Same.refl _)⟩
theorem ds_break {pos : Pos} : DS X E (.Break pos) sBrk := ⟨_, ps_break, fun F0 H0 F H σ ρ r D R h p => by cases h; exact p σ F H R (Same.refl _)⟩
theorem ds_continue {pos : Pos} : DS X E (.Continue pos) sCnt := ⟨_, ps_continue, fun F0 H0 F H σ ρ r D R h p => by cases h; exact p σ F H R (Same.refl _)⟩

def sIf (c : M Bool) (a b : MS) : MS := fun ρ => match c ρ with
  | some (.ok k) => if k = true then a ρ else b ρ
  | some (.ex c) => some (.ex c)
  | none => none
theorem ds_if {c : Expr} {a b : List Stmt} {mc : M Bool} {ma mb' : MS} {pos : Pos} (hc : DT X E c mc) (ha : DSs X E a ma) (hb : DSs X E b mb') : DS X E (.If c a b pos) (sIf mc ma mb') := by
  obtain ⟨tc, k1, k2⟩ := hc
  obtain ⟨ta, h1, h2⟩ := ha
  obtain ⟨tb, h3, h4⟩ := hb
  refine ⟨_, ps_if k1 h1 h3, fun F0 H0 F H σ ρ r D R h p => ?_⟩
  unfold sIf at h
  split at h
  · rename_i b e
    refine k2 F0 H0 F H σ ρ _ _ R e fun F' H' g => ?_
    cases b with
    | true => rw [if_pos rfl] at h ⊢; exact h2 F0 H0 F' H' σ ρ _ _ (R.grow g) h (p.later g.f)
    | false => rw [if_neg (by decide)] at h ⊢; exact h4 F0 H0 F' H' σ ρ _ _ (R.grow g) h (p.later g.f)
  · rename_i c e
    cases h
    exact k2 F0 H0 F H σ ρ _ _ R e fun F' H' g => p F' H' (R.g.trans g)
  · cases h

/-! ### names are set -/
def sSet (i : Nat) (m : M Rs) : MS := fun ρ => match m ρ with
  | some (.ok r) => some (.nx (ρ.set i r.sl))
  | some (.ex c) => some (.ex c)
  | none => none
theorem ds_set {i : Nat} {x : Str} {e : Expr} {m : M Rs} {pos pos' : Pos} (hN : X.N.Nodup) (he : DR X E e m) (hi : X.N[i]? = some x := by rfl) (hx : Loc X.env.scope x := by first | exact Or.inl rfl | exact Or.inr rfl)
    (hs : swapsWith e (some (.Name x pos')) pos.line X.env = pure false := by rfl) (hf : X.fn x = true ∨ X.env.scope.names.lookup x = some .local := by first | exact .inl rfl | exact .inr rfl | assumption) : DS X E (.Assign [.Name x pos'] e pos) (sSet i m) := by
  obtain ⟨t, h1, h2⟩ := he
  refine ⟨_, ps_set hN hi hx h1 hs hf, fun F0 H0 F H σ ρ r D R h p => ?_⟩
  unfold sSet at h
  split at h
  · rename_i b e
    cases h
    refine h2 F0 H0 F H σ ρ _ _ R e fun v F' H' g d => ?_
    cases b with
    | d x => exact p _ F' H' ((R.grow g).setD d) g.f
    | o s =>
      obtain ⟨ft, d1, d2⟩ := d
      exact p _ F' H' (R.setO g d1 d2) g.f
  · rename_i c e
    cases h
    exact h2 F0 H0 F H σ ρ _ _ R e fun F' H' g => p F' H' (R.g.trans g)
  · cases h
/-- x = y, what y alone knew goes to x -/
def sMove (i j : Nat) : MS := fun ρ => match ρ[j]? with
  | some (.d x) => some (.nx (ρ.set i (.d x)))
  | some (.o (.lst xs)) => some (.nx ((ρ.set j (.d (.list xs))).set i (.d (.list xs))))
  | _ => none
theorem ds_move {i j : Nat} {x y : Str} {pos pos' pos2 : Pos} (hN : X.N.Nodup) (hi : X.N[i]? = some x := by rfl) (hj : X.N[j]? = some y := by rfl) (hx : Loc X.env.scope x := by first | exact Or.inl rfl | exact Or.inr rfl)
    (hv : Vis X.env.scope y := by first | exact Or.inl rfl | exact Or.inr (Or.inl rfl) | exact Or.inr (Or.inr rfl)) (hd : (y == ("__debug__" : Str)) = false := by decide) (hcd : (y == ("__classdict__" : Str)) = false := by decide)
    (hs : swapsWith (.Name y pos2) (some (.Name x pos')) pos.line X.env = pure false := by rfl) (hf : X.fn x = true ∨ X.env.scope.names.lookup x = some .local := by first | exact .inl rfl | exact .inr rfl | assumption) : DS X E (.Assign [.Name x pos'] (.Name y pos2) pos) (sMove i j) := by
  refine ⟨_, ps_set hN hi hx (pv j hj hv hd hcd) hs hf, fun F0 H0 F H σ ρ r D R h p => ?_⟩
  unfold sMove at h
  split at h
  · rename_i z e
    cases h
    obtain ⟨v, e1, e2⟩ := R.getD e
    exact ⟨v, e1, p _ F H (R.setD e2) (Same.refl _)⟩
  · rename_i xs e
    cases h
    obtain ⟨F', q1, R2⟩ := R.settle e
    have e' : (ρ.set j (.d (.list xs)))[j]? = some (.d (.list xs)) := by rw [List.getElem?_set_self (List.getElem?_eq_some_iff.mp e).1]
    obtain ⟨v, e1, e2⟩ := R2.getD e'
    exact ⟨v, e1, p _ F' H (R2.setD e2) q1⟩
  · cases h
/-- no text at all: what a slot alone knew is settled -/
def sFix (i : Nat) (m : MS) : MS := fun ρ => match ρ[i]? with
  | some (.o (.lst xs)) => m (ρ.set i (.d (.list xs)))
  | _ => m ρ
theorem dss_fix (i : Nat) {sts : List Stmt} {m : MS} (h : DSs X E sts m) : DSs X E sts (sFix i m) := by
  obtain ⟨t, h1, h2⟩ := h
  refine ⟨t, h1, fun F0 H0 F H σ ρ r D R h p => ?_⟩
  unfold sFix at h
  split at h
  · rename_i xs e
    obtain ⟨F', q1, R2⟩ := R.settle e
    exact h2 F0 H0 F' H σ _ r D R2 h (p.later q1)
  · exact h2 F0 H0 F H σ ρ r D R h p

/-! ### return, raise, an expression alone -/
def sRet (m : M Rs) : MS := fun ρ => match m ρ with
  | some (.ok r) => some (.rt r)
  | some (.ex c) => some (.ex c)
  | none => none
theorem ds_ret {e : Expr} {m : M Rs} {pos : Pos} (he : DR X E e m) : DS X E (.Return (some e) pos) (sRet m) := by
  obtain ⟨t, h1, h2⟩ := he
  refine ⟨_, ps_ret h1, fun F0 H0 F H σ ρ r D R h p => ?_⟩
  unfold sRet at h
  split at h
  · rename_i b e
    cases h
    exact h2 F0 H0 F H σ ρ _ _ R e fun v F' H' g d => p v F' H' (R.g.trans g) (d.older R.g.h)
  · rename_i c e
    cases h
    exact h2 F0 H0 F H σ ρ _ _ R e fun F' H' g => p F' H' (R.g.trans g)
  · cases h
def sRetV (i : Nat) : MS := fun ρ => match ρ[i]? with
  | some (.d x) => some (.rt (.d x))
  | some (.o s) => some (.rt (.o s))
  | _ => none
theorem ds_retV (i : Nat) {x : Str} {pos pos' : Pos} (hN : X.N[i]? = some x := by rfl) (hv : Vis X.env.scope x := by first | exact Or.inl rfl | exact Or.inr (Or.inl rfl) | exact Or.inr (Or.inr rfl)) (hd : (x == ("__debug__" : Str)) = false := by decide)
    (hcd : (x == ("__classdict__" : Str)) = false := by decide) : DS X E (.Return (some (.Name x pos')) pos) (sRetV i) := by
  refine ⟨_, ps_ret (pv i hN hv hd hcd), fun F0 H0 F H σ ρ r D R h p => ?_⟩
  unfold sRetV at h
  split at h
  · rename_i y e
    cases h
    obtain ⟨v, e1, e2⟩ := R.getD e
    exact ⟨v, e1, p v F H R.g e2⟩
  · rename_i s e
    cases h
    obtain ⟨v, ft, e1, e2, ow, _⟩ := R.getO e
    exact ⟨v, e1, p v F H R.g ⟨ft, e2, fun a ha => ⟨(ow a ha).2.1, (ow a ha).1, (ow a ha).2.2⟩⟩⟩
  · cases h
def sRetN : MS := fun ρ => some (.rt (.d .none))
theorem ds_retN {pos : Pos} : DS X E (.Return none pos) sRetN := ⟨_, ps_retN, fun F0 H0 F H σ ρ r D R h p => by cases h; exact p _ F H R.g .non⟩
def sRaise (c : Addr) : MS := fun _ => some (.ex c)
theorem ds_raise {x m : Str} {j : Nat} {p p2 pos pos2 : Pos} {C : Addr} {bmB : List Value} {B newId initId : String} (c : Cok X E k) (Fb : ExcBaseFacts B newId initId bmB) (q : PySem.W.excIn X.K C bmB newId = true) (gC : X.mg x = some (.ref C)) (kC : PySem.W.keepIn X.K (.ref C) = true)
    (h1 : PySem.W.subIn X.K (.ref C) (.type "BaseException") = some true) (h2 : PySem.W.typeIn X.K (.ref C) = some (.type "type")) (hg : Gl X x := by rfl)
    (hdb : (x == ("__debug__" : Str)) = false := by decide) : DS X E (.Raise (some (.Call (.Name x p) [.Constant (.str m) j p2] [] pos)) none pos2) (sRaise C) :=
  ⟨_, ps_raise c.calm c.tk (pmk_own Fb q gC kC (raises_own h1 h2) hg hdb), fun F0 H0 F H σ ρ r D R h p => by cases h; exact p F H R.g⟩
def sExp (m : M Rs) : MS := fun ρ => match m ρ with
  | some (.ok _) => some (.nx ρ)
  | some (.ex c) => some (.ex c)
  | none => none
theorem ds_exp {e : Expr} {m : M Rs} {pos : Pos} (he : DR X E e m) (hs : swapsWith e none pos.line X.env = pure false := by rfl) : DS X E (.Expr e pos) (sExp m) := by
  obtain ⟨t, h1, h2⟩ := he
  refine ⟨_, ps_expr h1 hs, fun F0 H0 F H σ ρ r D R h p => ?_⟩
  unfold sExp at h
  split at h
  · rename_i b e
    cases h
    exact h2 F0 H0 F H σ ρ _ _ R e fun v F' H' g d => p _ F' H' (R.grow g) g.f
  · rename_i c e
    cases h
    exact h2 F0 H0 F H σ ρ _ _ R e fun F' H' g => p F' H' (R.g.trans g)
  · cases h

/-! ### loops -/
def forL (i : Nat) (b : MS) : List PD → MS
  | [], ρ => some (.nx ρ)
  | x :: xs, ρ => match b (ρ.set i (.d x)) with
    | some (.nx ρ') => forL i b xs ρ'
    | some (.ct ρ') => forL i b xs ρ'
    | some (.bk ρ') => some (.nx ρ')
    | r => r
def sFor (i : Nat) (mi : M (List PD)) (b : MS) : MS := fun ρ => match mi ρ with
  | some (.ok xs) => forL i b xs ρ
  | some (.ex c) => some (.ex c)
  | none => none
theorem drop_get {α : Type} : ∀ {xs : List α} {n : Nat} {x : α}, xs[n]? = some x → xs.drop n = x :: xs.drop (n + 1)
  | [], n, x, h => by simp at h
  | y :: ys, 0, x, h => by simp at h; subst h; rfl
  | y :: ys, n + 1, x, h => by simpa using drop_get (xs := ys) (n := n) (by simpa using h)
theorem ds_for {i : Nat} {x : Str} {pos pos' : Pos} {iter : Expr} {body : List Stmt} {mi : M (List PD)} {mb' : MS} (c : Cok X E k) (hp : PassesOwn (model X.prog X.w) X.A X.env X.xe) (hi : DI X E (.Name x pos') iter mi) (hb : DSs X E body mb')
    (hx : X.N[i]? = some x := by rfl) (hl : Loc X.env.scope x := by first | exact Or.inl rfl | exact Or.inr rfl) (hf : X.fn x = true ∨ X.env.scope.names.lookup x = some .local := by first | exact .inl rfl | exact .inr rfl | assumption)
    (hs : ∀ x, foldedSetIterable iter X.env x = pure x := by intro _; rfl) : DS X E (.For (.Name x pos') iter body [] pos) (sFor i mi mb') := by
  obtain ⟨ti, h1, h2⟩ := hi
  obtain ⟨tb, h3, h4⟩ := hb
  refine ⟨_, ps_for hp c.calm h1 (pg_name c.nd hx hl hf) h3 hs, fun F0 H0 F H σ ρ r D R h p => ?_⟩
  unfold sFor at h
  split at h
  · rename_i xs e
    refine h2 F0 H0 F H σ ρ _ _ R e fun J vs F1 H1 g d W => ?_
    have p1 := p.later g.f
    refine for_it W (fun n σ' H' => ∃ F' ρ', Rel X.K F0 H0 F' H' σ' ρ' ∧ Same F1 F' ∧ forL i mb' (xs.drop n) ρ' = some r) ⟨F1, ρ, R.grow g, Same.refl _, h⟩ (fun n σ' H' _ ⟨F', ρ', R', q, _⟩ => q.trans R'.fh) ?_ ?_
    · rintro n v σ' H' H'' hn ⟨F', ρ', R', q, hr⟩ ⟨rfl, ev⟩
      obtain ⟨y, ey, dy⟩ := d.get ev
      rw [drop_get ey] at hr
      unfold forL at hr
      have R2 := R'.setD (i := i) (dy.mono q)
      show tb _ _ _
      split at hr
      · rename_i ρ2 e2
        exact h4 F0 H0 F' H'' _ _ _ _ R2 e2 fun σ3 F3 H3 R3 q3 => ⟨F3, ρ2, R3, q.trans q3, hr⟩
      · rename_i ρ2 e2
        exact h4 F0 H0 F' H'' _ _ _ _ R2 e2 fun σ3 F3 H3 R3 q3 => ⟨F3, ρ2, R3, q.trans q3, hr⟩
      · rename_i ρ2 e2
        cases hr
        exact h4 F0 H0 F' H'' _ _ _ _ R2 e2 fun σ3 F3 H3 R3 q3 => p1 σ3 F3 H3 R3 (q.trans q3)
      · rename_i n1 n2 n3
        refine h4 F0 H0 F' H'' _ _ r _ R2 hr ?_
        cases r with
        | nx ρ2 => exact absurd hr (n1 ρ2)
        | bk ρ2 => exact absurd hr (n3 ρ2)
        | ct ρ2 => exact absurd hr (n2 ρ2)
        | rt z => exact p
        | ex c => exact p
    · rintro σ' H' ⟨F', ρ', R', q, hr⟩
      rw [List.drop_eq_nil_of_le (by rw [d.len]; exact Nat.le_refl _)] at hr
      cases hr
      exact p1 σ' F' H' R' q
  · rename_i c e
    cases h
    exact h2 F0 H0 F H σ ρ _ _ R e fun F' H' g => p F' H' (R.g.trans g)
  · cases h
def whlF (c : M Bool) (b : MS) : Nat → MS
  | 0, _ => none
  | n + 1, ρ => match c ρ with
    | some (.ok k) => if k = true then (match b ρ with
      | some (.nx ρ') => whlF c b n ρ'
      | some (.ct ρ') => whlF c b n ρ'
      | some (.bk ρ') => some (.nx ρ')
      | r => r) else some (.nx ρ)
    | some (.ex c) => some (.ex c)
    | none => none
theorem ds_while (n : Nat) {pos : Pos} {e : Expr} {body : List Stmt} {mc : M Bool} {mb' : MS} (hp : PassesOwn (model X.prog X.w) X.A X.env X.xe) (hc : DT X E e mc) (hb : DSs X E body mb') : DS X E (.While e body [] pos) (whlF mc mb' n) := by
  obtain ⟨tc, h1, h2⟩ := hc
  obtain ⟨tb, h3, h4⟩ := hb
  refine ⟨_, ps_while hp h1 h3, fun F0 H0 F H σ ρ r D R h p => ?_⟩
  refine ⟨fun m σ' H' => ∃ F' ρ', Rel X.K F0 H0 F' H' σ' ρ' ∧ Same F F' ∧ whlF mc mb' m ρ' = some r, ⟨n, F, ρ, R, Same.refl _, h⟩, ?_⟩
  rintro m σ' H' ⟨F', ρ', R', q, hr⟩
  cases m with
  | zero => cases hr
  | succ m =>
    unfold whlF at hr
    split at hr
    · rename_i b eb
      refine h2 F0 H0 F' H' σ' ρ' _ _ R' eb fun F2 H2 g => ?_
      have q2 := q.trans g.f
      have R2 := R'.grow g
      cases b with
      | true =>
        rw [if_pos rfl] at hr ⊢
        refine ⟨fun σ3 H3 => ∃ F3 ρ3, Rel X.K F0 H0 F3 H3 σ3 ρ3 ∧ Same F F3 ∧ whlF mc mb' m ρ3 = some r, fun σ3 H3 z => ⟨m, Nat.lt_succ_self m, z⟩, ?_⟩
        split at hr
        · rename_i ρ2 e2
          exact h4 F0 H0 F2 H2 _ _ _ _ R2 e2 fun σ3 F3 H3 R3 q3 => ⟨F3, ρ2, R3, q2.trans q3, hr⟩
        · rename_i ρ2 e2
          exact h4 F0 H0 F2 H2 _ _ _ _ R2 e2 fun σ3 F3 H3 R3 q3 => ⟨F3, ρ2, R3, q2.trans q3, hr⟩
        · rename_i ρ2 e2
          cases hr
          exact h4 F0 H0 F2 H2 _ _ _ _ R2 e2 fun σ3 F3 H3 R3 q3 => p σ3 F3 H3 R3 (q2.trans q3)
        · rename_i n1 n2 n3
          refine h4 F0 H0 F2 H2 _ _ r _ R2 hr ?_
          cases r with
          | nx ρ2 => exact absurd hr (n1 ρ2)
          | bk ρ2 => exact absurd hr (n3 ρ2)
          | ct ρ2 => exact absurd hr (n2 ρ2)
          | rt z => exact p
          | ex c => exact p
      | false =>
        rw [if_neg (by decide)] at hr ⊢
        cases hr
        exact p σ' F2 H2 R2 q2
    · rename_i c ec
      cases hr
      exact h2 F0 H0 F' H' σ' ρ' _ _ R' ec fun F2 H2 g => p F2 H2 (R'.g.trans g)
    · cases hr

/-! ### the list that only a slot knows is changed -/
def sApp (i : Nat) (m : M PD) : MS := fun ρ => match ρ[i]? with
  | some (.o (.lst xs)) => (match m ρ with
    | some (.ok y) => if xs.length < big then some (.nx (ρ.set i (.o (.lst (xs ++ [y]))))) else none
    | some (.ex c) => some (.ex c)
    | none => none)
  | _ => none
theorem Rel.putL {K : PySem.W.Frag} {F0 H0 F H : Hp} {σ : St} {ρ : List Sl} {i : Nat} {xs ys : List PD} {a : Addr} {us : List V} (R : Rel K F0 H0 F H σ ρ) (e : ρ[i]? = some (.o (.lst xs))) (ea : σ[i]? = some (some (.ref a))) (d : DaAll K F us ys) :
    Rel K F0 H0 F (upd H a (.lst us)) σ (ρ.set i (.o (.lst ys))) := by
  obtain ⟨v, ft, es, ⟨a', vs, rfl, rfl, h1, h2⟩, ow, k, _⟩ := R.getO e
  rw [es] at ea; cases ea
  refine k _ _ (fun b hb => upd_ne (by simpa using hb)) (fun b hb => ?_) ⟨a, us, rfl, rfl, upd_same, d⟩
  have e : b = a := by simpa using hb
  subst e
  rw [upd_same]
  simp
theorem ds_app (i : Nat) {x : Str} {px pa pc pos : Pos} {e : Expr} {m : M PD} (he : DE X E e m) (hN : X.N[i]? = some x := by rfl) (hv : Vis X.env.scope x := by first | exact Or.inl rfl | exact Or.inr (Or.inl rfl) | exact Or.inr (Or.inr rfl)) (hd : (x == ("__debug__" : Str)) = false := by decide)
    (hcd : (x == ("__classdict__" : Str)) = false := by decide)
    (hst : starEach [e] X.env = (false, eval e X.env) :: starEach [] X.env := by rfl)
    (hbase : attributeBase (.Name x px) "append" X.env (eval (.Name x px) X.env) = eval (.Name x px) X.env := by rfl)
    (hfew : ((backTo pc (starEach [e] X.env)).all (fun x => !x.1) && (backToKw pc (keywordEach [] X.env)).all (fun x => x.1.isSome)
      && decide ([e].length + ([] : List Keyword).length + (if ([] : List Keyword).isEmpty then 0 else 1) < 30)) = true := by rfl)
    (hline : (pa.endLine == pc.line) = true := by rfl) (hplain : (backTo pc (starEach ([] : List Expr) X.env)).any (·.1) = false := by rfl)
    (hs : swapsWith (.Call (.Attribute (.Name x px) "append" pa) [e] [] pc) none pos.line X.env = pure false := by rfl) :
    DS X E (.Expr (.Call (.Attribute (.Name x px) "append" pa) [e] [] pc) pos) (sApp i m) := by
  obtain ⟨t, h1, h2⟩ := he
  refine ⟨_, ps_expr (pe_bm PySem.F.plainAttrs_list PySem.F.slot_list_append PySem.F.type_list_append mt_append (pv i hN hv hd hcd) (pa_cons h1 pa_nil hst) hbase hfew hline hst hplain) hs, fun F0 H0 F H σ ρ r D R h p => ?_⟩
  unfold sApp at h
  split at h
  · rename_i xs ex
    obtain ⟨v, ft, es, ⟨a, vs, rfl, rfl, q1, q2⟩, ow, _, _⟩ := R.getO ex
    refine ⟨.ref a, es, .inl ⟨rfl, _, SqL.of q1⟩, ?_⟩
    split at h
    · rename_i y ey
      split at h
      · rename_i hz
        cases h
        refine h2 F0 H0 F H σ ρ _ _ R ey fun w F' H' g d => ?_
        refine ⟨a, vs, w, rfl, rfl, g.h _ _ q1, lt_line (by rw [q2.len]; exact hz), ?_⟩
        exact p σ F' _ ((R.grow g).putL ex es ((q2.mono g.f).append (.cons d .nil))) g.f
      · cases h
    · rename_i c ec
      cases h
      exact h2 F0 H0 F H σ ρ _ _ R ec fun F' H' g => p F' H' (R.g.trans g)
    · cases h
  · cases h

/-! ### calls of the text's own defs -/
/-- what a def with the text's function g promises -/
def spD (K : PySem.W.Frag) (g : List PD → Option (Ro Rs)) : Sp := fun vs H Q E => ∃ F ds r, (Same F H ∧ TupIn F H) ∧ DaAll K F vs ds ∧ g ds = some r ∧ PoR K F H Q E r
/-- the def x of the module does what g tells, at level k -/
def DefOk (P : Program) (w : World) (K : PySem.W.Frag) (mg : Str → Option Value) (base : Heap) (x : Str) (k : Nat) (g : List PD → Option (Ro Rs)) : Prop :=
  ∃ f fd ps, FnOk P w K mg base (L2.CX P w) k f fd ps (spD K g) ∧ mg x = some (.ref f) ∧ PySem.W.keepIn K (.ref f) = true ∧ Binds K fd ps []
theorem DefOk.imp {P : Program} {w : World} {K : PySem.W.Frag} {mg : Str → Option Value} {base : Heap} {x : Str} {j k : Nat} {g g' : List PD → Option (Ro Rs)} (h : DefOk P w K mg base x j g) (hk : j ≤ k) (e : ∀ ds r, g' ds = some r → g ds = some r) : DefOk P w K mg base x k g' := by
  obtain ⟨f, fd, ps, h1, h2, h3, h4⟩ := h
  exact ⟨f, fd, ps, (h1.mono hk).imp fun vs H Q E ⟨F, ds, r, q1, q2, q3, q4⟩ => ⟨F, ds, r, q1, q2, e ds r q3, q4⟩, h2, h3, h4⟩
def mCall (g : List PD → Option (Ro Rs)) (a : M (List PD)) : M Rs := mb a fun xs _ => g xs
theorem dr_call {x : Str} {p pos : Pos} {e : Expr} {es : List Expr} {j : Nat} {g : List PD → Option (Ro Rs)} {m : M (List PD)} (c : Cok X E k) (F : DefOk X.prog X.w X.K X.mg X.base x j g) (hj : j ≤ k) (ha : DA X E (e :: es) m)
    (hg : Gl X x := by rfl) (hdb : (x == ("__debug__" : Str)) = false := by decide) (he : starEach (e :: es) X.env = (false, eval e X.env) :: starEach es X.env := by rfl) (hpl : (backTo pos (starEach es X.env)).any (·.1) = false := by rfl) :
    DR X E (.Call (.Name x p) (e :: es) [] pos) (mCall g m) := by
  obtain ⟨t, h1, h2⟩ := ha
  obtain ⟨f, fd, ps, F, hm, hk, hb⟩ := F
  refine ⟨_, pe_call F (c.hr.mono hj) hg hm hk hb .nil (passes_call c.tk fun _ _ _ _ h => h) h1 hdb he hpl, fun F0 H0 F H σ ρ r Q R h p => ?_⟩
  rcases mb_ok h with ⟨xs, e1, e2⟩ | ⟨c, e1, e2⟩
  · refine h2 F0 H0 F H σ ρ _ _ R e1 fun vs F' H' g d => ?_
    show spD X.K _ (vs ++ []) H' Q E
    rw [List.append_nil]
    exact ⟨F', xs, r, ⟨g.fh, (R.grow g).ti⟩, d, e2, p.grow g⟩
  · cases e2
    exact h2 F0 H0 F H σ ρ _ _ R e1 fun F' H' g => p F' H' g

/-! ### a def of the text -/
def finD : Option Out → Option (Ro Rs)
  | some (.nx _) => some (.ok (.d .none))
  | some (.rt r) => some (.ok r)
  | some (.ex c) => some (.ex c)
  | _ => none
/-- the def's function: n parameters, l names in all, m its body -/
def defD (n l : Nat) (m : MS) (ds : List PD) : Option (Ro Rs) := if ds.length = n then finD (m (ds.map .d ++ List.replicate (l - n) .no)) else none
theorem Rel.begins {K : PySem.W.Frag} {F H : Hp} {vs : List V} {ds : List PD} {N : List Str} (e : Same F H ∧ TupIn F H) (d : DaAll K F vs ds) : Rel K F H F H (start N vs) (ds.map .d ++ List.replicate (N.length - ds.length) .no) := by
  have hl := d.len
  refine ⟨.refl e.1, by simp [L2.start, hl], e.2, fun _ => [], fun i s o e1 e2 => ?_, fun i a ha => by simp at ha, fun i j _ a ha => by simp at ha⟩
  unfold L2.start at e2
  by_cases hi : i < ds.length
  · rw [List.getElem?_append_left (by simpa using hi)] at e1
    rw [List.getElem?_append_left (by simpa [hl] using hi)] at e2
    rw [List.getElem?_map] at e1 e2
    obtain ⟨y, ey, rfl⟩ := Option.map_eq_some_iff.mp e1
    obtain ⟨v, ev, rfl⟩ := Option.map_eq_some_iff.mp e2
    obtain ⟨y', ey', dy⟩ := d.get ev
    rw [ey] at ey'; cases ey'
    exact ⟨rfl, v, rfl, dy⟩
  · rw [List.getElem?_append_right (by simpa using hi), List.getElem?_replicate] at e1
    split at e1
    · cases e1; exact rfl
    · cases e1
theorem def_fn {P : Program} {w : World} {K : PySem.W.Frag} {mg : Str → Option Value} {base : Heap} {x qual : Str} {st : Stmt} {f : Addr} {fd : FuncData} {N ps : List Str} {k n l : Nat} {m : MS} (F : Fun K x qual st f fd) (S : FnScope N ps (defScope st)) (hn : ps.length = n) (hl : N.length = l)
    (hbody : ∀ (cdv : Value) (A : Around) (outer : List Env) (s : Shared) (H : Hp) (E : XK), Cok (cxOf (L2.CX P w) P w K mg base N qual (defScope st) f cdv A outer s H E) E k →
      PassesOwn (model P w) (cxOf (L2.CX P w) P w K mg base N qual (defScope st) f cdv A outer s H E).A (cxOf (L2.CX P w) P w K mg base N qual (defScope st) f cdv A outer s H E).env (cxOf (L2.CX P w) P w K mg base N qual (defScope st) f cdv A outer s H E).xe →
      DSs (cxOf (L2.CX P w) P w K mg base N qual (defScope st) f cdv A outer s H E) E (defBody st) m) :
    FnOk P w K mg base (L2.CX P w) (k + 1) f fd ps (spD K (defD n l m)) := by
  refine F.okX S (fun vs H Q E h => ?_) (fun cdv A outer s H vs Q E hr h => ?_)
  · obtain ⟨F, ds, r, q1, q2, q3, _⟩ := h
    unfold defD at q3
    split at q3
    · rename_i e; rw [q2.len, e, hn]
    · cases q3
  · obtain ⟨F1, ds, r, q1, q2, q3, q4⟩ := h
    obtain ⟨t, h1, h2⟩ := hbody cdv A outer s H E ⟨rfl, S.nd, takes_of rfl rfl rfl rfl, hr⟩ (passes_of rfl)
    refine ⟨t, h1, ?_⟩
    unfold defD at q3
    split at q3
    · rename_i e
      have R := Rel.begins (N := N) q1 q2
      rw [e, hl] at R
      unfold finD at q3
      split at q3
      · rename_i ρ' eo
        cases q3
        exact h2 F1 H F1 H _ _ _ _ R eo fun σ' F' H' R' _ => q4 _ F' H' R'.g .non
      · rename_i ρ' eo
        cases q3
        exact h2 F1 H F1 H _ _ _ _ R eo fun v F' H' g d => q4 v F' H' g d
      · rename_i ρ' eo
        cases q3
        exact h2 F1 H F1 H _ _ _ _ R eo fun F' H' g => q4 F' H' g
      · cases q3
    · cases q3
theorem DefOk.of {P : Program} {w : World} {K : PySem.W.Frag} {mg : Str → Option Value} {base : Heap} {x qual : Str} {st : Stmt} {f : Addr} {fd : FuncData} {ps : List Str} {k : Nat} {g : List PD → Option (Ro Rs)} (F : Fun K x qual st f fd) (h : FnOk P w K mg base (L2.CX P w) k f fd ps (spD K g))
    (hr : mg x = some (.ref f)) (hb : Binds K fd ps []) : DefOk P w K mg base x k g := ⟨f, fd, ps, h, hr, F.kp, hb⟩

/-! ### list comprehensions: one for over one name, one if or none -/
def lcL (i : Nat) (mt : M Bool) (me : M PD) (ρ : List Sl) : List PD → List PD → Option (List PD)
  | [], acc => some acc
  | x :: xs, acc => match mt (ρ.set i (.d x)) with
    | some (.ok b) => if b = true then (match me (ρ.set i (.d x)) with
      | some (.ok y) => if acc.length < big then lcL i mt me ρ xs (acc ++ [y]) else none
      | _ => none) else lcL i mt me ρ xs acc
    | _ => none
def mLc (i : Nat) (mi : M (List PD)) (mt : M Bool) (me : M PD) : M Rs := fun ρ => match mi ρ with
  | some (.ok xs) => (lcL i mt me ρ xs []).map fun ys => .ok (.o (.lst ys))
  | some (.ex c) => some (.ex c)
  | none => none
/-- the ifs of a comprehension: none, or one -/
structure DTs (X : Cx) (E : XK) (es : List Expr) (m : M Bool) : Prop where
  ex : ∃ t, PTs X es t ∧ ∀ F0 H0 F H σ ρ r Q, Rel X.K F0 H0 F H σ ρ → m ρ = some r → PoT F H Q E r → t σ H Q
theorem dts_nil : DTs X E [] (mr true) := ⟨_, pts_nil, fun F0 H0 F H σ ρ r Q R h p => by cases h; exact p F H (.refl R.fh)⟩
theorem dts_one {e : Expr} {m : M Bool} (h : DT X E e m) : DTs X E [e] m := by
  obtain ⟨t, h1, h2⟩ := h
  exact ⟨_, pts_one h1, h2⟩
abbrev NoE : XK := fun _ _ _ => False
theorem Cok.blk {s : Shared} {H : Hp} {scope : Scope} {cenv : Env} {fp : List Addr} (c : Cok X E k) : Cok (X.blk s H scope cenv fp) NoE k := ⟨c.calm, c.nd, takes0, c.hr⟩
theorem lc_sound {K : PySem.W.Frag} {i : Nat} {tt : TT} {te : TE} {mt : M Bool} {me : M PD} {F0 H0 F H F1 H1 : Hp} {σ : St} {ρ : List Sl} {J : It} {vs : List V} {xs ys : List PD} {Q : VK}
    (ht : ∀ F0 H0 F H σ ρ r Q, Rel K F0 H0 F H σ ρ → mt ρ = some r → PoT F H Q NoE r → tt σ H Q) (he : ∀ F0 H0 F H σ ρ r Q, Rel K F0 H0 F H σ ρ → me ρ = some r → PoE K F H Q NoE r → te σ H Q)
    (R : Rel K F0 H0 F H σ ρ) (g : Grow F H F1 H1) (d : DaAll K F1 vs xs) (W : Walk J vs.length (fun H'' => Same F1 H'') (YAt vs)) (h : lcL i mt me ρ xs [] = some ys)
    (p : ∀ v F' H', Grow F H F' H' → ResAt K H F' H' v (.o (.lst ys)) → Q v H') (D : Addr) (nD : H1 D = none) :
    ∃ W : Nat → Nat → Hp → Prop, (∃ m, W 0 m (upd H1 D (.lst []))) ∧ ∀ n m H, W n m H →
      (J.stop n H ∧ Q (.ref D) H) ∨ (J.go n H ∧ ∃ Nx : Hp → Prop, (∀ H', Nx H' → ∃ m', m' < m ∧ W (n + 1) m' H') ∧ ∀ x H', J.yld n H x H' → gName i x (wipe σ [i]) H' fun σ2 H2 => wipe σ2 [i] = wipe σ [i] ∧ tt σ2 H2 fun b H3 =>
        if b = true then te σ2 H3 fun y H4 => ∃ acc, H4 D = some (.lst acc) ∧ acc.length < sizeLine ∧ Nx (upd H4 D (.lst (acc ++ [y]))) else Nx H3) := by
  refine lc_it (Qd := fun H' => Q (.ref D) H') W (fun n H' => ∃ F' us acc, Grow F1 H1 F' H' ∧ F' D = none ∧ H' D = some (.lst us) ∧ DaAll K F' us acc ∧ lcL i mt me ρ (xs.drop n) acc = some ys) ?_ (fun n H' _ ⟨F', us, acc, q, _⟩ => q.f.trans q.fh) ?_ ?_
  · exact ⟨F1, [], [], .newO g.fh nD, g.fh.free nD, upd_same, .nil, h⟩
  · rintro n v H' H'' hn ⟨F', us, acc, q, nF, hD, da, hr⟩ ⟨rfl, ev⟩
    obtain ⟨y, ey, dy⟩ := d.get ev
    rw [drop_get ey] at hr
    have R1 : Rel K F0 H0 F' H'' ((wipe σ [i]).set i (some v)) (ρ.set i (.d y)) := by
      have z := ((R.grow (g.trans q)).setN (i := i) (o := none)).setD (i := i) (dy.mono q.f)
      have e1 : (ρ.set i Sl.no).set i (Sl.d y) = ρ.set i (Sl.d y) := List.set_set ..
      rw [e1] at z
      exact z
    show wipe ((wipe σ [i]).set i (some v)) [i] = wipe σ [i] ∧ _
    refine ⟨by show (((σ.set i none).set i (some v)).set i none) = σ.set i none; rw [List.set_set, List.set_set], ?_⟩
    unfold lcL at hr
    split at hr
    · rename_i b eb
      refine ht F0 H0 F' H'' _ _ _ _ R1 eb fun F2 H2 g2 => ?_
      have nF2 : F2 D = none := (g2.n D (by rw [hD]; simp)).trans nF
      cases b with
      | true =>
        rw [if_pos rfl] at hr ⊢
        split at hr
        · rename_i z ez
          split at hr
          · rename_i hz
            refine he F0 H0 F2 H2 _ _ _ _ (R1.grow g2) ez fun w F3 H3 g3 dw => ?_
            have g23 := g2.trans g3
            have nF3 : F3 D = none := (g23.n D (by rw [hD]; simp)).trans nF
            refine ⟨us, g23.h _ _ hD, lt_line (by rw [da.len]; exact hz), F3, us ++ [w], acc ++ [z], ?_, nF3, upd_same, (da.mono g23.f).append (.cons dw .nil), hr⟩
            have q3 := q.trans g23
            refine ⟨q3.f, fun b o e => ?_, fun b o e => ?_, q3.n, fun z b ys e y => ?_⟩
            · rw [upd_ne (ne_of_none e nD)]; exact q3.h b o e
            · rw [upd_ne (ne_of_none e nF3)]; exact q3.fh b o e
            · by_cases hb : b = D
              · subst hb; rw [upd_same] at e; cases e
              · rw [upd_ne hb] at e; exact q3.t z b ys e y
          · cases hr
        · cases hr
      | false =>
        rw [if_neg (by decide)] at hr ⊢
        exact ⟨F2, us, acc, q.trans g2, nF2, g2.h _ _ hD, da.mono g2.f, hr⟩
    · cases hr
  · rintro H' ⟨F', us, acc, q, nF, hD, da, hr⟩
    rw [List.drop_eq_nil_of_le (by rw [d.len]; exact Nat.le_refl _)] at hr
    cases hr
    refine p _ F' H' (g.trans q) ⟨[D], ⟨D, us, rfl, rfl, hD, da⟩, fun a ha => ?_⟩
    have e : a = D := by simpa using ha
    subst e
    exact ⟨g.h.free nD, nF, by rw [hD]; simp⟩
theorem dr_lc {i : Nat} {x : Str} {elt iter : Expr} {ifs : List Expr} {scope : Scope} {pos pos' : Pos} {mi : M (List PD)} {mt : M Bool} {me : M PD} (c : Cok X E k) (hi : DI X E (.Name x pos') iter mi)
    (hg : ∀ (s : Shared) (H : Hp) (C : Addr) (cl : List (Str × Addr)) (fp : List Addr), PG (X.blk s H scope (compEnvC scope cl C X.env) fp) (.Name x pos') (gName i))
    (ht : ∀ (s : Shared) (H : Hp) (C : Addr) (cl : List (Str × Addr)) (fp : List Addr), Cok (X.blk s H scope (compEnvC scope cl C X.env) fp) NoE k → DTs (X.blk s H scope (compEnvC scope cl C X.env) fp) NoE ifs mt)
    (he : ∀ (s : Shared) (H : Hp) (C : Addr) (cl : List (Str × Addr)) (fp : List Addr), Cok (X.blk s H scope (compEnvC scope cl C X.env) fp) NoE k → DE (X.blk s H scope (compEnvC scope cl C X.env) fp) NoE elt me)
    (N : List Str) (sc : Scope) (eN : X.N = N := by rfl) (es : X.env.scope = sc := by rfl) (ok : blkC N sc scope [(x, i)] = true := by decide +kernel) (hs : ∀ x, foldedSetIterable iter X.env x = pure x := by intro _; rfl) :
    DR X E (.ListComp elt [⟨.Name x pos', iter, ifs, 0⟩] scope pos) (mLc i mi mt me) := by
  obtain ⟨ti, h1, h2⟩ := hi
  have ht' : ∃ tt, (∀ (s : Shared) (H : Hp) (C : Addr) (cl : List (Str × Addr)) (fp : List Addr), PTs (X.blk s H scope (compEnvC scope cl C X.env) fp) ifs tt) ∧ ∀ F0 H0 F H σ ρ r Q, Rel X.K F0 H0 F H σ ρ → mt ρ = some r → PoT F H Q NoE r → tt σ H Q := by
    refine ⟨fun σ H Q => ∃ F0 H0 F ρ r, Rel X.K F0 H0 F H σ ρ ∧ mt ρ = some r ∧ PoT F H Q NoE r, fun s H C cl fp => ?_, fun F0 H0 F H σ ρ r Q R h p => ⟨F0, H0, F, ρ, r, R, h, p⟩⟩
    obtain ⟨t, q1, q2⟩ := ht s H C cl fp c.blk
    exact ⟨fun pins s σ H Q I ⟨F0, H0, F, ρ, r, R, h, p⟩ => q1.run pins s σ H Q I (q2 F0 H0 F H σ ρ r Q R h p)⟩
  have he' : ∃ te, (∀ (s : Shared) (H : Hp) (C : Addr) (cl : List (Str × Addr)) (fp : List Addr), PE (X.blk s H scope (compEnvC scope cl C X.env) fp) elt te) ∧ ∀ F0 H0 F H σ ρ r Q, Rel X.K F0 H0 F H σ ρ → me ρ = some r → PoE X.K F H Q NoE r → te σ H Q := by
    refine ⟨fun σ H Q => ∃ F0 H0 F ρ r, Rel X.K F0 H0 F H σ ρ ∧ me ρ = some r ∧ PoE X.K F H Q NoE r, fun s H C cl fp => ?_, fun F0 H0 F H σ ρ r Q R h p => ⟨F0, H0, F, ρ, r, R, h, p⟩⟩
    obtain ⟨t, q1, q2⟩ := he s H C cl fp c.blk
    exact ⟨fun pins s σ H Q I ⟨F0, H0, F, ρ, r, R, h, p⟩ => q1.run pins s σ H Q I (q2 F0 H0 F H σ ρ r Q R h p)⟩
  obtain ⟨tt, ht1, ht2⟩ := ht'
  obtain ⟨te, he1, he2⟩ := he'
  refine ⟨_, pe_lc (own := [(x, i)]) c.calm c.nd h1 (blkOk_by (by rw [eN, es]; exact ok)) hg ht1 he1 hs, fun F0 H0 F H σ ρ r Q R h p => ?_⟩
  unfold mLc at h
  split at h
  · rename_i xs e
    obtain ⟨ys, ey, rfl⟩ := Option.map_eq_some_iff.mp h
    exact h2 F0 H0 F H σ ρ _ _ R e fun J vs F1 H1 g d W D nD => lc_sound ht2 he2 R g d W ey p D nD
  · rename_i c e
    cases h
    exact h2 F0 H0 F H σ ρ _ _ R e fun F' H' g => p F' H' g
  · cases h
/-- y = [..] on one line -/
theorem ds_setLc {j i : Nat} {y x : Str} {elt iter : Expr} {ifs : List Expr} {scope : Scope} {pos pos' py spos : Pos} {mi : M (List PD)} {mt : M Bool} {me : M PD} (c : Cok X E k) (hi : DI X E (.Name x pos') iter mi)
    (hg : ∀ (s : Shared) (H : Hp) (C : Addr) (cl : List (Str × Addr)) (fp : List Addr), PG (X.blk s H scope (compEnvC scope cl C X.env) fp) (.Name x pos') (gName i))
    (ht : ∀ (s : Shared) (H : Hp) (C : Addr) (cl : List (Str × Addr)) (fp : List Addr), Cok (X.blk s H scope (compEnvC scope cl C X.env) fp) NoE k → DTs (X.blk s H scope (compEnvC scope cl C X.env) fp) NoE ifs mt)
    (he : ∀ (s : Shared) (H : Hp) (C : Addr) (cl : List (Str × Addr)) (fp : List Addr), Cok (X.blk s H scope (compEnvC scope cl C X.env) fp) NoE k → DE (X.blk s H scope (compEnvC scope cl C X.env) fp) NoE elt me)
    (hsw : swapsWith (.ListComp elt [⟨.Name x pos', iter, ifs, 0⟩] scope pos) (some (.Name y py)) spos.line X.env = pure true)
    (hy : X.N[j]? = some y := by rfl) (hyl : X.env.scope.names.lookup y = some .local := by rfl)
    (N : List Str) (sc : Scope) (eN : X.N = N := by rfl) (es : X.env.scope = sc := by rfl) (ok : blkC N sc scope [(x, i)] = true := by decide +kernel) (hs : ∀ x, foldedSetIterable iter X.env x = pure x := by intro _; rfl) :
    DS X E (.Assign [.Name y py] (.ListComp elt [⟨.Name x pos', iter, ifs, 0⟩] scope pos) spos) (sSet j (mLc i mi mt me)) := by
  obtain ⟨ti, h1, h2⟩ := hi
  have ht' : ∃ tt, (∀ (s : Shared) (H : Hp) (C : Addr) (cl : List (Str × Addr)) (fp : List Addr), PTs (X.blk s H scope (compEnvC scope cl C X.env) fp) ifs tt) ∧ ∀ F0 H0 F H σ ρ r Q, Rel X.K F0 H0 F H σ ρ → mt ρ = some r → PoT F H Q NoE r → tt σ H Q := by
    refine ⟨fun σ H Q => ∃ F0 H0 F ρ r, Rel X.K F0 H0 F H σ ρ ∧ mt ρ = some r ∧ PoT F H Q NoE r, fun s H C cl fp => ?_, fun F0 H0 F H σ ρ r Q R h p => ⟨F0, H0, F, ρ, r, R, h, p⟩⟩
    obtain ⟨t, q1, q2⟩ := ht s H C cl fp c.blk
    exact ⟨fun pins s σ H Q I ⟨F0, H0, F, ρ, r, R, h, p⟩ => q1.run pins s σ H Q I (q2 F0 H0 F H σ ρ r Q R h p)⟩
  have he' : ∃ te, (∀ (s : Shared) (H : Hp) (C : Addr) (cl : List (Str × Addr)) (fp : List Addr), PE (X.blk s H scope (compEnvC scope cl C X.env) fp) elt te) ∧ ∀ F0 H0 F H σ ρ r Q, Rel X.K F0 H0 F H σ ρ → me ρ = some r → PoE X.K F H Q NoE r → te σ H Q := by
    refine ⟨fun σ H Q => ∃ F0 H0 F ρ r, Rel X.K F0 H0 F H σ ρ ∧ me ρ = some r ∧ PoE X.K F H Q NoE r, fun s H C cl fp => ?_, fun F0 H0 F H σ ρ r Q R h p => ⟨F0, H0, F, ρ, r, R, h, p⟩⟩
    obtain ⟨t, q1, q2⟩ := he s H C cl fp c.blk
    exact ⟨fun pins s σ H Q I ⟨F0, H0, F, ρ, r, R, h, p⟩ => q1.run pins s σ H Q I (q2 F0 H0 F H σ ρ r Q R h p)⟩
  obtain ⟨tt, ht1, ht2⟩ := ht'
  obtain ⟨te, he1, he2⟩ := he'
  refine ⟨_, ps_setLc (own := [(x, i)]) c.calm c.nd hy hyl hsw h1 (blkOk_by (by rw [eN, es]; exact ok)) hg ht1 he1 hs, fun F0 H0 F H σ ρ r D R h p => ?_⟩
  unfold sSet mLc at h
  split at h
  · rename_i r' e'
    split at e'
    · rename_i xs e
      obtain ⟨ys, ey, eq⟩ := Option.map_eq_some_iff.mp e'
      cases eq
      cases h
      refine h2 F0 H0 F H σ ρ _ _ R e fun J vs F1 H1 g d W D' nD => lc_sound ht2 he2 R g d W ey (Q := fun v H' => gName j v σ H' D.nx) ?_ D' nD
      intro v F' H' g' d'
      obtain ⟨ft, d1, d2⟩ := d'
      exact p _ F' H' (R.setO g' d1 d2) g'.f
    · cases e'
    · cases e'
  · rename_i c' e'
    split at e'
    · rename_i xs e
      obtain ⟨ys, ey, eq⟩ := Option.map_eq_some_iff.mp e'
      cases eq
    · rename_i c e
      cases e'
      cases h
      exact h2 F0 H0 F H σ ρ _ _ R e fun F' H' g => p F' H' (R.g.trans g)
    · cases e'
  · cases h
end
end DL

namespace DL
open PySem L2

section
variable {X : Cx} {E : XK} {k : Nat}
/-! ### list + list, list * int, where the list may be known elsewhere -/
def orF (f f' : PD → PD → Option PD) : PD → PD → Option PD := fun x y => match f x y with
  | some z => some z
  | none => f' x y
theorem Snd2.or {K : PySem.W.Frag} {r r' : R2} {f f' : PD → PD → Option PD} (h : Snd2 K r f) (h' : Snd2 K r' f') : Snd2 K (fun x y H Q => r x y H Q ∨ r' x y H Q) (orF f f') := by
  intro F H v w x y z Q e d1 d2 hf p
  unfold orF at hf
  split at hf
  · rename_i z' ez
    cases hf
    exact .inl (h F H v w x y z Q e d1 d2 ez p)
  · exact .inr (h' F H v w x y z Q e d1 d2 hf p)

/-! ### numbers -/
def fI (g : Int → Int → Int) : PD → PD → Option PD
  | .int i, .int j => some (.int (g i j))
  | _, _ => none
theorem snd_I {K : PySem.W.Frag} {g : Int → Int → Int} : Snd2 K (rI0 fun i j => .int (g i j)) (fI g) := by
  intro F H v w x y z Q e d1 d2 hf p
  unfold fI at hf
  split at hf
  · cases hf; cases d1; cases d2
    exact ⟨_, _, rfl, rfl, p _ F H (.refl e) (.int _)⟩
  · cases hf
def fIc (c : Int → Int → Bool) (g : Int → Int → Int) : PD → PD → Option PD
  | .int i, .int j => if c i j = true then some (.int (g i j)) else none
  | _, _ => none
theorem snd_Ic {K : PySem.W.Frag} {C : Int → Int → Prop} {c : Int → Int → Bool} {g : Int → Int → Int} (hc : ∀ i j, c i j = true → C i j) : Snd2 K (rI C fun i j => .int (g i j)) (fIc c g) := by
  intro F H v w x y z Q e d1 d2 hf p
  unfold fIc at hf
  split at hf
  · split at hf
    · rename_i h
      cases hf; cases d1; cases d2
      exact ⟨_, _, rfl, rfl, hc _ _ h, p _ F H (.refl e) (.int _)⟩
    · cases hf
  · cases hf
def fB (g : Int → Int → Bool) : PD → PD → Option PD
  | .int i, .int j => some (.bool (g i j))
  | _, _ => none
theorem snd_B {K : PySem.W.Frag} {g : Int → Int → Bool} : Snd2 K (rI0 fun i j => .bl (g i j)) (fB g) := by
  intro F H v w x y z Q e d1 d2 hf p
  unfold fB at hf
  split at hf
  · cases hf; cases d1; cases d2
    exact ⟨_, _, rfl, rfl, p _ F H (.refl e) (.bl _)⟩
  · cases hf
def fStrAdd : PD → PD → Option PD
  | .str i, .str j => if i.length + j.length ≤ big then some (.str (i ++ j)) else none
  | _, _ => none
theorem snd_strAdd {K : PySem.W.Frag} : Snd2 K (fun x y H Q => ∃ i j, x = .str i ∧ y = .str j ∧ i.length + j.length ≤ sizeLine ∧ Q (.str (i ++ j)) H) fStrAdd := by
  intro F H v w x y z Q e d1 d2 hf p
  unfold fStrAdd at hf
  split at hf
  · split at hf
    · rename_i h
      cases hf; cases d1; cases d2
      exact ⟨_, _, rfl, rfl, le_line h, p _ F H (.refl e) (.str _)⟩
    · cases hf
  · cases hf
def fLstAdd : PD → PD → Option PD
  | .list xs, .list ys => if xs.length + ys.length ≤ big then some (.list (xs ++ ys)) else none
  | _, _ => none
theorem snd_lstAdd {K : PySem.W.Frag} : Snd2 K rCat fLstAdd := by
  intro F H v w x y z Q e d1 d2 hf p
  unfold fLstAdd at hf
  split at hf
  · split at hf
    · rename_i h
      cases hf
      cases d1 with
      | lst h1 h2 =>
        cases d2 with
        | lst h3 h4 =>
          refine ⟨_, _, _, _, rfl, rfl, e _ _ h1, e _ _ h3, le_line (by rw [h2.len, h4.len]; exact h), fun a na => ?_⟩
          exact p _ _ _ (.new e na) (.lst upd_same ((h2.append h4).mono (Same.upd_new (e.free na))))
    · cases hf
  · cases hf
/-- a + b: whole numbers, texts, lists -/
def fAdd : PD → PD → Option PD := orF (fI (· + ·)) (orF fStrAdd fLstAdd)
def fSub : PD → PD → Option PD := fI (· - ·)
theorem de_add {a b : Expr} {ma mb' : M PD} {pos : Pos} (ha : DE X E a ma) (hb : DE X E b mb') : DE X E (.BinOp a .Add b pos) (m2 fAdd ma mb') :=
  de_op (op_add.or (op_add_str.or op_cat)) (snd_I.or (snd_strAdd.or snd_lstAdd)) ha hb
theorem de_sub {a b : Expr} {ma mb' : M PD} {pos : Pos} (ha : DE X E a ma) (hb : DE X E b mb') : DE X E (.BinOp a .Sub b pos) (m2 fSub ma mb') := de_op op_sub snd_I ha hb
def fLstMul : PD → PD → Option PD
  | .list xs, .int n => if xs.length * n.toNat ≤ big ∧ -1000 ≤ n ∧ n ≤ 1000 then some (.list (List.replicate n.toNat xs).flatten) else none
  | _, _ => none
theorem DaAll.rep {K : PySem.W.Frag} {F : Hp} {vs : List V} {ds : List PD} (h : DaAll K F vs ds) : ∀ n : Nat, DaAll K F (List.replicate n vs).flatten (List.replicate n ds).flatten
  | 0 => .nil
  | n + 1 => by
    rw [List.replicate_succ, List.flatten_cons, List.replicate_succ, List.flatten_cons]
    exact h.append (DaAll.rep h n)
theorem snd_lstMul {K : PySem.W.Frag} : Snd2 K rRep fLstMul := by
  intro F H v w x y z Q e d1 d2 hf p
  unfold fLstMul at hf
  split at hf
  · split at hf
    · rename_i h
      cases hf
      cases d1 with
      | lst h1 h2 =>
        cases d2
        obtain ⟨q1, q2, q3⟩ := h
        refine ⟨_, _, _, rfl, rfl, e _ _ h1, by omega, by omega, le_line (by rw [h2.len]; exact q1), fun a na => ?_⟩
        exact p _ _ _ (.new e na) (.lst upd_same ((h2.rep _).mono (Same.upd_new (e.free na))))
    · cases hf
  · cases hf
def mulOk (i j : Int) : Bool := decide (i.natAbs < 1000000000) || decide (j.natAbs < 1000000000)
def fMul : PD → PD → Option PD := orF (fIc mulOk (· * ·)) fLstMul
theorem de_mul {a b : Expr} {ma mb' : M PD} {pos : Pos} (ha : DE X E a ma) (hb : DE X E b mb') : DE X E (.BinOp a .Mult b pos) (m2 fMul ma mb') :=
  de_op (op_mul.or op_rep) (Snd2.or (snd_Ic fun i j h => by
    unfold mulOk at h
    simp only [Bool.or_eq_true, decide_eq_true_eq] at h
    rcases h with h | h
    · exact .inl (by omega)
    · exact .inr (by omega)) snd_lstMul) ha hb
def divOk (_ j : Int) : Bool := decide (j ≠ 0) && decide (j.natAbs < 1073741824)
def fDiv : PD → PD → Option PD := fIc divOk Int.fdiv
theorem de_fdiv {a b : Expr} {ma mb' : M PD} {pos : Pos} (ha : DE X E a ma) (hb : DE X E b mb') : DE X E (.BinOp a .FloorDiv b pos) (m2 fDiv ma mb') :=
  de_op op_fdivN (snd_Ic fun i j h => by
    unfold divOk at h
    simp only [Bool.and_eq_true, decide_eq_true_eq] at h
    exact h) ha hb
def modOk (_ j : Int) : Bool := decide (j ≠ 0)
def fMod : PD → PD → Option PD := fIc modOk Int.fmod
theorem de_mod {a b : Expr} {ma mb' : M PD} {pos : Pos} (ha : DE X E a ma) (hb : DE X E b mb') : DE X E (.BinOp a .Mod b pos) (m2 fMod ma mb') :=
  de_op op_modN (snd_Ic fun i j h => by
    unfold modOk at h
    simpa using h) ha hb
def powOk (i j : Int) : Bool := decide (0 ≤ j) && (decide (j ≤ 1000) && decide (i.natAbs < 1000))
def fPow : PD → PD → Option PD := fIc powOk fun i j => i ^ j.toNat
theorem de_pow {a b : Expr} {ma mb' : M PD} {pos : Pos} (ha : DE X E a ma) (hb : DE X E b mb') : DE X E (.BinOp a .Pow b pos) (m2 fPow ma mb') :=
  de_op op_pow (snd_Ic fun i j h => by
    unfold powOk at h
    simp only [Bool.and_eq_true, decide_eq_true_eq] at h
    obtain ⟨h1, h2, h3⟩ := h
    exact ⟨h1, by omega, by omega⟩) ha hb
def fNeg : PD → Option PD
  | .int i => some (.int (-i))
  | _ => none
theorem de_neg {a : Expr} {ma : M PD} {pos : Pos} (ha : DE X E a ma) : DE X E (.UnaryOp .USub a pos) (m1 fNeg ma) :=
  de_un (f := fNeg) un_neg (fun F H v x z Q e d hf p => by
    unfold fNeg at hf
    split at hf
    · cases hf; cases d
      exact ⟨_, rfl, p _ F H (.refl e) (.int _)⟩
    · cases hf) ha

/-! ### comparisons -/
def fLt : PD → PD → Option PD := fB fun i j => decide (i < j)
def fLe : PD → PD → Option PD := fB fun i j => decide (i ≤ j)
def fGt : PD → PD → Option PD := fB fun i j => decide (j < i)
def fGe : PD → PD → Option PD := fB fun i j => decide (j ≤ i)
section
variable {a b : Expr} {ma mb' : M PD} {pos : Pos}
theorem de_lt (ha : DE X E a ma) (hb : DE X E b mb') : DE X E (.Compare a [.Lt] [b] pos) (m2 fLt ma mb') := de_cmp op_lt snd_B ha hb
theorem de_le (ha : DE X E a ma) (hb : DE X E b mb') : DE X E (.Compare a [.LtE] [b] pos) (m2 fLe ma mb') := de_cmp op_le snd_B ha hb
theorem de_gt (ha : DE X E a ma) (hb : DE X E b mb') : DE X E (.Compare a [.Gt] [b] pos) (m2 fGt ma mb') := de_cmp op_gt snd_B ha hb
theorem de_ge (ha : DE X E a ma) (hb : DE X E b mb') : DE X E (.Compare a [.GtE] [b] pos) (m2 fGe ma mb') := de_cmp op_ge snd_B ha hb
theorem dt_lt (ha : DE X E a ma) (hb : DE X E b mb') : DT X E (.Compare a [.Lt] [b] pos) (mB (m2 fLt ma mb')) := dt_cmp op_lt snd_B ha hb
theorem dt_le (ha : DE X E a ma) (hb : DE X E b mb') : DT X E (.Compare a [.LtE] [b] pos) (mB (m2 fLe ma mb')) := dt_cmp op_le snd_B ha hb
theorem dt_gt (ha : DE X E a ma) (hb : DE X E b mb') : DT X E (.Compare a [.Gt] [b] pos) (mB (m2 fGt ma mb')) := dt_cmp op_gt snd_B ha hb
theorem dt_ge (ha : DE X E a ma) (hb : DE X E b mb') : DT X E (.Compare a [.GtE] [b] pos) (mB (m2 fGe ma mb')) := dt_cmp op_ge snd_B ha hb
/-- == of data of any depth -/
def fEq : PD → PD → Option PD := fun x y => if (SeqAt.shaped x && SeqAt.shaped y) = true then some (.bool (PyData.eqv x y)) else none
def fNe : PD → PD → Option PD := fun x y => if (SeqAt.shaped x && SeqAt.shaped y) = true then some (.bool (!PyData.eqv x y)) else none
theorem lay_of_shaped {x : PD} (h : SeqAt.shaped x = true) : x.canLay0 = true := by
  have h : (x.canLay0 && decide (x.depth ≤ 64)) = true := h
  rw [Bool.and_eq_true] at h
  exact h.1
theorem snd_eq {K : PySem.W.Frag} : Snd2 K (rEqD K) fEq := by
  intro F H v w x y z Q e d1 d2 hf p
  unfold fEq at hf
  split at hf
  · rename_i h
    rw [Bool.and_eq_true] at h
    cases hf
    exact ⟨x, y, Da.dp' e x v (lay_of_shaped h.1) d1, Da.dp' e y w (lay_of_shaped h.2) d2, h.1, h.2, p _ F H (.refl e) (.bl _)⟩
  · cases hf
theorem snd_ne {K : PySem.W.Frag} : Snd2 K (rNeD K) fNe := by
  intro F H v w x y z Q e d1 d2 hf p
  unfold fNe at hf
  split at hf
  · rename_i h
    rw [Bool.and_eq_true] at h
    cases hf
    exact ⟨x, y, Da.dp' e x v (lay_of_shaped h.1) d1, Da.dp' e y w (lay_of_shaped h.2) d2, h.1, h.2, p _ F H (.refl e) (.bl _)⟩
  · cases hf
theorem de_eq (c : Cok X E k) (ha : DE X E a ma) (hb : DE X E b mb') : DE X E (.Compare a [.Eq] [b] pos) (m2 fEq ma mb') := de_cmp (op_eqD c.hr.units) snd_eq ha hb
theorem de_ne (c : Cok X E k) (ha : DE X E a ma) (hb : DE X E b mb') : DE X E (.Compare a [.NotEq] [b] pos) (m2 fNe ma mb') := de_cmp (op_neD c.hr.units) snd_ne ha hb
theorem dt_eq (c : Cok X E k) (ha : DE X E a ma) (hb : DE X E b mb') : DT X E (.Compare a [.Eq] [b] pos) (mB (m2 fEq ma mb')) := dt_cmp (op_eqD c.hr.units) snd_eq ha hb
theorem dt_ne (c : Cok X E k) (ha : DE X E a ma) (hb : DE X E b mb') : DT X E (.Compare a [.NotEq] [b] pos) (mB (m2 fNe ma mb')) := dt_cmp (op_neD c.hr.units) snd_ne ha hb
/-- in: data in a list, one text within another -/
def fInL (neg : Bool) : PD → PD → Option PD
  | x, .list ds => if (SeqAt.shaped x && SeqAt.shaped (.list ds)) = true then some (.bool (if neg then !(ds.any fun z => PyData.eqv z x) else ds.any fun z => PyData.eqv z x)) else none
  | _, _ => none
def fInS (neg : Bool) : PD → PD → Option PD
  | .str i, .str j => some (.bool (if neg then !(!(Builtin.Str.occurrences j i 0 j.length 1).isEmpty) else !(Builtin.Str.occurrences j i 0 j.length 1).isEmpty))
  | _, _ => none
theorem snd_inL {K : PySem.W.Frag} : Snd2 K (rInD K) (fInL false) := by
  intro F H v w x y z Q e d1 d2 hf p
  unfold fInL at hf
  split at hf
  · split at hf
    · rename_i h
      rw [Bool.and_eq_true] at h
      cases hf
      exact ⟨_, _, Da.dp' e _ v (lay_of_shaped h.1) d1, Da.dp' e _ w (lay_of_shaped h.2) d2, h.1, h.2, p _ F H (.refl e) (.bl _)⟩
    · cases hf
  · cases hf
theorem snd_ninL {K : PySem.W.Frag} : Snd2 K (rNotInD K) (fInL true) := by
  intro F H v w x y z Q e d1 d2 hf p
  unfold fInL at hf
  split at hf
  · split at hf
    · rename_i h
      rw [Bool.and_eq_true] at h
      cases hf
      exact ⟨_, _, Da.dp' e _ v (lay_of_shaped h.1) d1, Da.dp' e _ w (lay_of_shaped h.2) d2, h.1, h.2, p _ F H (.refl e) (.bl _)⟩
    · cases hf
  · cases hf
theorem snd_inS {K : PySem.W.Frag} : Snd2 K (fun x y H Q => ∃ i j, x = .str i ∧ y = .str j ∧ Q (.bl (!(Builtin.Str.occurrences j i 0 j.length 1).isEmpty)) H) (fInS false) := by
  intro F H v w x y z Q e d1 d2 hf p
  unfold fInS at hf
  split at hf
  · cases hf; cases d1; cases d2
    exact ⟨_, _, rfl, rfl, p _ F H (.refl e) (.bl _)⟩
  · cases hf
theorem snd_ninS {K : PySem.W.Frag} : Snd2 K (fun x y H Q => ∃ i j, x = .str i ∧ y = .str j ∧ Q (.bl (!(!(Builtin.Str.occurrences j i 0 j.length 1).isEmpty))) H) (fInS true) := by
  intro F H v w x y z Q e d1 d2 hf p
  unfold fInS at hf
  split at hf
  · cases hf; cases d1; cases d2
    exact ⟨_, _, rfl, rfl, p _ F H (.refl e) (.bl _)⟩
  · cases hf
def fIn (neg : Bool) : PD → PD → Option PD := orF (fInL neg) (fInS neg)
theorem de_in (c : Cok X E k) (ha : DE X E a ma) (hb : DE X E b mb') (hm : behindInMarks .In b = false := by rfl) : DE X E (.Compare a [.In] [b] pos) (m2 (fIn false) ma mb') :=
  de_cmp ((op_inD (by have := c.hr.un; omega)).or op_in_str) (snd_inL.or snd_inS) ha hb hm
theorem de_nin (c : Cok X E k) (ha : DE X E a ma) (hb : DE X E b mb') (hm : behindInMarks .NotIn b = false := by rfl) : DE X E (.Compare a [.NotIn] [b] pos) (m2 (fIn true) ma mb') :=
  de_cmp ((op_notInD (by have := c.hr.un; omega)).or op_notin_str) (snd_ninL.or snd_ninS) ha hb hm
theorem dt_in (c : Cok X E k) (ha : DE X E a ma) (hb : DE X E b mb') (hm : behindInMarks .In b = false := by rfl) : DT X E (.Compare a [.In] [b] pos) (mB (m2 (fIn false) ma mb')) :=
  dt_cmp ((op_inD (by have := c.hr.un; omega)).or op_in_str) (snd_inL.or snd_inS) ha hb hm
theorem dt_nin (c : Cok X E k) (ha : DE X E a ma) (hb : DE X E b mb') (hm : behindInMarks .NotIn b = false := by rfl) : DT X E (.Compare a [.NotIn] [b] pos) (mB (m2 (fIn true) ma mb')) :=
  dt_cmp ((op_notInD (by have := c.hr.un; omega)).or op_notin_str) (snd_ninL.or snd_ninS) ha hb hm
/-- is None -/
def isN : PD → Bool
  | .none => true
  | _ => false
theorem Da.isN {K : PySem.W.Frag} {F : Hp} {v : V} {x : PD} (h : Da K F v x) : decide (v = .non) = DL.isN x := by
  cases h <;> simp [DL.isN]
def fIsN (neg : Bool) : PD → PD → Option PD
  | x, .none => some (.bool (if neg then !isN x else isN x))
  | _, _ => none
theorem snd_isN {K : PySem.W.Frag} : Snd2 K (fun x y H Q => y = .non ∧ Q (.bl (decide (x = .non))) H) (fIsN false) := by
  intro F H v w x y z Q e d1 d2 hf p
  unfold fIsN at hf
  split at hf
  · cases hf; cases d2
    refine ⟨rfl, p _ F H (.refl e) ?_⟩
    rw [d1.isN]
    exact .bl _
  · cases hf
theorem snd_nisN {K : PySem.W.Frag} : Snd2 K (fun x y H Q => y = .non ∧ Q (.bl (!decide (x = .non))) H) (fIsN true) := by
  intro F H v w x y z Q e d1 d2 hf p
  unfold fIsN at hf
  split at hf
  · cases hf; cases d2
    refine ⟨rfl, p _ F H (.refl e) ?_⟩
    rw [d1.isN]
    exact .bl _
  · cases hf
theorem de_is (ha : DE X E a ma) (hb : DE X E b mb') : DE X E (.Compare a [.Is] [b] pos) (m2 (fIsN false) ma mb') := de_cmp op_isN snd_isN ha hb
theorem de_nis (ha : DE X E a ma) (hb : DE X E b mb') : DE X E (.Compare a [.IsNot] [b] pos) (m2 (fIsN true) ma mb') := de_cmp op_notN snd_nisN ha hb
theorem dt_is (ha : DE X E a ma) (hb : DE X E b mb') : DT X E (.Compare a [.Is] [b] pos) (mB (m2 (fIsN false) ma mb')) := dt_cmp op_isN snd_isN ha hb
theorem dt_nis (ha : DE X E a ma) (hb : DE X E b mb') : DT X E (.Compare a [.IsNot] [b] pos) (mB (m2 (fIsN true) ma mb')) := dt_cmp op_notN snd_nisN ha hb
/-- a < b < c of whole numbers -/
def mChain (f g : PD → PD → Option PD) (a b c : M PD) : M PD := mb a fun x => mb b fun y => mb (ml ((f x y).bind asB)) fun k => if k = true then mb c fun z => ml (g y z) else mr (.bool false)
theorem de_chain {op op' : CmpOp} {r r' : R2} {f g : PD → PD → Option PD} {c : Expr} {mc : M PD} (ho : OpR X (compareOp op) r) (ho' : OpR X (compareOp op') r') (hr : Snd2 X.K r f) (hr' : Snd2 X.K r' g) (ha : DE X E a ma) (hb : DE X E b mb') (hc : DE X E c mc)
    (hm : lastMarks [op, op'] [b, c] = false := by with_unfolding_all rfl) : DE X E (.Compare a [op, op'] [b, c] pos) (mChain f g ma mb' mc) := by
  obtain ⟨ta, h1, h2⟩ := ha
  obtain ⟨tb, h3, h4⟩ := hb
  obtain ⟨tc, h5, h6⟩ := hc
  refine ⟨_, pe_chain ho ho' h1 h3 h5 hm, fun F0 H0 F H σ ρ q Q R h p => ?_⟩
  rcases mb_ok h with ⟨x, e1, e2⟩ | ⟨c, e1, e2⟩
  · refine h2 F0 H0 F H σ ρ _ _ R e1 fun v F' H' g d => ?_
    have R' := R.grow g
    rcases mb_ok e2 with ⟨y, e3, e4⟩ | ⟨c, e3, e4⟩
    · refine h4 F0 H0 F' H' σ ρ _ _ R' e3 fun w F2 H2 g2 d2 => ?_
      rcases mb_ok e4 with ⟨kk, e5, e6⟩ | ⟨c, e5, e6⟩
      · unfold ml at e5
        obtain ⟨b', eb, ek⟩ := Option.map_eq_some_iff.mp e5
        cases ek
        obtain ⟨z, ez, ezb⟩ := Option.bind_eq_some_iff.mp eb
        refine hr F2 H2 v w x y z _ g2.fh (d.mono g2.f) d2 ez fun u F3 H3 g3 d3 => ?_
        have hz : z = .bool kk := by
          unfold asB at ezb
          split at ezb
          · cases ezb; rfl
          · cases ezb
        subst hz
        cases d3
        refine ⟨kk, rfl, ?_⟩
        have G3 := (g.trans g2).trans g3
        cases kk with
        | true =>
          rw [if_pos rfl] at e6 ⊢
          rcases mb_ok e6 with ⟨z2, e7, e8⟩ | ⟨c, e7, e8⟩
          · refine h6 F0 H0 F3 H3 σ ρ _ _ (R.grow G3) e7 fun u4 F4 H4 g4 d4 => ?_
            unfold ml at e8
            obtain ⟨z3, ez3, rfl⟩ := Option.map_eq_some_iff.mp e8
            exact hr' F4 H4 w u4 y z2 z3 _ g4.fh ((d2.mono g3.f).mono g4.f) d4 ez3 fun u5 F5 H5 g5 d5 => p u5 F5 H5 ((G3.trans g4).trans g5) d5
          · cases e8
            exact h6 F0 H0 F3 H3 σ ρ _ _ (R.grow G3) e7 fun F4 H4 g4 => p F4 H4 (G3.trans g4)
        | false =>
          rw [if_neg (by decide)] at e6 ⊢
          cases e6
          exact p _ F3 H3 G3 (.bl false)
      · unfold ml at e5
        obtain ⟨b', eb, ek⟩ := Option.map_eq_some_iff.mp e5
        cases ek
    · cases e4
      exact h4 F0 H0 F' H' σ ρ _ _ R' e3 fun F2 H2 g2 => p F2 H2 (g.trans g2)
  · cases e2
    exact h2 F0 H0 F H σ ρ _ _ R e1 fun F' H' g => p F' H' g
/-- the chain as a test -/
theorem dt_chain {op op' : CmpOp} {r r' : R2} {f g : PD → PD → Option PD} {c : Expr} {mc : M PD} (ho : OpR X (compareOp op) r) (ho' : OpR X (compareOp op') r') (hr : Snd2 X.K r f) (hr' : Snd2 X.K r' g) (ha : DE X E a ma) (hb : DE X E b mb') (hc : DE X E c mc)
    (hm : lastMarks [op, op'] [b, c] = false := by with_unfolding_all rfl) : DT X E (.Compare a [op, op'] [b, c] pos) (mB (mChain f g ma mb' mc)) := by
  obtain ⟨ta, h1, h2⟩ := ha
  obtain ⟨tb, h3, h4⟩ := hb
  obtain ⟨tc, h5, h6⟩ := hc
  have key := (de_chain (E := E) (pos := pos) (a := a) (b := b) (c := c) (op := op) (op' := op') ho ho' hr hr' ⟨ta, h1, h2⟩ ⟨tb, h3, h4⟩ ⟨tc, h5, h6⟩ hm)
  refine ⟨_, pt_chain ho ho' h1 h3 h5 hm, fun F0 H0 F H σ ρ q Q R h p => ?_⟩
  show tChain r r' ta tb tc σ H fun x H' => ∃ k, x = .bl k ∧ Q k H'
  have body : ∀ (q : Ro PD) (Q' : VK), mChain f g ma mb' mc ρ = some q → PoE X.K F H Q' E q → tChain r r' ta tb tc σ H Q' := by
    intro q Q' h p
    rcases mb_ok h with ⟨x, e1, e2⟩ | ⟨c, e1, e2⟩
    · refine h2 F0 H0 F H σ ρ _ _ R e1 fun v F' H' g d => ?_
      have R' := R.grow g
      rcases mb_ok e2 with ⟨y, e3, e4⟩ | ⟨c, e3, e4⟩
      · refine h4 F0 H0 F' H' σ ρ _ _ R' e3 fun w F2 H2 g2 d2 => ?_
        rcases mb_ok e4 with ⟨kk, e5, e6⟩ | ⟨c, e5, e6⟩
        · unfold ml at e5
          obtain ⟨b', eb, ek⟩ := Option.map_eq_some_iff.mp e5
          cases ek
          obtain ⟨z, ez, ezb⟩ := Option.bind_eq_some_iff.mp eb
          refine hr F2 H2 v w x y z _ g2.fh (d.mono g2.f) d2 ez fun u F3 H3 g3 d3 => ?_
          have hz : z = .bool kk := by
            unfold asB at ezb
            split at ezb
            · cases ezb; rfl
            · cases ezb
          subst hz
          cases d3
          refine ⟨kk, rfl, ?_⟩
          have G3 := (g.trans g2).trans g3
          cases kk with
          | true =>
            rw [if_pos rfl] at e6 ⊢
            rcases mb_ok e6 with ⟨z2, e7, e8⟩ | ⟨c, e7, e8⟩
            · refine h6 F0 H0 F3 H3 σ ρ _ _ (R.grow G3) e7 fun u4 F4 H4 g4 d4 => ?_
              unfold ml at e8
              obtain ⟨z3, ez3, rfl⟩ := Option.map_eq_some_iff.mp e8
              exact hr' F4 H4 w u4 y z2 z3 _ g4.fh ((d2.mono g3.f).mono g4.f) d4 ez3 fun u5 F5 H5 g5 d5 => p u5 F5 H5 ((G3.trans g4).trans g5) d5
            · cases e8
              exact h6 F0 H0 F3 H3 σ ρ _ _ (R.grow G3) e7 fun F4 H4 g4 => p F4 H4 (G3.trans g4)
          | false =>
            rw [if_neg (by decide)] at e6 ⊢
            cases e6
            exact p _ F3 H3 G3 (.bl false)
        · unfold ml at e5
          obtain ⟨b', eb, ek⟩ := Option.map_eq_some_iff.mp e5
          cases ek
      · cases e4
        exact h4 F0 H0 F' H' σ ρ _ _ R' e3 fun F2 H2 g2 => p F2 H2 (g.trans g2)
    · cases e2
      exact h2 F0 H0 F H σ ρ _ _ R e1 fun F' H' g => p F' H' g
  rcases mb_ok h with ⟨a, e1, e2⟩ | ⟨c, e1, e2⟩
  · unfold ml asB at e2
    split at e2
    · cases e2
      refine body _ _ e1 fun v F' H' g d => ?_
      cases d
      exact ⟨_, rfl, p F' H' g⟩
    · cases e2
  · cases e2
    exact body _ _ e1 fun F' H' g => p F' H' g
end

/-! ### items and slices -/
/-- the script, no dict of the text -/
def isScr : List (PD × PD) → Bool
  | (.none, _) :: _ => false
  | (.bool _, _) :: _ => false
  | _ => true
def fIx : PD → PD → Option PD
  | .list ds, .int i => atI ds i
  | .tuple ds, .int i => atI ds i
  | .str z, .int i => if z.length ≤ big then (atI z.cps.toList i).map fun c => .str ⟨#[c]⟩ else none
  | .dict ds, .int i => if isScr ds = true then (atI ds i).map Prod.fst else none
  | _, _ => none
theorem atI_len {α β : Type} {xs : List α} {ys : List β} {i : Int} {y : β} (hl : xs.length = ys.length) (h : atI ys i = some y) : ∃ (j : Nat) (x : α), xs[j]? = some x ∧ ys[j]? = some y ∧ atI xs i = some x := by
  unfold atI at h ⊢
  rw [hl]
  obtain ⟨j, e1, e2⟩ := Option.bind_eq_some_iff.mp h
  have hj : j < xs.length := by rw [hl]; exact (List.getElem?_eq_some_iff.mp e2).1
  exact ⟨j, xs[j], List.getElem?_eq_getElem hj, e2, by rw [e1]; exact List.getElem?_eq_getElem hj⟩
theorem snd_ix {K : PySem.W.Frag} : Snd2 K (rIx K) fIx := by
  intro F H v w x y z Q e d1 d2 hf p
  unfold fIx at hf
  split at hf
  · cases d1 with
    | lst h1 h2 =>
      cases d2
      obtain ⟨j, u, e1, e2, e3⟩ := atI_len h2.len hf
      obtain ⟨d, q1, q2⟩ := h2.get e1
      rw [e2] at q1; cases q1
      exact .inl ⟨_, _, _, u, rfl, rfl, SqL.of (e _ _ h1), e3, p u F H (.refl e) q2⟩
  · cases d1 with
    | tup h1 h2 =>
      cases d2
      obtain ⟨j, u, e1, e2, e3⟩ := atI_len h2.len hf
      obtain ⟨d, q1, q2⟩ := h2.get e1
      rw [e2] at q1; cases q1
      exact .inr (.inl ⟨_, _, _, u, rfl, rfl, SqT.of (e _ _ h1), e3, p u F H (.refl e) q2⟩)
  · split at hf
    · rename_i hz
      obtain ⟨c, ec, rfl⟩ := Option.map_eq_some_iff.mp hf
      cases d1; cases d2
      exact .inr (.inr ⟨_, _, c, rfl, rfl, le_line hz, ec, p _ F H (.refl e) (.str _)⟩)
    · cases hf
  · split at hf
    case isFalse => cases hf
    rename_i hsc
    cases d1 with
    | dct k1 k2 k3 =>
      rw [k3] at hsc
      cases hsc
    | shf k0 k1 k2 k3 k4 k5 =>
      rw [k5] at hsc
      cases hsc
    | scr h1 h2 =>
      cases d2
      rename_i i a ns
      subst h2
      obtain ⟨pr, ep, rfl⟩ := Option.map_eq_some_iff.mp hf
      obtain ⟨j, u, e1, e2, e3⟩ := atI_len (xs := ns.map V.int) (by simp) ep
      rw [List.getElem?_map] at e1 e2
      obtain ⟨n, en, rfl⟩ := Option.map_eq_some_iff.mp e1
      rw [en] at e2
      cases e2
      exact .inl ⟨_, _, _, _, rfl, rfl, e.seq h1, e3, p _ F H (.refl e) (.int n)⟩
  · cases hf
theorem de_ix {a b : Expr} {ma mb' : M PD} {pos : Pos} (ha : DE X E a ma) (hb : DE X E b mb') (hs : PlainIx b := by exact fun _ _ => rfl) : DE X E (.Subscript a b pos) (m2 fIx ma mb') := by
  obtain ⟨ta, h1, h2⟩ := ha
  obtain ⟨tb, h3, h4⟩ := hb
  exact ⟨_, pe_ix ix_seq h1 h3 hs, fun F0 H0 F H σ ρ q Q R h p => two_sound h2 h4 snd_ix R h p⟩
/-- a part of a slice -/
structure DO (X : Cx) (E : XK) (e : Option Expr) (m : M (Option Int)) : Prop where
  ex : ∃ t, PO X e t ∧ ∀ F0 H0 F H σ ρ r (Q : Option Int → Hp → Prop), Rel X.K F0 H0 F H σ ρ → m ρ = some r → (match r with | .ok o => ∀ F' H', Grow F H F' H' → Q o H' | .ex c => ∀ F' H', Grow F H F' H' → E (.ref c) none H') → t σ H Q
def asI : PD → Option Int
  | .int i => some i
  | _ => none
def mPart (m : M PD) : M (Option Int) := mb m fun x => ml ((asI x).map some)
theorem do_none : DO X E none (mr none) := ⟨_, po_none, fun F0 H0 F H σ ρ r Q R h p => by cases h; exact p F H (.refl R.fh)⟩
theorem do_some {e : Expr} {m : M PD} (h : DE X E e m) : DO X E (some e) (mPart m) := by
  obtain ⟨t, h1, h2⟩ := h
  refine ⟨_, po_some h1, fun F0 H0 F H σ ρ r Q R h p => ?_⟩
  rcases mb_ok h with ⟨x, e1, e2⟩ | ⟨c, e1, e2⟩
  · unfold ml asI at e2
    split at e2
    · cases e2
      refine h2 F0 H0 F H σ ρ _ _ R e1 fun v F' H' g d => ?_
      cases d
      exact ⟨_, rfl, p F' H' g⟩
    · cases e2
  · cases e2
    exact h2 F0 H0 F H σ ρ _ _ R e1 fun F' H' g => p F' H' g
def cutL (xs : List PD) (lo hi : Option Int) : List PD := (xs.drop (HT.sIx xs.length 0 lo)).take (HT.sIx xs.length xs.length hi - HT.sIx xs.length 0 lo)
def fSl (lo hi : Option Int) : PD → Option Rs
  | .list xs => some (.o (.lst (cutL xs lo hi)))
  | .str z => if z.length ≤ big then some (.d (.str (cutS z lo hi))) else none
  | _ => none
def mSl (a : M PD) (lo hi : M (Option Int)) : M Rs := mb a fun x => mb lo fun l => mb hi fun u => ml (fSl l u x)
theorem dr_sl {a : Expr} {lo hi : Option Expr} {ma : M PD} {ml' mh : M (Option Int)} {pos p2 : Pos} (ha : DE X E a ma) (hl : DO X E lo ml') (hh : DO X E hi mh) : DR X E (.Subscript a (.Slice lo hi none p2) pos) (mSl ma ml' mh) := by
  obtain ⟨ta, h1, h2⟩ := ha
  obtain ⟨tl, h3, h4⟩ := hl
  obtain ⟨th, h5, h6⟩ := hh
  refine ⟨_, pe_slice (sl_list.or sl_str) h1 h3 h5, fun F0 H0 F H σ ρ q Q R h p => ?_⟩
  rcases mb_ok h with ⟨x, e1, e2⟩ | ⟨c, e1, e2⟩
  · refine h2 F0 H0 F H σ ρ _ _ R e1 fun v F' H' g d => ?_
    rcases mb_ok e2 with ⟨l, e3, e4⟩ | ⟨c, e3, e4⟩
    · refine h4 F0 H0 F' H' σ ρ _ _ (R.grow g) e3 fun F2 H2 g2 => ?_
      have G2 := g.trans g2
      rcases mb_ok e4 with ⟨u, e5, e6⟩ | ⟨c, e5, e6⟩
      · refine h6 F0 H0 F2 H2 σ ρ _ _ (R.grow G2) e5 fun F3 H3 g3 => ?_
        have G3 := G2.trans g3
        have d3 := (d.mono g2.f).mono g3.f
        unfold ml fSl at e6
        split at e6
        · cases e6
          cases d3 with
          | lst k1 k2 =>
            rename_i b us
            refine .inl ⟨_, _, rfl, SqL.of (G3.fh _ _ k1), fun a na => ?_⟩
            refine p _ F3 _ (G3.trans (.newO G3.fh na)) ⟨[a], ⟨a, _, rfl, rfl, upd_same, ?_⟩, fun b hb => ?_⟩
            · unfold cutV cutL
              rw [k2.len]
              exact (k2.drop _).take _
            · have e : b = a := by simpa using hb
              subst e
              exact ⟨G3.h.free na, G3.fh.free na, by rw [upd_same]; simp⟩
        · split at e6
          · rename_i hz
            cases e6
            cases d3
            exact .inr ⟨_, rfl, le_line hz, p _ F3 H3 G3 (.str _)⟩
          · cases e6
        · cases e6
      · cases e6
        exact h6 F0 H0 F2 H2 σ ρ _ _ (R.grow G2) e5 fun F3 H3 g3 => p F3 H3 (G2.trans g3)
    · cases e4
      exact h4 F0 H0 F' H' σ ρ _ _ (R.grow g) e3 fun F2 H2 g2 => p F2 H2 (g.trans g2)
  · cases e2
    exact h2 F0 H0 F H σ ρ _ _ R e1 fun F' H' g => p F' H' g

/-! ### built-ins -/
/-- a built-in called by its name: what the rule asks, from the function f -/
def SndC (K : PySem.W.Frag) (r : List V → Hp → VK → Prop) (f : List PD → Option Rs) : Prop := ∀ F H vs xs z Q, Same F H → DaAll K F vs xs → f xs = some z → (∀ u F' H', Grow F H F' H' → ResAt K H F' H' u z → Q u H') → r vs H Q
def mC (f : List PD → Option Rs) (a : M (List PD)) : M Rs := mb a fun xs => ml (f xs)
theorem callC_sound {t : TA} {r : List V → Hp → VK → Prop} {f : List PD → Option Rs} {m : M (List PD)} (hr : SndC X.K r f) (h2 : ∀ F0 H0 F H σ ρ r Q, Rel X.K F0 H0 F H σ ρ → m ρ = some r → PoA X.K F H Q E r → t σ H Q)
    {F0 H0 F H : Hp} {σ : St} {ρ : List Sl} {q : Ro Rs} {Q : VK} (R : Rel X.K F0 H0 F H σ ρ) (h : mC f m ρ = some q) (p : PoR X.K F H Q E q) : t σ H fun vs H1 => r vs H1 Q := by
  rcases mb_ok h with ⟨xs, e1, e2⟩ | ⟨c, e1, e2⟩
  · refine h2 F0 H0 F H σ ρ _ _ R e1 fun vs F' H' g d => ?_
    unfold ml at e2
    obtain ⟨z, ez, rfl⟩ := Option.map_eq_some_iff.mp e2
    exact hr F' H' vs xs z Q g.fh d ez fun u F2 H2 g2 d2 => p u F2 H2 (g.trans g2) (d2.older g.h)
  · cases e2
    exact h2 F0 H0 F H σ ρ _ _ R e1 fun F' H' g => p F' H' g
theorem dr_callB {x : Str} {p pos : Pos} {e : Expr} {es : List Expr} {id : String} {r : List V → Hp → VK → Prop} {f : List PD → Option Rs} {m : M (List PD)} (hc : CallR X (.builtin id) r) (hr : SndC X.K r f) (hm : X.mg x = none) (hv : bootBuiltins x = some (.builtin id)) (ha : DA X E (e :: es) m)
    (hg : Gl X x := by rfl) (hn : x ≠ "__name__" := by decide) (hdb : (x == ("__debug__" : Str)) = false := by decide) (he : starEach (e :: es) X.env = (false, eval e X.env) :: starEach es X.env := by rfl) (hpl : (backTo pos (starEach es X.env)).any (·.1) = false := by rfl) :
    DR X E (.Call (.Name x p) (e :: es) [] pos) (mC f m) := by
  obtain ⟨t, h1, h2⟩ := ha
  exact ⟨_, pe_callB hc hg hm hv h1 hn hdb he hpl, fun F0 H0 F H σ ρ q Q R h p => callC_sound hr h2 R h p⟩
theorem dr_callTy {x : Str} {p pos : Pos} {e : Expr} {es : List Expr} {T : String} {r : List V → Hp → VK → Prop} {f : List PD → Option Rs} {m : M (List PD)} (hc : CallR X (.type T) r) (hr : SndC X.K r f) (hm : X.mg x = none) (hv : bootBuiltins x = some (.type T)) (ha : DA X E (e :: es) m)
    (hg : Gl X x := by rfl) (hn : x ≠ "__name__" := by decide) (hdb : (x == ("__debug__" : Str)) = false := by decide) (he : starEach (e :: es) X.env = (false, eval e X.env) :: starEach es X.env := by rfl) (hpl : (backTo pos (starEach es X.env)).any (·.1) = false := by rfl) :
    DR X E (.Call (.Name x p) (e :: es) [] pos) (mC f m) := by
  obtain ⟨t, h1, h2⟩ := ha
  exact ⟨_, pe_callTy hc hg hm hv h1 hn hdb he hpl, fun F0 H0 F H σ ρ q Q R h p => callC_sound hr h2 R h p⟩
def fLen : List PD → Option Rs
  | [.list xs] => some (.d (.int xs.length))
  | [.tuple xs] => some (.d (.int xs.length))
  | [.dict xs] => if isScr xs = true then some (.d (.int xs.length)) else none
  | [.str z] => if z.length ≤ big then some (.d (.int z.length)) else none
  | _ => none
theorem snd_len {K : PySem.W.Frag} : SndC K (fun xs H Q => (∃ p ys, xs = [.ref p] ∧ (SqL K H p ys ∨ SqT K H p ys) ∧ Q (.int ys.length) H) ∨ ∃ z, xs = [.str z] ∧ z.length ≤ sizeLine ∧ Q (.int z.length) H) fLen := by
  intro F H vs xs z Q e d hf p
  unfold fLen at hf
  split at hf
  · cases hf
    cases d with
    | cons d1 d2 =>
      cases d2
      cases d1 with
      | lst h1 h2 => exact .inl ⟨_, _, rfl, .inl (SqL.of (e _ _ h1)), by rw [h2.len]; exact p _ F H (.refl e) (.int _)⟩
  · cases hf
    cases d with
    | cons d1 d2 =>
      cases d2
      cases d1 with
      | tup h1 h2 => exact .inl ⟨_, _, rfl, .inr (SqT.of (e _ _ h1)), by rw [h2.len]; exact p _ F H (.refl e) (.int _)⟩
  · split at hf
    case isFalse => cases hf
    rename_i hsc
    cases hf
    cases d with
    | cons d1 d2 =>
      cases d2
      cases d1 with
      | dct k1 k2 k3 =>
        rw [k3] at hsc
        cases hsc
      | shf k0 k1 k2 k3 k4 k5 =>
        rw [k5] at hsc
        cases hsc
      | scr h1 h2 =>
        refine .inl ⟨_, _, rfl, .inl (e.seq h1), ?_⟩
        rename_i xs a ns
        have z := p (.int ((ns.map V.int).length : Nat)) F H (.refl e)
        rw [h2] at z
        simp only [List.length_map] at z ⊢
        exact z (.int _)
  · split at hf
    · rename_i hz
      cases hf
      cases d with
      | cons d1 d2 =>
        cases d2
        cases d1
        exact .inr ⟨_, rfl, le_line hz, p _ F H (.refl e) (.int _)⟩
    · cases hf
  · cases hf
theorem dr_len {p pos : Pos} {e : Expr} {m : M (List PD)} (hm : X.mg "len" = none) (ha : DA X E [e] m) (hg : Gl X "len" := by rfl) (he : starEach [e] X.env = (false, eval e X.env) :: starEach [] X.env := by rfl) :
    DR X E (.Call (.Name "len" p) [e] [] pos) (mC fLen m) := dr_callB (call_len_seq.or call_len_str) snd_len hm (by decide +kernel) ha hg (by decide) (by decide) he rfl
def fList : List PD → Option Rs
  | [.list xs] => some (.o (.lst xs))
  | [.tuple xs] => some (.o (.lst xs))
  | _ => none
theorem new_lst {K : PySem.W.Frag} {F H : Hp} {us : List V} {xs : List PD} {Q : VK} {a : Addr} (e : Same F H) (na : H a = none) (d : DaAll K F us xs) (p : ∀ u F' H', Grow F H F' H' → ResAt K H F' H' u (.o (.lst xs)) → Q u H') : Q (.ref a) (upd H a (.lst us)) :=
  p _ F _ (.newO e na) ⟨[a], ⟨a, us, rfl, rfl, upd_same, d⟩, fun b hb => by
    have e' : b = a := by simpa using hb
    subst e'
    exact ⟨na, e.free na, by rw [upd_same]; simp⟩⟩
theorem snd_list {K : PySem.W.Frag} : SndC K (fun xs H Q => ∃ p ys, xs = [.ref p] ∧ (SqL K H p ys ∨ SqT K H p ys) ∧ ∀ l, H l = none → Q (.ref l) (upd H l (.lst ys))) fList := by
  intro F H vs xs z Q e d hf p
  unfold fList at hf
  split at hf
  · cases hf
    cases d with
    | cons d1 d2 =>
      cases d2
      cases d1 with
      | lst h1 h2 => exact ⟨_, _, rfl, .inl (SqL.of (e _ _ h1)), fun a na => new_lst e na h2 p⟩
  · cases hf
    cases d with
    | cons d1 d2 =>
      cases d2
      cases d1 with
      | tup h1 h2 => exact ⟨_, _, rfl, .inr (SqT.of (e _ _ h1)), fun a na => new_lst e na h2 p⟩
  · cases hf
theorem dr_list {p pos : Pos} {e : Expr} {m : M (List PD)} (hm : X.mg "list" = none) (ha : DA X E [e] m) (hg : Gl X "list" := by rfl) (he : starEach [e] X.env = (false, eval e X.env) :: starEach [] X.env := by rfl) :
    DR X E (.Call (.Name "list" p) [e] [] pos) (mC fList m) := dr_callTy call_list_of snd_list hm (by decide +kernel) ha hg (by decide) (by decide) he rfl
/-- whole numbers in a list -/
def asInts : List PD → Option (List Int)
  | [] => some []
  | .int i :: r => (asInts r).map (i :: ·)
  | _ :: _ => none
theorem asInts_map : ∀ ns : List Int, asInts (ns.map PyData.int) = some ns
  | [] => rfl
  | n :: ns => by show (asInts (ns.map PyData.int)).map (n :: ·) = _; rw [asInts_map ns]; rfl
theorem asInts_eq : ∀ {ds : List PD} {ns : List Int}, asInts ds = some ns → ds = ns.map PyData.int
  | [], ns, h => by cases h; rfl
  | d :: ds, ns, h => by
    unfold asInts at h
    split at h
    · rename_i a b; cases b
    · rename_i i r heq
      cases heq
      obtain ⟨r', e, rfl⟩ := Option.map_eq_some_iff.mp h
      rw [asInts_eq e]; rfl
    · cases h
/-- the rising list of ns: what sorted gives -/
def insI (x : Int) : List Int → List Int
  | [] => [x]
  | y :: r => if x ≤ y then x :: y :: r else y :: insI x r
def sortI : List Int → List Int
  | [] => []
  | x :: r => insI x (sortI r)
theorem insI_perm (x : Int) : ∀ l : List Int, (insI x l).Perm (x :: l)
  | [] => .refl _
  | y :: r => by
    unfold insI
    split
    · exact .refl _
    · exact ((insI_perm x r).cons y).trans (.swap x y r)
theorem sortI_perm : ∀ l : List Int, (sortI l).Perm l
  | [] => .refl _
  | x :: r => (insI_perm x _).trans ((sortI_perm r).cons x)
theorem insI_sorted {x : Int} : ∀ {l : List Int}, l.Pairwise (· ≤ ·) → (insI x l).Pairwise (· ≤ ·)
  | [], _ => List.pairwise_singleton _ _
  | y :: r, h => by
    have hc := List.pairwise_cons.mp h
    unfold insI
    split
    · rename_i hxy
      refine List.pairwise_cons.mpr ⟨fun z hz => ?_, h⟩
      rcases List.mem_cons.mp hz with e | hz
      · rw [e]; exact hxy
      · have := hc.1 z hz; omega
    · rename_i hxy
      refine List.pairwise_cons.mpr ⟨fun z hz => ?_, insI_sorted hc.2⟩
      rcases List.mem_cons.mp ((insI_perm x r).mem_iff.mp hz) with e | hz
      · rw [e]; omega
      · exact hc.1 z hz
theorem sortI_sorted : ∀ l : List Int, (sortI l).Pairwise (· ≤ ·)
  | [] => .nil
  | x :: r => insI_sorted (sortI_sorted r)
theorem sorted_uniq : ∀ {l m : List Int}, l.Perm m → l.Pairwise (· ≤ ·) → m.Pairwise (· ≤ ·) → l = m
  | [], m, h, _, _ => (List.nil_perm.mp h).symm
  | x :: l, [], h, _, _ => absurd (List.perm_nil.mp h) (by simp)
  | x :: l, y :: m, h, h1, h2 => by
    have a1 := (List.pairwise_cons.mp h1).1
    have a2 := (List.pairwise_cons.mp h2).1
    have e : x = y := by
      rcases List.mem_cons.mp (h.mem_iff.mp List.mem_cons_self) with e | hx
      · exact e
      · rcases List.mem_cons.mp (h.mem_iff.mpr List.mem_cons_self) with e | hy
        · exact e.symm
        · have := a1 y hy; have := a2 x hx; omega
    subst e
    rw [sorted_uniq ((List.perm_cons x).mp h) (List.pairwise_cons.mp h1).2 (List.pairwise_cons.mp h2).2]
def fSorted : List PD → Option Rs
  | [.list xs] => (asInts xs).bind fun ns => if ns.length < 64 then some (.o (.lst ((sortI ns).map .int))) else none
  | _ => none
theorem snd_sorted {K : PySem.W.Frag} : SndC K (rSorted K) fSorted := by
  intro F H vs xs z Q e d hf p
  unfold fSorted at hf
  split at hf
  · obtain ⟨ns, e1, e2⟩ := Option.bind_eq_some_iff.mp hf
    split at e2
    · rename_i hz
      cases e2
      cases d with
      | cons d1 d2 =>
        cases d2
        cases d1 with
        | lst h1 h2 =>
          rw [asInts_eq e1] at h2
          have := DaAll.ints ns h2
          subst this
          refine ⟨_, ns, rfl, SqL.of (e _ _ h1), hz, fun ns' a hp hs na => ?_⟩
          have : ns' = sortI ns := sorted_uniq (hp.trans (sortI_perm ns).symm) hs (sortI_sorted ns)
          subst this
          exact new_lst e na (DaAll.of_ints _) p
    · cases e2
  · cases hf
theorem dr_sorted {p pos : Pos} {e : Expr} {m : M (List PD)} (hm : X.mg "sorted" = none) (ha : DA X E [e] m) (hg : Gl X "sorted" := by rfl) (he : starEach [e] X.env = (false, eval e X.env) :: starEach [] X.env := by rfl) :
    DR X E (.Call (.Name "sorted" p) [e] [] pos) (mC fSorted m) := dr_callB cr_sorted snd_sorted hm (by decide +kernel) ha hg (by decide) (by decide) he rfl
def fMax : List PD → Option Rs
  | [.int i, .int j] => some (.d (.int (if j > i then j else i)))
  | _ => none
def fMin : List PD → Option Rs
  | [.int i, .int j] => some (.d (.int (if j < i then j else i)))
  | _ => none
theorem dr_max {p pos : Pos} {e e2 : Expr} {m : M (List PD)} (c : Cok X E k) (hm : X.mg "max" = none) (ha : DA X E [e, e2] m) (hg : Gl X "max" := by rfl) (he : starEach [e, e2] X.env = (false, eval e X.env) :: starEach [e2] X.env := by rfl) (hpl : (backTo pos (starEach [e2] X.env)).any (·.1) = false := by rfl) :
    DR X E (.Call (.Name "max" p) [e, e2] [] pos) (mC fMax m) := dr_callB (f := fMax) (call_max2 c.calm) (fun F H vs xs z Q e d hf p => by
      unfold fMax at hf
      split at hf
      · cases hf
        cases d with
        | cons d1 d2 =>
          cases d2 with
          | cons d2 d3 =>
            cases d3; cases d1; cases d2
            exact ⟨_, _, rfl, p _ F H (.refl e) (.int _)⟩
      · cases hf) hm (by decide +kernel) ha hg (by decide) (by decide) he hpl
theorem dr_min {p pos : Pos} {e e2 : Expr} {m : M (List PD)} (c : Cok X E k) (hm : X.mg "min" = none) (ha : DA X E [e, e2] m) (hg : Gl X "min" := by rfl) (he : starEach [e, e2] X.env = (false, eval e X.env) :: starEach [e2] X.env := by rfl) (hpl : (backTo pos (starEach [e2] X.env)).any (·.1) = false := by rfl) :
    DR X E (.Call (.Name "min" p) [e, e2] [] pos) (mC fMin m) := dr_callB (f := fMin) (call_min2 c.calm) (fun F H vs xs z Q e d hf p => by
      unfold fMin at hf
      split at hf
      · cases hf
        cases d with
        | cons d1 d2 =>
          cases d2 with
          | cons d2 d3 =>
            cases d3; cases d1; cases d2
            exact ⟨_, _, rfl, p _ F H (.refl e) (.int _)⟩
      · cases hf) hm (by decide +kernel) ha hg (by decide) (by decide) he hpl
/-- int(..) of a number, a bool, a text -/
def fInt : List PD → Option Rs
  | [.int i] => some (.d (.int i))
  | [.bool b] => some (.d (.int (if b then 1 else 0)))
  | [.str z] => if z.length ≤ 640 then (PySem.intText? z).map fun n => .d (.int n) else none
  | _ => none
theorem dr_int {p pos : Pos} {e : Expr} {m : M (List PD)} (hm : X.mg "int" = none) (ha : DA X E [e] m) (hg : Gl X "int" := by rfl) (he : starEach [e] X.env = (false, eval e X.env) :: starEach [] X.env := by rfl) :
    DR X E (.Call (.Name "int" p) [e] [] pos) (mC fInt m) := dr_callTy (f := fInt) (call_int1.or call_int_str) (fun F H vs xs z Q e d hf p => by
      unfold fInt at hf
      split at hf
      · cases hf
        cases d with
        | cons d1 d2 => cases d2; cases d1; exact .inl (.inl ⟨_, rfl, p _ F H (.refl e) (.int _)⟩)
      · cases hf
        cases d with
        | cons d1 d2 => cases d2; cases d1; exact .inl (.inr ⟨_, rfl, p _ F H (.refl e) (.int _)⟩)
      · split at hf
        · rename_i hz
          obtain ⟨n, en, rfl⟩ := Option.map_eq_some_iff.mp hf
          cases d with
          | cons d1 d2 => cases d2; cases d1; exact .inr ⟨_, n, rfl, en, hz, p _ F H (.refl e) (.int _)⟩
        · cases hf
      · cases hf) hm (by decide +kernel) ha hg (by decide) (by decide) he rfl
/-- str(..) of a number that is not great -/
def fStr : List PD → Option Rs
  | [.int i] => if i.natAbs < 1000000 then some (.d (.str (toString i))) else none
  | _ => none
theorem log2_small {n : Nat} (h : n < 1000000) : n.log2 < 1920 := by
  by_cases z : n = 0
  · subst z; decide
  · exact (Nat.log2_lt z).mpr (Nat.lt_of_lt_of_le h (Nat.le_trans (by decide : 1000000 ≤ 2 ^ 20) (Nat.pow_le_pow_right (by decide) (show 20 ≤ 1920 by decide))))
theorem dr_str {p pos : Pos} {e : Expr} {m : M (List PD)} (hm : X.mg "str" = none) (ha : DA X E [e] m) (hg : Gl X "str" := by rfl) (he : starEach [e] X.env = (false, eval e X.env) :: starEach [] X.env := by rfl) :
    DR X E (.Call (.Name "str" p) [e] [] pos) (mC fStr m) := dr_callTy (f := fStr) call_str_int (fun F H vs xs z Q e d hf p => by
      unfold fStr at hf
      split at hf
      · split at hf
        · rename_i hz
          cases hf
          cases d with
          | cons d1 d2 => cases d2; cases d1; exact ⟨_, rfl, log2_small hz, p _ F H (.refl e) (.str _)⟩
        · cases hf
      · cases hf) hm (by decide +kernel) ha hg (by decide) (by decide) he rfl
/-- list(range(..)) -/
def rngD (a b : Int) : List PD := (List.range (b - a).toNat).map fun (i : Nat) => .int (a + (i : Int))
end
end DL

/-! list(reversed(a list)): what the kit's layer has no rule for. -/
namespace DX
open PySem PySem.Spec PyProof.Rows L2
section
variable {prog : Program} {w : World} {A : Around} {E : Value → Shared → Prop} {s : Shared}
/-- the list at S, empty, is filled from the reversed iterator at it -/
theorem fill_rev {S it l : Addr} {items : Array Value} {c0 : Nat} {R : Result → Shared → Prop} (hh : A.handled = none) (hit : s.heap.IsRevIter it l ((items.size : Int) - 1)) (hl : s.heap.IsList l items)
    (n1 : l ≠ it) (n2 : S ≠ it) (n3 : S ≠ l) (hn : items.size ≤ sizeLine) (hS : s.heap.get? S = some { cls := .type "list", data := .seq #[] c0 })
    (hR : ∀ (s' : Shared) (acc : Array Value) (c : Nat), s' = { s with heap := s'.heap, toks := s'.toks } → (∀ b o, b ≠ S → b ≠ it → s.heap.get? b = some o → s'.heap.get? b = some o) →
      s'.heap.get? S = some { cls := .type "list", dict := none, data := .seq acc c, slots := #[] } → ItemsOf (fun i v => items[items.size - 1 - i]? = some v) acc items.size → R (.ok (.ret .none)) s') :
    wpAny (model prog w) A.in1 (Builtin.List.listExtendWith (.ref S) (.ref it) .none)
      (fun fin s' => match fin with | .done f => R (.ok f) s' | .again c' => c'.quiet = true ∧ codeAny (model prog w) A c' R s') (fun e s' => R (.error e) s') s := by
  have walk := (Walks.listRev (prog := prog) (w := w) (A := A.in1) hh it l n1 items).toS
  have ty : s.TypeIs (.ref it) "list_reverseiterator" := Heap.IsRevIter.typeIs hit
  have out : S ∉ [it, l] := by
    intro z
    rcases List.mem_cons.mp z with z | z
    · exact n2 z
    · exact n3 (List.mem_singleton.mp z)
  have other : Builtin.List.listSameRef (.ref S) (.ref it) = false := by simp [Builtin.List.listSameRef, n2]
  unfold Builtin.List.listExtendWith
  refine wpAny_bind (wpAny_typeOf ty ?_)
  rw [if_neg (by rw [other]; decide)]
  refine wpAny_bind (wpAny_pyIter_revIter hit (wpAny_bind (wpAny_holding ?_)))
  unfold Builtin.List.listLengthHint
  refine wpAny_bind (wpAny_specialOf ty RT.nolen_lri ?_)
  show wpAny _ A.in1 (specialOf (Value.ref it) (Str.ofString "__length_hint__") >>= _) _ _ _
  refine wpAny_bind (wpAny_specialOf ty RT.hint_lri ?_)
  generalize hid : ("list_reverseiterator.__length_hint__" : String) = name
  wp_delta
  rw [show splitId name = some ("list_reverseiterator", "__length_hint__") from by subst hid; decide +kernel]
  subst hid
  refine wpAny_bind (wpAny_isInstance (b := true) ty (by rw [isSubtype_type]; kernel_rfl) (wpAny_pure ?_))
  rw [if_neg (by decide)]
  have at0 : ((items.size : Nat) : Int) - 1 - ((0 : Nat) : Int) = (items.size : Int) - 1 := by omega
  refine wpAny_pure ⟨plainId_quiet F.plain_extend_loop _, codeAny_extend_loopS walk hn _ out _ items.size 0 _ _ _ rfl (Nat.zero_le _) ⟨Nat.zero_le _, by rw [at0]; exact hit, hl⟩ hS (ItemsOf.nil _) fun s' acc c m hS' hacc => ?_⟩
  refine hR s' acc c (Moved.eq_with m) (fun b o h1 h2 e => m.heap b o (fun z => ?_) e) hS' hacc
  rcases List.mem_cons.mp z with z | z
  · exact h1 z
  · exact h2 (List.mem_singleton.mp z)
theorem list_of_rev {it l : Addr} {items : Array Value} {Q : Value → Shared → Prop} (hh : A.handled = none) (hit : s.heap.IsRevIter it l ((items.size : Int) - 1)) (hl : s.heap.IsList l items) (n1 : l ≠ it) (hn : items.size ≤ sizeLine)
    (hQ : ∀ (h' : Heap) (tk : Nat) (acc : Array Value) (c : Nat), (∀ b o, b ≠ it → s.heap.get? b = some o → h'.get? b = some o) → h'.get? s.heap.objs.size = some { cls := .type "list", dict := none, data := .seq acc c, slots := #[] } →
      ItemsOf (fun i v => items[items.size - 1 - i]? = some v) acc items.size → Q (.ref s.heap.objs.size) { s with heap := h', toks := tk }) :
    wpAny (model prog w) A (call (.type "list") [.ref it]) Q E s := by
  refine callType_codes (Q₁ := fun v s1 => v = .ref s.heap.objs.size ∧ s1 = { s with heap := s.heap.push { cls := .type "list", data := .seq #[] } }) F.called_list (F.typeCall_list_1 _) F.entry_list_init (code_list_new _ ⟨rfl, rfl⟩) fun v s1 hv => ?_
  obtain ⟨rfl, rfl⟩ := hv
  have hS : (s.heap.push { cls := .type "list", data := .seq #[] }).get? s.heap.objs.size = some { cls := .type "list", data := .seq #[] } := Heap.get?_push_size _ rfl
  have lt : ∀ {b o}, s.heap.get? b = some o → s.heap.objs.size ≠ b := fun e => Nat.ne_of_gt (Heap.lt_size e)
  have kept : ∀ b o, s.heap.get? b = some o → ((s.heap.push { cls := .type "list", data := .seq #[] }).update s.heap.objs.size (Obj.mapSeq fun _ => (#[] : Array Value))).get? b = some o := fun b o e =>
    (Heap.get?_update_other _ _ (lt e)).trans (Heap.get?_push_of_some _ e)
  refine ⟨⟨_, hS, rfl⟩, F.args_list_init_2 _ _, ?_⟩
  show wpAny _ _ (do let old ← Builtin.List.listItems (.ref s.heap.objs.size); Builtin.List.listUpdate (.ref s.heap.objs.size) (fun _ => #[]); letGo old.toList.reverse; Builtin.List.listExtendWith (.ref s.heap.objs.size) (.ref it) .none) _ _ _
  refine wpAny_bind ?_
  unfold Builtin.List.listItems
  refine wpAny_bind (wpAny_seqItems hS rfl (wpAny_pure ?_))
  show wpAny _ _ (updateSeq s.heap.objs.size (fun _ => #[]) >>= fun _ => letGo (#[] : Array Value).toList.reverse >>= fun _ => Builtin.List.listExtendWith (.ref s.heap.objs.size) (.ref it) .none) _ _ _
  refine wpAny_bind (wpAny_updateSeq hS rfl (wpAny_bind (wpAny_letGo ?_)))
  obtain ⟨oi, hoi, _⟩ := id hit
  obtain ⟨ol, hol, _⟩ := id hl
  refine fill_rev (A := A.in1) hh (hit.at fun o e => kept _ o e) (hl.at fun o e => kept _ o e) n1 (lt hoi) (lt hol) hn (Heap.get?_update_self _ hS rfl) fun s' acc c e k hS' hacc => ?_
  refine ⟨rfl, ?_⟩
  rw [e]
  exact hQ s'.heap s'.toks acc c (fun b o hb eb => k b o (Ne.symm (lt eb)) hb (kept b o eb)) hS' hacc
end
section
variable {X : Cx}
def tLstRev (K : PySem.W.Frag) (te : TE) : TE := fun σ H Q => te σ H fun v H1 => ∃ (a : Addr) (xs : List V), v = .ref a ∧ SqL K H1 a xs ∧ ∀ q, H1 q = none → Q (.ref q) (upd H1 q (.lst xs.reverse))
theorem pe_lstRev {e : Expr} {te : TE} {p p2 pos pos2 : Pos} (hc : X.calm = true) (hg : Gl X "list") (hm : X.mg "list" = none) (hg2 : Gl X "reversed") (hm2 : X.mg "reversed" = none) (he : PE X e te)
    (hs : starEach [e] X.env = (false, eval e X.env) :: starEach [] X.env := by rfl)
    (hs2 : starEach [.Call (.Name "reversed" p2) [e] [] pos2] X.env = (false, eval (.Call (.Name "reversed" p2) [e] [] pos2) X.env) :: starEach [] X.env := by rfl) :
    PE X (.Call (.Name "list" p) [.Call (.Name "reversed" p2) [e] [] pos2] [] pos) (tLstRev X.K te) := by
  refine ⟨fun pins s σ H Q I h => ?_⟩
  refine Call_ (ld_blt I hg hm boot_list (PyProof.Rows.callWith_type1 (args_cons (Call_ (ld_blt I hg2 hm2 PyProof.Rows.boot_reversed (PyProof.Rows.callWith_type1 (args_cons (thn (he.run pins s σ H _ I h) fun u s1 z => args_nil ?_) hs) hs rfl))) hs2) hs2 rfl))
  obtain ⟨v, H1, I1, r1, a, xs, ev, hq, q⟩ := z
  subst ev
  obtain rfl : u = Value.ref a := r1
  obtain ⟨its, rv, pl, hz⟩ := I1.list hq
  refine call_reversed_list pl.isList (args_nil ?_)
  have step : ∀ b o, s1.heap.get? b = some o → (s1.heap.push (revObj a ((its.toArray.size : Int) - 1))).get? b = some o := fun b o e => Heap.get?_push_of_some _ e
  have hl := pl.isList
  obtain ⟨ol, hol, _⟩ := id hl
  have size : its.toArray.size ≤ sizeLine := by rw [List.size_toArray, ← rv.length]; exact hz
  refine list_of_rev (s := { s1 with heap := s1.heap.push (revObj a ((its.toArray.size : Int) - 1)) }) (I1.ok.hd hc) ⟨_, Heap.get?_push_size _ rfl, rfl, rfl⟩ (hl.push _) (Nat.ne_of_lt (Heap.lt_size hol)) size fun h' tk acc c hk hS hi => ?_
  have big : s1.heap.objs.size < (s1.heap.push (revObj a ((its.toArray.size : Int) - 1))).objs.size := by rw [Heap.size_push]; exact Nat.lt_succ_self _
  generalize (s1.heap.push (revObj a ((its.toArray.size : Int) - 1))).objs.size = S at hS big ⊢
  have nS : H1 S = none := I1.hok.fresh (Nat.le_of_lt big)
  have new : ObjOk X.prog X.w (upd H1 S (.lst xs.reverse)) h' S (.lst xs.reverse) := ⟨by rw [List.length_reverse]; exact hz, acc.toList, c, RT.vals_rev rv hi, by rw [Array.toArray_toList]; exact hS⟩
  exact ⟨.ref S, upd H1 S (.lst xs.reverse), I1.laid (t' := tk) (fun b o e => hk b o (Nat.ne_of_lt (Heap.lt_size e)) (step b o e)) (Nat.le_of_lt big) new, rfl, q S nS⟩
end
end DX

/-! set(a list of whole numbers), sorted or counted at once. -/
namespace DX
open PySem PySem.Spec PyProof.Rows L2
/-- the set as it is made, empty -/
abbrev set0 (w : World) : Obj := { cls := .type "set", dict := none, data := .set #[] 0 (.fresh 0 0 (!w.params.followText "set-order")) }
section
variable {P : Program} {w : World} {A : Around} {E : Value → Shared → Prop} {s : Shared}
/-- what set.__init__ leaves: the same state but the heap and the numbering of values -/
def Filled (w : World) (s : Shared) (ns : List Int) (s2 : Shared) : Prop :=
  ∃ h' tk c, s2 = { s with heap := h', toks := tk } ∧ SetR w h' s.heap.objs.size (fun j => decide (j ∈ ns)) c ∧ c ≤ ns.length ∧ ∀ b o, s.heap.get? b = some o → h'.get? b = some o
theorem fill_set {l : Addr} {items : Array Value} {ns : List Int} (hh : A.handled = none) (hl : s.heap.IsList l items) (hi : IntsAre items.toList ns) (hb : ns.length + 1 < scanBound) :
    wpAny (model P w) A.in1.in1 (Builtin.«set.__init__» ⟨[.ref s.heap.objs.size, .ref l], []⟩)
      (fun fin s' => match fin with | .done f => wants (fun r s2 => r = .none ∧ Filled w s ns s2) E (.ok f) s' | .again c' => c'.quiet = true ∧ codeAny (model P w) A.in1 c' (wants (fun r s2 => r = .none ∧ Filled w s ns s2) E) s')
      (fun e s' => wants (fun r s2 => r = .none ∧ Filled w s ns s2) E (.error e) s') { s with heap := s.heap.push (set0 w) } := by
  have many : items.size = ns.length := by
    rw [← Array.length_toList]
    exact IntsAre.length hi
  have old : ∀ b o, s.heap.get? b = some o → b ≠ s.heap.objs.size := fun b o e => Nat.ne_of_lt (Heap.lt_size e)
  have gS : (s.heap.push (set0 w)).get? s.heap.objs.size = some (set0 w) := Heap.get?_push_size _ rfl
  have tS : Shared.TypeIs { s with heap := s.heap.push (set0 w) } (.ref s.heap.objs.size) "set" := ⟨_, gS, rfl⟩
  obtain ⟨⟨c1, d1, dt, sl⟩, gl, k1, nl, k2⟩ := hl
  simp only at k1 k2
  subst k1
  subst k2
  have ll : l < s.heap.objs.size := Heap.lt_size gl
  have gl' : (s.heap.push (set0 w)).get? l = some { cls := .type "list", dict := d1, data := .seq items nl, slots := sl } := Heap.get?_push_of_some _ gl
  have isl : (s.heap.push (set0 w)).IsList l items := ⟨_, gl', rfl, nl, rfl⟩
  have q1 := F.sub_list_set
  have q2 := F.sub_list_frozenset
  have q3 : (Value.type "list" == Value.type "dict") = false := by decide
  unfold Builtin.«set.__init__» noKeywords Builtin.Frozenset.updateFrom
  generalize walker : pyIter = PI
  wp_walk
  subst walker
  refine wpAny_pyIter_list isl (wpAny_bind (wpAny_runValue ?_))
  have hd : A.in1.in1.in1.handled = none := by simp [hh]
  have sz : (s.heap.push (set0 w)).objs.size = s.heap.objs.size + 1 := Heap.size_push ..
  have m1 : l ≠ (s.heap.push (set0 w)).objs.size := by rw [sz]; exact Nat.ne_of_lt (Nat.lt_succ_of_lt ll)
  have m2 : s.heap.objs.size ∉ [(s.heap.push (set0 w)).objs.size, l] := by
    rw [sz]
    intro z
    rcases List.mem_cons.mp z with z | z
    · exact absurd z (Nat.ne_of_lt (Nat.lt_succ_self _))
    · exact absurd (List.mem_singleton.mp z) (Nat.ne_of_gt ll)
  have val : ∀ (i : Nat) (v : Value), items[i]? = some v → ∃ k t, ns[i]? = some k ∧ v = .int k t := fun i v hv => by
    have lt : i < ns.length := by rw [← many]; exact (Array.getElem?_eq_some_iff.mp hv).1
    obtain ⟨t, e⟩ := IntsAre.int_at hi i v (by rw [Array.getElem?_toList]; exact hv)
    exact ⟨ns[i], t, List.getElem?_eq_getElem lt, by rw [e, List.getD_eq_getElem?_getD, List.getElem?_eq_getElem lt] <;> rfl⟩
  have begun : ((s.heap.push (set0 w)).push { cls := .type "list_iterator", data := .fields #[.ref l, .int 0 0] }).get? s.heap.objs.size = some (set0 w) := Heap.get?_push_of_some _ gS
  refine set_update_ints ((Walks.list hd _ l m1 items).toS) s.heap.objs.size m2 ns many hb val (items.size - 0) 0 _ (by omega) (Nat.zero_le _) ⟨⟨_, Heap.get?_push_size _ rfl, rfl, rfl⟩, isl.push _⟩ ⟨0, Nat.le_refl 0, setR_new_at begun⟩ fun s' c' mv lec hS' => ?_
  obtain ⟨h', g', dr', tk', os'⟩ := s'
  obtain rfl : g' = s.gens := mv.gens
  obtain rfl : dr' = s.drawn := mv.drawn
  obtain rfl : os' = s.os := mv.os
  show wpAny _ _ _ _ _ _
  refine wpAny_pure ?_
  show wpAny _ _ (ret Value.none) _ _ _
  rw [many] at lec
  refine wpAny_pure ⟨rfl, h', tk', c', rfl, hS', lec, fun b o e => mv.heap b o (fun z => ?_) (Heap.get?_push_of_some _ (Heap.get?_push_of_some _ e))⟩
  have lb := Heap.lt_size e
  rcases List.mem_cons.mp z with z | z
  · exact absurd z (Nat.ne_of_lt lb)
  · rw [List.mem_singleton, sz] at z
    exact absurd z (Nat.ne_of_lt (Nat.lt_succ_of_lt lb))
theorem set_list {l : Addr} {items : Array Value} {ns : List Int} {Q : Value → Shared → Prop} (hh : A.handled = none) (hl : s.heap.IsList l items) (hi : IntsAre items.toList ns) (hb : ns.length + 1 < scanBound)
    (h : ∀ s2, Filled w s ns s2 → Q (.ref s.heap.objs.size) s2) : wpAny (model P w) A (call (.type "set") [.ref l]) Q E s := by
  obtain ⟨c, tl, hmro⟩ := F.called_set.mro
  have f1 := F.called_set.made
  have f2 := F.called_set.sub
  have f3 := F.called_set.notType
  have f4 := F.called_set.canCreate
  have f5 := F.typeCall_set_1 (.ref l)
  refine wpAny_call (codeAny_of_tree ?_)
  show wpAny _ _ (callAny (.type "set") _) _ _ _
  refine wpAny_pure ⟨Code.quiet_builtin _ (by decide +kernel), codeAny_builtin F.entry_type_call ?_⟩
  rw [Around.under_plain (weight_type_call_type "set" [.ref l] []) rfl]
  repeat any_goals first | assumption | wp_step
  refine codeAny_mono (code_set_led1 (.ref l) (E := E) (Q₁ := fun v s1 => v = .ref s.heap.objs.size ∧ s1 = { s with heap := s.heap.push (set0 w) }) ⟨rfl, rfl⟩) fun r s1 hr => ?_
  match r, hr with
  | .error _, hr => exact hr
  | .ok .next, hr => exact hr.elim
  | .ok .brk, hr => exact hr.elim
  | .ok .cont, hr => exact hr.elim
  | .ok (.ret v), hr =>
    obtain ⟨rfl, rfl⟩ := hr
    have tS : Shared.TypeIs { s with heap := s.heap.push (set0 w) } (.ref s.heap.objs.size) "set" := ⟨_, Heap.get?_push_size _ rfl, rfl⟩
    have i1 := F.called_set.init.lookup
    have i2 := F.called_set.init.bind (.ref s.heap.objs.size)
    repeat any_goals first | assumption | wp_step
    refine codeAny_mono (codeAny_call_builtin (R := wants (fun r s2 => r = .none ∧ Filled w s ns s2) E) F.called_set.init.plain F.entry_set_init (check_set_init_1 tS (fill_set (E := E) hh hl hi hb))) fun r s2 hr => ?_
    match r, hr with
    | .error _, hr => exact hr
    | .ok .next, hr => exact hr.elim
    | .ok .brk, hr => exact hr.elim
    | .ok .cont, hr => exact hr.elim
    | .ok (.ret v), hr =>
      obtain ⟨rfl, hF⟩ := hr
      repeat any_goals first | assumption | wp_step
      exact h s2 hF
end
section
variable {X : Cx}
theorem call_setL : X.calm = true → CallR X (.type "set") (fun xs H Q => ∃ (l : Addr) (ns : List Int), xs = [V.ref l] ∧ SqL X.K H l (ns.map V.int) ∧ ns.length < 64 ∧ ∀ p c, H p = none → c ≤ ns.length → Q (.ref p) (upd H p (SetO X.w p (fun j => decide (j ∈ ns)) c))) := by
  intro hc pins s σ H xs us Q I r h
  obtain ⟨l, ns, rfl, hq, hn, q⟩ := h
  rw [Vals.ref1 r]
  obtain ⟨its, rv, pl, hz⟩ := I.list hq
  refine set_list (I.ok.hd hc) pl.isList (ns := ns) (by simpa using rv.ints) (by unfold scanBound; omega) fun s2 ⟨h', tk, c, e, R, hc', k⟩ => ?_
  subst e
  have nS : H s.heap.objs.size = none := I.hok.fresh (Nat.le_refl _)
  exact ⟨.ref _, _, I.laid (t' := tk) k (Nat.le_refl _) (setO_new R), rfl, q _ c nS hc'⟩
theorem call_lenSet : CallR X (.builtin "len") (fun xs H Q => ∃ (a : Addr) (S : Int → Bool) (n : Nat), xs = [V.ref a] ∧ H a = some (SetO X.w a S n) ∧ ∀ ks : List Int, ks.Nodup → (∀ k, S k = true ↔ k ∈ ks) → ks.length = n → Q (.int n) H) := by
  intro pins s σ H xs us Q I r h
  obtain ⟨a, S, n, rfl, ha, q⟩ := h
  rw [Vals.ref1 r]
  obtain ⟨o, es, ep, t, h1, h2, h3, _, nd, hm, hb, hf, hn, _⟩ := setO_get I ha
  refine call_len_set h1 h2 h3 hf (by unfold scanBound at hb; omega) ?_
  rw [hn]
  exact ⟨.int n, H, I.tok _, ⟨_, rfl⟩, q _ nd hm (by rw [List.length_map, Array.length_toList]; exact hn)⟩
end
end DX
namespace DL
open PySem L2 DX
/-! ### each number once, rising -/
def insU (x : Int) : List Int → List Int
  | [] => [x]
  | y :: r => if x < y then x :: y :: r else if x = y then y :: r else y :: insU x r
def usort : List Int → List Int
  | [] => []
  | x :: r => insU x (usort r)
theorem mem_insU {x z : Int} : ∀ {l : List Int}, z ∈ insU x l ↔ z = x ∨ z ∈ l
  | [] => by simp [insU]
  | y :: r => by
    unfold insU
    split
    · simp
    · split
      · rename_i h; subst h; simp
      · rw [List.mem_cons, mem_insU, List.mem_cons]
        constructor
        · rintro (h | h | h)
          · exact .inr (.inl h)
          · exact .inl h
          · exact .inr (.inr h)
        · rintro (h | h | h)
          · exact .inr (.inl h)
          · exact .inl h
          · exact .inr (.inr h)
theorem insU_lt {x : Int} : ∀ {l : List Int}, l.Pairwise (· < ·) → (insU x l).Pairwise (· < ·)
  | [], _ => List.pairwise_singleton _ _
  | y :: r, h => by
    have hc := List.pairwise_cons.mp h
    unfold insU
    split
    · rename_i hxy
      refine List.pairwise_cons.mpr ⟨fun z hz => ?_, h⟩
      rcases List.mem_cons.mp hz with e | hz
      · rw [e]; exact hxy
      · have := hc.1 z hz; omega
    · split
      · exact h
      · refine List.pairwise_cons.mpr ⟨fun z hz => ?_, insU_lt hc.2⟩
        rcases mem_insU.mp hz with e | hz
        · rw [e]; omega
        · exact hc.1 z hz
theorem mem_usort {z : Int} : ∀ {l : List Int}, z ∈ usort l ↔ z ∈ l
  | [] => by simp [usort]
  | x :: r => by unfold usort; rw [mem_insU, mem_usort, List.mem_cons]
theorem usort_lt : ∀ l : List Int, (usort l).Pairwise (· < ·)
  | [] => .nil
  | x :: r => insU_lt (usort_lt r)
theorem rising_uniq : ∀ {l m : List Int}, l.Pairwise (· < ·) → m.Pairwise (· < ·) → (∀ z, z ∈ l ↔ z ∈ m) → l = m
  | [], [], _, _, _ => rfl
  | [], y :: m, _, _, h => absurd ((h y).mpr List.mem_cons_self) (by simp)
  | x :: l, [], _, _, h => absurd ((h x).mp List.mem_cons_self) (by simp)
  | x :: l, y :: m, h1, h2, h => by
    have a1 := (List.pairwise_cons.mp h1).1
    have a2 := (List.pairwise_cons.mp h2).1
    have e : x = y := by
      rcases List.mem_cons.mp ((h x).mp List.mem_cons_self) with e | hx
      · exact e
      · rcases List.mem_cons.mp ((h y).mpr List.mem_cons_self) with e | hy
        · exact e.symm
        · have := a1 y hy; have := a2 x hx; omega
    subst e
    rw [rising_uniq (List.pairwise_cons.mp h1).2 (List.pairwise_cons.mp h2).2 fun z => ?_]
    constructor
    · intro hz
      rcases List.mem_cons.mp ((h z).mp (List.mem_cons_of_mem _ hz)) with e | q
      · have := a1 z hz; omega
      · exact q
    · intro hz
      rcases List.mem_cons.mp ((h z).mpr (List.mem_cons_of_mem _ hz)) with e | q
      · have := a2 z hz; omega
      · exact q
theorem nodup_lt {l : List Int} (h : l.Pairwise (· < ·)) : l.Nodup := h.imp fun h e => by omega
section
variable {X : Cx} {E : XK} {k : Nat}
def fSoS : PD → Option Rs
  | .list xs => (asInts xs).bind fun ns => if ns.length < 64 then some (.o (.lst ((usort ns).map .int))) else none
  | _ => none
def fLeS : PD → Option Rs
  | .list xs => (asInts xs).bind fun ns => if ns.length < 64 then some (.d (.int (usort ns).length)) else none
  | _ => none
def mS1 (f : PD → Option Rs) (a : M PD) : M Rs := mb a fun x => ml (f x)
theorem set_there {F H : Hp} {o : HO} {p : Addr} (e : Same F H) (n : H p = none) (ho : ∀ xs, o = .tup xs → Ints xs → False := by intro _ z; cases z) : Grow F H F (upd H p o) := .newO e n ho
theorem dr_sortedSet {p p2 pos pos2 : Pos} {e : Expr} {m : M PD} (c : Cok X E k) (hm : X.mg "sorted" = none) (hm2 : X.mg "set" = none) (ha : DE X E e m) (hg : Gl X "sorted" := by rfl) (hg2 : Gl X "set" := by rfl)
    (he : starEach [e] X.env = (false, eval e X.env) :: starEach [] X.env := by rfl)
    (he2 : starEach [.Call (.Name "set" p2) [e] [] pos2] X.env = (false, eval (.Call (.Name "set" p2) [e] [] pos2) X.env) :: starEach [] X.env := by rfl) :
    DR X E (.Call (.Name "sorted" p) [.Call (.Name "set" p2) [e] [] pos2] [] pos) (mS1 fSoS m) := by
  obtain ⟨t, h1, h2⟩ := ha
  refine ⟨_, pe_callB (cr_sortedSet c.calm) hg hm (by decide +kernel) (pa_cons (pe_callTy (call_setL c.calm) hg2 hm2 (by decide +kernel) (pa_cons h1 pa_nil he) (by decide) (by decide) he rfl) pa_nil he2) (by decide) (by decide) he2 rfl, fun F0 H0 F H σ ρ q Q R h p => ?_⟩
  rcases mb_ok h with ⟨x, e1, e2⟩ | ⟨c, e1, e2⟩
  · refine h2 F0 H0 F H σ ρ _ _ R e1 fun v F' H' g d => ?_
    unfold ml fSoS at e2
    obtain ⟨z, ez, rfl⟩ := Option.map_eq_some_iff.mp e2
    split at ez
    · obtain ⟨ns, q1, q2⟩ := Option.bind_eq_some_iff.mp ez
      split at q2
      · rename_i hz
        cases q2
        cases d with
        | lst k1 k2 =>
          rw [asInts_eq q1] at k2
          have := DaAll.ints ns k2
          subst this
          refine ⟨_, ns, rfl, SqL.of (g.fh _ _ k1), hz, fun a cc na hcc => ?_⟩
          refine ⟨a, _, cc, rfl, upd_same, by omega, fun ns' b hs hmem hl nb => ?_⟩
          have eq : ns' = usort ns := rising_uniq hs (usort_lt ns) fun z => by rw [hmem, mem_usort, decide_eq_true_eq]
          subst eq
          have nb' : H' b = none := by
            have ne : b ≠ a := fun z => by rw [z, upd_same] at nb; cases nb
            rwa [upd_ne ne] at nb
          have g2 := g.trans ((set_there g.fh na).trans (.newO (o := .lst ((usort ns).map V.int)) (g.fh.trans (Same.upd_new na)) nb))
          refine p _ F' _ g2 ⟨[b], ⟨b, _, rfl, rfl, upd_same, DaAll.of_ints _⟩, fun z hz => ?_⟩
          have e' : z = b := by simpa using hz
          subst e'
          exact ⟨g.h.free nb', g.fh.free nb', by rw [upd_same]; simp⟩
      · cases q2
    · cases ez
  · cases e2
    exact h2 F0 H0 F H σ ρ _ _ R e1 fun F' H' g => p F' H' g
theorem dr_lenSet {p p2 pos pos2 : Pos} {e : Expr} {m : M PD} (c : Cok X E k) (hm : X.mg "len" = none) (hm2 : X.mg "set" = none) (ha : DE X E e m) (hg : Gl X "len" := by rfl) (hg2 : Gl X "set" := by rfl)
    (he : starEach [e] X.env = (false, eval e X.env) :: starEach [] X.env := by rfl)
    (he2 : starEach [.Call (.Name "set" p2) [e] [] pos2] X.env = (false, eval (.Call (.Name "set" p2) [e] [] pos2) X.env) :: starEach [] X.env := by rfl) :
    DR X E (.Call (.Name "len" p) [.Call (.Name "set" p2) [e] [] pos2] [] pos) (mS1 fLeS m) := by
  obtain ⟨t, h1, h2⟩ := ha
  refine ⟨_, pe_callB call_lenSet hg hm (by decide +kernel) (pa_cons (pe_callTy (call_setL c.calm) hg2 hm2 (by decide +kernel) (pa_cons h1 pa_nil he) (by decide) (by decide) he rfl) pa_nil he2) (by decide) (by decide) he2 rfl, fun F0 H0 F H σ ρ q Q R h p => ?_⟩
  rcases mb_ok h with ⟨x, e1, e2⟩ | ⟨c, e1, e2⟩
  · refine h2 F0 H0 F H σ ρ _ _ R e1 fun v F' H' g d => ?_
    unfold ml fLeS at e2
    obtain ⟨z, ez, rfl⟩ := Option.map_eq_some_iff.mp e2
    split at ez
    · obtain ⟨ns, q1, q2⟩ := Option.bind_eq_some_iff.mp ez
      split at q2
      · rename_i hz
        cases q2
        cases d with
        | lst k1 k2 =>
          rw [asInts_eq q1] at k2
          have := DaAll.ints ns k2
          subst this
          refine ⟨_, ns, rfl, SqL.of (g.fh _ _ k1), hz, fun a cc na hcc => ?_⟩
          refine ⟨a, _, cc, rfl, upd_same, fun ks nd hmem hl => ?_⟩
          have eq : cc = (usort ns).length := by
            rw [← hl]
            exact ((List.perm_ext_iff_of_nodup nd (nodup_lt (usort_lt ns))).mpr fun z => by rw [← hmem z, mem_usort, decide_eq_true_eq]).length_eq
          subst eq
          exact p _ F' _ (g.trans (set_there g.fh na)) (.int _)
      · cases q2
    · cases ez
  · cases e2
    exact h2 F0 H0 F H σ ρ _ _ R e1 fun F' H' g => p F' H' g
end
end DL

namespace DX
open PySem PySem.Spec PyProof.Rows L2
/-- what is walked: a list, a tuple or a text -/
def iAny (K : PySem.W.Frag) (tl : TE) : TI := fun σ H R => tl σ H fun x H1 => (∃ a, x = .ref a ∧ (∃ xs, SqL K H1 a xs) ∧ R (Itl K a) H1) ∨ (∃ a, x = .ref a ∧ (∃ xs, SqT K H1 a xs) ∧ R (Itt K a) H1) ∨ ∃ z, x = .str z ∧ R (Its z) H1
section
variable {X : Cx} {tg : Expr}
theorem pi_any {l : Expr} {tl : TE} (hl : PE X l tl) : PI X tg l (iAny X.K tl) := by
  refine ⟨fun pins s σ H R I h => thn (hl.run pins s σ H _ I h) fun v s1 ⟨x, H1, I1, r1, q1⟩ => ?_⟩
  rcases q1 with ⟨a, rfl, ⟨xs, hq⟩, q⟩ | ⟨a, rfl, ⟨xs, hq⟩, q⟩ | ⟨z, rfl, q⟩
  · cases r1
    obtain ⟨its, rv, pl, _⟩ := I1.list hq
    refine wpAny_pyIter_list pl.isList ?_
    exact pi_one (tk := s1.toks) I1 _ (turn_list a _) ⟨_, Heap.get?_push_size _ rfl, rfl, rfl⟩ q
  · cases r1
    obtain ⟨its, rv, pl, _⟩ := I1.tuple hq
    refine wpAny_pyIter_tuple (show s1.heap.IsTuple a its.toArray from pl) ?_
    exact pi_one (tk := s1.toks) I1 _ (turn_tuple a _) ⟨_, Heap.get?_push_size _ rfl, rfl, rfl⟩ q
  · obtain ⟨t, rfl⟩ := r1
    have go := fun (ty : String) (h : ty = "str_ascii_iterator" ∨ ty = "str_iterator") => turn_str (P := X.prog) (w := X.w) (K := X.K) (tg := tg) s1.heap.objs.size z t ty h
    cases ha : z.cps.all (· < 128) with
    | false => exact wpAny_pyIter_wide ha (pi_one (tk := s1.toks) I1 _ (go _ (.inr rfl)) ⟨_, Heap.get?_push_size _ rfl, rfl, rfl⟩ q)
    | true => exact wpAny_pyIter_ascii ha (pi_one (tk := s1.toks) I1 _ (go _ (.inl rfl)) ⟨_, Heap.get?_push_size _ rfl, rfl, rfl⟩ q)
end
end DX

namespace DL
open PySem L2 DX
section
variable {X : Cx} {E : XK} {k : Nat}
/-! ### what is walked -/
def chars (z : Str) : List PD := z.cps.toList.map fun c => .str ⟨#[c]⟩
def asSeq : PD → Option (List PD)
  | .list xs => some xs
  | .tuple xs => some xs
  | .str z => some (chars z)
  | _ => none
def mSeq (m : M PD) : M (List PD) := mb m fun x => ml (asSeq x)
theorem DaAll.chars {K : PySem.W.Frag} {F : Hp} : ∀ (l : List Nat), DaAll K F (l.map fun c => V.str ⟨#[c]⟩) (l.map fun c => (PyData.str ⟨#[c]⟩ : PD))
  | [] => .nil
  | c :: l => .cons (.str _) (DaAll.chars l)
theorem di_any {tg e : Expr} {m : M PD} (h : DE X E e m) : DI X E tg e (mSeq m) := by
  obtain ⟨t, h1, h2⟩ := h
  refine ⟨_, pi_any h1, fun F0 H0 F H σ ρ q R' R h p => ?_⟩
  rcases mb_ok h with ⟨x, e1, e2⟩ | ⟨c, e1, e2⟩
  · refine h2 F0 H0 F H σ ρ _ _ R e1 fun v F' H' g d => ?_
    unfold ml asSeq at e2
    split at e2
    · cases e2
      cases d with
      | lst k1 k2 => exact .inl ⟨_, rfl, ⟨_, SqL.of (g.fh _ _ k1)⟩, p _ _ F' H' g k2 (walk_list.mono (fun H'' e => SqL.of (e _ _ k1)) fun _ _ _ _ _ _ y => y)⟩
    · cases e2
      cases d with
      | tup k1 k2 => exact .inr (.inl ⟨_, rfl, ⟨_, SqT.of (g.fh _ _ k1)⟩, p _ _ F' H' g k2 (walk_tup.mono (fun H'' e => SqT.of (e _ _ k1)) fun _ _ _ _ _ _ y => y)⟩)
    · cases e2
      cases d
      rename_i z
      refine .inr (.inr ⟨z, rfl, p _ (z.cps.toList.map fun c => V.str ⟨#[c]⟩) F' H' g (DaAll.chars _) ?_⟩)
      have W := (walk_str (z := z)).mono (G' := fun H'' => Same F' H'') (Y' := YAt (z.cps.toList.map fun c => V.str ⟨#[c]⟩)) (fun _ _ => trivial) fun i H x H' _ _ y => by
        obtain ⟨rfl, c, ec, rfl⟩ := y
        refine ⟨rfl, ?_⟩
        rw [List.getElem?_map, Array.getElem?_toList, ec]
        rfl
      rw [List.length_map, Array.length_toList]
      exact W
    · cases e2
  · cases e2
    exact h2 F0 H0 F H σ ρ _ _ R e1 fun F' H' g => p F' H' g
/-- the numbers a, a + 1, .. below b -/
def rngI (a b : Int) : List Int := (List.range (b - a).toNat).map fun (i : Nat) => a + (i : Int)
def small (a : Int) : Bool := decide (-1000000 ≤ a) && decide (a ≤ 1000000)
def asRng1 : List PD → Option (List PD)
  | [.int b] => if small b = true then some ((rngI 0 b).map .int) else none
  | _ => none
def asRng2 : List PD → Option (List PD)
  | [.int a, .int b] => if (small a && small b) = true then some ((rngI a b).map .int) else none
  | _ => none
/-- a, a - 1, .. above b -/
def dwnI (a b : Int) : List Int := (List.range (a - b).toNat).map fun (i : Nat) => a - (i : Int)
def asRng3 : List PD → Option (List PD)
  | [.int a, .int b, .int (.negSucc 0)] => if (small a && small b) = true then some ((dwnI a b).map .int) else none
  | _ => none
def mRng (f : List PD → Option (List PD)) (m : M (List PD)) : M (List PD) := mb m fun xs => ml (f xs)
theorem small_ok {a : Int} (h : small a = true) : -(2 ^ 62) ≤ a ∧ a < 2 ^ 62 := by
  unfold small at h
  simp only [Bool.and_eq_true, decide_eq_true_eq] at h
  omega
theorem range_walk {F' : Hp} {a : Int} {n : Nat} {vs : List V} (hv : vs = (List.range n).map fun (i : Nat) => V.int (a + (i : Int))) : Walk (Itr a n) vs.length (fun H'' => Same F' H'') (YAt vs) := by
  have W := (walk_range (lo := a) (n := n)).mono (G' := fun H'' => Same F' H'') (Y' := YAt vs) (fun _ _ => trivial) fun i H x H' hi _ y => by
    obtain ⟨rfl, rfl⟩ := y
    refine ⟨rfl, ?_⟩
    rw [hv, List.getElem?_map, List.getElem?_range hi]
    rfl
  rw [hv, List.length_map, List.length_range]
  rw [hv] at W
  exact W
theorem range_walkC {F' : Hp} {a : Int} {n : Nat} {vs : List V} (hv : vs = (List.range n).map fun (i : Nat) => V.int (a - (i : Int))) : Walk (Itc a (-1) n) vs.length (fun H'' => Same F' H'') (YAt vs) := by
  have W := (walk_rangeC (lo := a) (c := -1) (n := n)).mono (G' := fun H'' => Same F' H'') (Y' := YAt vs) (fun _ _ => trivial) fun i H x H' hi _ y => by
    obtain ⟨rfl, rfl⟩ := y
    refine ⟨rfl, ?_⟩
    rw [hv, List.getElem?_map, List.getElem?_range hi]
    show some (V.int (a - (i : Int))) = some (V.int (a + (i : Int) * -1))
    rw [show a - (i : Int) = a + (i : Int) * -1 by omega]
  rw [hv, List.length_map, List.length_range]
  rw [hv] at W
  exact W
theorem da_range {K : PySem.W.Frag} {F : Hp} (l : List Int) : DaAll K F (l.map V.int) (l.map PyData.int) := DaAll.of_ints l
section
variable {tg : Expr} {p pos : Pos}
theorem di_range1 {a : Expr} {m : M (List PD)} (hm : X.mg "range" = none) (ha : DA X E [a] m) (hg : Gl X "range" := by rfl) (hs : starEach [a] X.env = [(false, eval a X.env)] := by rfl) : DI X E tg (.Call (.Name "range" p) [a] [] pos) (mRng asRng1 m) := by
  obtain ⟨t, h1, h2⟩ := ha
  refine ⟨_, pi_range1 hg hm h1 hs, fun F0 H0 F H σ ρ q R' R h p => ?_⟩
  rcases mb_ok h with ⟨x, e1, e2⟩ | ⟨c, e1, e2⟩
  · refine h2 F0 H0 F H σ ρ _ _ R e1 fun vs F' H' g d => ?_
    unfold ml asRng1 at e2
    split at e2
    · split at e2
      · rename_i b hb
        cases e2
        cases d with
        | cons d1 d2 =>
          cases d2; cases d1
          obtain ⟨b1, b2⟩ := small_ok hb
          refine ⟨b, rfl, b1, b2, p _ _ F' H' g (da_range _) (range_walk ?_)⟩
          unfold rngI
          rw [List.map_map, Int.sub_zero]
          rfl
      · cases e2
    · cases e2
  · cases e2
    exact h2 F0 H0 F H σ ρ _ _ R e1 fun F' H' g => p F' H' g
theorem di_range2 {a b : Expr} {m : M (List PD)} (hm : X.mg "range" = none) (ha : DA X E [a, b] m) (hg : Gl X "range" := by rfl) (hs : starEach [a, b] X.env = [(false, eval a X.env), (false, eval b X.env)] := by rfl) (hs2 : starEach [b] X.env = [(false, eval b X.env)] := by rfl) :
    DI X E tg (.Call (.Name "range" p) [a, b] [] pos) (mRng asRng2 m) := by
  obtain ⟨t, h1, h2⟩ := ha
  refine ⟨_, pi_range2 hg hm h1 hs hs2, fun F0 H0 F H σ ρ q R' R h p => ?_⟩
  rcases mb_ok h with ⟨x, e1, e2⟩ | ⟨c, e1, e2⟩
  · refine h2 F0 H0 F H σ ρ _ _ R e1 fun vs F' H' g d => ?_
    unfold ml asRng2 at e2
    split at e2
    · split at e2
      · rename_i i j hb
        rw [Bool.and_eq_true] at hb
        cases e2
        cases d with
        | cons d1 d2 =>
          cases d2 with
          | cons d2 d3 =>
            cases d3; cases d1; cases d2
            obtain ⟨b1, b2⟩ := small_ok hb.1
            obtain ⟨b3, b4⟩ := small_ok hb.2
            refine ⟨i, j, rfl, ⟨b1, b2, b3, b4⟩, p _ _ F' H' g (da_range _) (range_walk ?_)⟩
            unfold rngI
            rw [List.map_map]
            rfl
      · cases e2
    · cases e2
  · cases e2
    exact h2 F0 H0 F H σ ρ _ _ R e1 fun F' H' g => p F' H' g
theorem di_range3 {a b c : Expr} {m : M (List PD)} (hm : X.mg "range" = none) (ha : DA X E [a, b, c] m) (hg : Gl X "range" := by rfl) (hs : starEach [a, b, c] X.env = (false, eval a X.env) :: starEach [b, c] X.env := by rfl) (hpl : (backTo pos (starEach [b, c] X.env)).any (·.1) = false := by rfl) :
    DI X E tg (.Call (.Name "range" p) [a, b, c] [] pos) (mRng asRng3 m) := by
  obtain ⟨t, h1, h2⟩ := ha
  refine ⟨_, pi_range3 hg hm h1 hs hpl, fun F0 H0 F H σ ρ q R' R h p => ?_⟩
  rcases mb_ok h with ⟨x, e1, e2⟩ | ⟨c, e1, e2⟩
  · refine h2 F0 H0 F H σ ρ _ _ R e1 fun vs F' H' g d => ?_
    unfold ml asRng3 at e2
    split at e2
    · split at e2
      · rename_i i j hb
        rw [Bool.and_eq_true] at hb
        cases e2
        cases d with
        | cons d1 d2 =>
          cases d2 with
          | cons d2 d3 =>
            cases d3 with
            | cons d3 d4 =>
              cases d4; cases d1; cases d2; cases d3
              obtain ⟨b1, b2⟩ := small_ok hb.1
              obtain ⟨b3, b4⟩ := small_ok hb.2
              refine ⟨i, j, -1, (i - j).toNat, rfl, RgC.neg b1 b2 b3 b4, p _ _ F' H' g (da_range _) (range_walkC ?_)⟩
              unfold dwnI
              rw [List.map_map]
              rfl
      · cases e2
    · cases e2
  · cases e2
    exact h2 F0 H0 F H σ ρ _ _ R e1 fun F' H' g => p F' H' g
def asRev : List PD → Option (List PD)
  | [.list xs] => some xs.reverse
  | _ => none
theorem di_reversed {a : Expr} {m : M (List PD)} (hm : X.mg "reversed" = none) (ha : DA X E [a] m) (hg : Gl X "reversed" := by rfl) (hs : starEach [a] X.env = [(false, eval a X.env)] := by rfl) : DI X E tg (.Call (.Name "reversed" p) [a] [] pos) (mRng asRev m) := by
  obtain ⟨t, h1, h2⟩ := ha
  refine ⟨_, pi_reversed hg hm h1 hs, fun F0 H0 F H σ ρ q R' R h p => ?_⟩
  rcases mb_ok h with ⟨x, e1, e2⟩ | ⟨c, e1, e2⟩
  · refine h2 F0 H0 F H σ ρ _ _ R e1 fun vs F' H' g d => ?_
    unfold ml asRev at e2
    split at e2
    · cases e2
      cases d with
      | cons d1 d2 =>
        cases d2
        cases d1 with
        | lst k1 k2 =>
          rename_i a us
          refine ⟨_, us, rfl, SqL.of (g.fh _ _ k1), p _ us.reverse F' H' g k2.reverse ?_⟩
          have W := (walk_rev (K := X.K) (a := a) (xs := us)).mono (G' := fun H'' => Same F' H'') (Y' := YAt us.reverse) (fun _ e => SqL.of (e _ _ k1)) fun i H x H' hi _ y =>
            ⟨y.1, by rw [List.getElem?_reverse hi]; exact y.2⟩
          rw [List.length_reverse]
          exact W
    · cases e2
  · cases e2
    exact h2 F0 H0 F H σ ρ _ _ R e1 fun F' H' g => p F' H' g
end
/-- a target of a comprehension -/
theorem pg_own {i : Nat} {x : Str} {pos : Pos} (nd : X.N.Nodup) (hi : X.N[i]? = some x := by rfl) (hx : Loc X.env.scope x := by first | exact Or.inl rfl | exact Or.inr rfl)
    (hf : X.fn x = true ∨ X.env.scope.names.lookup x = some .local := by first | exact .inl rfl | exact .inr rfl) : PG X (.Name x pos) (gName i) := pg_name nd hi hx hf

/-! ### list(range(..)), list(reversed(..)) -/
def fLR (f : List PD → Option (List PD)) : List PD → Option Rs := fun xs => (f xs).bind fun ys => some (.o (.lst ys))
def mLR (m : M PD) : M Rs := mb m fun x => ml ((asRng1 [x]).map fun ys => .o (.lst ys))
theorem dr_listRg {p p2 pos pos2 : Pos} {e : Expr} {m : M PD} (c : Cok X E k) (hm : X.mg "list" = none) (hm2 : X.mg "range" = none) (ha : DE X E e m) (hg : Gl X "list" := by rfl) (hg2 : Gl X "range" := by rfl)
    (he : starEach [e] X.env = (false, eval e X.env) :: starEach [] X.env := by rfl)
    (he2 : starEach [.Call (.Name "range" p2) [e] [] pos2] X.env = (false, eval (.Call (.Name "range" p2) [e] [] pos2) X.env) :: starEach [] X.env := by rfl) :
    DR X E (.Call (.Name "list" p) [.Call (.Name "range" p2) [e] [] pos2] [] pos) (mLR m) := by
  obtain ⟨t, h1, h2⟩ := ha
  refine ⟨_, pe_listRg c.calm hg hm (prg_1 hg2 hm2 h1 he) he2, fun F0 H0 F H σ ρ q Q R h p => ?_⟩
  rcases mb_ok h with ⟨x, e1, e2⟩ | ⟨c, e1, e2⟩
  · refine h2 F0 H0 F H σ ρ _ _ R e1 fun v F' H' g d => ?_
    unfold ml asRng1 at e2
    obtain ⟨z, ez, rfl⟩ := Option.map_eq_some_iff.mp e2
    obtain ⟨ys, ey, rfl⟩ := Option.map_eq_some_iff.mp ez
    split at ey
    · split at ey
      · rename_i b hx hb
        cases hx
        cases ey
        cases d
        have hb2 := hb
        unfold small at hb2
        simp only [Bool.and_eq_true, decide_eq_true_eq] at hb2
        refine ⟨b, rfl, ⟨by omega, by omega, by omega, by omega, by omega⟩, fun a na => ?_⟩
        have e : rgV 0 b = (rngI 0 b).map V.int := by
          unfold rgV rngI
          rw [List.map_map]
          rfl
        rw [e]
        exact new_lst g.fh na (DaAll.of_ints _) fun u F2 H2 g2 d2 => p u F2 H2 (g.trans g2) (d2.older g.h)
      · cases ey
    · cases ey
  · cases e2
    exact h2 F0 H0 F H σ ρ _ _ R e1 fun F' H' g => p F' H' g
def mRev (m : M PD) : M Rs := mb m fun x => ml ((asRev [x]).map fun ys => .o (.lst ys))
theorem dr_lstRev {p p2 pos pos2 : Pos} {e : Expr} {m : M PD} (c : Cok X E k) (hm : X.mg "list" = none) (hm2 : X.mg "reversed" = none) (ha : DE X E e m) (hg : Gl X "list" := by rfl) (hg2 : Gl X "reversed" := by rfl)
    (he : starEach [e] X.env = (false, eval e X.env) :: starEach [] X.env := by rfl)
    (he2 : starEach [.Call (.Name "reversed" p2) [e] [] pos2] X.env = (false, eval (.Call (.Name "reversed" p2) [e] [] pos2) X.env) :: starEach [] X.env := by rfl) :
    DR X E (.Call (.Name "list" p) [.Call (.Name "reversed" p2) [e] [] pos2] [] pos) (mRev m) := by
  obtain ⟨t, h1, h2⟩ := ha
  refine ⟨_, pe_lstRev c.calm hg hm hg2 hm2 h1 he he2, fun F0 H0 F H σ ρ q Q R h p => ?_⟩
  rcases mb_ok h with ⟨x, e1, e2⟩ | ⟨c, e1, e2⟩
  · refine h2 F0 H0 F H σ ρ _ _ R e1 fun v F' H' g d => ?_
    unfold ml asRev at e2
    obtain ⟨z, ez, rfl⟩ := Option.map_eq_some_iff.mp e2
    obtain ⟨ys, ey, rfl⟩ := Option.map_eq_some_iff.mp ez
    split at ey
    · rename_i xs hx
      cases hx
      cases ey
      cases d with
      | lst k1 k2 => exact ⟨_, _, rfl, SqL.of (g.fh _ _ k1), fun a na => new_lst g.fh na k2.reverse fun u F2 H2 g2 d2 => p u F2 H2 (g.trans g2) (d2.older g.h)⟩
    · cases ey
  · cases e2
    exact h2 F0 H0 F H σ ρ _ _ R e1 fun F' H' g => p F' H' g

/-! ### texts by their methods -/
def asStrs : List PD → Option (List Str)
  | [] => some []
  | .str z :: r => (asStrs r).map (z :: ·)
  | _ :: _ => none
theorem asStrs_map : ∀ ns : List Str, asStrs (ns.map PyData.str) = some ns
  | [] => rfl
  | n :: ns => by show (asStrs (ns.map PyData.str)).map (n :: ·) = _; rw [asStrs_map ns]; rfl
theorem asStrs_eq : ∀ {ds : List PD} {ns : List Str}, asStrs ds = some ns → ds = ns.map PyData.str
  | [], ns, h => by cases h; rfl
  | d :: ds, ns, h => by
    unfold asStrs at h
    split at h
    · rename_i a b; cases b
    · rename_i i r heq
      cases heq
      obtain ⟨r', e, rfl⟩ := Option.map_eq_some_iff.mp h
      rw [asStrs_eq e]; rfl
    · cases h
def asT : PD → Option Str
  | .str a => some a
  | _ => none
def mM1 (f : Str → PD → Option Rs) (a b : M PD) : M Rs := mb a fun x => mb (ml (asT x)) fun z => mb b fun y => ml (f z y)
def SndM (K : PySem.W.Frag) (r : V → List V → Hp → VK → Prop) (f : Str → PD → Option Rs) : Prop := ∀ F H a w y z Q, Same F H → Da K F w y → f a y = some z → (∀ u F' H', Grow F H F' H' → ResAt K H F' H' u z → Q u H') → r (.str a) [w] H Q
section
variable {o e : Expr} {mo me : M PD} {apos pos : Pos}
theorem dr_m1 {id : String} {name : Str} {r : V → List V → Hp → VK → Prop} {f : Str → PD → Option Rs} (slot : Slot "str" name id) (ty : typeOf (.builtin id) = pure (.type "method_descriptor")) (rule : MtR X id r) (hr : SndM X.K r f) (ho : DE X E o mo) (he : DE X E e me)
    (hs : starEach [e] X.env = [(false, eval e X.env)] := by rfl) (hbase : attributeBase o name X.env (eval o X.env) = eval o X.env := by rfl) (hline : (apos.endLine == pos.line) = true := by rfl) :
    DR X E (.Call (.Attribute o name apos) [e] [] pos) (mM1 f mo me) := by
  obtain ⟨to, h1, h2⟩ := ho
  obtain ⟨te, h3, h4⟩ := he
  refine ⟨_, pe_m1 slot ty rule h1 h3 hs hbase hline, fun F0 H0 F H σ ρ q Q R h p => ?_⟩
  rcases mb_ok h with ⟨x, e1, e2⟩ | ⟨c, e1, e2⟩
  · refine h2 F0 H0 F H σ ρ _ _ R e1 fun v F' H' g d => ?_
    rcases mb_ok e2 with ⟨a, e3, e4⟩ | ⟨c, e3, e4⟩
    · unfold ml at e3
      obtain ⟨a', ea, eq⟩ := Option.map_eq_some_iff.mp e3
      cases eq
      unfold asT at ea
      split at ea
      · cases ea
        cases d
        refine ⟨⟨_, rfl⟩, ?_⟩
        rcases mb_ok e4 with ⟨y, e5, e6⟩ | ⟨c, e5, e6⟩
        · refine h4 F0 H0 F' H' σ ρ _ _ (R.grow g) e5 fun w F2 H2 g2 d2 => ?_
          unfold ml at e6
          obtain ⟨z, ez, rfl⟩ := Option.map_eq_some_iff.mp e6
          exact hr F2 H2 _ w y z Q g2.fh d2 ez fun u F3 H3 g3 d3 => p u F3 H3 ((g.trans g2).trans g3) (d3.older (g.trans g2).h)
        · cases e6
          exact h4 F0 H0 F' H' σ ρ _ _ (R.grow g) e5 fun F2 H2 g2 => p F2 H2 (g.trans g2)
      · cases ea
    · unfold ml at e3
      obtain ⟨a', ea, eq⟩ := Option.map_eq_some_iff.mp e3
      cases eq
  · cases e2
    exact h2 F0 H0 F H σ ρ _ _ R e1 fun F' H' g => p F' H' g
def fJoin (a : Str) : PD → Option Rs
  | .list xs => (asStrs xs).bind fun ys => if (ys.map (·.length)).sum + ys.length * a.length ≤ big then some (.d (.str (Txt.join a ys))) else none
  | _ => none
def fFind (a : Str) : PD → Option Rs
  | .str b => some (.d (.int (Txt.find a b)))
  | _ => none
def fSplit (a : Str) : PD → Option Rs
  | .str b => if (b.length == 0) = false ∧ a.length + 2 ≤ big then some (.o (.lst ((Txt.split a b).map .str))) else none
  | _ => none
theorem dr_join (ho : DE X E o mo) (he : DE X E e me) (hs : starEach [e] X.env = [(false, eval e X.env)] := by rfl) (hbase : attributeBase o "join" X.env (eval o X.env) = eval o X.env := by rfl) (hline : (apos.endLine == pos.line) = true := by rfl) :
    DR X E (.Call (.Attribute o "join" apos) [e] [] pos) (mM1 fJoin mo me) :=
  dr_m1 PySem.F.slot_str_join PySem.F.type_str_join mt_join (fun F H a w y z Q e d hf p => by
    unfold fJoin at hf
    split at hf
    · obtain ⟨ys, e1, e2⟩ := Option.bind_eq_some_iff.mp hf
      split at e2
      · rename_i hz
        cases e2
        cases d with
        | lst k1 k2 =>
          rw [asStrs_eq e1] at k2
          have := DaAll.strs ys k2
          subst this
          exact ⟨a, _, ys, rfl, rfl, .inl (SqL.of (e _ _ k1)), le_line hz, p _ F H (.refl e) (.str _)⟩
      · cases e2
    · cases hf) ho he hs hbase hline
theorem dr_find (ho : DE X E o mo) (he : DE X E e me) (hs : starEach [e] X.env = [(false, eval e X.env)] := by rfl) (hbase : attributeBase o "find" X.env (eval o X.env) = eval o X.env := by rfl) (hline : (apos.endLine == pos.line) = true := by rfl) :
    DR X E (.Call (.Attribute o "find" apos) [e] [] pos) (mM1 fFind mo me) :=
  dr_m1 PySem.F.slot_str_find PySem.F.type_str_find mt_find (fun F H a w y z Q e d hf p => by
    unfold fFind at hf
    split at hf
    · cases hf
      cases d
      exact ⟨a, _, rfl, rfl, p _ F H (.refl e) (.int _)⟩
    · cases hf) ho he hs hbase hline
theorem dr_split (ho : DE X E o mo) (he : DE X E e me) (hs : starEach [e] X.env = [(false, eval e X.env)] := by rfl) (hbase : attributeBase o "split" X.env (eval o X.env) = eval o X.env := by rfl) (hline : (apos.endLine == pos.line) = true := by rfl) :
    DR X E (.Call (.Attribute o "split" apos) [e] [] pos) (mM1 fSplit mo me) :=
  dr_m1 PySem.F.slot_str_split PySem.F.type_str_split mt_split (fun F H a w y z Q e d hf p => by
    unfold fSplit at hf
    split at hf
    · split at hf
      · rename_i hz
        cases hf
        cases d
        exact ⟨a, _, rfl, rfl, hz.1, le_line hz.2, fun l nl => new_lst e nl (DaAll.of_strs _) p⟩
      · cases hf
    · cases hf) ho he hs hbase hline
end

/-! ### isinstance against a built-in type -/
def tyN : PD → Option String
  | .none => some "NoneType"
  | .bool _ => some "bool"
  | .int _ => some "int"
  | .str _ => some "str"
  | .list _ => some "list"
  | .tuple _ => some "tuple"
  | .dict _ => none
theorem Da.ty {K : PySem.W.Frag} {F H : Hp} {v : V} {x : PD} {n : String} (e : Same F H) (d : Da K F v x) (h : tyN x = some n) : TyX K H v (.type n) := by
  cases d with
  | non => cases h; exact .base .non
  | bl b => cases h; exact .base (.bl b)
  | int b => cases h; exact .base (.int b)
  | str b => cases h; exact .base (.str b)
  | lst k1 k2 => cases h; exact .base (.lst (e _ _ k1))
  | tup k1 k2 => cases h; exact .base (.tup (e _ _ k1))
  | scr k1 k2 => cases h
  | dct k1 k2 k3 => cases h
  | shf k0 k1 k2 k3 k4 k5 => cases h
def fIsi (T : String) (x : PD) : Option PD := (tyN x).bind fun n => (kitB n T).map .bool
def mIsi (T : String) (m : M PD) : M PD := m1 (fIsi T) m
theorem de_isi {T : String} {tn : Str} {e : Expr} {m : M PD} {p p2 pos : Pos} (hm : X.mg "isinstance" = none) (hmT : X.mg tn = none) (hv : bootBuiltins tn = some (.type T)) (he : DE X E e m) (hg : Gl X "isinstance" := by rfl) (hgT : Gl X tn := by rfl)
    (hn : tn ≠ "__name__" := by decide) (hdb : (tn == ("__debug__" : Str)) = false := by decide)
    (hs : starEach [e, .Name tn p2] X.env = (false, eval e X.env) :: starEach [.Name tn p2] X.env := by rfl) (hs2 : starEach [.Name tn p2] X.env = (false, eval (.Name tn p2) X.env) :: starEach [] X.env := by rfl) (hpl : (backTo pos (starEach [.Name tn p2] X.env)).any (·.1) = false := by rfl) :
    DE X E (.Call (.Name "isinstance" p) [e, .Name tn p2] [] pos) (mIsi T m) := by
  obtain ⟨t, h1, h2⟩ := he
  refine ⟨_, pe_callB call_isi hg hm (by decide +kernel) (pa_cons h1 (pa_cons (pe_bltn (v := .ty T) hgT hmT hv rfl hn hdb) pa_nil hs2) hs) (by decide) (by decide) hs hpl, fun F0 H0 F H σ ρ q Q R h p => ?_⟩
  rcases mb_ok h with ⟨x, e1, e2⟩ | ⟨c, e1, e2⟩
  · refine h2 F0 H0 F H σ ρ _ _ R e1 fun v F' H' g d => ?_
    unfold ml fIsi at e2
    obtain ⟨z, ez, rfl⟩ := Option.map_eq_some_iff.mp e2
    obtain ⟨n, en, eb⟩ := Option.bind_eq_some_iff.mp ez
    obtain ⟨b, ek, rfl⟩ := Option.map_eq_some_iff.mp eb
    exact ⟨v, .ty T, .type n, .type T, b, rfl, .ty T, d.ty g.fh en, kit_ty ek, p _ F' H' g (.bl b)⟩
  · cases e2
    exact h2 F0 H0 F H σ ρ _ _ R e1 fun F' H' g => p F' H' g

/-! ### xs.index(y) of whole numbers -/
def fIndex : PD → PD → Option PD
  | .list xs, .int n => (asInts xs).bind fun ns => if ns.idxOf n < ns.length then some (.int (ns.idxOf n : Nat)) else none
  | _, _ => none

/-! ### what only a slot knows is looked at -/
def mPk {α : Type} (i : Nat) (m : M α) : M α := fun ρ => match ρ[i]? with
  | some (.o (.lst xs)) => m (ρ.set i (.d (.list xs)))
  | some (.o (.box x xs)) => m (ρ.set i (.d (.tuple [x, .list xs])))
  | some (.o (.shf n held)) => m (ρ.set i (.d (shfD n held)))
  | some (.o (.arr none os)) => m (ρ.set i (.d (.list (os.map Ob.dat))))
  | some (.o (.arr (some x) os)) => m (ρ.set i (.d (.tuple [x, .list (os.map Ob.dat)])))
  | some (.o (.par _ _ o)) => m (ρ.set i (.d o.dat))
  | _ => m ρ
/-- one proof for the objects that are looked at -/
theorem mPk_cases {α : Type} {i : Nat} {m : M α} {ρ : List Sl} {r : Ro α} (h : mPk i m ρ = some r) : (∃ s x, ρ[i]? = some (.o s) ∧ Rs.data (.o s) = some x ∧ m (ρ.set i (.d x)) = some r) ∨ m ρ = some r := by
  unfold mPk at h
  split at h
  · rename_i e; exact .inl ⟨_, _, e, rfl, h⟩
  · rename_i e; exact .inl ⟨_, _, e, rfl, h⟩
  · rename_i e; exact .inl ⟨_, _, e, rfl, h⟩
  · rename_i e; exact .inl ⟨_, _, e, rfl, h⟩
  · rename_i e; exact .inl ⟨_, _, e, rfl, h⟩
  · rename_i e; exact .inl ⟨_, _, e, rfl, h⟩
  · exact .inr h
/-- without what stands at ft -/
def cutH (F : Hp) (ft : List Addr) : Hp := fun b => if b ∈ ft then none else F b
theorem Grow.uncut {F H F1 F' H' : Hp} {ft : List Addr} (e : Same F H) (n : ∀ a ∈ ft, F a = none ∧ H a ≠ none ∧ ∀ xs, H a = some (.tup xs) → Ints xs → False) (q : ∀ b, b ∉ ft → F1 b = F b) (s : Same F F1) (g : Grow F1 H F' H') : Grow F H (cutH F' ft) H' := by
  refine ⟨fun b o h => ?_, g.h, fun b o h => ?_, fun b h => ?_, fun z b xs h i => ?_⟩
  · unfold cutH
    by_cases z : b ∈ ft
    · rw [(n b z).1] at h; cases h
    · rw [if_neg z]; exact g.f b o (s b o h)
  · unfold cutH at h
    by_cases z : b ∈ ft
    · rw [if_pos z] at h; cases h
    · rw [if_neg z] at h; exact g.fh b o h
  · unfold cutH
    by_cases z : b ∈ ft
    · rw [if_pos z, (n b z).1]
    · rw [if_neg z, g.n b h, q b z]
  · unfold cutH
    have k := g.t (fun c ys hc hy => s c _ (z c ys hc hy)) b xs h i
    by_cases y : b ∈ ft
    · exfalso
      obtain ⟨_, k2, k3⟩ := n b y
      cases w : H b with
      | none => exact k2 w
      | some o =>
        have := g.h b o w
        rw [h] at this
        cases this
        exact k3 xs w i
    · rw [if_neg y]; exact k
theorem Rel.peek {K : PySem.W.Frag} {F0 H0 F H : Hp} {σ : St} {ρ : List Sl} {i : Nat} {s : Ow} {x : PD} (R : Rel K F0 H0 F H σ ρ) (e : ρ[i]? = some (.o s)) (hx : Rs.data (.o s) = some x) :
    ∃ (F1 : Hp) (ft : List Addr), Rel K F0 H0 F1 H σ (ρ.set i (.d x)) ∧ Same F F1 ∧ (∀ a ∈ ft, F a = none ∧ H a ≠ none ∧ ∀ xs, H a = some (.tup xs) → Ints xs → False) ∧ ∀ b, b ∉ ft → F1 b = F b := by
  obtain ⟨v, ft, es, at_, ow, _, k⟩ := R.getO e
  have n : ∀ a ∈ ft, F a = none := fun a ha => (ow a ha).1
  exact ⟨_, ft, k _ _ (mixF_ge n) (mixF_le R.fh) (fun b hb => mixF_off hb) (at_.lay (mixF_ge n) (fun a ha => mixF_in ha) hx), mixF_ge n, fun b hb => ⟨n b hb, (ow b hb).2.2, at_.nofl b hb⟩, fun b hb => mixF_off hb⟩
theorem dt_pk (i : Nat) {e : Expr} {m : M Bool} (h : DT X E e m) : DT X E e (mPk i m) := by
  obtain ⟨t, h1, h2⟩ := h
  refine ⟨t, h1, fun F0 H0 F H σ ρ q Q R h p => ?_⟩
  have go : ∀ (s : Ow) (x : PD), ρ[i]? = some (.o s) → Rs.data (.o s) = some x → m (ρ.set i (.d x)) = some q → t σ H Q := fun s x e hx h => by
    obtain ⟨F1, ft, R1, s1, n1, off⟩ := R.peek e hx
    refine h2 F0 H0 F1 H σ _ q Q R1 h ?_
    cases q with
    | ok b => exact fun F' H' g => p _ H' (g.uncut R.fh n1 off s1)
    | ex c => exact fun F' H' g => p _ H' (g.uncut R.fh n1 off s1)
  rcases mPk_cases h with ⟨s, x, e1, e2, e3⟩ | e3
  · exact go s x e1 e2 e3
  · exact h2 F0 H0 F H σ ρ q Q R e3 p
/-- a value that is no object -/
def isFlat : PD → Bool
  | .none => true
  | .bool _ => true
  | .int _ => true
  | .str _ => true
  | _ => false
theorem Da.flat {K : PySem.W.Frag} {F F' : Hp} {v : V} {x : PD} (d : Da K F v x) (h : isFlat x = true) : Da K F' v x := by
  cases d with
  | non => exact .non
  | bl b => exact .bl b
  | int b => exact .int b
  | str b => exact .str b
  | lst => cases h
  | tup => cases h
  | scr => cases h
  | dct => cases h
  | shf => cases h
def mFl (m : M PD) : M PD := mb m fun x => ml (if isFlat x = true then some x else none)
theorem de_pk (i : Nat) {e : Expr} {m : M PD} (h : DE X E e m) : DE X E e (mPk i (mFl m)) := by
  obtain ⟨t, h1, h2⟩ := h
  have base : ∀ F0 H0 F H σ ρ r Q, Rel X.K F0 H0 F H σ ρ → mFl m ρ = some r → (∀ x, r = .ok x → isFlat x = true → ∀ v F' H', Grow F H F' H' → Da X.K F' v x → Q v H') → (∀ c, r = .ex c → ∀ F' H', Grow F H F' H' → E (.ref c) none H') → t σ H Q := by
    intro F0 H0 F H σ ρ r Q R h p1 p2
    rcases mb_ok h with ⟨x, e1, e2⟩ | ⟨c, e1, e2⟩
    · unfold ml at e2
      obtain ⟨z, ez, rfl⟩ := Option.map_eq_some_iff.mp e2
      split at ez
      · rename_i hf
        cases ez
        exact h2 F0 H0 F H σ ρ _ _ R e1 fun v F' H' g d => p1 _ rfl hf v F' H' g d
      · cases ez
    · cases e2
      exact h2 F0 H0 F H σ ρ _ _ R e1 fun F' H' g => p2 c rfl F' H' g
  refine ⟨t, h1, fun F0 H0 F H σ ρ q Q R h p => ?_⟩
  have go : ∀ (s : Ow) (x : PD), ρ[i]? = some (.o s) → Rs.data (.o s) = some x → mFl m (ρ.set i (.d x)) = some q → t σ H Q := fun s x e hx h => by
    obtain ⟨F1, ft, R1, s1, n1, off⟩ := R.peek e hx
    refine base F0 H0 F1 H σ _ q Q R1 h (fun y ey hf v F' H' g d => ?_) fun c ec F' H' g => ?_
    · subst ey; exact p v _ H' (g.uncut R.fh n1 off s1) (d.flat hf)
    · subst ec; exact p _ H' (g.uncut R.fh n1 off s1)
  rcases mPk_cases h with ⟨s, x, e1, e2, e3⟩ | e3
  · exact go s x e1 e2 e3
  · replace h := e3
    refine base F0 H0 F H σ ρ q Q R h (fun y ey hf v F' H' g d => ?_) fun c ec F' H' g => ?_
    · subst ey; exact p v F' H' g d
    · subst ec; exact p F' H' g
end
end DL

namespace DL
open PySem L2 DX
section
variable {X : Cx} {E : XK} {k : Nat}
/-! ### more changes of a list that only a slot knows -/
/-- xs.append(ys.pop(n)) -/
def sAppPop (i j : Nat) (m : M PD) : MS := fun ρ => match ρ[i]?, ρ[j]?, m ρ with
  | some (.o (.lst xs)), some (.o (.lst ys)), some (.ok (.int n)) => if i ≠ j ∧ 0 ≤ n ∧ xs.length < big ∧ ys.length < big then (match ys[n.toNat]? with
      | some y => some (.nx ((ρ.set j (.o (.lst (ys.eraseIdx n.toNat)))).set i (.o (.lst (xs ++ [y])))))
      | none => none) else none
  | _, _, _ => none
theorem Rel.apart {K : PySem.W.Frag} {F0 H0 F H : Hp} {σ : St} {ρ : List Sl} {i j : Nat} {xs ys : List PD} {a b : Addr} (R : Rel K F0 H0 F H σ ρ) (hij : i ≠ j) (e1 : ρ[i]? = some (.o (.lst xs))) (e2 : ρ[j]? = some (.o (.lst ys))) (q1 : σ[i]? = some (some (.ref a))) (q2 : σ[j]? = some (some (.ref b))) : a ≠ b := by
  obtain ⟨_, _, _, ft, h1, _, h3⟩ := R
  obtain ⟨v, ev, a', vs, ra, fa, _⟩ := h1 i _ _ e1 q1
  obtain ⟨w, ew, b', ws, rb, fb, _⟩ := h1 j _ _ e2 q2
  cases ev; cases ew; cases ra; cases rb
  intro z
  refine h3 i j hij a (by rw [fa]; simp) ?_
  rw [fb, z]
  simp
theorem ds_appPop (i j : Nat) {x y : Str} {px pa pc py pb pd pos : Pos} {e : Expr} {m : M PD} (he : DE X E e m) (hNx : X.N[i]? = some x := by rfl) (hNy : X.N[j]? = some y := by rfl)
    (hvx : Vis X.env.scope x := by first | exact Or.inl rfl | exact Or.inr (Or.inl rfl) | exact Or.inr (Or.inr rfl)) (hvy : Vis X.env.scope y := by first | exact Or.inl rfl | exact Or.inr (Or.inl rfl) | exact Or.inr (Or.inr rfl))
    (hdx : (x == ("__debug__" : Str)) = false := by decide) (hcx : (x == ("__classdict__" : Str)) = false := by decide) (hdy : (y == ("__debug__" : Str)) = false := by decide) (hcy : (y == ("__classdict__" : Str)) = false := by decide)
    (hb1 : attributeBase (.Name x px) "append" X.env (eval (.Name x px) X.env) = eval (.Name x px) X.env := by rfl)
    (hb2 : attributeBase (.Name y py) "pop" X.env (eval (.Name y py) X.env) = eval (.Name y py) X.env := by rfl)
    (hs1 : starEach [.Call (.Attribute (.Name y py) "pop" pb) [e] [] pd] X.env = (false, eval (.Call (.Attribute (.Name y py) "pop" pb) [e] [] pd) X.env) :: starEach [] X.env := by rfl)
    (hs2 : starEach [e] X.env = (false, eval e X.env) :: starEach [] X.env := by rfl)
    (hf1 : ((backTo pc (starEach [.Call (.Attribute (.Name y py) "pop" pb) [e] [] pd] X.env)).all (fun x => !x.1) && (backToKw pc (keywordEach [] X.env)).all (fun x => x.1.isSome)
      && decide ([Expr.Call (.Attribute (.Name y py) "pop" pb) [e] [] pd].length + ([] : List Keyword).length + (if ([] : List Keyword).isEmpty then 0 else 1) < 30)) = true := by rfl)
    (hf2 : ((backTo pd (starEach [e] X.env)).all (fun x => !x.1) && (backToKw pd (keywordEach [] X.env)).all (fun x => x.1.isSome)
      && decide ([e].length + ([] : List Keyword).length + (if ([] : List Keyword).isEmpty then 0 else 1) < 30)) = true := by rfl)
    (hl1 : (pa.endLine == pc.line) = true := by rfl) (hl2 : (pb.endLine == pd.line) = true := by rfl)
    (hp1 : (backTo pc (starEach ([] : List Expr) X.env)).any (·.1) = false := by rfl) (hp2 : (backTo pd (starEach ([] : List Expr) X.env)).any (·.1) = false := by rfl)
    (hsw : swapsWith (.Call (.Attribute (.Name x px) "append" pa) [.Call (.Attribute (.Name y py) "pop" pb) [e] [] pd] [] pc) none pos.line X.env = pure false := by rfl) :
    DS X E (.Expr (.Call (.Attribute (.Name x px) "append" pa) [.Call (.Attribute (.Name y py) "pop" pb) [e] [] pd] [] pc) pos) (sAppPop i j m) := by
  obtain ⟨t, h1, h2⟩ := he
  refine ⟨_, ps_expr (pe_bm PySem.F.plainAttrs_list PySem.F.slot_list_append PySem.F.type_list_append mt_append (pv i hNx hvx hdx hcx)
    (pa_cons (pe_bm PySem.F.plainAttrs_list PySem.F.slot_list_pop PySem.F.type_list_pop mt_popAt (pv j hNy hvy hdy hcy) (pa_cons h1 pa_nil hs2) hb2 hf2 hl2 hs2 hp2) pa_nil hs1) hb1 hf1 hl1 hs1 hp1) hsw, fun F0 H0 F H σ ρ r D R h p => ?_⟩
  unfold sAppPop at h
  split at h
  · rename_i xs ys n ex ey em
    split at h
    · rename_i hc
      obtain ⟨hij, h0, hz, hy⟩ := hc
      split at h
      · rename_i d ed
        cases h
        obtain ⟨v, ft, es, ⟨a, vs, rfl, rfl, q1, q2⟩, _⟩ := R.getO ex
        obtain ⟨v', ft', es', ⟨b, us, rfl, rfl, k1, k2⟩, _⟩ := R.getO ey
        have nab : a ≠ b := R.apart hij ex ey es es'
        refine ⟨.ref a, es, .inl ⟨rfl, _, SqL.of q1⟩, .ref b, es', .inl ⟨rfl, _, SqL.of k1⟩, h2 F0 H0 F H σ ρ _ _ R em fun w F' H' g dw => ?_⟩
        cases dw
        obtain ⟨u, eu, du⟩ := k2.get' ed
        have hlen : us.length = ys.length := k2.len
        have hlt : n.toNat < us.length := (List.getElem?_eq_some_iff.mp eu).1
        have R1 := R.grow g
        have hbig : n < 2 ^ 63 := by
          unfold big at hy
          omega
        refine ⟨b, us, n, n.toNat, u, rfl, rfl, g.h _ _ k1, by omega, hbig, PySem.StrLaws.seqIndex_nonneg h0 (by omega), eu, ?_⟩
        have R2 := R1.putL ey es' ((k2.mono g.f).eraseIdx n.toNat)
        have ex2 : (ρ.set j (.o (.lst (ys.eraseIdx n.toNat))))[i]? = some (.o (.lst xs)) := by rw [List.getElem?_set_ne (Ne.symm hij)]; exact ex
        refine ⟨a, vs, u, rfl, rfl, by rw [upd_ne nab]; exact g.h _ _ q1, lt_line (by rw [q2.len]; exact hz), ?_⟩
        exact p σ F' _ (R2.putL ex2 es ((q2.mono g.f).append (.cons (du.mono g.f) .nil))) g.f
      · cases h
    · cases h
  · cases h

/-- xs.pop(n), the item let go -/
def sPop (i : Nat) (m : M PD) : MS := fun ρ => match ρ[i]?, m ρ with
  | some (.o (.lst xs)), some (.ok (.int n)) => if 0 ≤ n ∧ n < xs.length ∧ xs.length < big then some (.nx (ρ.set i (.o (.lst (xs.eraseIdx n.toNat))))) else none
  | _, _ => none
theorem ds_pop (i : Nat) {x : Str} {px pa pc pos : Pos} {e : Expr} {m : M PD} (he : DE X E e m) (hN : X.N[i]? = some x := by rfl) (hv : Vis X.env.scope x := by first | exact Or.inl rfl | exact Or.inr (Or.inl rfl) | exact Or.inr (Or.inr rfl)) (hd : (x == ("__debug__" : Str)) = false := by decide)
    (hcd : (x == ("__classdict__" : Str)) = false := by decide)
    (hst : starEach [e] X.env = (false, eval e X.env) :: starEach [] X.env := by rfl)
    (hbase : attributeBase (.Name x px) "pop" X.env (eval (.Name x px) X.env) = eval (.Name x px) X.env := by rfl)
    (hfew : ((backTo pc (starEach [e] X.env)).all (fun x => !x.1) && (backToKw pc (keywordEach [] X.env)).all (fun x => x.1.isSome)
      && decide ([e].length + ([] : List Keyword).length + (if ([] : List Keyword).isEmpty then 0 else 1) < 30)) = true := by rfl)
    (hline : (pa.endLine == pc.line) = true := by rfl) (hplain : (backTo pc (starEach ([] : List Expr) X.env)).any (·.1) = false := by rfl)
    (hs : swapsWith (.Call (.Attribute (.Name x px) "pop" pa) [e] [] pc) none pos.line X.env = pure false := by rfl) :
    DS X E (.Expr (.Call (.Attribute (.Name x px) "pop" pa) [e] [] pc) pos) (sPop i m) := by
  obtain ⟨t, h1, h2⟩ := he
  refine ⟨_, ps_expr (pe_bm PySem.F.plainAttrs_list PySem.F.slot_list_pop PySem.F.type_list_pop mt_popAt (pv i hN hv hd hcd) (pa_cons h1 pa_nil hst) hbase hfew hline hst hplain) hs, fun F0 H0 F H σ ρ r D R h p => ?_⟩
  unfold sPop at h
  split at h
  · rename_i xs n ex em
    split at h
    · rename_i hc
      obtain ⟨h0, hn, hz⟩ := hc
      cases h
      obtain ⟨v, ft, es, ⟨a, vs, rfl, rfl, q1, q2⟩, _⟩ := R.getO ex
      refine ⟨.ref a, es, .inl ⟨rfl, _, SqL.of q1⟩, h2 F0 H0 F H σ ρ _ _ R em fun w F' H' g dw => ?_⟩
      cases dw
      have hlen : vs.length = xs.length := q2.len
      have hlt : n.toNat < vs.length := by omega
      have hbig : n < 2 ^ 63 := by unfold big at hz; omega
      exact ⟨a, vs, n, n.toNat, vs[n.toNat], rfl, rfl, g.h _ _ q1, by omega, hbig, PySem.StrLaws.seqIndex_nonneg h0 (by omega), List.getElem?_eq_getElem hlt,
        p σ F' _ ((R.grow g).putL ex es ((q2.mono g.f).eraseIdx n.toNat)) g.f⟩
    · cases h
  · cases h
/-- xs.clear() -/
def sClr (i : Nat) : MS := fun ρ => match ρ[i]? with
  | some (.o (.lst _)) => some (.nx (ρ.set i (.o (.lst []))))
  | _ => none
theorem ds_clr (i : Nat) {x : Str} {px pa pc pos : Pos} (hN : X.N[i]? = some x := by rfl) (hv : Vis X.env.scope x := by first | exact Or.inl rfl | exact Or.inr (Or.inl rfl) | exact Or.inr (Or.inr rfl)) (hd : (x == ("__debug__" : Str)) = false := by decide)
    (hcd : (x == ("__classdict__" : Str)) = false := by decide)
    (hbase : attributeBase (.Name x px) "clear" X.env (eval (.Name x px) X.env) = eval (.Name x px) X.env := by rfl) (hline : (pa.endLine == pc.line) = true := by rfl)
    (hs : swapsWith (.Call (.Attribute (.Name x px) "clear" pa) [] [] pc) none pos.line X.env = pure false := by rfl) :
    DS X E (.Expr (.Call (.Attribute (.Name x px) "clear" pa) [] [] pc) pos) (sClr i) := by
  refine ⟨_, ps_expr (pe_bm0 PySem.F.plainAttrs_list PySem.F.slot_list_clear PySem.F.type_list_clear mt_clear (pv i hN hv hd hcd) hbase hline) hs, fun F0 H0 F H σ ρ r D R h p => ?_⟩
  unfold sClr at h
  split at h
  · rename_i xs ex
    cases h
    obtain ⟨v, ft, es, ⟨a, vs, rfl, rfl, q1, q2⟩, _⟩ := R.getO ex
    exact ⟨.ref a, es, .inl ⟨rfl, _, SqL.of q1⟩, a, vs, rfl, rfl, q1, p σ F _ (R.putL ex es .nil) (Same.refl _)⟩
  · cases h
/-- xs[n] = y -/
def sPut (i : Nat) (mv mn : M PD) : MS := fun ρ => match ρ[i]?, mv ρ, mn ρ with
  | some (.o (.lst xs)), some (.ok y), some (.ok (.int n)) => (match ixN xs.length n with
    | some j => some (.nx (ρ.set i (.o (.lst (xs.set j y)))))
    | none => none)
  | _, _, _ => none
theorem ds_put (i : Nat) {x : Str} {px ps pos : Pos} {e n : Expr} {mv mn : M PD} (he : DE X E e mv) (hn : DE X E n mn) (hN : X.N[i]? = some x := by rfl) (hv : Vis X.env.scope x := by first | exact Or.inl rfl | exact Or.inr (Or.inl rfl) | exact Or.inr (Or.inr rfl)) (hd : (x == ("__debug__" : Str)) = false := by decide)
    (hcd : (x == ("__classdict__" : Str)) = false := by decide)
    (ha : ∀ v, assign (.Subscript (.Name x px) n ps) X.env v = (do
      let ov ← holding [v] (eval (.Name x px) X.env)
      let iv ← holding [v, ov] (eval n X.env)
      standAt ps
      holding [v, ov, iv] (setItem ov iv v)
      release [v, ov, iv] []) := by intro _; rfl)
    (hs : swapsWithSole [.Subscript (.Name x px) n ps] e pos.line X.env = pure false := by rfl) (hw : swappedStores [.Subscript (.Name x px) n ps] e X.env = pure none := by rfl)
    (h1' : (assignEach [.Subscript (.Name x px) n ps] X.env).map (·.2) = [assign (.Subscript (.Name x px) n ps) X.env] := by rfl) :
    DS X E (.Assign [.Subscript (.Name x px) n ps] e pos) (sPut i mv mn) := by
  obtain ⟨t, h1, h2⟩ := he
  obtain ⟨t', h3, h4⟩ := hn
  refine ⟨_, ps_asg h1 (pg_sub (pv i hN hv hd hcd) h3 set_list ha) hs hw h1', fun F0 H0 F H σ ρ r D R h p => ?_⟩
  unfold sPut at h
  split at h
  · rename_i xs y nn ex ey en
    split at h
    · rename_i j ej
      cases h
      obtain ⟨v, ft, es, ⟨a, vs, rfl, rfl, q1, q2⟩, _⟩ := R.getO ex
      refine h2 F0 H0 F H σ ρ _ _ R ey fun w F' H' g d => ?_
      refine ⟨.ref a, es, h4 F0 H0 F' H' σ ρ _ _ (R.grow g) en fun u F2 H2 g2 d2 => ?_⟩
      cases d2
      have G := g.trans g2
      exact ⟨a, vs, nn, j, rfl, rfl, G.h _ _ q1, by rw [q2.len]; exact ej, p σ F2 _ ((R.grow G).putL ex es (DaAll.set (d.mono g2.f) j (q2.mono G.f))) G.f⟩
    · cases h
  · cases h
/-- for x in ys: if test: return True or False; ys known to its slot alone -/
def allL (i : Nat) (mt : M Bool) (b : Bool) (ρ1 : List Sl) : List PD → List Sl → Option Out
  | [], ρ => some (.nx ρ)
  | x :: xs, ρ => if isFlat x = true then (match mt (ρ1.set i (.d x)) with
    | some (.ok c) => if c = true then some (.rt (.d (.bool b))) else allL i mt b ρ1 xs (ρ.set i (.d x))
    | _ => none) else none
def sAll (i j : Nat) (mt : M Bool) (b : Bool) : MS := fun ρ => match ρ[j]? with
  | some (.o (.lst xs)) => if i ≠ j then allL i mt b (ρ.set j (.d (.list xs))) xs ρ else none
  | _ => none
theorem ds_all (i j : Nat) {x y : Str} {px py pr pi pos : Pos} {te : Expr} {mt : M Bool} {b : Bool} {kk : Nat} {pb : Pos} (c : Cok X E k) (hp : PassesOwn (model X.prog X.w) X.A X.env X.xe) (ht : DT X E te mt)
    (hNx : X.N[i]? = some x := by rfl) (hNy : X.N[j]? = some y := by rfl) (hl : Loc X.env.scope x := by first | exact Or.inl rfl | exact Or.inr rfl)
    (hvy : Vis X.env.scope y := by first | exact Or.inl rfl | exact Or.inr (Or.inl rfl) | exact Or.inr (Or.inr rfl)) (hdy : (y == ("__debug__" : Str)) = false := by decide) (hcy : (y == ("__classdict__" : Str)) = false := by decide)
    (hf : X.fn x = true ∨ X.env.scope.names.lookup x = some .local := by first | exact .inl rfl | exact .inr rfl | assumption)
    (hs : ∀ x, foldedSetIterable (.Name y py) X.env x = pure x := by intro _; rfl) :
    DS X E (.For (.Name x px) (.Name y py) [.If te [.Return (some (.Constant (.bool b) kk pb)) pr] [] pi] [] pos) (sAll i j mt b) := by
  obtain ⟨t, h1, h2⟩ := ht
  refine ⟨_, ps_for hp c.calm (pi_list (pv j hNy hvy hdy hcy)) (pg_name c.nd hNx hl hf) (pss_one (ps_if h1 (pss_one (ps_ret pe_bl)) pss_nil)) hs, fun F0 H0 F H σ ρ r D R h p => ?_⟩
  unfold sAll at h
  split at h
  · rename_i xs ex
    split at h
    · rename_i hij
      obtain ⟨v, ft, es, ⟨a, vs, rfl, rfl, q1, q2⟩, ow, _⟩ := R.getO ex
      refine ⟨.ref a, es, a, rfl, ⟨vs, SqL.of q1⟩, ?_⟩
      refine for_list (xs := vs) (fun n σ' H' => ∃ F' ρ', Rel X.K F0 H0 F' H' σ' ρ' ∧ Same F F' ∧ Same H H' ∧ ρ'[j]? = some (.o (.lst xs)) ∧ (∀ z, ρ'.set i z = ρ.set i z) ∧ allL i mt b (ρ.set j (.d (.list xs))) (xs.drop n) ρ' = some r)
        ⟨F, ρ, R, Same.refl _, Same.refl _, ex, fun _ => rfl, h⟩ (fun n σ' H' _ ⟨F', ρ', R', _, e, _⟩ => SqL.of (e _ _ q1)) ?_ ?_
      · rintro n u σ' H' eu ⟨F', ρ', R', e1, e2, ej, er, hr⟩
        obtain ⟨d, ed, du⟩ := q2.get eu
        rw [drop_get ed] at hr
        unfold allL at hr
        split at hr
        · rename_i hfl
          have R2 := R'.setD (i := i) (du.mono e1)
          have ej2 : (ρ'.set i (.d d))[j]? = some (.o (.lst xs)) := by rw [List.getElem?_set_ne hij]; exact ej
          obtain ⟨F1, ft1, R3, s1, n1, off⟩ := R2.peek ej2 rfl
          have eρ : (ρ'.set i (.d d)).set j (.d (.list xs)) = (ρ.set j (.d (.list xs))).set i (.d d) := by
            rw [er, List.set_comm _ _ hij]
          rw [eρ] at R3
          show t (σ'.set i (some u)) H' _
          split at hr
          · rename_i cc ec
            refine h2 F0 H0 F1 H' _ _ _ _ R3 ec fun F2 H2 g => ?_
            have g2 := g.uncut R2.fh n1 off s1
            cases cc with
            | true =>
              rw [if_pos rfl] at hr ⊢
              cases hr
              exact p _ _ H2 (R2.g.trans g2) (.bl b)
            | false =>
              rw [if_neg (by decide)] at hr ⊢
              have R4 := R2.grow g2
              exact ⟨_, _, R4, e1.trans g2.f, e2.trans g2.h, ej2, fun z => by rw [List.set_set, er], hr⟩
          · cases hr
        · cases hr
      · rintro σ' H' ⟨F', ρ', R', e1, e2, ej, er, hr⟩
        rw [List.drop_eq_nil_of_le (by rw [q2.len]; exact Nat.le_refl _)] at hr
        cases hr
        exact p σ' F' H' R' e1
    · cases h
  · cases h
end
section
variable {X : Cx} {E : XK}
/-- behind a statement: what slot i alone knows is settled -/
def fixS (i : Nat) : Option Out → Option Out
  | some (.nx ρ) => (match ρ[i]? with
    | some (.o (.lst xs)) => some (.nx (ρ.set i (.d (.list xs))))
    | _ => some (.nx ρ))
  | r => r
def sFixA (i : Nat) (m : MS) : MS := fun ρ => fixS i (m ρ)
theorem ds_fixA (i : Nat) {st : Stmt} {m : MS} (h : DS X E st m) : DS X E st (sFixA i m) := by
  obtain ⟨t, h1, h2⟩ := h
  refine ⟨t, h1, fun F0 H0 F H σ ρ r D R h p => ?_⟩
  unfold sFixA fixS at h
  split at h
  · rename_i ρ' e
    split at h
    · rename_i xs ex
      cases h
      refine h2 F0 H0 F H σ ρ _ _ R e fun σ' F' H' R' q => ?_
      obtain ⟨F2, q1, R2⟩ := R'.settle ex
      exact p σ' F2 H' R2 (q.trans q1)
    · cases h
      exact h2 F0 H0 F H σ ρ _ _ R e p
  · exact h2 F0 H0 F H σ ρ r D R h p
end
/-! ### the facts of a text's top -/
abbrev GF := List PD → Option (Ro Rs)
/-- an own exception class under ValueError, without __init__ -/
structure ExT (K : PySem.W.Frag) (mg : Str → Option Value) (n : Str) (C : Addr) : Prop where
  g : mg n = some (.ref C)
  x : PySem.W.excIn K C [.type "ValueError", .type "Exception", .type "BaseException", .type "object"] "ValueError.__new__" = true
  k : PySem.W.keepIn K (.ref C) = true
  b : PySem.W.subIn K (.ref C) (.type "BaseException") = some true
  t : PySem.W.typeIn K (.ref C) = some (.type "type")
/-- the law's promise: a list of at most 63 whole numbers is handed in, True comes out -/
def spLaw (K : PySem.W.Frag) : Sp := fun vs H Q _ => ∃ (a : Addr) (ns : List Int), vs = [.ref a] ∧ SqL K H a (ns.map V.int) ∧ ns.length ≤ 63 ∧ ∀ H', Q (.bl true) H'
theorem law_imp {P : Program} {w : World} {K : PySem.W.Frag} {mg : Str → Option Value} {base : Heap} {k : Nat} {f : Addr} {fd : FuncData} {g : GF} (F : FnOk P w K mg base (L2.CX P w) k f fd ["script"] (spD K g))
    (h : ∀ ns : List Int, ns.length ≤ 63 → g [scrD ns] = some (.ok (.d (.bool true)))) : FnOk P w K mg base (L2.CX P w) k f fd ["script"] (spLaw K) :=
  F.imp fun vs H Q E ⟨a, ns, hv, hs, hl, hq⟩ => by
    subst hv
    exact ⟨H, [scrD ns], _, ⟨Same.refl _, fun _ _ e _ => e⟩, .cons (.scr hs rfl) .nil, h ns hl, fun v F' H' g d => by cases d; exact hq H'⟩
theorem walk_law {k : Nat} {l : PySem.W.OpenLaw} {q : Program} {loose : List Str} {XP : (Str → Option Value) → Heap → Prop} {YP : World → Heap → Prop} {d : DefRec} {K : Params → PySem.W.Frag} (hn : l.most = some 63) (hdf : d.params.defaults = []) (hr : Room k callerA)
    (hY : ∀ (w : World) (h : Heap), YP w h → (K w.params).In h)
    (F : ∀ (w : World) (mg : Str → Option Value) (fa : Addr) (h : Heap), (K w.params).In h → h.Ns mainGlobals mg → mg d.name = some (.ref fa) →
      ∃ fd : FuncData, (∀ (s : Shared) (u : Value), BindsTo s fd ⟨[u], []⟩ [("script", u)]) ∧ ∀ base : Heap, (K w.params).In base → base.Ns mainGlobals mg → FnOk l.prog w (K w.params) mg base (L2.CX l.prog w) k fa fd ["script"] (spLaw (K w.params))) :
    PySem.W.WalkO q loose XP YP l.row.toRowW d [] (fun f vs => PySem.call f vs) :=
  L2.walk_of (n := 63) (k := k) (x := "script") (CX := fun w => L2.CX l.prog w) (sp := fun w => spLaw (K w.params)) hn (by decide) hdf hr hY F (fun _ _ a ns hl _ hS => ⟨a, ns, rfl, hS, hl, fun _ => rfl⟩) fun w H s e s' h => by
    obtain ⟨_, _, _, _, _, _, _, _, _, _, _, _, z⟩ := h
    exact z
end DL

/-! try .. except; statements of which nothing is told; an item of a list that only a slot knows. -/
namespace DL
open PySem L2 DX
section
variable {X : Cx} {E : XK} {k : Nat}
/-- nothing is told of these statements -/
def sAny : MS := fun _ => none
theorem dss_any {sts : List Stmt} : DSs X E sts sAny := ⟨fun _ _ _ => False, ⟨fun _ _ _ _ _ _ h => h.elim⟩, fun _ _ _ _ _ _ _ _ _ h _ => nomatch h⟩
theorem ds_any {st : Stmt} : DS X E st sAny := ⟨fun _ _ _ => False, ⟨fun _ _ _ _ _ _ h => h.elim⟩, fun _ _ _ _ _ _ _ _ _ h _ => nomatch h⟩
/-- an item of a list that only slot i knows -/
def mIxO (i : Nat) (mn : M PD) : M PD := fun ρ => match ρ[i]?, mn ρ with
  | some (.o (.lst xs)), some (.ok (.int n)) => (atI xs n).map .ok
  | _, _ => none
theorem de_ixO (i : Nat) {x : Str} {b : Expr} {px pos : Pos} {mn : M PD} (hb : DE X E b mn) (hs : PlainIx b := by exact fun _ _ => rfl) (hN : X.N[i]? = some x := by rfl) (hv : Vis X.env.scope x := by first | exact Or.inl rfl | exact Or.inr (Or.inl rfl) | exact Or.inr (Or.inr rfl))
    (hd : (x == ("__debug__" : Str)) = false := by decide) (hcd : (x == ("__classdict__" : Str)) = false := by decide) : DE X E (.Subscript (.Name x px) b pos) (mIxO i mn) := by
  obtain ⟨tb, h3, h4⟩ := hb
  refine ⟨_, pe_ix ix_list (pv i hN hv hd hcd) h3 hs, fun F0 H0 F H σ ρ q Q R h p => ?_⟩
  unfold mIxO at h
  split at h
  · rename_i xs n ex en
    obtain ⟨y, ey, rfl⟩ := Option.map_eq_some_iff.mp h
    obtain ⟨v, ft, es, ⟨a, vs, rfl, rfl, q1, q2⟩, _⟩ := R.getO ex
    refine ⟨.ref a, es, h4 F0 H0 F H σ ρ _ _ R en fun w F' H' g d => ?_⟩
    cases d
    obtain ⟨j, u, e1, e2, e3⟩ := atI_len (xs := vs) q2.len ey
    obtain ⟨y', ey', dy⟩ := q2.get e1
    rw [e2] at ey'
    cases ey'
    exact ⟨a, vs, n, u, rfl, rfl, SqL.of (g.h _ _ q1), e3, p u F' H' g (dy.mono g.f)⟩
  · cases h
end
/-! ### the exception that is caught -/
section
variable {X : Cx} {E : XK} {k : Nat}
/-- isinstance(e, T), the answer known -/
def mIsE (i : Nat) (a : Addr) (b : Bool) : M PD := fun ρ => match ρ[i]? with
  | some (.e a') => if a' = a then some (.ok (.bool b)) else none
  | _ => none
theorem isE_sound {a D : Addr} {oe : Obj} {pn : List (Addr × Obj)} {i : Nat} {x tn : Str} {p p1 p2 pos : Pos} {c : V} {cv : Value} {b : Bool} (C : ExcC X.K D) (hz : Zc (.ref D) none oe) (hf : ∃ vs, oe.data = .fields vs)
    (hT : PE (X.suite a ((a, oe) :: pn)) (.Name tn p2) (tC c)) (hc : ∀ u, RelV c u → u = cv) (hk : PySem.W.kitOne X.K (.ref D) cv = some b)
    (hm : X.mg "isinstance" = none) (hN : X.N[i]? = some x) (hv : Vis X.env.scope x) (hd : (x == ("__debug__" : Str)) = false) (hcd : (x == ("__classdict__" : Str)) = false)
    (hg : Gl X "isinstance")
    (hs : starEach [.Name x p1, .Name tn p2] X.env = (false, eval (.Name x p1) X.env) :: starEach [.Name tn p2] X.env) (hs2 : starEach [.Name tn p2] X.env = (false, eval (.Name tn p2) X.env) :: starEach [] X.env)
    (hpl : (backTo pos (starEach [.Name tn p2] X.env)).any (·.1) = false) :
    DE (X.suite a ((a, oe) :: pn)) E (.Call (.Name "isinstance" p) [.Name x p1, .Name tn p2] [] pos) (mIsE i a b) := by
  refine ⟨_, pe_callB (X := X.suite a ((a, oe) :: pn)) (call_isE C hz hf) hg hm (by decide +kernel) (pa_cons (pv i hN hv hd hcd) (pa_cons hT pa_nil hs2) hs) (by decide) (by decide) hs hpl, fun F0 H0 F H σ ρ r Q R h p => ?_⟩
  unfold mIsE at h
  split at h
  · rename_i a' e
    split at h
    · rename_i ea
      subst ea
      cases h
      exact ⟨.ref a', R.getE e, c, cv, b, rfl, hc, hk, p _ F H (.refl R.fh) (.bl b)⟩
    · cases h
  · cases h
/-- T a class of the text -/
theorem de_isE {a D C : Addr} {oe : Obj} {pn : List (Addr × Obj)} (i : Nat) {x tn : Str} {p p1 p2 pos : Pos} {b : Bool} (Z : ExcC X.K D) (hz : Zc (.ref D) none oe) (hf : ∃ vs, oe.data = .fields vs)
    (hm : X.mg "isinstance" = none) (hmT : X.mg tn = some (.ref C)) (hk : PySem.W.kitOne X.K (.ref D) (.ref C) = some b) (hgT : Gl X tn := by rfl) (hdb : (tn == ("__debug__" : Str)) = false := by decide)
    (hN : X.N[i]? = some x := by rfl) (hv : Vis X.env.scope x := by first | exact Or.inl rfl | exact Or.inr (Or.inl rfl) | exact Or.inr (Or.inr rfl)) (hd : (x == ("__debug__" : Str)) = false := by decide) (hcd : (x == ("__classdict__" : Str)) = false := by decide)
    (hg : Gl X "isinstance" := by rfl)
    (hs : starEach [.Name x p1, .Name tn p2] X.env = (false, eval (.Name x p1) X.env) :: starEach [.Name tn p2] X.env := by rfl) (hs2 : starEach [.Name tn p2] X.env = (false, eval (.Name tn p2) X.env) :: starEach [] X.env := by rfl)
    (hpl : (backTo pos (starEach [.Name tn p2] X.env)).any (·.1) = false := by rfl) :
    DE (X.suite a ((a, oe) :: pn)) E (.Call (.Name "isinstance" p) [.Name x p1, .Name tn p2] [] pos) (mIsE i a b) :=
  isE_sound (c := .ref C) (cv := .ref C) Z hz hf (pe_glob hgT hmT rfl hdb) (fun u r => r) hk hm hN hv hd hcd hg hs hs2 hpl
/-- T a built-in class -/
theorem de_isEb {a D : Addr} {oe : Obj} {pn : List (Addr × Obj)} (i : Nat) {x tn : Str} {T : String} {p p1 p2 pos : Pos} {b : Bool} (Z : ExcC X.K D) (hz : Zc (.ref D) none oe) (hf : ∃ vs, oe.data = .fields vs)
    (hm : X.mg "isinstance" = none) (hmT : X.mg tn = none) (hT : bootBuiltins tn = some (.type T)) (hk : PySem.W.kitOne X.K (.ref D) (.type T) = some b) (hgT : Gl X tn := by rfl) (hn : tn ≠ "__name__" := by decide) (hdb : (tn == ("__debug__" : Str)) = false := by decide)
    (hN : X.N[i]? = some x := by rfl) (hv : Vis X.env.scope x := by first | exact Or.inl rfl | exact Or.inr (Or.inl rfl) | exact Or.inr (Or.inr rfl)) (hd : (x == ("__debug__" : Str)) = false := by decide) (hcd : (x == ("__classdict__" : Str)) = false := by decide)
    (hg : Gl X "isinstance" := by rfl)
    (hs : starEach [.Name x p1, .Name tn p2] X.env = (false, eval (.Name x p1) X.env) :: starEach [.Name tn p2] X.env := by rfl) (hs2 : starEach [.Name tn p2] X.env = (false, eval (.Name tn p2) X.env) :: starEach [] X.env := by rfl)
    (hpl : (backTo pos (starEach [.Name tn p2] X.env)).any (·.1) = false := by rfl) :
    DE (X.suite a ((a, oe) :: pn)) E (.Call (.Name "isinstance" p) [.Name x p1, .Name tn p2] [] pos) (mIsE i a b) :=
  isE_sound (c := .ty T) (cv := .type T) Z hz hf (pe_bltn (v := .ty T) hgT hmT hT rfl hn hdb) (fun u r => r) hk hm hN hv hd hcd hg hs hs2 hpl

/-! ### try: one call, except C as e: suite -/
open Classical in
/-- what comes out whatever the exception's address is -/
noncomputable def unif (f : Addr → Option Out) : Option Out := if h : ∃ o, ∀ a, f a = some o then some h.choose else none
theorem unif_eq {f : Addr → Option Out} {o : Out} (h : ∀ a, f a = some o) : unif f = some o := by
  unfold unif
  have z : ∃ o, ∀ a, f a = some o := ⟨o, h⟩
  rw [dif_pos z]
  have := z.choose_spec 0
  rw [h 0] at this
  exact this.symm
theorem unif_at {f : Addr → Option Out} {o : Out} (h : unif f = some o) (a : Addr) : f a = some o := by
  unfold unif at h
  split at h
  · rename_i z
    cases h
    exact z.choose_spec a
  · cases h
def offE (i : Nat) : Option Out → Option Out
  | some (.nx ρ) => some (.nx (ρ.set i .no))
  | some (.rt r) => some (.rt r)
  | _ => none
def putR : Option Nat → Rs → List Sl → List Sl
  | none, _, ρ => ρ
  | some j, r, ρ => ρ.set j r.sl
/-- try: f(..), or name = f(..); cs: the classes that are caught; e is slot i's -/
noncomputable def sTry (i : Nat) (set : Option Nat) (g : List PD → Option (Ro Rs)) (ma : M (List PD)) (cs : List Addr) (suite : Addr → Addr → MS) : MS := fun ρ => match ma ρ with
  | some (.ok xs) => (match g xs with
    | some (.ok r) => some (.nx (putR set r ρ))
    | some (.ex c) => if c ∈ cs then unif fun a => offE i (suite c a (ρ.set i (.e a))) else none
    | none => none)
  | _ => none
/-- what the body of the try reads -/
def tArgs (K : PySem.W.Frag) (ma : M (List PD)) : TA := fun σ H Q => ∃ F0 H0 F ρ r, Rel K F0 H0 F H σ ρ ∧ ma ρ = some r ∧ PoA K F H Q NoE r
def tSuite (K : PySem.W.Frag) (cs : List Addr) (suite : Addr → Addr → MS) : Addr → Value → Option Addr → TS := fun a cls d D σ H =>
  ∃ c F0 H0 F ρ r, cls = .ref c ∧ c ∈ cs ∧ d = none ∧ Rel K F0 H0 F H σ ρ ∧ suite c a ρ = some r ∧ PoS K F0 H0 F D NoE r
theorem try_suite {cs : List Addr} {suite : Addr → Addr → MS} {sts : List Stmt} (hS : ∀ c ∈ cs, ∀ (a : Addr) (oe : Obj) (pn : List (Addr × Obj)), Zc (.ref c) none oe → (∃ vs, oe.data = .fields vs) → DSs (X.suite a ((a, oe) :: pn)) NoE sts (suite c a))
    (a : Addr) (oe : Obj) (cls : Value) (d : Option Addr) (pn : List (Addr × Obj)) (hz : Zc cls d oe) (hf : ∃ vs, oe.data = .fields vs) : PSs (X.suite a ((a, oe) :: pn)) sts (tSuite X.K cs suite a cls d) := by
  refine ⟨fun pins s σ H D I h => ?_⟩
  obtain ⟨c, F0, H0, F, ρ, r, rfl, hc, rfl, R, hr, p⟩ := h
  obtain ⟨t, q1, q2⟩ := hS c hc a oe pn hz hf
  exact q1.run pins s σ H D I (q2 F0 H0 F H σ ρ r D R hr p)
theorem try_args {es : List Expr} {ma : M (List PD)} {pn : List (Addr × Obj)} {xe : Value → Shared → Prop} (ha : DA (X.tr pn xe) NoE es ma) : PA (X.tr pn xe) es (tArgs X.K ma) := by
  obtain ⟨t, q1, q2⟩ := ha
  exact ⟨fun pos pins s σ H Q I ⟨F0, H0, F, ρ, r, R, h, p⟩ => q1.run pos pins s σ H Q I (q2 F0 H0 F H σ ρ r Q R h p)⟩
theorem Rel.offE {K : PySem.W.Frag} {F0 H0 F H : Hp} {σ : St} {ρ : List Sl} {i : Nat} {a : Addr} (R : Rel K F0 H0 F H σ ρ) : Rel K F0 H0 F H (σ.set i (some (.ref a))) (ρ.set i (.e a)) := R.setE
/-- what the clause wishes, from what the suite does -/
theorem try_wish {K : PySem.W.Frag} {C : Addr} {i : Nat} {cs : List Addr} {suite : Addr → Addr → MS} {F0 H0 F H F' H' : Hp} {σ : St} {ρ : List Sl} {D : Ends} {E : XK} {c : Addr} {r : Out} (hC : ∀ c ∈ cs, PySem.W.exmOne K (.ref c) (.ref C) = some true) (hc : c ∈ cs)
    (R : Rel K F0 H0 F H σ ρ) (g : Grow F H F' H') (h : (unif fun a => offE i (suite c a (ρ.set i (.e a)))) = some r) (p : PoS K F0 H0 F D E r) : wAs K (.ref C) i (tSuite K cs suite) (fun _ _ _ _ => False) D (.ref c) none σ H' := by
  refine ⟨true, hC c hc, fun _ a _ => ?_, fun z => nomatch z⟩
  have q := unif_at h a
  unfold DL.offE at q
  have R2 := (R.grow g).setE (i := i) (a := a)
  split at q
  · rename_i ρ' e
    cases q
    refine ⟨c, F0, H0, F', _, _, rfl, hc, rfl, R2, e, fun σ' F2 H2 R3 s3 => ?_⟩
    exact p _ F2 H2 R3.setN (g.f.trans s3)
  · rename_i rr e
    cases q
    exact ⟨c, F0, H0, F', _, _, rfl, hc, rfl, R2, e, p⟩
  · cases q
theorem ds_try (i : Nat) {xc n x : Str} {C : Addr} {j : Nat} {g : List PD → Option (Ro Rs)} {cs : List Addr} {suite : Addr → Addr → MS} {b₀ : Stmt} {sts : List Stmt} {np pos pos' pos2 p cp : Pos} {e : Expr} {es : List Expr} {ma : M (List PD)} (c : Cok X E k)
    (hstk : X.stack = X.env :: X.outer) (hfr : X.env.frame = some X.env.locals) (hgC : X.mg xc = some (.ref C)) (hC : ∀ c ∈ cs, PySem.W.exmOne X.K (.ref c) (.ref C) = some true)
    (hF : DefOk X.prog X.w X.K X.mg X.base x j g) (hj : j ≤ k) (ha : ∀ (pn : List (Addr × Obj)) (xe : Value → Shared → Prop), Cok (X.tr pn xe) NoE k → DA (X.tr pn xe) NoE (e :: es) ma)
    (hS : ∀ c ∈ cs, ∀ (a : Addr) (oe : Obj) (pn : List (Addr × Obj)), Zc (.ref c) none oe → (∃ vs, oe.data = .fields vs) → DSs (X.suite a ((a, oe) :: pn)) NoE (b₀ :: sts) (suite c a))
    (hi : X.N[i]? = some n := by rfl) (hln : X.env.kindOf n = some .local := by rfl) (hgx : Gl X xc := by rfl) (hdx : (xc == ("__debug__" : Str)) = false := by decide)
    (hg : Gl X x := by rfl) (hdb : (x == ("__debug__" : Str)) = false := by decide) (he : starEach (e :: es) X.env = (false, eval e X.env) :: starEach es X.env := by rfl) (hpl : (backTo cp (starEach es X.env)).any (·.1) = false := by rfl)
    (hs : swapsWith (.Call (.Name x p) (e :: es) [] cp) none pos2.line X.env = pure false := by rfl) :
    DS X E (.Try [.Expr (.Call (.Name x p) (e :: es) [] cp) pos2] [.ExceptHandler (some (.Name xc np)) (some n) (b₀ :: sts) pos'] [] [] pos) (sTry i none g ma cs suite) := by
  obtain ⟨f, fd, ps, F, hm, hk, hb⟩ := hF
  refine ⟨_, ps_try_as (i := i) (Wout := fun _ _ _ _ => False) (ts := tSuite X.K cs suite) hstk hfr c.nd hi hln ⟨hgx, hdx, .inl hgC⟩ takes0
    (fun W pn xe tk _ => pss_one (ps_expr (pe_callS (X := X.tr pn xe) (k := j) F (c.hr.mono hj) hg hm hk hb (fun σ => passAt tk σ) (try_args (ha pn xe ⟨c.calm, c.nd, takes0, c.hr⟩)) hdb he hpl) hs))
    (fun a oe cls d pn hz hf => try_suite hS a oe cls d pn hz hf), fun F0 H0 F1 H σ ρ r D R h p => ?_⟩
  unfold sTry at h
  split at h
  · rename_i xs ex
    refine ⟨F0, H0, F1, ρ, _, R, ex, fun vs F' H' gr d => ?_⟩
    show spD X.K g vs H' _ _
    split at h
    · rename_i rr eg
      cases h
      exact ⟨F', xs, _, ⟨gr.fh, (R.grow gr).ti⟩, d, eg, fun v F2 H2 g2 d2 => p _ F2 H2 (R.grow (gr.trans g2)) (gr.trans g2).f⟩
    · rename_i cc eg
      split at h
      · rename_i hcc
        exact ⟨F', xs, _, ⟨gr.fh, (R.grow gr).ti⟩, d, eg, fun F2 H2 g2 => try_wish hC hcc R (gr.trans g2) h p⟩
      · cases h
    · cases h
  · cases h
theorem ds_tryS (i l : Nat) {xc n x y : Str} {C : Addr} {j : Nat} {g : List PD → Option (Ro Rs)} {cs : List Addr} {suite : Addr → Addr → MS} {b₀ : Stmt} {sts : List Stmt} {np py pos pos' pos2 p cp : Pos} {e : Expr} {es : List Expr} {ma : M (List PD)} (c : Cok X E k)
    (hstk : X.stack = X.env :: X.outer) (hfr : X.env.frame = some X.env.locals) (hgC : X.mg xc = some (.ref C)) (hC : ∀ c ∈ cs, PySem.W.exmOne X.K (.ref c) (.ref C) = some true)
    (hF : DefOk X.prog X.w X.K X.mg X.base x j g) (hj : j ≤ k) (ha : ∀ (pn : List (Addr × Obj)) (xe : Value → Shared → Prop), Cok (X.tr pn xe) NoE k → DA (X.tr pn xe) NoE (e :: es) ma)
    (hS : ∀ c ∈ cs, ∀ (a : Addr) (oe : Obj) (pn : List (Addr × Obj)), Zc (.ref c) none oe → (∃ vs, oe.data = .fields vs) → DSs (X.suite a ((a, oe) :: pn)) NoE (b₀ :: sts) (suite c a))
    (hl : X.N[l]? = some y := by rfl) (hyl : Loc X.env.scope y := by first | exact Or.inl rfl | exact Or.inr rfl) (hyf : X.fn y = true ∨ X.env.scope.names.lookup y = some .local := by first | exact .inl rfl | exact .inr rfl | assumption)
    (hi : X.N[i]? = some n := by rfl) (hln : X.env.kindOf n = some .local := by rfl) (hgx : Gl X xc := by rfl) (hdx : (xc == ("__debug__" : Str)) = false := by decide)
    (hg : Gl X x := by rfl) (hdb : (x == ("__debug__" : Str)) = false := by decide) (he : starEach (e :: es) X.env = (false, eval e X.env) :: starEach es X.env := by rfl) (hpl : (backTo cp (starEach es X.env)).any (·.1) = false := by rfl)
    (hs : swapsWith (.Call (.Name x p) (e :: es) [] cp) (some (.Name y py)) pos2.line X.env = pure false := by rfl) :
    DS X E (.Try [.Assign [.Name y py] (.Call (.Name x p) (e :: es) [] cp) pos2] [.ExceptHandler (some (.Name xc np)) (some n) (b₀ :: sts) pos'] [] [] pos) (sTry i (some l) g ma cs suite) := by
  obtain ⟨f, fd, ps, F, hm, hk, hb⟩ := hF
  refine ⟨_, ps_try_as (i := i) (Wout := fun _ _ _ _ => False) (ts := tSuite X.K cs suite) hstk hfr c.nd hi hln ⟨hgx, hdx, .inl hgC⟩ takes0
    (fun W pn xe tk _ => pss_one (ps_set (X := X.tr pn xe) c.nd hl hyl (pe_callS (X := X.tr pn xe) (k := j) F (c.hr.mono hj) hg hm hk hb (fun σ => passAt tk σ) (try_args (ha pn xe ⟨c.calm, c.nd, takes0, c.hr⟩)) hdb he hpl) hs hyf))
    (fun a oe cls d pn hz hf => try_suite hS a oe cls d pn hz hf), fun F0 H0 F1 H σ ρ r D R h p => ?_⟩
  unfold sTry at h
  split at h
  · rename_i xs ex
    refine ⟨F0, H0, F1, ρ, _, R, ex, fun vs F' H' gr d => ?_⟩
    show spD X.K g vs H' _ _
    split at h
    · rename_i rr eg
      cases h
      refine ⟨F', xs, _, ⟨gr.fh, (R.grow gr).ti⟩, d, eg, fun v F2 H2 g2 d2 => ?_⟩
      cases rr with
      | d z => exact p _ F2 H2 ((R.grow (gr.trans g2)).setD d2) (gr.trans g2).f
      | o s =>
        obtain ⟨ft, k1, k2⟩ := d2
        exact p _ F2 H2 ((R.grow gr).setO g2 k1 k2) (gr.trans g2).f
    · rename_i cc eg
      split at h
      · rename_i hcc
        exact ⟨F', xs, _, ⟨gr.fh, (R.grow gr).ti⟩, d, eg, fun F2 H2 g2 => try_wish hC hcc R (gr.trans g2) h p⟩
      · cases h
    · cases h
  · cases h
/-- isinstance asks subtypes -/
theorem kit_ref {K : PySem.W.Frag} {D C : Addr} {b : Bool} (hd : PySem.W.hasDictIn K C = true) (ht : PySem.W.typeIn K (.ref C) = some (.type "type")) (hs : PySem.W.subIn K (.ref D) (.ref C) = some b) (hb : D = C → b = true) : PySem.W.kitOne K (.ref D) (.ref C) = some b := by
  unfold PySem.W.kitOne
  split
  · rename_i e
    have : D = C := Value.ref.inj (beq_iff_eq.mp e)
    rw [hb this]
  · obtain ⟨cd, hc, _⟩ := PySem.W.any_some hd
    have e2 : ((PySem.W.clsIn K C).isSome && PySem.W.typeIn K (.ref C) == some (.type "type")) = true := by rw [hc, ht] <;> rfl
    show (if ((PySem.W.clsIn K C).isSome && PySem.W.typeIn K (.ref C) == some (.type "type")) = true then PySem.W.subIn K (.ref D) (.ref C) else none) = some b
    rw [if_pos e2]
    exact hs
theorem kit_bt {K : PySem.W.Frag} {D : Addr} {T : String} {b : Bool} (hm : PySem.W.kitMeta T = true) (hs : PySem.W.subIn K (.ref D) (.type T) = some b) : PySem.W.kitOne K (.ref D) (.type T) = some b := by
  unfold PySem.W.kitOne
  rw [if_neg (by intro z; cases beq_iff_eq.mp z)]
  show (if PySem.W.kitMeta T = true then PySem.W.subIn K (.ref D) (.type T) else none) = some b
  rw [if_pos hm]
  exact hs
/-- an own class of the text, told apart -/
structure ClT (K : PySem.W.Frag) (mg : Str → Option Value) (n : Str) (C : Addr) : Prop where
  g : mg n = some (.ref C)
  t : PySem.W.typeIn K (.ref C) = some (.type "type")
  d : PySem.W.hasDictIn K C = true
  b : PySem.W.subIn K (.ref C) (.type "BaseException") = some true
theorem ClT.kit {K : PySem.W.Frag} {mg : Str → Option Value} {n : Str} {C D : Addr} {b : Bool} (T : ClT K mg n C) (hs : PySem.W.subIn K (.ref D) (.ref C) = some b) (hb : D = C → b = true) : PySem.W.kitOne K (.ref D) (.ref C) = some b := kit_ref T.d T.t hs hb
theorem ClT.exm {K : PySem.W.Frag} {mg : Str → Option Value} {n : Str} {C D : Addr} (T : ClT K mg n C) (hs : PySem.W.subIn K (.ref D) (.ref C) = some true) : PySem.W.exmOne K (.ref D) (.ref C) = some true := PySem.W.exm_ref T.b T.d T.t hs
end
end DL

/-! Dicts whose keys are tuples of whole numbers. -/
namespace DL
open PySem PySem.Spec PyProof.Rows L2 DX
/-! ### {k: v} with a tuple as the key -/
def tDisp1T (tk tv : TE) : TE := fun σ H Q => ∀ p, H p = none → tk σ (upd H p (.dT [])) fun x H1 => tv σ H1 fun y H2 => H2 p = some (.dT []) ∧ ∃ b ks, x = .ref b ∧ H2 b = some (.tup (ks.map kV)) ∧ Q (.ref p) (upd H2 p (.dT [(ks, y)]))
theorem pe_disp1T {X : Cx} {k v : Expr} {tk tv : TE} {pos : Pos} (hu : X.A.units < cLine) (hk : PE X k tk) (hv : PE X v tv) : PE X (.Dict [some k] [v] pos) (tDisp1T tk tv) := by
  refine ⟨fun pins s σ H Q I q => ?_⟩
  have hn := I.hok.fresh (Nat.le_refl s.heap.objs.size)
  have I1 := I.laid (a := s.heap.objs.size) (o := .dT []) (h' := s.heap.push { cls := .type "dict", data := .dict #[] }) (t' := s.toks) (fun _ _ q => Heap.get?_push_of_some _ q) (Nat.le_refl _) (dt_empty s.heap I.big)
  rw [arm_eval_Dict, zip_pairTrees [some k] [v] X.env pos rfl rfl, dictDisplay_pairs _ (by simp [pairTrees]) (by simp [pairTrees])]
  refine wpAny_bind (wpAny_standAt (wpAny_bind (wpAny_subDictH (knd := tupleKind (mixKind X.prog X.w)) (Q := fun d s' => wpAny (model X.prog X.w) X.A (pure (Value.ref d)) (EP X pins σ Q) X.xe s') hu (by simp [pairTrees]) ?_)))
  have hp : PPs X pos [some k] [v] [(tk, tv)] := pps_cons hk hv pps_nil
  have hq := q _ hn
  refine thn (hp.run pins _ σ _ (fun ps H2 => match ps with
    | [(x, y)] => H2 s.heap.objs.size = some (.dT []) ∧ ∃ b ks, x = .ref b ∧ H2 b = some (.tup (ks.map kV)) ∧ Q (.ref s.heap.objs.size) (upd H2 s.heap.objs.size (.dT [(ks, y)]))
    | _ => False) I1 hq) fun ws s2 ⟨ps, H2, I2, rel, z⟩ => ?_
  match ps, rel, z with
  | [(x, y)], rel, ⟨e, b, ks, ex, eb, q2⟩ =>
    subst ex
    cases rel with
    | @cons _ w1 _ wr h t =>
      cases t
      obtain ⟨u, w2⟩ := w1
      obtain ⟨ru, rw2⟩ := h
      obtain rfl : u = Value.ref b := ru
      obtain ⟨z0, hd, xs0, rel0, dd⟩ := dt_of I2.hok e
      cases rel0
      refine ⟨[(ks, b, w2)], ⟨rfl, rfl, key_of I2.hok eb, True.intro⟩, dd, fun h' tk' dd' hs => wpAny_pure ⟨.ref s.heap.objs.size, _, ?_, rfl, q2⟩⟩
      obtain ⟨q, es, ep, hq', h2, h3, h4, _, h5⟩ := dd'
      refine d_write (ob := .dT [(ks, y)]) I2 (by rw [e]; exact True.intro) hs ⟨q, hq'⟩ ⟨by rw [sizeLine_eq]; simp, hd, [(ks, b, w2)], .cons ⟨rfl, ?_, rw2⟩ .nil, q, es, ep, hq', h2, h3, h4, h5⟩
      rw [upd_ne (ne_of eb e (fun z => nomatch z))]
      exact eb
/-! ### d.update(o) -/
def mergeT (ks ms : List (List Key × V)) : List (List Key × V) := ms.foldl (fun acc kv => putK acc kv.1 kv.2) ks
theorem KT.merge {H : Hp} : ∀ {ms : List (List Key × V)} {ys : List (List Key × Addr × Value)} {ks : List (List Key × V)} {xs : List (List Key × Addr × Value)}, KT H ms ys → KT H ks xs → KT H (mergeT ks ms) (storedAllH xs ys) := by
  intro ms ys ks xs r
  unfold KT at r
  induction r generalizing ks xs with
  | nil => intro q; exact q
  | @cons p q ps qs h t ih =>
    intro r0
    have e : KT H (putK ks p.1 p.2) (storedH xs q.1 q.2.1 q.2.2) := by
      have := KT.put r0 p.1 h.2.1 h.2.2
      rw [← h.1]; exact this
    exact ih e
theorem KT.hash {H : Hp} {ms : List (List Key × V)} {ys : List (List Key × Addr × Value)} (r : KT H ms ys) (f : List Key → Int) : (ys.map fun x => f x.1) = ms.map fun x => f x.1 := by
  unfold KT at r
  induction r with
  | nil => rfl
  | cons h t ih => rw [List.map_cons, List.map_cons, ih, h.1]
theorem length_mergeT : ∀ (more kvs : List (List Key × V)), (mergeT kvs more).length ≤ kvs.length + more.length
  | [], kvs => by show kvs.length ≤ kvs.length + 0; omega
  | p :: r, kvs => by
    have h1 := length_mergeT r (putK kvs p.1 p.2)
    have h2 := length_putK kvs p.1 p.2
    show (mergeT (putK kvs p.1 p.2) r).length ≤ _
    rw [List.length_cons]; omega
def tDUpd (P : Program) (w : World) (td to : TE) : TE := fun σ H Q => td σ H fun x H1 => ∃ a, x = .ref a ∧ IsD H1 a ∧ to σ H1 fun y H2 => ∃ o ks ms, y = .ref o ∧ a ≠ o ∧ H2 a = some (.dT ks) ∧ Rd H2 o (.dT ms) ∧ ks.length + ms.length ≤ sizeLine ∧
  (ks ≠ [] ∨ (ms.map fun x => (tupleKind (mixKind P w)).hash x.1).Nodup) ∧ Q .non (upd H2 a (.dT (mergeT ks ms)))
theorem pe_dupd {X : Cx} {o e : Expr} {apos cpos : Pos} {td to : TE} (hu : X.A.units + 1 < cLine) (ho : PE X o td) (he : PE X e to) (m : M1 X o "update" apos e cpos) : PE X (.Call (.Attribute o "update" apos) [e] [] cpos) (tDUpd X.prog X.w td to) := by
  refine ⟨fun pins s σ H Q I h => ?_⟩
  refine wpAny_Call_method m.base m.few m.line PySem.F.plainAttrs_dict PySem.F.slot_dict_update PySem.F.type_dict_update (thn (ho.run pins s σ H _ I h) fun u s1 ⟨x, H1, I1, rx, a, ex, d, q1⟩ => ?_)
  subst ex
  obtain rfl : u = Value.ref a := rx
  obtain ⟨t1, t2, _⟩ := isD_at I1 d
  refine ⟨t1, t2, ?_⟩
  rw [m.trees]
  refine Calls.callWith_builtin rfl (Calls.evalArgs_plain (Calls.spliced_cons (thn (he.run pins s1 σ H1 _ I1 q1) fun iv s2 ⟨y, H2, I2, ry, oa, ks, ms, ey, hne, ea, eo, hsz, hap, q2⟩ => Calls.spliced_nil ?_)))
  subst ey
  obtain rfl : iv = Value.ref oa := ry
  obtain ⟨z, hd, xs, rel, dd⟩ := dt_of I2.hok ea
  obtain ⟨z2, hd2, ys, rel2, dd2⟩ := dt_rd I2.hok eo
  have l1 : ks.length = xs.length := Paired.length rel
  have l2 : ms.length = ys.length := Paired.length rel2
  refine call_update_dictH (knd := tupleKind (mixKind X.prog X.w)) (tupleKind_room_in1 hu) hne hd2 dd dd2 ?_ (by omega) fun h' dd' ho' hs => ?_
  · rcases hap with q | q
    · exact .inl fun e => q (by cases ks with | nil => rfl | cons _ _ => rw [e] at l1; simp at l1)
    · refine .inr ⟨fun x hx => ?_, ?_⟩
      · obtain ⟨_, _, _, _, _, _, _, his, _⟩ := dd2
        exact IsTupleKey.typeIs (his x hx)
      · rw [KT.hash rel2 fun k => (tupleKind (mixKind X.prog X.w)).hash k]
        exact q
  · obtain ⟨q, es, ep, hq, h2, h3, h4, _, h5⟩ := dd'
    have hl : (mergeT ks ms).length ≤ sizeLine := by have := length_mergeT ms ks; omega
    refine ⟨.non, _, d_write (ob := .dT (mergeT ks ms)) I2 (t' := s2.toks) (by rw [ea]; exact True.intro) hs ⟨q, hq⟩ ⟨hl, hd, _, (KT.merge rel2 rel).keeps fun c ws ec => ?_, q, es, ep, hq, h2, h3, h4, h5⟩, rfl, q2⟩
    rw [upd_ne (ne_of ec ea (fun z => nomatch z))]
    exact ec
/-! ### a dict is settled: it is read only from here on -/
def tFrz (t : TS) : TS := fun D σ H => ∃ d u, H d = some u ∧ Mut (some u) ∧ ∀ od, t D σ (upd H d (.frz od u))
theorem pss_frz {X : Cx} {sts : List Stmt} {t : TS} (h : PSs X sts t) : PSs X sts (tFrz t) := by
  refine ⟨fun pins s σ H D I ⟨d, u, hd, mu, hw⟩ => ?_⟩
  obtain ⟨od, I1⟩ := I.lock hd mu
  exact h.run pins s σ _ D I1 (hw od)
/-! ### hashes of two small numbers -/
def h2 (a b : Int) : Int := reduceHash (Builtin.Tuple.tupleHashOf [hashInt a, hashInt b])
theorem hash_2 {P : Program} {w : World} (a b : Int) : (tupleKind (mixKind P w)).hash [.inl a, .inl b] = h2 a b := rfl
def h2n (i : Nat) : Int := h2 ((i / 8 : Nat) : Int) ((i % 8 : Nat) : Int)
theorem h2_nd : ((List.range 64).map h2n).Nodup := by decide +kernel
theorem h2n_inj {i j : Nat} (hi : i < 64) (hj : j < 64) (e : h2n i = h2n j) : i = j := by
  have h := List.pairwise_iff_getElem.mp h2_nd
  rcases Nat.lt_trichotomy i j with z | z | z
  · exact (h i j (by simpa using hi) (by simpa using hj) z (by simpa using e)).elim
  · exact z
  · exact (h j i (by simpa using hj) (by simpa using hi) z (by simpa using e.symm)).elim
theorem h2_inj {a b c d : Nat} (ha : a < 8) (hb : b < 8) (hc : c < 8) (hd : d < 8) (e : h2 (a : Int) (b : Int) = h2 (c : Int) (d : Int)) : a = c ∧ b = d := by
  have q : h2n (8 * a + b) = h2n (8 * c + d) := by
    unfold h2n
    rw [show (8 * a + b) / 8 = a by omega, show (8 * a + b) % 8 = b by omega, show (8 * c + d) / 8 = c by omega, show (8 * c + d) % 8 = d by omega]
    exact e
  have := h2n_inj (by omega) (by omega) q
  omega
/-! ### as data -/
def asKey : PD → Option (List Int)
  | .tuple xs => asInts xs
  | _ => none
def asKvs : List (PD × PD) → Option (List (List Int × PD))
  | [] => some []
  | (k, x) :: r => (asKey k).bind fun k => (asKvs r).map ((k, x) :: ·)
def asDct : PD → Option (List (List Int × PD))
  | .dict ((.none, _) :: r) => asKvs r
  | _ => none
@[simp] theorem asKey_t {k : List Int} : asKey (.tuple (k.map .int)) = some k := asInts_map k
theorem asKvs_dct : ∀ kvs : List (List Int × PD), asKvs (kvs.map fun p => (.tuple (p.1.map .int), p.2)) = some kvs
  | [] => rfl
  | p :: r => by
    show (asKey (.tuple (p.1.map .int))).bind (fun k => (asKvs (r.map fun p => (.tuple (p.1.map .int), p.2))).map ((k, p.2) :: ·)) = _
    rw [asKey_t, asKvs_dct r]
    rfl
@[simp] theorem asDct_dct (kvs : List (List Int × PD)) : asDct (dctD kvs) = some kvs := asKvs_dct kvs
theorem Da.dct_of {K : PySem.W.Frag} {F : Hp} {v : V} {x : PD} {kvs : List (List Int × PD)} (d : Da K F v x) (h : asDct x = some kvs) : ∃ a od ks, v = .ref a ∧ F a = some (.frz od (.dT ks)) ∧ DcAt F ks kvs := by
  unfold asDct at h
  split at h
  · cases d with
    | scr h1 h2 =>
      rename_i ns
      cases ns with
      | nil => cases h2
      | cons n ns => cases h2
    | shf h0 h1 h2 h3 h4 h5 => cases h5
    | dct h1 h2 h3 =>
      rename_i kvs'
      have z : asDct (dctD kvs') = some kvs := by
        show asKvs _ = _
        unfold dctL at h3
        cases h3
        exact h
      rw [asDct_dct] at z
      cases z
      exact ⟨_, _, _, rfl, h1, h2⟩
  · cases h
theorem Da.key_of {K : PySem.W.Frag} {F : Hp} {v : V} {x : PD} {k : List Int} (d : Da K F v x) (h : asKey x = some k) : ∃ b, v = .ref b ∧ F b = some (.tup (k.map V.int)) ∧ x = .tuple (k.map .int) := by
  unfold asKey at h
  split at h
  · cases d with
    | tup h1 h2 =>
      have e := asInts_eq h
      subst e
      have e2 := DaAll.ints k h2
      subst e2
      exact ⟨_, rfl, h1, rfl⟩
  · cases h
theorem kV_ints (k : List Int) : (k.map (Sum.inl : Int → Key)).map kV = k.map V.int := by rw [List.map_map]; rfl
theorem KvV.da {K : PySem.W.Frag} {F : Hp} {v : V} {x : PD} (h : KvV F v x) : Da K F v x := by
  rcases h with ⟨rfl, rfl⟩ | ⟨b, ks, rfl, h2, rfl⟩
  · exact .non
  · exact .tup h2 (DaAll.of_ints ks)
/-- what such a dict may hold -/
def okV : PD → Bool
  | .none => true
  | x => (asKey x).isSome
theorem Da.kvv {K : PySem.W.Frag} {F : Hp} {v : V} {x : PD} (d : Da K F v x) (h : okV x = true) : KvV F v x := by
  unfold okV at h
  split at h
  · cases d; exact .inl ⟨rfl, rfl⟩
  · obtain ⟨k, hk⟩ := Option.isSome_iff_exists.mp h
    obtain ⟨b, h1, h2, h3⟩ := d.key_of hk
    exact .inr ⟨b, k, h1, h2, h3⟩
def valP (kvs : List (List Int × PD)) (k : List Int) : Option PD := (kvs.find? fun p => decide (p.1 = k)).map (·.2)
def putP (kvs : List (List Int × PD)) (k : List Int) (x : PD) : List (List Int × PD) := if (kvs.any fun p => decide (p.1 = k)) = true then kvs.map (fun p => if p.1 = k then (p.1, x) else p) else kvs ++ [(k, x)]
def mergeP (kvs more : List (List Int × PD)) : List (List Int × PD) := more.foldl (fun acc p => putP acc p.1 p.2) kvs
theorem inl_inj {a b : List Int} : a.map (Sum.inl : Int → Key) = b.map Sum.inl ↔ a = b := ⟨fun h => List.map_inj_right (fun x y e => Sum.inl.inj e) |>.mp h, fun h => by rw [h]⟩
theorem DcAt.val {F : Hp} {ks : List (List Key × V)} {kvs : List (List Int × PD)} (h : DcAt F ks kvs) (k : List Int) : (valP kvs k = none ∧ valV ks (k.map Sum.inl) = none) ∨ ∃ x v, valP kvs k = some x ∧ valV ks (k.map Sum.inl) = some v ∧ KvV F v x := by
  unfold DcAt at h
  induction h with
  | nil => exact .inl ⟨rfl, rfl⟩
  | @cons p q ps qs h t ih =>
    by_cases e : q.1 = k
    · refine .inr ⟨q.2, p.2, ?_, valV_pos (by rw [h.1, e]), h.2⟩
      unfold valP
      rw [List.find?_cons_of_pos (by simpa using e)]
      rfl
    · have e' : ¬ p.1 = k.map Sum.inl := by rw [h.1]; exact fun z => e (inl_inj.mp z)
      have e2 : valP (q :: qs) k = valP qs k := by
        unfold valP
        rw [List.find?_cons_of_neg (by simpa using e)]
      rw [e2, valV_neg e']
      exact ih
theorem valP_any (kvs : List (List Int × PD)) (k : List Int) : (kvs.any fun p => decide (p.1 = k)) = (valP kvs k).isSome := by
  unfold valP
  rw [Option.isSome_map, Bool.eq_iff_iff, List.find?_isSome, List.any_eq_true]
theorem DcAt.put {F : Hp} {ks : List (List Key × V)} {kvs : List (List Int × PD)} (h : DcAt F ks kvs) (k : List Int) {v : V} {x : PD} (hv : KvV F v x) : DcAt F (putK ks (k.map Sum.inl) v) (putP kvs k x) := by
  have e : (ks.any fun kv => decide (kv.1 = k.map Sum.inl)) = (kvs.any fun p => decide (p.1 = k)) := by
    rw [valV_any, valP_any]
    rcases h.val k with ⟨h1, h2⟩ | ⟨y, w, h1, h2, _⟩ <;> rw [h1, h2] <;> rfl
  unfold putK putP
  rw [e]
  split
  · unfold DcAt at h ⊢
    clear e
    rename_i hq
    clear hq
    induction h with
    | nil => exact .nil
    | @cons p q ps qs h t ih =>
      rw [List.map_cons, List.map_cons]
      refine .cons ?_ ih
      by_cases z : q.1 = k
      · rw [if_pos z, if_pos (by rw [h.1, z])]
        exact ⟨h.1, hv⟩
      · rw [if_neg z, if_neg (by rw [h.1]; exact fun y => z (inl_inj.mp y))]
        exact h
  · exact Paired.snoc h ⟨rfl, hv⟩
theorem DcAt.merge {F : Hp} : ∀ {ms : List (List Key × V)} {more : List (List Int × PD)} {ks : List (List Key × V)} {kvs : List (List Int × PD)}, DcAt F ms more → DcAt F ks kvs → DcAt F (mergeT ks ms) (mergeP kvs more) := by
  intro ms more ks kvs r
  unfold DcAt at r
  induction r generalizing ks kvs with
  | nil => intro q; exact q
  | @cons p q ps qs h t ih =>
    intro r0
    have e : DcAt F (putK ks p.1 p.2) (putP kvs q.1 q.2) := by
      have := DcAt.put r0 q.1 h.2
      rw [h.1]; exact this
    exact ih e
theorem DcAt.len {F : Hp} {ks : List (List Key × V)} {kvs : List (List Int × PD)} (h : DcAt F ks kvs) : ks.length = kvs.length := Paired.length h

theorem paired_get {α β : Type} {r : α → β → Prop} : ∀ {xs : List α} {ys : List β} {i : Nat} {x : α} {y : β}, Paired r xs ys → xs[i]? = some x → ys[i]? = some y → r x y
  | _, _, _, _, _, .nil, e, _ => by simp at e
  | _, _, 0, _, _, .cons h _, e, f => by
    simp at e f
    subst e f
    exact h
  | _, _, i + 1, _, _, .cons _ t, e, f => paired_get (i := i) t (by simpa using e) (by simpa using f)
/-! ### the rules -/
section
variable {X : Cx} {E : XK} {k : Nat}
theorem Cok.un (c : Cok X E k) : X.A.units + 1 < cLine := by have := c.hr.units; omega
/-- d[e], d a dict that is settled -/
def fDGet : PD → PD → Option PD := fun x y => (asDct x).bind fun kvs => (asKey y).bind fun k => valP kvs k
theorem snd_dget {K : PySem.W.Frag} : Snd2 K (fun x y H Q => ∃ a v, x = .ref a ∧ DGet H a y (some v) ∧ Q v H) fDGet := by
  intro F H v w x y z Q e d1 d2 hf p
  unfold fDGet at hf
  obtain ⟨kvs, e1, hf⟩ := Option.bind_eq_some_iff.mp hf
  obtain ⟨kk, e2, hf⟩ := Option.bind_eq_some_iff.mp hf
  obtain ⟨a, od, ks, rfl, h1, h2⟩ := d1.dct_of e1
  obtain ⟨b, rfl, h3, h4⟩ := d2.key_of e2
  rcases h2.val kk with ⟨q, _⟩ | ⟨x, u, q1, q2, q3⟩
  · rw [q] at hf; cases hf
  · rw [q1] at hf
    cases hf
    refine ⟨a, u, rfl, .inr ⟨ks, kk.map Sum.inl, b, .inr ⟨od, e _ _ h1⟩, rfl, by rw [kV_ints]; exact e _ _ h3, q2.symm⟩, p u F H (.refl e) q3.da⟩
theorem de_dget {a b : Expr} {ma mb' : M PD} {pos : Pos} (c : Cok X E k) (ha : DE X E a ma) (hb : DE X E b mb') (hs : NoSl b := by exact fun _ _ => rfl) : DE X E (.Subscript a b pos) (m2 fDGet ma mb') := by
  obtain ⟨ta, h1, h2⟩ := ha
  obtain ⟨tb, h3, h4⟩ := hb
  exact ⟨_, pe_dget c.un h1 h3 hs, fun F0 H0 F H σ ρ q Q R h p => two_sound h2 h4 snd_dget R h p⟩
/-- y in d, d a dict that is settled -/
def fDIn (neg : Bool) : PD → PD → Option PD := fun y x => (asDct x).bind fun kvs => (asKey y).map fun k => .bool (if neg then !(valP kvs k).isSome else (valP kvs k).isSome)
theorem snd_din {K : PySem.W.Frag} (neg : Bool) : Snd2 K (fun y x H Q => ∃ a o, x = .ref a ∧ DGet H a y o ∧ Q (.bl (if neg then !o.isSome else o.isSome)) H) (fDIn neg) := by
  intro F H w v y x z Q e d2 d1 hf p
  unfold fDIn at hf
  obtain ⟨kvs, e1, hf⟩ := Option.bind_eq_some_iff.mp hf
  obtain ⟨kk, e2, rfl⟩ := Option.map_eq_some_iff.mp hf
  obtain ⟨a, od, ks, rfl, h1, h2⟩ := d1.dct_of e1
  obtain ⟨b, rfl, h3, h4⟩ := d2.key_of e2
  refine ⟨a, valV ks (kk.map Sum.inl), rfl, .inr ⟨ks, kk.map Sum.inl, b, .inr ⟨od, e _ _ h1⟩, rfl, by rw [kV_ints]; exact e _ _ h3, rfl⟩, ?_⟩
  have z : (valV ks (kk.map Sum.inl)).isSome = (valP kvs kk).isSome := by
    rcases h2.val kk with ⟨q1, q2⟩ | ⟨_, _, q1, q2, _⟩ <;> rw [q1, q2] <;> rfl
  rw [z]
  exact p _ F H (.refl e) (.bl _)
theorem op_din (hu : X.A.units + 1 < cLine) : OpR X (compareOp .In) (fun y x H Q => ∃ a o, x = .ref a ∧ DGet H a y o ∧ Q (.bl (if false = true then !o.isSome else o.isSome)) H) := by
  intro pins s σ H x y v u Q I rx ry h
  obtain ⟨a, o, rfl, g, q⟩ := h
  obtain rfl : u = Value.ref a := ry
  exact d_in hu I g rx fun s' I' => ⟨V.bl _, H, I', rfl, q⟩
theorem op_dnotin (hu : X.A.units + 1 < cLine) : OpR X (compareOp .NotIn) (fun y x H Q => ∃ a o, x = .ref a ∧ DGet H a y o ∧ Q (.bl (if true = true then !o.isSome else o.isSome)) H) := by
  intro pins s σ H x y v u Q I rx ry h
  obtain ⟨a, o, rfl, g, q⟩ := h
  obtain rfl : u = Value.ref a := ry
  exact d_notIn hu I g rx fun s' I' => ⟨V.bl _, H, I', rfl, q⟩
theorem de_din {a b : Expr} {ma mb' : M PD} {pos : Pos} (c : Cok X E k) (ha : DE X E a ma) (hb : DE X E b mb') (hm : behindInMarks .In b = false := by rfl) : DE X E (.Compare a [.In] [b] pos) (m2 (fDIn false) ma mb') := de_cmp (op_din c.un) (snd_din false) ha hb hm
theorem de_dnin {a b : Expr} {ma mb' : M PD} {pos : Pos} (c : Cok X E k) (ha : DE X E a ma) (hb : DE X E b mb') (hm : behindInMarks .NotIn b = false := by rfl) : DE X E (.Compare a [.NotIn] [b] pos) (m2 (fDIn true) ma mb') := de_cmp (op_dnotin c.un) (snd_din true) ha hb hm
theorem dt_din {a b : Expr} {ma mb' : M PD} {pos : Pos} (c : Cok X E k) (ha : DE X E a ma) (hb : DE X E b mb') (hm : behindInMarks .In b = false := by rfl) : DT X E (.Compare a [.In] [b] pos) (mB (m2 (fDIn false) ma mb')) := dt_cmp (op_din c.un) (snd_din false) ha hb hm
theorem dt_dnin {a b : Expr} {ma mb' : M PD} {pos : Pos} (c : Cok X E k) (ha : DE X E a ma) (hb : DE X E b mb') (hm : behindInMarks .NotIn b = false := by rfl) : DT X E (.Compare a [.NotIn] [b] pos) (mB (m2 (fDIn true) ma mb')) := dt_cmp (op_dnotin c.un) (snd_din true) ha hb hm
/-- y not in d, d a dict that only slot i knows -/
def mDNinO (i : Nat) (m : M PD) : M PD := fun ρ => match ρ[i]?, m ρ with
  | some (.o (.dic kvs)), some (.ok y) => (asKey y).map fun k => .ok (.bool (!(valP kvs k).isSome))
  | _, _ => none
theorem dt_dninO (i : Nat) {x : Str} {a : Expr} {ma : M PD} {px pos : Pos} (c : Cok X E k) (ha : DE X E a ma) (hm : behindInMarks .NotIn (.Name x px) = false := by rfl) (hN : X.N[i]? = some x := by rfl) (hv : Vis X.env.scope x := by first | exact Or.inl rfl | exact Or.inr (Or.inl rfl) | exact Or.inr (Or.inr rfl))
    (hd : (x == ("__debug__" : Str)) = false := by decide) (hcd : (x == ("__classdict__" : Str)) = false := by decide) : DT X E (.Compare a [.NotIn] [.Name x px] pos) (mB (mDNinO i ma)) := by
  obtain ⟨ta, h1, h2⟩ := ha
  refine ⟨_, pt_cmpR (op_dnotin c.un) h1 (pv i hN hv hd hcd) hm, fun F0 H0 F H σ ρ q Q R h p => ?_⟩
  rcases mb_ok h with ⟨z, e1, e2⟩ | ⟨c', e1, e2⟩
  · unfold ml asB at e2
    split at e2
    · cases e2
      unfold mDNinO at e1
      split at e1
      · rename_i bb _ _ kvs y ex em
        obtain ⟨kk, ek, e3⟩ := Option.map_eq_some_iff.mp e1
        cases e3
        obtain ⟨v, ft, es, ⟨a', ks, rfl, rfl, q1, q2⟩, _⟩ := R.getO ex
        refine h2 F0 H0 F H σ ρ _ _ R em fun w F' H' g d => ?_
        obtain ⟨b, rfl, h3, h4⟩ := d.key_of ek
        refine ⟨.ref a', es, a', valV ks (kk.map Sum.inl), rfl, .inr ⟨ks, kk.map Sum.inl, b, .inl (g.h _ _ q1), rfl, by rw [kV_ints]; exact g.fh _ _ h3, rfl⟩, ?_⟩
        have z : (valV ks (kk.map Sum.inl)).isSome = (valP kvs kk).isSome := by
          rcases q2.val kk with ⟨q1, q2⟩ | ⟨_, _, q1, q2, _⟩ <;> rw [q1, q2] <;> rfl
        rw [if_pos rfl, z]
        exact ⟨_, rfl, p F' H' g⟩
      · cases e1
    · cases e2
  · unfold mDNinO at e1
    split at e1
    · obtain ⟨kk, ek, e3⟩ := Option.map_eq_some_iff.mp e1
      cases e3
    · cases e1
/-- d[y] = x, d a dict that only slot i knows -/
def sDPut (i : Nat) (mv mk : M PD) : MS := fun ρ => match ρ[i]?, mv ρ, mk ρ with
  | some (.o (.dic kvs)), some (.ok x), some (.ok y) => (asKey y).bind fun k => if okV x = true ∧ kvs.length < big then some (.nx (ρ.set i (.o (.dic (putP kvs k x))))) else none
  | _, _, _ => none
theorem Rel.putDic {K : PySem.W.Frag} {F0 H0 F H : Hp} {σ : L2.St} {ρ : List Sl} {i : Nat} {kvs kvs' : List (List Int × PD)} {a : Addr} {ks' : List (List Key × V)} (R : Rel K F0 H0 F H σ ρ) (e : ρ[i]? = some (.o (.dic kvs))) (ea : σ[i]? = some (some (.ref a))) (d : DcAt F ks' kvs') :
    Rel K F0 H0 F (upd H a (.dT ks')) σ (ρ.set i (.o (.dic kvs'))) := by
  obtain ⟨v, ft, es, ⟨a', vs, rfl, rfl, h1, h2⟩, ow, k, _⟩ := R.getO e
  rw [es] at ea; cases ea
  refine k _ _ (fun b hb => upd_ne (by simpa using hb)) (fun b hb => ?_) ⟨a, ks', rfl, rfl, upd_same, d⟩
  have e : b = a := by simpa using hb
  subst e
  rw [upd_same]
  simp
theorem ds_dput (i : Nat) {x : Str} {px ps pos : Pos} {e n : Expr} {mv mn : M PD} (c : Cok X E k) (he : DE X E e mv) (hn : DE X E n mn) (hN : X.N[i]? = some x := by rfl) (hv : Vis X.env.scope x := by first | exact Or.inl rfl | exact Or.inr (Or.inl rfl) | exact Or.inr (Or.inr rfl))
    (hd : (x == ("__debug__" : Str)) = false := by decide) (hcd : (x == ("__classdict__" : Str)) = false := by decide) (hs : swapsWith e (some (.Subscript (.Name x px) n ps)) pos.line X.env = pure false := by rfl) :
    DS X E (.Assign [.Subscript (.Name x px) n ps] e pos) (sDPut i mv mn) := by
  obtain ⟨t, h1, h2⟩ := he
  obtain ⟨t', h3, h4⟩ := hn
  refine ⟨_, ps_dput c.un (pv i hN hv hd hcd) h3 h1 hs, fun F0 H0 F H σ ρ r D R h p => ?_⟩
  unfold sDPut at h
  split at h
  · rename_i kvs y yk ex ey en
    obtain ⟨kk, ek, h⟩ := Option.bind_eq_some_iff.mp h
    split at h
    · rename_i hc
      cases h
      obtain ⟨v, ft, es, ⟨a, ks, rfl, rfl, q1, q2⟩, _⟩ := R.getO ex
      refine h2 F0 H0 F H σ ρ _ _ R ey fun w F' H' g d => ?_
      refine ⟨.ref a, es, h4 F0 H0 F' H' σ ρ _ _ (R.grow g) en fun u F2 H2 g2 d2 => ?_⟩
      have G := g.trans g2
      obtain ⟨b, rfl, h5, h6⟩ := d2.key_of ek
      refine ⟨a, _, rfl, .inr ⟨ks, kk.map Sum.inl, b, G.h _ _ q1, rfl, by rw [kV_ints]; exact G.fh _ _ h5, lt_line (by rw [q2.len]; exact hc.2), rfl⟩, ?_⟩
      exact p σ F2 _ ((R.grow G).putDic ex es ((q2.mono G.f).put kk ((d.mono g2.f).kvv hc.1))) G.f
    · cases h
  · cases h
/-- {} -/
theorem dr_dnew {pos : Pos} : DR X E (.Dict [] [] pos) (fun _ => some (.ok (.o (.dic [])))) := by
  refine ⟨_, pe_dnewT, fun F0 H0 F H σ ρ r Q R h p => ?_⟩
  cases h
  intro a ha
  exact p _ F _ (.newO R.fh ha) ⟨[a], ⟨a, [], rfl, rfl, upd_same, .nil⟩, fun b hb => by
    have e : b = a := by simpa using hb
    subst e
    exact ⟨ha, R.fh.free ha, by rw [upd_same]; simp⟩⟩
/-- {y: None} -/
def mDNew (m : M PD) : M Rs := fun ρ => match m ρ with
  | some (.ok y) => (asKey y).map fun k => .ok (.o (.dic [(k, .none)]))
  | _ => none
/-- a rising: what stands already when a new object is there -/
theorem dr_disp (i : Nat) {x : Str} {px p2 pos : Pos} {j : Nat} (c : Cok X E k) (hN : X.N[i]? = some x := by rfl) (hv : Vis X.env.scope x := by first | exact Or.inl rfl | exact Or.inr (Or.inl rfl) | exact Or.inr (Or.inr rfl))
    (hd : (x == ("__debug__" : Str)) = false := by decide) (hcd : (x == ("__classdict__" : Str)) = false := by decide) : DR X E (.Dict [some (.Name x px)] [.Constant .none j p2] pos) (mDNew (mV i)) := by
  refine ⟨_, pe_disp1T c.hr.units0 (pv i hN hv hd hcd) pe_non, fun F0 H0 F H σ ρ r Q R h p => ?_⟩
  unfold mDNew at h
  split at h
  · rename_i y ey
    obtain ⟨kk, ek, rfl⟩ := Option.map_eq_some_iff.mp h
    unfold mV at ey
    split at ey
    · rename_i y' e
      cases ey
      obtain ⟨v, e1, e2⟩ := R.getD e
      obtain ⟨b, rfl, h5, h6⟩ := e2.key_of ek
      intro a ha
      refine ⟨.ref b, e1, upd_same, b, kk.map Sum.inl, rfl, ?_, ?_⟩
      · rw [kV_ints, upd_ne (ne_of_none (R.fh _ _ h5) ha)]
        exact R.fh _ _ h5
      · rw [upd_upd]
        exact p _ F _ (.newO R.fh ha) ⟨[a], ⟨a, _, rfl, rfl, upd_same, .cons ⟨rfl, .inl ⟨rfl, rfl⟩⟩ .nil⟩, fun b hb => by
          have e : b = a := by simpa using hb
          subst e
          exact ⟨ha, R.fh.free ha, by rw [upd_same]; simp⟩⟩
    · cases ey
  · cases h
/-- what only slot i knows is settled -/
def sFrz (i : Nat) (m : MS) : MS := fun ρ => match ρ[i]? with
  | some (.o (.dic kvs)) => m (ρ.set i (.d (dctD kvs)))
  | _ => none
theorem dss_frz (i : Nat) {sts : List Stmt} {m : MS} (h : DSs X E sts m) : DSs X E sts (sFrz i m) := by
  obtain ⟨t, h1, h2⟩ := h
  refine ⟨_, pss_frz h1, fun F0 H0 F H σ ρ r D R h p => ?_⟩
  unfold sFrz at h
  split at h
  · rename_i kvs ex
    obtain ⟨v, ft, es, ⟨a, ks, rfl, rfl, q1, q2⟩, ow, k1, _⟩ := R.getO ex
    refine ⟨a, .dT ks, q1, True.intro, fun od => ?_⟩
    have R1 := k1 (upd H a (.frz od (.dT ks))) (.fz kvs) (fun b hb => upd_ne (by simpa using hb)) (fun b hb => by
      have e : b = a := by simpa using hb
      subst e
      rw [upd_same]
      simp) ⟨a, od, ks, rfl, rfl, upd_same, q2⟩
    have hl : i < ρ.length := (List.getElem?_eq_some_iff.mp ex).1
    have ex1 : (ρ.set i (.o (.fz kvs)))[i]? = some (.o (.fz kvs)) := List.getElem?_set_self hl
    obtain ⟨v2, ft2, es2, ⟨a2, od2, ks2, e2, f2, g2, d2⟩, ow2, _, k2⟩ := R1.getO ex1
    subst e2 f2
    rw [es] at es2
    cases es2
    rw [upd_same] at g2
    cases g2
    have na := (ow a (by simp)).1
    have R2 := k2 (upd F a (.frz od (.dT ks))) (dctD kvs) (Same.upd_new na) (fun b u q => by
      by_cases z : b = a
      · subst z; rw [upd_same] at q ⊢; exact q
      · rw [upd_ne z] at q; exact R1.fh b u q) (fun b hb => upd_ne (by simpa using hb)) (.dct upd_same (q2.mono (Same.upd_new na)) rfl)
    rw [List.set_set] at R2
    exact h2 F0 H0 _ _ σ _ r D R2 h (p.later (Same.upd_new na))
  · cases h
/-- for x in d, d a dict that is settled -/
def sForD (i : Nat) (m : M PD) (b : MS) : MS := fun ρ => match m ρ with
  | some (.ok x) => (asDct x).bind fun kvs => forL i b (kvs.map fun p => .tuple (p.1.map .int)) ρ
  | _ => none
theorem ds_forD {i : Nat} {x : Str} {pos pos' : Pos} {iter : Expr} {body : List Stmt} {mi : M PD} {mb' : MS} (c : Cok X E k) (hp : PassesOwn (model X.prog X.w) X.A X.env X.xe) (hi : DE X E iter mi) (hb : DSs X E body mb')
    (hx : X.N[i]? = some x := by rfl) (hl : Loc X.env.scope x := by first | exact Or.inl rfl | exact Or.inr rfl) (hf : X.fn x = true ∨ X.env.scope.names.lookup x = some .local := by first | exact .inl rfl | exact .inr rfl | assumption)
    (hs : ∀ x, foldedSetIterable iter X.env x = pure x := by intro _; rfl) : DS X E (.For (.Name x pos') iter body [] pos) (sForD i mi mb') := by
  obtain ⟨ti, h1, h2⟩ := hi
  obtain ⟨tb, h3, h4⟩ := hb
  refine ⟨_, ps_for hp c.calm (pi_keys h1) (pg_name c.nd hx hl hf) h3 hs, fun F0 H0 F H σ ρ r D R h p => ?_⟩
  unfold sForD at h
  split at h
  · rename_i x e
    obtain ⟨kvs, ek, h⟩ := Option.bind_eq_some_iff.mp h
    refine h2 F0 H0 F H σ ρ _ _ R e fun v F1 H1 g d => ?_
    obtain ⟨a, od, ks, rfl, q1, q2⟩ := d.dct_of ek
    refine ⟨a, od, rfl, .inr ⟨ks, g.fh _ _ q1, ?_⟩⟩
    have p1 := p.later g.f
    have hlen : ks.length = kvs.length := q2.len
    refine for_it walk_keysT (fun n σ' H' => ∃ F' ρ', Rel X.K F0 H0 F' H' σ' ρ' ∧ Same F1 F' ∧ forL i mb' ((kvs.map fun p => (.tuple (p.1.map .int) : PD)).drop n) ρ' = some r) ⟨F1, ρ, R.grow g, Same.refl _, h⟩ (fun n σ' H' _ ⟨F', ρ', R', q, _⟩ => R'.fh _ _ (q _ _ q1)) ?_ ?_
    · rintro n v σ' H' H'' hn ⟨F', ρ', R', q, hr⟩ ⟨rfl, kk, vv, qa, ekv, rfl, eq⟩
      obtain ⟨⟨k2, x2⟩, ekv2⟩ : ∃ z, kvs[n]? = some z := ⟨kvs[n]'(by omega), List.getElem?_eq_getElem _⟩
      have ke : kk = k2.map Sum.inl := by
        have := (paired_get q2 ekv ekv2).1
        exact this
      subst ke
      rw [kV_ints] at eq
      have eF := R'.ti qa _ eq (fun z hz => by
        obtain ⟨j, _, rfl⟩ := List.mem_map.mp hz
        exact ⟨j, rfl⟩)
      have ey : (kvs.map fun p => (.tuple (p.1.map .int) : PD))[n]? = some (.tuple (k2.map .int)) := by rw [List.getElem?_map, ekv2]; rfl
      rw [drop_get ey] at hr
      unfold forL at hr
      have R2 := R'.setD (i := i) (.tup eF (DaAll.of_ints k2))
      show tb _ _ _
      split at hr
      · rename_i ρ2 e2
        exact h4 F0 H0 F' H'' _ _ _ _ R2 e2 fun σ3 F3 H3 R3 q3 => ⟨F3, ρ2, R3, q.trans q3, hr⟩
      · rename_i ρ2 e2
        exact h4 F0 H0 F' H'' _ _ _ _ R2 e2 fun σ3 F3 H3 R3 q3 => ⟨F3, ρ2, R3, q.trans q3, hr⟩
      · rename_i ρ2 e2
        cases hr
        exact h4 F0 H0 F' H'' _ _ _ _ R2 e2 fun σ3 F3 H3 R3 q3 => p1 σ3 F3 H3 R3 (q.trans q3)
      · rename_i n1 n2 n3
        refine h4 F0 H0 F' H'' _ _ r _ R2 hr ?_
        cases r with
        | nx ρ2 => exact absurd hr (n1 ρ2)
        | bk ρ2 => exact absurd hr (n3 ρ2)
        | ct ρ2 => exact absurd hr (n2 ρ2)
        | rt z => exact p
        | ex c => exact p
    · rintro σ' H' ⟨F', ρ', R', q, hr⟩
      rw [List.drop_eq_nil_of_le (by rw [List.length_map, hlen]; exact Nat.le_refl _)] at hr
      cases hr
      exact p1 σ' F' H' R' q
  · cases h
/-- the key is two numbers below 8 -/
def smallK : List Int → Bool
  | [a, b] => decide (0 ≤ a) && (decide (a < 8) && (decide (0 ≤ b) && decide (b < 8)))
  | _ => false
theorem smallK_of {k : List Int} (h : smallK k = true) : ∃ a b : Nat, k = [(a : Int), (b : Int)] ∧ a < 8 ∧ b < 8 := by
  unfold smallK at h
  split at h
  · rename_i a b
    simp only [Bool.and_eq_true, decide_eq_true_eq] at h
    obtain ⟨h1, h2, h3, h4⟩ := h
    refine ⟨a.toNat, b.toNat, ?_, by omega, by omega⟩
    rw [Int.toNat_of_nonneg h1, Int.toNat_of_nonneg h3]
  · cases h
theorem DcAt.hashes {F : Hp} {ks : List (List Key × V)} {kvs : List (List Int × PD)} (h : DcAt F ks kvs) (f : List Key → Int) : (ks.map fun x => f x.1) = kvs.map fun p => f (p.1.map Sum.inl) := by
  unfold DcAt at h
  induction h with
  | nil => rfl
  | cons h t ih => rw [List.map_cons, List.map_cons, ih, h.1]
theorem nodup_hash {P : Program} {w : World} {F : Hp} {ks : List (List Key × V)} {kvs : List (List Int × PD)} (h : DcAt F ks kvs) (hs : (kvs.all fun p => smallK p.1) = true) (hn : (kvs.map (·.1)).Nodup) : (ks.map fun x => (tupleKind (mixKind P w)).hash x.1).Nodup := by
  rw [h.hashes fun k => (tupleKind (mixKind P w)).hash k]
  unfold List.Nodup at hn ⊢
  rw [List.pairwise_map] at hn ⊢
  refine List.Pairwise.imp_of_mem (fun {p q} hp hq n e => n ?_) hn
  have all := List.all_eq_true.mp hs
  obtain ⟨a, b, e1, ha, hb⟩ := smallK_of (all p hp)
  obtain ⟨c, d, e2, hc, hd⟩ := smallK_of (all q hq)
  rw [e1, e2] at e ⊢
  have z : h2 (a : Int) (b : Int) = h2 (c : Int) (d : Int) := e
  obtain ⟨rfl, rfl⟩ := h2_inj ha hb hc hd z
  rfl
/-- d.update(e): d known to slot i alone, e settled -/
def sDUpd (i : Nat) (m : M PD) : MS := fun ρ => match ρ[i]?, m ρ with
  | some (.o (.dic kvs)), some (.ok x) => (asDct x).bind fun more => if kvs.length + more.length ≤ big ∧ (kvs ≠ [] ∨ ((more.all fun p => smallK p.1) = true ∧ (more.map (·.1)).Nodup)) then some (.nx (ρ.set i (.o (.dic (mergeP kvs more))))) else none
  | _, _ => none
theorem ds_dupd (i : Nat) {x : Str} {px pa pc pos : Pos} {e : Expr} {m : M PD} (c : Cok X E k) (he : DE X E e m) (hN : X.N[i]? = some x := by rfl) (hv : Vis X.env.scope x := by first | exact Or.inl rfl | exact Or.inr (Or.inl rfl) | exact Or.inr (Or.inr rfl)) (hd : (x == ("__debug__" : Str)) = false := by decide)
    (hcd : (x == ("__classdict__" : Str)) = false := by decide)
    (hbase : attributeBase (.Name x px) "update" X.env (eval (.Name x px) X.env) = eval (.Name x px) X.env := by rfl)
    (hfew : ((backTo pc (starEach [e] X.env)).all (fun x => !x.1) && (backToKw pc (keywordEach [] X.env)).all (fun x => x.1.isSome)
      && decide (([e] : List Expr).length + ([] : List Keyword).length + (if ([] : List Keyword).isEmpty then 0 else 1) < 30)) = true := by rfl)
    (hline : (pa.endLine == pc.line) = true := by rfl) (htr : backTo pc (starEach [e] X.env) = [(false, eval e X.env)] := by rfl)
    (hs : swapsWith (.Call (.Attribute (.Name x px) "update" pa) [e] [] pc) none pos.line X.env = pure false := by rfl) :
    DS X E (.Expr (.Call (.Attribute (.Name x px) "update" pa) [e] [] pc) pos) (sDUpd i m) := by
  obtain ⟨t, h1, h2⟩ := he
  refine ⟨_, ps_expr (pe_dupd c.un (pv i hN hv hd hcd) h1 ⟨hbase, hfew, hline, htr⟩) hs, fun F0 H0 F H σ ρ r D R h p => ?_⟩
  unfold sDUpd at h
  split at h
  · rename_i kvs y ex ey
    obtain ⟨more, em, h⟩ := Option.bind_eq_some_iff.mp h
    split at h
    · rename_i hc
      cases h
      obtain ⟨v, ft, es, ⟨a, ks, rfl, rfl, q1, q2⟩, ow, _⟩ := R.getO ex
      refine ⟨.ref a, es, a, rfl, .inr ⟨ks, .inl q1⟩, h2 F0 H0 F H σ ρ _ _ R ey fun w F' H' g d => ?_⟩
      obtain ⟨o, od, ms, rfl, k1, k2⟩ := d.dct_of em
      have l1 := q2.len
      have l2 := k2.len
      have hne : a ≠ o := fun z => by
        subst z
        have := g.fh _ _ k1
        rw [g.h _ _ q1] at this
        cases this
      refine ⟨o, ks, ms, rfl, hne, g.h _ _ q1, .inr ⟨od, g.fh _ _ k1⟩, le_line (by rw [l1, l2]; exact hc.1), ?_, ?_⟩
      · rcases hc.2 with z | ⟨z1, z2⟩
        · refine .inl fun y => z ?_
          rw [y] at l1
          exact List.eq_nil_of_length_eq_zero l1.symm
        · exact .inr (nodup_hash k2 z1 z2)
      · exact p σ F' _ ((R.grow g).putDic ex es (DcAt.merge k2 (q2.mono g.f))) g.f
    · cases h
  · cases h
end
end DL

/-! A def whose last parameter is a list that nobody else knows; new lists out of sums; a pair of data and a list that is known to nobody else. -/
namespace DL
open PySem L2 DX
abbrev GFO := List PD → List PD → Option (Ro Rs)
def cutA (H : Hp) (a : Addr) : Hp := fun b => if b = a then none else H b
theorem cutA_same {H : Hp} {a : Addr} : cutA H a a = none := if_pos rfl
theorem cutA_ne {H : Hp} {a b : Addr} (h : b ≠ a) : cutA H a b = H b := if_neg h
/-- what such a def promises: the last argument is a list, known to the callee alone -/
def spO (K : PySem.W.Frag) (g : List PD → List PD → Option (Ro Rs)) : Sp := fun vs H Q E => ∃ F a us ds ws xs r, vs = us ++ [.ref a] ∧ H a = some (.lst ws) ∧ (Same F (cutA H a) ∧ TupIn F (cutA H a)) ∧ DaAll K F us ds ∧ DaAll K F ws xs ∧ g ds xs = some r ∧ PoR K F (cutA H a) Q E r
def DefOkO (P : Program) (w : World) (K : PySem.W.Frag) (mg : Str → Option Value) (base : Heap) (x : Str) (k : Nat) (g : List PD → List PD → Option (Ro Rs)) : Prop :=
  ∃ f fd ps, FnOk P w K mg base (L2.CX P w) k f fd ps (spO K g) ∧ mg x = some (.ref f) ∧ PySem.W.keepIn K (.ref f) = true ∧ Binds K fd ps []
/-- the def's function: n parameters, l names in all -/
def defO (n l : Nat) (m : MS) (ds xs : List PD) : Option (Ro Rs) := if ds.length + 1 = n then finD (m (ds.map .d ++ .o (.lst xs) :: List.replicate (l - n) .no)) else none
theorem Rel.beginsO {K : PySem.W.Frag} {F H : Hp} {us ws : List V} {a : Addr} {ds xs : List PD} {N : List Str} (ha : H a = some (.lst ws)) (e : Same F (cutA H a) ∧ TupIn F (cutA H a)) (d : DaAll K F us ds) (d2 : DaAll K F ws xs) :
    Rel K F (cutA H a) F H (start N (us ++ [.ref a])) (ds.map .d ++ .o (.lst xs) :: List.replicate (N.length - (ds.length + 1)) .no) := by
  have hl := d.len
  have na : F a = none := e.1.free cutA_same
  have hsame : Same (cutA H a) H := fun b o q => by
    by_cases z : b = a
    · subst z; rw [cutA_same] at q; cases q
    · rw [cutA_ne z] at q; exact q
  refine ⟨⟨Same.refl _, hsame, e.1.trans hsame, fun _ _ => rfl, fun z b ys q i => ?_⟩, by simp [L2.start, hl], e.2, fun i => if i = ds.length then [a] else [], fun i s o e1 e2 => ?_, fun i b hb => ?_, fun i j hij b hb hc => ?_⟩
  · by_cases y : b = a
    · subst y; rw [ha] at q; cases q
    · exact z b ys (by rw [cutA_ne y]; exact q) i
  · unfold L2.start at e2
    by_cases hi : i < ds.length
    · rw [List.getElem?_append_left (by simpa using hi)] at e1
      rw [List.getElem?_append_left (by simp [hl]; omega), List.map_append, List.getElem?_append_left (by simpa [hl] using hi)] at e2
      rw [List.getElem?_map] at e1 e2
      obtain ⟨y, ey, rfl⟩ := Option.map_eq_some_iff.mp e1
      obtain ⟨v, ev, rfl⟩ := Option.map_eq_some_iff.mp e2
      obtain ⟨y', ey', dy⟩ := d.get ev
      rw [ey] at ey'; cases ey'
      exact ⟨if_neg (by omega), v, rfl, dy⟩
    · by_cases hj : i = ds.length
      · subst hj
        rw [List.getElem?_append_right (by simp)] at e1
        simp at e1
        rw [List.getElem?_append_left (by simp [hl])] at e2
        simp [← hl] at e2
        subst e1 e2
        exact ⟨.ref a, rfl, a, ws, rfl, if_pos rfl, ha, d2⟩
      · rw [List.getElem?_append_right (by simp; omega)] at e1
        have : ∃ m, i - (List.map Sl.d ds).length = m + 1 := ⟨i - ds.length - 1, by simp; omega⟩
        obtain ⟨m, hm⟩ := this
        rw [hm, List.getElem?_cons_succ, List.getElem?_replicate] at e1
        split at e1
        · cases e1; exact if_neg hj
        · cases e1
  · replace hb : b ∈ (if i = ds.length then [a] else []) := hb
    by_cases z : i = ds.length
    · rw [if_pos z] at hb
      have : b = a := by simpa using hb
      subst this
      exact ⟨na, cutA_same, by rw [ha]; simp⟩
    · rw [if_neg z] at hb; cases hb
  · replace hb : b ∈ (if i = ds.length then [a] else []) := hb
    replace hc : b ∈ (if j = ds.length then [a] else []) := hc
    by_cases z : i = ds.length
    · by_cases z2 : j = ds.length
      · exact hij (z.trans z2.symm)
      · rw [if_neg z2] at hc; cases hc
    · rw [if_neg z] at hb; cases hb
theorem def_fnO {P : Program} {w : World} {K : PySem.W.Frag} {mg : Str → Option Value} {base : Heap} {x qual : Str} {st : Stmt} {f : Addr} {fd : FuncData} {N ps : List Str} {k n l : Nat} {m : MS} (F : Fun K x qual st f fd) (S : FnScope N ps (defScope st)) (hn : ps.length = n) (hl : N.length = l)
    (hbody : ∀ (cdv : Value) (A : Around) (outer : List Env) (s : Shared) (H : Hp) (E : XK), Cok (cxOf (L2.CX P w) P w K mg base N qual (defScope st) f cdv A outer s H E) E k →
      PassesOwn (model P w) (cxOf (L2.CX P w) P w K mg base N qual (defScope st) f cdv A outer s H E).A (cxOf (L2.CX P w) P w K mg base N qual (defScope st) f cdv A outer s H E).env (cxOf (L2.CX P w) P w K mg base N qual (defScope st) f cdv A outer s H E).xe →
      DSs (cxOf (L2.CX P w) P w K mg base N qual (defScope st) f cdv A outer s H E) E (defBody st) m) :
    FnOk P w K mg base (L2.CX P w) (k + 1) f fd ps (spO K (defO n l m)) := by
  refine F.okX S (fun vs H Q E h => ?_) (fun cdv A outer s H vs Q E hr h => ?_)
  · obtain ⟨F, a, us, ds, ws, xs, r, rfl, q0, q1, q2, q5, q3, _⟩ := h
    unfold defO at q3
    split at q3
    · rename_i e; rw [List.length_append, q2.len, hn, ← e]; rfl
    · cases q3
  · obtain ⟨F1, a, us, ds, ws, xs, r, rfl, q0, q1, q2, q5, q3, q4⟩ := h
    obtain ⟨t, h1, h2⟩ := hbody cdv A outer s H E ⟨rfl, S.nd, takes_of rfl rfl rfl rfl, hr⟩ (passes_of rfl)
    refine ⟨t, h1, ?_⟩
    unfold defO at q3
    split at q3
    · rename_i e
      have R := Rel.beginsO (N := N) q0 q1 q2 q5
      rw [e, hl] at R
      unfold finD at q3
      split at q3
      · rename_i ρ' eo
        cases q3
        exact h2 F1 _ F1 H _ _ _ _ R eo fun σ' F' H' R' _ => q4 _ F' H' R'.g .non
      · rename_i ρ' eo
        cases q3
        exact h2 F1 _ F1 H _ _ _ _ R eo fun v F' H' g d => q4 v F' H' g d
      · rename_i ρ' eo
        cases q3
        exact h2 F1 _ F1 H _ _ _ _ R eo fun F' H' g => q4 F' H' g
      · cases q3
    · cases q3
theorem DefOkO.of {P : Program} {w : World} {K : PySem.W.Frag} {mg : Str → Option Value} {base : Heap} {x qual : Str} {st : Stmt} {f : Addr} {fd : FuncData} {ps : List Str} {k : Nat} {g : List PD → List PD → Option (Ro Rs)} (F : Fun K x qual st f fd) (h : FnOk P w K mg base (L2.CX P w) k f fd ps (spO K g))
    (hr : mg x = some (.ref f)) (hb : Binds K fd ps []) : DefOkO P w K mg base x k g := ⟨f, fd, ps, h, hr, F.kp, hb⟩
theorem fn_zero {P : Program} {w : World} {K : PySem.W.Frag} {mg : Str → Option Value} {base : Heap} {k : Nat} {f : Addr} {fd : FuncData} {ps : List Str} : FnOk P w K mg base (L2.CX P w) k f fd ps (spD K fun _ => none) :=
  ⟨fun _ _ _ _ ⟨_, _, _, _, _, e, _⟩ => (nomatch e), fun _ _ _ _ _ _ _ _ _ _ _ _ _ ⟨_, _, _, _, _, e, _⟩ => nomatch e⟩
theorem fn_zeroO {P : Program} {w : World} {K : PySem.W.Frag} {mg : Str → Option Value} {base : Heap} {k : Nat} {f : Addr} {fd : FuncData} {ps : List Str} : FnOk P w K mg base (L2.CX P w) k f fd ps (spO K fun _ _ => none) :=
  ⟨fun _ _ _ _ ⟨_, _, _, _, _, _, _, _, _, _, _, _, e, _⟩ => (nomatch e), fun _ _ _ _ _ _ _ _ _ _ _ _ _ ⟨_, _, _, _, _, _, _, _, _, _, _, _, e, _⟩ => nomatch e⟩
section
variable {X : Cx} {E : XK} {k : Nat}
/-- f(a, b, e), e a new list -/
def mCallO (g : List PD → List PD → Option (Ro Rs)) (ma mb' : M PD) (mo : M Rs) : M Rs := mb ma fun x => mb mb' fun y => mb mo fun r _ => match r with
  | .o (.lst xs) => g [x, y] xs
  | _ => none
theorem dr_callO {x : Str} {p pos : Pos} {a b e : Expr} {j : Nat} {g : List PD → List PD → Option (Ro Rs)} {ma mb' : M PD} {mo : M Rs} (c : Cok X E k) (F : DefOkO X.prog X.w X.K X.mg X.base x j g) (hj : j ≤ k) (ha : DE X E a ma) (hb : DE X E b mb') (he : DR X E e mo)
    (hg : Gl X x := by rfl) (hdb : (x == ("__debug__" : Str)) = false := by decide) (hs1 : starEach [a, b, e] X.env = (false, eval a X.env) :: starEach [b, e] X.env := by rfl) (hs2 : starEach [b, e] X.env = (false, eval b X.env) :: starEach [e] X.env := by rfl)
    (hs3 : starEach [e] X.env = (false, eval e X.env) :: starEach [] X.env := by rfl) (hpl : (backTo pos (starEach [b, e] X.env)).any (·.1) = false := by rfl) :
    DR X E (.Call (.Name x p) [a, b, e] [] pos) (mCallO g ma mb' mo) := by
  obtain ⟨ta, h1, h2⟩ := ha
  obtain ⟨tb, h3, h4⟩ := hb
  obtain ⟨te, h5, h6⟩ := he
  obtain ⟨f, fd, ps, F, hm, hk, hbi⟩ := F
  refine ⟨_, pe_call F (c.hr.mono hj) hg hm hk hbi .nil (passes_call c.tk fun _ _ _ _ h => h) (pa_cons h1 (pa_cons h3 (pa_cons h5 pa_nil hs3) hs2) hs1) hdb hs1 hpl, fun F0 H0 F H σ ρ r Q R h p => ?_⟩
  rcases mb_ok h with ⟨u, e1, e2⟩ | ⟨c, e1, e2⟩
  · refine h2 F0 H0 F H σ ρ _ _ R e1 fun v1 F1 H1 g1 d1 => ?_
    rcases mb_ok e2 with ⟨u2, e3, e4⟩ | ⟨c, e3, e4⟩
    · refine h4 F0 H0 F1 H1 σ ρ _ _ (R.grow g1) e3 fun v2 F2 H2 g2 d2 => ?_
      have g12 := g1.trans g2
      rcases mb_ok e4 with ⟨u3, e5, e6⟩ | ⟨c, e5, e6⟩
      · refine h6 F0 H0 F2 H2 σ ρ _ _ (R.grow g12) e5 fun v3 F3 H3 g3 d3 => ?_
        have g13 := g12.trans g3
        split at e6
        · rename_i xs
          obtain ⟨ft, ⟨a', ws, rfl, rfl, k1, k2⟩, k3⟩ := d3
          obtain ⟨n1, n2, n3⟩ := k3 a' (by simp)
          have nH : H a' = none := by
            cases q : H a' with
            | none => rfl
            | some o => rw [g12.h _ _ q] at n1; cases n1
          show spO X.K _ _ H3 Q E
          have ti := (R.grow g13).ti
          have sc : Same F3 (cutA H3 a') := fun b o q => by
            by_cases z : b = a'
            · subst z; rw [n2] at q; cases q
            · rw [cutA_ne z]; exact g13.fh b o q
          have tc : TupIn F3 (cutA H3 a') := fun b ys q i => by
            by_cases z : b = a'
            · subst z; rw [cutA_same] at q; cases q
            · rw [cutA_ne z] at q; exact ti b ys q i
          refine ⟨F3, a', [v1, v2], [u, u2], ws, xs, r, rfl, k1, ⟨sc, tc⟩, .cons (d1.mono (g2.f.trans g3.f)) (.cons (d2.mono g3.f) .nil), k2, e6, ?_⟩
          have gg : Grow F H F3 (cutA H3 a') := ⟨g13.f, fun b o q => by
            by_cases z : b = a'
            · subst z; rw [nH] at q; cases q
            · rw [cutA_ne z]; exact g13.h b o q, sc, g13.n, fun _ => tc⟩
          exact p.grow gg
        · cases e6
      · cases e6
        exact h6 F0 H0 F2 H2 σ ρ _ _ (R.grow g12) e5 fun F' H' g => p F' H' (g12.trans g)
    · cases e4
      exact h4 F0 H0 F1 H1 σ ρ _ _ (R.grow g1) e3 fun F' H' g => p F' H' (g1.trans g)
  · cases e2
    exact h2 F0 H0 F H σ ρ _ _ R e1 fun F' H' g => p F' H' g
/-- a + b, two lists: a new one -/
def mAddL (ma mb' : M PD) : M Rs := mb ma fun x => mb mb' fun y => ml (match x, y with | .list xs, .list ys => if xs.length + ys.length ≤ big then some (.o (.lst (xs ++ ys))) else none | _, _ => none)
theorem dr_addL {a b : Expr} {ma mb' : M PD} {pos : Pos} (ha : DE X E a ma) (hb : DE X E b mb') : DR X E (.BinOp a .Add b pos) (mAddL ma mb') := by
  obtain ⟨ta, h1, h2⟩ := ha
  obtain ⟨tb, h3, h4⟩ := hb
  refine ⟨_, pe_op op_cat h1 h3, fun F0 H0 F H σ ρ q Q R h p => ?_⟩
  rcases mb_ok h with ⟨x, e1, e2⟩ | ⟨c, e1, e2⟩
  · refine h2 F0 H0 F H σ ρ _ _ R e1 fun v F' H' g d => ?_
    rcases mb_ok e2 with ⟨y, e3, e4⟩ | ⟨c, e3, e4⟩
    · refine h4 F0 H0 F' H' σ ρ _ _ (R.grow g) e3 fun w F2 H2 g2 d2 => ?_
      unfold ml at e4
      obtain ⟨z, ez, rfl⟩ := Option.map_eq_some_iff.mp e4
      split at ez
      · split at ez
        · rename_i hz
          cases ez
          have d' := d.mono g2.f
          cases d' with
          | lst k1 k2 =>
            cases d2 with
            | lst k3 k4 =>
              refine ⟨_, _, _, _, rfl, rfl, g2.fh _ _ k1, g2.fh _ _ k3, le_line (by rw [k2.len, k4.len]; exact hz), fun a na => ?_⟩
              have G := g.trans g2
              refine p _ F2 _ (G.trans (.newO G.fh na)) ⟨[a], ⟨a, _, rfl, rfl, upd_same, k2.append k4⟩, fun b hb => ?_⟩
              have e : b = a := by simpa using hb
              subst e
              exact ⟨G.h.free na, G.fh.free na, by rw [upd_same]; simp⟩
        · cases ez
      · cases ez
    · cases e4
      exact h4 F0 H0 F' H' σ ρ _ _ (R.grow g) e3 fun F2 H2 g2 => p F2 H2 (g.trans g2)
  · cases e2
    exact h2 F0 H0 F H σ ρ _ _ R e1 fun F' H' g => p F' H' g
/-- what only slot i knows is looked at, a new list of whole numbers comes out -/
def intP : PD → Bool
  | .int _ => true
  | _ => false
def mPkI (i : Nat) (m : M Rs) : M Rs := fun ρ => match mPk i m ρ with
  | some (.ok (.o (.lst zs))) => if zs.all intP = true then some (.ok (.o (.lst zs))) else none
  | _ => none
theorem DaAll.intP {K : PySem.W.Frag} {F F' : Hp} : ∀ {vs : List V} {zs : List PD}, DaAll K F vs zs → zs.all DL.intP = true → DaAll K F' vs zs
  | _, _, .nil, _ => .nil
  | _, _, .cons h t, e => by
    rw [List.all_cons, Bool.and_eq_true] at e
    refine .cons ?_ (DaAll.intP t e.2)
    cases h with
    | int i => exact .int i
    | non => cases e.1
    | bl _ => cases e.1
    | str _ => cases e.1
    | lst _ _ => cases e.1
    | tup _ _ => cases e.1
    | scr _ _ => cases e.1
    | dct _ _ _ => cases e.1
    | shf _ _ _ _ _ _ => cases e.1
theorem dr_pkI (i : Nat) {e : Expr} {m : M Rs} (h : DR X E e m) : DR X E e (mPkI i m) := by
  obtain ⟨t, h1, h2⟩ := h
  refine ⟨t, h1, fun F0 H0 F H σ ρ q Q R h p => ?_⟩
  unfold mPkI at h
  split at h
  · rename_i zs eq
    split at h
    · rename_i hz
      cases h
      have go : ∀ (s : Ow) (x : PD), ρ[i]? = some (.o s) → Rs.data (.o s) = some x → m (ρ.set i (.d x)) = some (.ok (.o (.lst zs))) → t σ H Q := fun s x e hx h => by
        obtain ⟨F1, ft, R1, s1, n1, off⟩ := R.peek e hx
        refine h2 F0 H0 F1 H σ _ _ Q R1 h fun v F' H' g d => ?_
        obtain ⟨ft2, ⟨a, vs, rfl, rfl, k1, k2⟩, k3⟩ := d
        obtain ⟨l1, l2, l3⟩ := k3 a (by simp)
        refine p _ _ H' (g.uncut R.fh n1 off s1) ⟨[a], ⟨a, vs, rfl, rfl, k1, k2.intP hz⟩, fun b hb => ?_⟩
        have e : b = a := by simpa using hb
        subst e
        refine ⟨l1, ?_, l3⟩
        unfold cutH
        split
        · rfl
        · exact l2
      rcases mPk_cases eq with ⟨s, x, e1, e2, e3⟩ | e3
      · exact go s x e1 e2 e3
      · exact h2 F0 H0 F H σ ρ _ Q R e3 p
    · cases h
  · cases h
/-- x = y, what y knew goes to x, y is not read again -/
def sMv (i j : Nat) : MS := fun ρ => match ρ[j]? with
  | some (.o (.lst xs)) => if i ≠ j then some (.nx ((ρ.set j .no).set i (.o (.lst xs)))) else none
  | some (.d x) => some (.nx (ρ.set i (.d x)))
  | _ => none
/-- (e, y), y a list that only slot j knows; e, a text -/
def sRetBox (s : Str) (j : Nat) : MS := fun ρ => match ρ[j]? with
  | some (.o (.lst xs)) => some (.rt (.o (.box (.str s) xs)))
  | _ => none
theorem Rel.getN {K : PySem.W.Frag} {F0 H0 F H : Hp} {σ : L2.St} {ρ : List Sl} {i : Nat} (R : Rel K F0 H0 F H σ ρ) : Rel K F0 H0 F H σ (ρ.set i .no) := by
  obtain ⟨G, l, t0, ft, h1, h2, h3⟩ := R
  refine ⟨G, by simp [l], t0, ftSet ft i [], fun j s o e1 e2 => ?_, fun j a ha => ?_, fun j k hjk a ha hk => ?_⟩
  · by_cases z : j = i
    · subst z
      rw [ftSet_same]
      have hl : j < ρ.length := by
        have := (List.getElem?_eq_some_iff.mp e1).1; simpa using this
      rw [List.getElem?_set_self hl] at e1
      cases e1
      exact rfl
    · rw [ftSet_ne z]
      rw [List.getElem?_set_ne (Ne.symm z)] at e1
      exact h1 j s o e1 e2
  · by_cases z : j = i
    · rw [z, ftSet_same] at ha; exact absurd ha (by simp)
    · rw [ftSet_ne z] at ha; exact h2 j a ha
  · by_cases z : j = i
    · rw [z, ftSet_same] at ha; exact absurd ha (by simp)
    · by_cases z' : k = i
      · rw [z', ftSet_same] at hk; exact absurd hk (by simp)
      · rw [ftSet_ne z] at ha; rw [ftSet_ne z'] at hk; exact h3 j k hjk a ha hk
/-- the object of slot j is slot i's from here on -/
theorem Rel.move {K : PySem.W.Frag} {F0 H0 F H : Hp} {σ : L2.St} {ρ : List Sl} {i j : Nat} {v : V} {s : Ow} (R : Rel K F0 H0 F H σ ρ) (hij : i ≠ j) (e : ρ[j]? = some (.o s)) (ev : σ[j]? = some (some v)) : Rel K F0 H0 F H (σ.set i (some v)) ((ρ.set j .no).set i (.o s)) := by
  obtain ⟨G, l, t0, ft, h1, h2, h3⟩ := R
  have hjl : j < ρ.length := (List.getElem?_eq_some_iff.mp e).1
  have hj := h1 j _ _ e ev
  refine ⟨G, by simp [l], t0, fun m => if m = i then ft j else if m = j then [] else ft m, fun m s' o e1 e2 => ?_, fun m a ha => ?_, fun m k hmk a ha hk => ?_⟩
  · by_cases z : m = i
    · subst z
      have hl : m < ρ.length := by
        have := (List.getElem?_eq_some_iff.mp e1).1; simpa using this
      rw [List.getElem?_set_self (by simpa using hl)] at e1
      rw [List.getElem?_set_self (by rw [l]; exact hl)] at e2
      cases e1; cases e2
      show SlAt K F H (some v) (if m = m then ft j else _) _
      rw [if_pos rfl]
      exact hj
    · rw [List.getElem?_set_ne (Ne.symm z)] at e1 e2
      show SlAt K F H o (if m = i then ft j else if m = j then [] else ft m) s'
      rw [if_neg z]
      by_cases z2 : m = j
      · subst z2
        rw [List.getElem?_set_self hjl] at e1
        cases e1
        rw [if_pos rfl]
        exact rfl
      · rw [if_neg z2]
        rw [List.getElem?_set_ne (Ne.symm z2)] at e1
        exact h1 m s' o e1 e2
  · replace ha : a ∈ (if m = i then ft j else if m = j then [] else ft m) := ha
    split at ha
    · exact h2 j a ha
    · split at ha
      · cases ha
      · exact h2 m a ha
  · replace ha : a ∈ (if m = i then ft j else if m = j then [] else ft m) := ha
    replace hk : a ∈ (if k = i then ft j else if k = j then [] else ft k) := hk
    by_cases z : m = i
    · rw [if_pos z] at ha
      have zk : ¬ k = i := fun y => hmk (z.trans y.symm)
      rw [if_neg zk] at hk
      split at hk
      · cases hk
      · rename_i y; exact h3 j k (fun q => y q.symm) a ha hk
    · rw [if_neg z] at ha
      split at ha
      · cases ha
      · rename_i y
        by_cases zk : k = i
        · rw [if_pos zk] at hk; exact h3 m j y a ha hk
        · rw [if_neg zk] at hk
          split at hk
          · cases hk
          · exact h3 m k hmk a ha hk
theorem ds_mv {i j : Nat} {x y : Str} {pos pos' pos2 : Pos} (hN : X.N.Nodup) (hi : X.N[i]? = some x := by rfl) (hj : X.N[j]? = some y := by rfl) (hx : Loc X.env.scope x := by first | exact Or.inl rfl | exact Or.inr rfl)
    (hv : Vis X.env.scope y := by first | exact Or.inl rfl | exact Or.inr (Or.inl rfl) | exact Or.inr (Or.inr rfl)) (hd : (y == ("__debug__" : Str)) = false := by decide) (hcd : (y == ("__classdict__" : Str)) = false := by decide)
    (hs : swapsWith (.Name y pos2) (some (.Name x pos')) pos.line X.env = pure false := by rfl) (hf : X.fn x = true ∨ X.env.scope.names.lookup x = some .local := by first | exact .inl rfl | exact .inr rfl | assumption) : DS X E (.Assign [.Name x pos'] (.Name y pos2) pos) (sMv i j) := by
  refine ⟨_, ps_set hN hi hx (pv j hj hv hd hcd) hs hf, fun F0 H0 F H σ ρ r D R h p => ?_⟩
  unfold sMv at h
  split at h
  · rename_i xs e
    split at h
    · rename_i hij
      cases h
      obtain ⟨v, ft, es, _⟩ := R.getO e
      exact ⟨v, es, p _ F H (R.move hij e es) (Same.refl _)⟩
    · cases h
  · rename_i z e
    cases h
    obtain ⟨v, e1, e2⟩ := R.getD e
    exact ⟨v, e1, p _ F H (R.setD e2) (Same.refl _)⟩
  · cases h
theorem ds_retBox {z : Str} (j : Nat) {y : Str} {jj : Nat} {p1 p2 p3 pos : Pos} {kk} (hj : X.N[j]? = some y := by rfl) (hv : Vis X.env.scope y := by first | exact Or.inl rfl | exact Or.inr (Or.inl rfl) | exact Or.inr (Or.inr rfl)) (hd : (y == ("__debug__" : Str)) = false := by decide)
    (hcd : (y == ("__classdict__" : Str)) = false := by decide)
    (hs1 : starEach [.Constant (.str z) jj p1, .Name y p2] X.env = (false, eval (.Constant (.str z) jj p1) X.env) :: starEach [.Name y p2] X.env := by rfl) (hs2 : starEach [.Name y p2] X.env = (false, eval (.Name y p2) X.env) :: starEach [] X.env := by rfl) :
    DS X E (.Return (some (.Tuple [.Constant (.str z) jj p1, .Name y p2] kk p3)) pos) (sRetBox z j) := by
  refine ⟨_, ps_ret (pe_tup (pa_cons pe_str (pa_cons (pv j hj hv hd hcd) pa_nil hs2) hs1)), fun F0 H0 F H σ ρ r D R h p => ?_⟩
  unfold sRetBox at h
  split at h
  · rename_i xs e
    cases h
    obtain ⟨v, ft, es, ⟨a, vs, rfl, rfl, q1, q2⟩, ow, _⟩ := R.getO e
    obtain ⟨o1, o2, o3⟩ := ow a (by simp)
    refine ⟨.ref a, es, le_line (n := 2) (by decide), fun t ht => ?_⟩
    have hta : t ≠ a := fun q => by rw [q, q1] at ht; cases ht
    have g : Grow F H F (upd H t (.tup [.str z, .ref a])) := .newO R.fh ht (fun ys q i => by
      cases q
      obtain ⟨j, hj⟩ := i (.ref a) (by simp)
      cases hj)
    have ft0 : H0 t = none := R.g.h.free ht
    refine p _ F _ (R.g.trans g) ⟨[t, a], ⟨t, a, .str z, vs, rfl, rfl, hta, upd_same, .str z, by rw [upd_ne (Ne.symm hta)]; exact q1, q2⟩, fun b hb => ?_⟩
    have : b = t ∨ b = a := by simpa using hb
    rcases this with y | y
    · subst y
      exact ⟨ft0, R.fh.free ht, by rw [upd_same]; simp⟩
    · subst y
      exact ⟨o2, o1, by rw [upd_ne (Ne.symm hta)]; exact o3⟩
  · cases h
/-- (text, e), e a new list -/
def mBox (z : Str) (m : M Rs) : M Rs := mb m fun r => ml (match r with | .o (.lst xs) => some (.o (.box (.str z) xs)) | _ => none)
theorem dr_box {z : Str} {e : Expr} {m : M Rs} {jj : Nat} {p1 p3 : Pos} {kk} (he : DR X E e m)
    (hs1 : starEach [.Constant (.str z) jj p1, e] X.env = (false, eval (.Constant (.str z) jj p1) X.env) :: starEach [e] X.env := by rfl) (hs2 : starEach [e] X.env = (false, eval e X.env) :: starEach [] X.env := by rfl) :
    DR X E (.Tuple [.Constant (.str z) jj p1, e] kk p3) (mBox z m) := by
  obtain ⟨t, h1, h2⟩ := he
  refine ⟨_, pe_tup (pa_cons pe_str (pa_cons h1 pa_nil hs2) hs1), fun F0 H0 F H σ ρ q Q R h p => ?_⟩
  rcases mb_ok h with ⟨x, e1, e2⟩ | ⟨c, e1, e2⟩
  · unfold ml at e2
    obtain ⟨y, ey, rfl⟩ := Option.map_eq_some_iff.mp e2
    split at ey
    · rename_i xs
      cases ey
      refine h2 F0 H0 F H σ ρ _ _ R e1 fun v F' H' g d => ⟨le_line (n := 2) (by decide), fun t ht => ?_⟩
      obtain ⟨ft, ⟨a, vs, rfl, rfl, k1, k2⟩, k3⟩ := d
      obtain ⟨n1, n2, n3⟩ := k3 a (by simp)
      have hta : t ≠ a := fun q => by rw [q, k1] at ht; cases ht
      have g2 : Grow F' H' F' (upd H' t (.tup [.str z, .ref a])) := .newO g.fh ht (fun ys q i => by
        cases q
        obtain ⟨j, hj⟩ := i (.ref a) (by simp)
        cases hj)
      refine p _ F' _ (g.trans g2) ⟨[t, a], ⟨t, a, .str z, vs, rfl, rfl, hta, upd_same, .str z, by rw [upd_ne (Ne.symm hta)]; exact k1, k2⟩, fun b hb => ?_⟩
      have : b = t ∨ b = a := by simpa using hb
      rcases this with y | y
      · subst y
        exact ⟨g.h.free ht, g.fh.free ht, by rw [upd_same]; simp⟩
      · subst y
        exact ⟨n1, n2, by rw [upd_ne (Ne.symm hta)]; exact n3⟩
    · cases ey
  · cases e2
    exact h2 F0 H0 F H σ ρ _ _ R e1 fun F' H' g => p F' H' g
/-- xs[1].clear() -/
def sClrB (i : Nat) : MS := fun ρ => match ρ[i]? with
  | some (.o (.box x _)) => some (.nx (ρ.set i (.o (.box x []))))
  | _ => none
theorem ds_clrB (i : Nat) {x : Str} {px ps pi pa pc pos : Pos} {jj : Nat} (hN : X.N[i]? = some x := by rfl) (hv : Vis X.env.scope x := by first | exact Or.inl rfl | exact Or.inr (Or.inl rfl) | exact Or.inr (Or.inr rfl)) (hd : (x == ("__debug__" : Str)) = false := by decide)
    (hcd : (x == ("__classdict__" : Str)) = false := by decide)
    (hpi : PlainIx (.Constant (.int 1) jj pi) := by exact fun _ _ => rfl)
    (hbase : attributeBase (.Subscript (.Name x px) (.Constant (.int 1) jj pi) ps) "clear" X.env (eval (.Subscript (.Name x px) (.Constant (.int 1) jj pi) ps) X.env) = eval (.Subscript (.Name x px) (.Constant (.int 1) jj pi) ps) X.env := by rfl) (hline : (pa.endLine == pc.line) = true := by rfl)
    (hs : swapsWith (.Call (.Attribute (.Subscript (.Name x px) (.Constant (.int 1) jj pi) ps) "clear" pa) [] [] pc) none pos.line X.env = pure false := by rfl) :
    DS X E (.Expr (.Call (.Attribute (.Subscript (.Name x px) (.Constant (.int 1) jj pi) ps) "clear" pa) [] [] pc) pos) (sClrB i) := by
  refine ⟨_, ps_expr (pe_bm0 PySem.F.plainAttrs_list PySem.F.slot_list_clear PySem.F.type_list_clear mt_clear (pe_ix ix_tup (pv i hN hv hd hcd) pe_int hpi) hbase hline) hs, fun F0 H0 F H σ ρ r D R h p => ?_⟩
  unfold sClrB at h
  split at h
  · rename_i y xs ex
    cases h
    obtain ⟨v, ft, es, ⟨t, a, v0, vs, rfl, rfl, q1, q2, q3, q4, q5⟩, ow, k1, _⟩ := R.getO ex
    refine ⟨.ref t, es, t, [v0, .ref a], 1, .ref a, rfl, rfl, SqT.of q2, rfl, .inl ⟨rfl, _, SqL.of q4⟩, a, vs, rfl, rfl, q4, ?_⟩
    refine p σ F _ (k1 _ (.box y []) (fun b hb => upd_ne (by simp at hb; exact hb.2)) (fun b hb => ?_) ⟨t, a, v0, [], rfl, rfl, q1, by rw [upd_ne q1]; exact q2, q3, upd_same, .nil⟩) (Same.refl _)
    have : b = t ∨ b = a := by simpa using hb
    rcases this with z | z
    · rw [z, upd_ne q1, q2]; simp
    · rw [z, upd_same]; simp
  · cases h
end
end DL

/-! xs.index(y) of whole numbers; a comprehension over a list that its slot alone knows. -/
namespace DL
open PySem L2
section
variable {X : Cx} {E : XK} {k : Nat}
theorem idx_le {n : Int} : ∀ {l : List Int} {m : Nat}, l[m]? = some n → l.idxOf n ≤ m
  | [], m, h => by simp at h
  | x :: l, 0, h => by
    have : x = n := by simpa using h
    subst this
    simp [List.idxOf_cons]
  | x :: l, m + 1, h => by
    have ih := idx_le (l := l) (m := m) (by simpa using h)
    rw [List.idxOf_cons]
    by_cases e : x = n
    · simp [e]
    · have e' : (x == n) = false := by simpa using e
      rw [e']
      simp only [cond_false]
      omega
theorem ints_flat : ∀ ns : List Int, (ns.map V.int).all flatV = true
  | [] => rfl
  | n :: ns => by
    rw [List.map_cons, List.all_cons, ints_flat ns]
    rfl
def asLs : PD → Option (List PD)
  | .list xs => some xs
  | _ => none
def mIdx (a b : M PD) : M PD := mb a fun x => mb (ml (asLs x)) fun xs => mb b fun y => ml (fIndex (.list xs) y)
theorem de_index {o e : Expr} {mo me : M PD} {apos pos : Pos} (ho : DE X E o mo) (he : DE X E e me)
    (hst : starEach [e] X.env = (false, eval e X.env) :: starEach [] X.env := by rfl)
    (hbase : attributeBase o "index" X.env (eval o X.env) = eval o X.env := by rfl)
    (hfew : ((backTo pos (starEach [e] X.env)).all (fun x => !x.1) && (backToKw pos (keywordEach [] X.env)).all (fun x => x.1.isSome)
      && decide ([e].length + ([] : List Keyword).length + (if ([] : List Keyword).isEmpty then 0 else 1) < 30)) = true := by rfl)
    (hline : (apos.endLine == pos.line) = true := by rfl) (hplain : (backTo pos (starEach ([] : List Expr) X.env)).any (·.1) = false := by rfl) :
    DE X E (.Call (.Attribute o "index" apos) [e] [] pos) (mIdx mo me) := by
  obtain ⟨to, h1, h2⟩ := ho
  obtain ⟨te, h3, h4⟩ := he
  refine ⟨_, pe_bm PySem.F.plainAttrs_list PySem.F.slot_list_index PySem.F.type_list_index mt_index h1 (pa_cons h3 pa_nil hst) hbase hfew hline hst hplain, fun F0 H0 F H σ ρ r Q R h p => ?_⟩
  rcases mb_ok h with ⟨x, e1, e2⟩ | ⟨c, e1, e2⟩
  · refine h2 F0 H0 F H σ ρ _ _ R e1 fun v F' H' g d => ?_
    rcases mb_ok e2 with ⟨xs, e3, e4⟩ | ⟨c, e3, e4⟩
    · unfold ml at e3
      obtain ⟨a', ea, eq⟩ := Option.map_eq_some_iff.mp e3
      cases eq
      unfold asLs at ea
      split at ea
      · cases ea
        cases d with
        | lst q1 q2 =>
          refine ⟨.inl ⟨rfl, _, SqL.of (g.fh _ _ q1)⟩, ?_⟩
          rcases mb_ok e4 with ⟨y, e5, e6⟩ | ⟨c, e5, e6⟩
          · refine h4 F0 H0 F' H' σ ρ _ _ (R.grow g) e5 fun w F2 H2 g2 d2 => ?_
            unfold ml at e6
            obtain ⟨z, ez, rfl⟩ := Option.map_eq_some_iff.mp e6
            obtain ⟨n, ns, ey, en, hl, hz⟩ : ∃ (n : Int) (ns : List Int), y = .int n ∧ asInts xs = some ns ∧ ns.idxOf n < ns.length ∧ z = .int (ns.idxOf n : Nat) := by
              cases y with
              | int n =>
                have ez' : (asInts xs).bind (fun ns => if ns.idxOf n < ns.length then some (PyData.int (ns.idxOf n : Nat)) else none) = some z := by
                  cases xs <;> exact ez
                obtain ⟨ns, en, ez⟩ := Option.bind_eq_some_iff.mp ez'
                by_cases hl : ns.idxOf n < ns.length
                · rw [if_pos hl] at ez
                  exact ⟨n, ns, rfl, en, hl, (Option.some.inj ez).symm⟩
                · rw [if_neg hl] at ez; cases ez
              | _ => cases ez
            subst ey hz
            have hw : w = .int n := by
              generalize hy : PyData.int n = y at d2
              cases d2 <;> first | (cases hy; done) | (injection hy with hy; subst hy; rfl)
            subst hw
            have q3 := q2
            rw [asInts_eq en] at q3
            have q5 := DaAll.ints ns q3
            subst q5
            have hj : ns[ns.idxOf n]? = some n := by
              rw [List.getElem?_eq_getElem hl, List.getElem_idxOf]
            refine ⟨_, ns.map V.int, .int n, ns.idxOf n, .int n, rfl, rfl, SqL.of (g2.h _ _ (g.fh _ _ q1)), rfl, ints_flat ns, by rw [List.getElem?_map, hj]; rfl, ?_, fun m z' hm hz => ?_, p _ F2 H2 (g.trans g2) (.int _)⟩
            · show decide (n = n) = true
              simp
            · rw [List.getElem?_map] at hz
              obtain ⟨u, hu, rfl⟩ := Option.map_eq_some_iff.mp hz
              show (u == n) = false
              by_cases e : u = n
              · subst e
                have := idx_le hu
                omega
              · simpa using e
          · cases e6
            exact h4 F0 H0 F' H' σ ρ _ _ (R.grow g) e5 fun F2 H2 g2 => p F2 H2 (g.trans g2)
      · cases ea
    · unfold ml at e3
      obtain ⟨a', ea, eq⟩ := Option.map_eq_some_iff.mp e3
      cases eq
  · cases e2
    exact h2 F0 H0 F H σ ρ _ _ R e1 fun F' H' g => p F' H' g
/-- a name of the text's top that stands for a text, for a whole number -/
def CstS (mg : Str → Option Value) (x z : Str) : Prop := ∃ u, mg x = some u ∧ RelV (.str z) u
def CstI (mg : Str → Option Value) (x : Str) (z : Int) : Prop := ∃ u, mg x = some u ∧ RelV (.int z) u
theorem de_cstS {x z : Str} {pos : Pos} (h : CstS X.mg x z) (hg : Gl X x := by rfl) (hd : (x == ("__debug__" : Str)) = false := by decide) : DE X E (.Name x pos) (mr (.str z)) := by
  obtain ⟨u, h1, h2⟩ := h
  refine ⟨_, pe_glob hg h1 h2 hd, fun F0 H0 F H σ ρ r Q R e p => ?_⟩
  cases e
  exact p _ F H (.refl R.fh) (.str z)
theorem de_cstI {x : Str} {z : Int} {pos : Pos} (h : CstI X.mg x z) (hg : Gl X x := by rfl) (hd : (x == ("__debug__" : Str)) = false := by decide) : DE X E (.Name x pos) (mr (.int z)) := by
  obtain ⟨u, h1, h2⟩ := h
  refine ⟨_, pe_glob hg h1 h2 hd, fun F0 H0 F H σ ρ r Q R e p => ?_⟩
  cases e
  exact p _ F H (.refl R.fh) (.int z)
def rLeD (K : PySem.W.Frag) : R2 := fun x y H Q => ∃ d e, Dp K H x d ∧ Dp K H y e ∧ PySem.W.alike d e = true ∧ d ≠ .none ∧ SeqAt.shaped d = true ∧ Q (.bl (!PySem.W.dataLt e d)) H
theorem op_leD (hu : X.A.units + 64 < cLine) : OpR X (compareOp .LtE) (rLeD X.K) := by
  intro pins s σ H x y v u Q I rx ry h
  obtain ⟨d, e, hd, he, ha, hn, hs, q⟩ := h
  obtain ⟨as, r1⟩ := Dp.reads I d x v hd rx
  obtain ⟨bs, r2⟩ := Dp.reads I e y u he ry
  have hdp : d.depth ≤ 64 := by
    have h2 : (d.canLay0 && decide (d.depth ≤ 64)) = true := hs
    rw [Bool.and_eq_true] at h2
    exact of_decide_eq_true h2.2
  exact PySem.W.le_data r1 r2 ha hn (by omega) ⟨.bl _, H, I, rfl, q⟩
/-- x <= y of data that are alike -/
def fLeD (x y : PD) : Option PD := if (SeqAt.shaped x && (SeqAt.shaped y && (PySem.W.alike x y && !isN x))) = true then some (.bool (!PySem.W.dataLt y x)) else none
theorem snd_leD {K : PySem.W.Frag} : Snd2 K (rLeD K) fLeD := by
  intro F H v w x y z Q e d1 d2 hf p
  unfold fLeD at hf
  split at hf
  · rename_i h
    simp only [Bool.and_eq_true, Bool.not_eq_true'] at h
    obtain ⟨h1, h2, h3, h4⟩ := h
    cases hf
    refine ⟨x, y, Da.dp' e x v (lay_of_shaped h1) d1, Da.dp' e y w (lay_of_shaped h2) d2, h3, ?_, h1, p _ F H (.refl e) (.bl _)⟩
    rintro rfl
    cases h4
  · cases hf
theorem de_leD {a b : Expr} {ma mb' : M PD} {pos : Pos} (c : Cok X E k) (ha : DE X E a ma) (hb : DE X E b mb') : DE X E (.Compare a [.LtE] [b] pos) (m2 fLeD ma mb') := de_cmp (op_leD c.hr.units) snd_leD ha hb
theorem ds_setLcP (q : Nat) {j i : Nat} {y x : Str} {elt iter : Expr} {ifs : List Expr} {scope : Scope} {pos pos' py spos : Pos} {mi : M (List PD)} {mt : M Bool} {me : M PD} (c : Cok X E k) (hi : DI X E (.Name x pos') iter mi)
    (hg : ∀ (s : Shared) (H : Hp) (C : Addr) (cl : List (Str × Addr)) (fp : List Addr), PG (X.blk s H scope (compEnvC scope cl C X.env) fp) (.Name x pos') (gName i))
    (ht : ∀ (s : Shared) (H : Hp) (C : Addr) (cl : List (Str × Addr)) (fp : List Addr), Cok (X.blk s H scope (compEnvC scope cl C X.env) fp) NoE k → DTs (X.blk s H scope (compEnvC scope cl C X.env) fp) NoE ifs mt)
    (he : ∀ (s : Shared) (H : Hp) (C : Addr) (cl : List (Str × Addr)) (fp : List Addr), Cok (X.blk s H scope (compEnvC scope cl C X.env) fp) NoE k → DE (X.blk s H scope (compEnvC scope cl C X.env) fp) NoE elt me)
    (hsw : swapsWith (.ListComp elt [⟨.Name x pos', iter, ifs, 0⟩] scope pos) (some (.Name y py)) spos.line X.env = pure true)
    (hy : X.N[j]? = some y := by rfl) (hyl : X.env.scope.names.lookup y = some .local := by rfl)
    (N : List Str) (sc : Scope) (eN : X.N = N := by rfl) (es : X.env.scope = sc := by rfl) (ok : blkC N sc scope [(x, i)] = true := by decide +kernel) (hs : ∀ x, foldedSetIterable iter X.env x = pure x := by intro _; rfl) :
    DS X E (.Assign [.Name y py] (.ListComp elt [⟨.Name x pos', iter, ifs, 0⟩] scope pos) spos) (sSet j (mPkI q (mLc i mi mt me))) := by
  obtain ⟨ti, h1, h2⟩ := hi
  have ht' : ∃ tt, (∀ (s : Shared) (H : Hp) (C : Addr) (cl : List (Str × Addr)) (fp : List Addr), PTs (X.blk s H scope (compEnvC scope cl C X.env) fp) ifs tt) ∧ ∀ F0 H0 F H σ ρ r Q, Rel X.K F0 H0 F H σ ρ → mt ρ = some r → PoT F H Q NoE r → tt σ H Q := by
    refine ⟨fun σ H Q => ∃ F0 H0 F ρ r, Rel X.K F0 H0 F H σ ρ ∧ mt ρ = some r ∧ PoT F H Q NoE r, fun s H C cl fp => ?_, fun F0 H0 F H σ ρ r Q R h p => ⟨F0, H0, F, ρ, r, R, h, p⟩⟩
    obtain ⟨t, q1, q2⟩ := ht s H C cl fp c.blk
    exact ⟨fun pins s σ H Q I ⟨F0, H0, F, ρ, r, R, h, p⟩ => q1.run pins s σ H Q I (q2 F0 H0 F H σ ρ r Q R h p)⟩
  have he' : ∃ te, (∀ (s : Shared) (H : Hp) (C : Addr) (cl : List (Str × Addr)) (fp : List Addr), PE (X.blk s H scope (compEnvC scope cl C X.env) fp) elt te) ∧ ∀ F0 H0 F H σ ρ r Q, Rel X.K F0 H0 F H σ ρ → me ρ = some r → PoE X.K F H Q NoE r → te σ H Q := by
    refine ⟨fun σ H Q => ∃ F0 H0 F ρ r, Rel X.K F0 H0 F H σ ρ ∧ me ρ = some r ∧ PoE X.K F H Q NoE r, fun s H C cl fp => ?_, fun F0 H0 F H σ ρ r Q R h p => ⟨F0, H0, F, ρ, r, R, h, p⟩⟩
    obtain ⟨t, q1, q2⟩ := he s H C cl fp c.blk
    exact ⟨fun pins s σ H Q I ⟨F0, H0, F, ρ, r, R, h, p⟩ => q1.run pins s σ H Q I (q2 F0 H0 F H σ ρ r Q R h p)⟩
  obtain ⟨tt, ht1, ht2⟩ := ht'
  obtain ⟨te, he1, he2⟩ := he'
  refine ⟨_, ps_setLc (own := [(x, i)]) c.calm c.nd hy hyl hsw h1 (blkOk_by (by rw [eN, es]; exact ok)) hg ht1 he1 hs, fun F0 H0 F H σ ρ r D R h p => ?_⟩
  unfold sSet at h
  split at h
  · rename_i r' e'
    cases h
    unfold mPkI at e'
    split at e'
    · rename_i zs eq
      split at e'
      · rename_i hz
        cases e'
        have key : (∃ s z, ρ[q]? = some (.o s) ∧ Rs.data (.o s) = some z ∧ mLc i mi mt me (ρ.set q (.d z)) = some (.ok (.o (.lst zs)))) ∨ mLc i mi mt me ρ = some (.ok (.o (.lst zs))) := by
          exact mPk_cases eq
        clear eq
        rcases key with ⟨s, z, e1, e2, e3⟩ | e3
        · obtain ⟨F1, ft, R1, s1, n1, off⟩ := R.peek e1 e2
          unfold mLc at e3
          split at e3
          · rename_i xs e
            obtain ⟨ys, ey, eq⟩ := Option.map_eq_some_iff.mp e3
            cases eq
            refine h2 F0 H0 F1 H σ _ _ _ R1 e fun J vs F2 H1 g d W D' nD => lc_sound ht2 he2 R1 g d W ey (Q := fun v H' => gName j v σ H' D.nx) ?_ D' nD
            intro v F' H' g' d'
            obtain ⟨ft2, ⟨a, vs, rfl, rfl, k1, k2⟩, k3⟩ := d'
            obtain ⟨l1, l2, l3⟩ := k3 a (by simp)
            have gu := g'.uncut R.fh n1 off s1
            refine p _ _ H' (R.setO (f := [a]) gu ⟨a, vs, rfl, rfl, k1, k2.intP hz⟩ fun b hb => ?_) gu.f
            have e : b = a := by simpa using hb
            subst e
            refine ⟨l1, ?_, l3⟩
            unfold cutH
            split
            · rfl
            · exact l2
          · cases e3
          · cases e3
        · unfold mLc at e3
          split at e3
          · rename_i xs e
            obtain ⟨ys, ey, eq⟩ := Option.map_eq_some_iff.mp e3
            cases eq
            refine h2 F0 H0 F H σ ρ _ _ R e fun J vs F1 H1 g d W D' nD => lc_sound ht2 he2 R g d W ey (Q := fun v H' => gName j v σ H' D.nx) ?_ D' nD
            intro v F' H' g' d'
            obtain ⟨ft, d1, d2⟩ := d'
            exact p _ F' H' (R.setO g' d1 d2) g'.f
          · cases e3
          · cases e3
      · cases e'
    · cases e'
  · rename_i c' e'
    unfold mPkI at e'
    split at e'
    · split at e'
      · cases e'
      · cases e'
    · cases e'
  · cases h
end
end DL

/-! A comprehension whose item may raise: the exception leaves the block, then the def. -/
namespace DL
open PySem L2
section
variable {env : Env} {s : Shared} {M : Model} {A : Around} {E : Value → Shared → Prop}
/-- what is wanted where the block ends, or lets an exception out -/
def EndX (M : Model) (A : Around) (E : Value → Shared → Prop) (Q : Value → Shared → Prop) (acc : Value) (ce : Env) (r : Result) (s' : Shared) : Prop :=
  ∃ m, s'.heap.Ns ce.locals m ∧ ∀ h', Heap.SameBut ce.locals s'.heap h' → match r with
    | .ok _ => Q acc { s' with heap := h' }
    | .error x => wpAny M A (passOn "comprehension.variables-let-go" x ce : Sem Value) (fun _ _ => False) E { s' with heap := h' }
theorem comp_endX {e : Expr} {scope : Scope} {pos : Pos} {newAcc first : Sem Value} {g : Comprehension} {gs : List Comprehension} {cl : List (Str × Addr)} {Q : Value → Shared → Prop}
    (hcl : clausesOf e = g :: gs) (hs : ∀ x, foldedSetIterable g.iter env x = pure x) (hclos : closureFor scope env = pure cl) (hkind : scope.kind = .function)
    (hnames : ∀ x ∈ scope.names, x.2 = .local → scope.names.lookup x.1 = some .local)
    (h : wpAny M A first (fun x s₁ => wpAny M A (pyIter x) (fun it s₂ => wpAny M A newAcc (fun acc s₃ => wpAny M A (newFunctionEnv scope env.globals cl [] env.qual none .none (some env)) (fun ce s₄ =>
      codeAny M A (.compStart e 0 it acc { ce with scope := relabel scope env }) (EndX M A E Q acc { ce with scope := relabel scope env }) s₄) E s₃) E s₂) E s₁) E s) :
    wpAny M A (comprehension e scope env pos newAcc false first none) Q E s := by
  have same : ∀ {α : Type} {P : α → Shared → Prop} {x : α} {t : Shared}, P x t → P x t := fun z => z
  unfold comprehension
  rw [hclos, hcl]
  apply wpAny_bind
  refine wpAny_mono h ?_ (fun _ _ z => z)
  intro x s₁ h₁
  apply wpAny_bind
  apply wpAny_standAt
  apply wpAny_bind
  apply wpAny_of_eq (hs x)
  apply wpAny_bind
  apply wpAny_holding
  refine wpAny_mono h₁ ?_ (fun _ _ z => z)
  intro it s₂ h₂
  apply wpAny_standIf
  apply wpAny_bind
  refine wpAny_mono h₂ ?_ (fun _ _ z => z)
  intro acc s₃ h₃
  apply wpAny_bind
  apply wpAny_pure
  apply wpAny_bind
  refine wpAny_mono h₃ ?_ (fun _ _ z => z)
  intro ce s₄ h₄
  dsimp only
  have own : ∀ x ∈ (scope.names.filter fun x => (x.2 == .local || x.2 == .cell) && x.1 != (".0" : Str)).reverse, x.2 = .local → Env.kindOf { ce with scope := relabel scope env } x.1 = some .local := by
    intro x hx hl
    rw [List.mem_reverse, List.mem_filter] at hx
    exact lookup_relabel_local (hnames x hx.1 hl)
  apply wpAny_holding
  apply wpAny_bind
  apply wpAny_attempt
  apply wpAny_holding
  refine wpAny_run ?_
  refine codeAny_mono h₄ ?_
  intro r s' hr
  obtain ⟨m, hn, hr⟩ := hr
  cases r with
  | ok f =>
    apply wpAny_bind
    apply wpAny_holding
    refine wpAny_comp_letGo (cenv := { ce with scope := relabel scope env }) hkind _ s' m own hn ?_
    intro h' m' _ hs'
    exact wpAny_pure (hr h' hs')
  | error x =>
    apply wpAny_bind
    apply wpAny_holding
    refine wpAny_comp_letGo (cenv := { ce with scope := relabel scope env }) hkind _ s' m own hn ?_
    intro h' m' _ hs'
    exact wpAny_mono (hr h' hs') (fun _ _ z => z.elim) (fun _ _ z => z)
/-- a frame notes an exception that another one has noted last -/
theorem notes_anyZ {base : Heap} {outer : List Env} {L e : Addr} {Z : Obj → Prop} {fl : Value} {Q : Unit → Shared → Prop} (hZ : HandSPX.Steady Z) (hfr : A.frames = some (env :: outer)) (hf : env.frame = some L) (hkb : base.StaysIn s.heap) (hen : base.get? e = none)
    (hl : s.heap.FunFrames base (env :: outer)) (ht : HandSPX.TracedZ s.heap base e Z fl) (hfl : (fl == rawInt L) = false) (hQ : ∀ h', HandSPX.HeldZ base (env :: outer) e Z L h' → s.heap.UpToSlots h' → Q () { s with heap := h' }) :
    wpAny M A (noteFrame (.ref e) env) Q E s := by
  obtain ⟨oe, vs, T, oT, ts, he, hz, hd, h1, hnT, hTe, hT, hdT, h3⟩ := ht
  have sz3 := (Array.getElem?_eq_some_iff.mp h3).1
  have sz1 := (Array.getElem?_eq_some_iff.mp h1).1
  unfold noteFrame
  simp only [hf]
  apply wpAny_bind
  apply wpAny_field he hd h1
  rw [if_pos (by simp)]
  apply wpAny_bind
  apply wpAny_field hT hdT h3
  rw [if_neg (by rw [hfl]; exact Bool.false_ne_true)]
  apply wpAny_bind
  apply wpAny_setField hT hdT sz3
  generalize hh : s.heap.update T (Obj.mapFields (·.setIfInBounds 3 Value.none)) = h0
  have at_ : ∀ b, b ≠ T → h0.get? b = s.heap.get? b := by
    intro b hb
    rw [← hh]
    exact Heap.get?_update_other _ _ (Ne.symm hb)
  have notT : ∀ b o, s.heap.get? b = some o → (∀ us, o.data ≠ .fields us) → b ≠ T := by
    intro b o hb hnf q
    subst q
    rw [hT] at hb
    cases hb
    exact hnf ts hdT
  have hl0 : h0.FunFrames base (env :: outer) := hl.of_keeps fun b o hb hnf => ⟨o, by rw [at_ b (notT b o hb hnf)]; exact hb, rfl⟩
  have kb0 : base.StaysIn h0 := by
    intro b o hbo
    have : b ≠ T := by
      intro q
      subst q
      rw [hnT] at hbo
      cases hbo
    rw [at_ b this]
    exact hkb b o hbo
  refine HandSPX.wpAny_entryZ hZ (s := { s with heap := h0 }) hfr hl0 hf (by rw [show ({ s with heap := h0 } : Shared).heap = h0 from rfl, at_ e (Ne.symm hTe)]; exact he) kb0 hen hd sz1 hz ?_
  rintro h' ⟨x1, x2, x3, x4⟩
  exact hQ h' ⟨x1, hen, x2, x3⟩ fun b o hb hnf => x4 b o (by rw [show ({ s with heap := h0 } : Shared).heap = h0 from rfl, at_ b (notT b o hb hnf)]; exact hb) hnf
theorem funFrames_cut {base B h h' : Heap} {C : Addr} (k : ∀ b o, b ≠ C → h.get? b = some o → h'.get? b = some o) (kn : ∀ b, base.get? b = none → B.get? b = none) : ∀ {l : List Env}, h.FunFrames base l → (∀ L ∈ frs l, L ≠ C) → h'.FunFrames B l
  | [], _, _ => trivial
  | e :: l, hl, hn => by
    obtain ⟨hk, ⟨L, o, hf, hb, ho, hd⟩, hr⟩ := hl
    have m0 : L ∈ frs (e :: l) := List.mem_filterMap.mpr ⟨e, List.mem_cons_self, hf⟩
    refine ⟨hk, ⟨L, o, hf, kn L hb, k L o (hn L m0) ho, hd⟩, funFrames_cut k kn hr ?_⟩
    intro b hm
    obtain ⟨e', he', q⟩ := List.mem_filterMap.mp hm
    exact hn b (List.mem_filterMap.mpr ⟨e', List.mem_cons_of_mem _ he', q⟩)
/-- an exception leaves the block -/
theorem blk_out {X : Cx} {pins0 : List (Addr × Obj)} {σ0 : St} {s3 : Shared} {H3 : Hp} {scope : Scope} {ce : Env} {fp : List Addr} {EX : XK} {Q : Value → Shared → Prop} {acc : Value} (hs : X.stack = X.env :: X.outer) (hf : X.env.frame = some X.env.locals)
    (hcef : ce.frame = X.env.frame) (hceL : ce.locals = s3.heap.objs.size) (I3 : Inv X pins0 σ0 H3 s3) (f3 : ∀ b ∈ fp, FpOk X pins0 H3 b ∧ b < s3.heap.objs.size) (tk : Takes X (fun cls d _ H => EX cls d H)) {u : Value} {s' : Shared}
    (x : XE (X.blk s3 H3 scope ce fp) (fun cls d _ H => EX cls d H) u s') :
    notedBy (model X.prog X.w) X.A ce (fun e s'' => EndX (model X.prog X.w) X.A X.xe Q acc ce (.error e) s'') u s' := by
  obtain ⟨a, B, sI, pins, σ, H, cls, d, rfl, J, nb, up, sky, na, os, ag, w⟩ := x
  have hfr : X.A.frames = some (X.env :: X.outer) := by rw [I3.ok.frames, hs]
  have nf : noteFrame (.ref a) ce = noteFrame (.ref a) X.env := by
    unfold noteFrame frameOf
    rw [hcef]
  show wpAny _ _ (noteFrame (.ref a) ce) _ _ _
  rw [nf]
  have nL : X.env.locals ≠ ce.locals := by
    rw [hceL]
    exact Nat.ne_of_lt I3.lt
  have nFs : ∀ L ∈ frs (X.env :: X.outer), L ≠ ce.locals := by
    intro L hL
    obtain ⟨e, he, q⟩ := List.mem_filterMap.mp hL
    rcases List.mem_cons.mp he with z | z
    · subst z
      rw [hf] at q
      cases q
      exact nL
    · intro q2
      subst q2
      exact I3.nofs (a := ce.locals) (by rw [hceL]; exact Nat.le_refl _) (List.mem_filterMap.mpr ⟨e, z, q⟩)
  have stk : (X.blk s3 H3 scope ce fp).stack = X.env :: X.outer := hs
  have fin : ∀ h1, HandSPX.HeldZ B (X.env :: X.outer) a (Zc cls d) X.env.locals h1 → s'.heap.UpToSlots h1 → EndX (model X.prog X.w) X.A X.xe Q acc ce (.error (.ref a)) { s' with heap := h1 } := by
    rintro h1 ⟨k1, k2, k3, oe, vs, T, oT, ts, he, hz, hd, hv1, hnT, hTe, hT, hdT, ht3⟩ up1
    obtain ⟨m, hm, _⟩ := J.loc
    obtain ⟨oC, es, ep, eC, dC, rC⟩ := hm
    have eB : B.get? ce.locals = some oC := nb _ _ eC fun hm => nFs _ (by rw [stk] at hm; exact hm) rfl
    have aC : a ≠ ce.locals := by
      intro q
      rw [q] at k2
      rw [k2] at eB
      cases eB
    have TC : T ≠ ce.locals := by
      intro q
      rw [q] at hnT
      rw [hnT] at eB
      cases eB
    refine ⟨m, ⟨oC, es, ep, k1 _ _ eB, dC, rC⟩, fun h' sb => ?_⟩
    have at' : ∀ b o, b ≠ ce.locals → h1.get? b = some o → h'.get? b = some o := fun b o hb e => (sb.2 b hb).trans e
    obtain ⟨B2, b1, b2⟩ := restrict B fun b => decide (b ≠ ce.locals)
    obtain ⟨G, g1, g2⟩ := restrict sI.heap fun b => decide (b ≠ ce.locals)
    have bIn : ∀ b o, B2.get? b = some o → b ≠ ce.locals ∧ B.get? b = some o := by
      intro b o e
      by_cases q : b = ce.locals
      · rw [b2 b (by simpa using q)] at e
        cases e
      · rw [b1 b (by simpa using q)] at e
        exact ⟨q, e⟩
    have gIn : ∀ b o, G.get? b = some o → b ≠ ce.locals ∧ sI.heap.get? b = some o := by
      intro b o e
      by_cases q : b = ce.locals
      · rw [g2 b (by simpa using q)] at e
        cases e
      · rw [g1 b (by simpa using q)] at e
        exact ⟨q, e⟩
    have bNo : ∀ b, B.get? b = none → B2.get? b = none := by
      intro b e
      cases q : B2.get? b with
      | none => rfl
      | some o =>
        rw [(bIn b o q).2] at e
        cases e
    have J7 : Inv X pins0 σ0 H sI := I3.call' (ch := fp) J.os J.base J.hok J.bare fun b hb => ⟨(f3 b hb).1.2.2.2.1, (f3 b hb).1.2.1, (f3 b hb).1.2.2.2.2.1, (f3 b hb).1.2.2.2.2.2⟩
    have nC : H ce.locals = none := J.free
    obtain ⟨q0, q1, q2, q3, q4, q5⟩ := I3.fpOk (b := ce.locals) (H' := H) (by rw [hceL]; exact Nat.le_refl _) nC
    have J8 : Inv X pins0 σ0 H { sI with heap := G } := J7.turned (t' := sI.toks) (it := ce.locals) (fun b o hb e => by rw [g1 b (by simpa using hb)]; exact e) q0 q1 q3 q4 q5
    show wpAny (model X.prog X.w) X.A (passOn "comprehension.variables-let-go" (.ref a) ce : Sem Value) (fun _ _ => False) X.xe { s' with heap := h' }
    unfold passOn
    apply wpAny_bind
    apply wpAny_field (at' a oe aC he) hd hv1
    rw [if_neg (by simp)]
    have goOn : wpAny (model X.prog X.w) X.A (setFlight (.ref a) ce.frame) (fun _ s4 => wpAny (model X.prog X.w) X.A (throw (.ref a) : Sem Value) (fun _ _ => False) X.xe s4) X.xe { s' with heap := h' } := by
      rw [hcef, hf]
      refine HandSPX.setFlight_onZ (base := B2) (l := X.env :: X.outer) (Z := Zc cls d) ⟨fun b o e => at' b o (bIn b o e).1 (k1 b o (bIn b o e).2), bNo a k2, funFrames_cut at' bNo k3 nFs, oe, vs, T, oT, ts, at' a oe aC he, hz, hd, hv1, bNo T hnT, hTe, at' T oT TC hT, hdT, ht3⟩ fun h4 hh4 up4 => wpAny_throw (tk _ _ ?_)
      refine ⟨a, B2, { sI with heap := G }, pins0, σ0, H, cls, d, rfl, J8, ?_, ?_, .inr (.inr (by rw [hs]; exact hh4)), na, os, ag, w⟩
      · intro b o e hb
        obtain ⟨z1, z2⟩ := gIn b o e
        rw [b1 b (by simpa using z1)]
        exact nb b o z2 hb
      · intro b o e hnf
        obtain ⟨z1, z2⟩ := gIn b o e
        obtain ⟨sl1, y1⟩ := up b o z2 hnf
        obtain ⟨sl2, y2⟩ := up1 b _ y1 hnf
        obtain ⟨sl3, y3⟩ := up4 b _ (at' b _ z1 y2) hnf
        exact ⟨sl3, y3⟩
    first
      | exact wpAny_bind (wpAny_pure (wpAny_bind goOn))
      | exact wpAny_bind goOn
  rw [stk] at sky
  rcases sky with ⟨hB, hn, hl, oe, vs, he, hz, hd, h1⟩ | ⟨f1, f2, f3', f4⟩ | ⟨f1, f2, f3', f4⟩
  · exact HandSPX.look_newZ Zc.steady hfr hl hf he hB hn hd h1 hz fin
  · exact notes_anyZ Zc.steady hfr hf f1 f2 f3' f4 (by simp [rawInt]) fin
  · exact notes_anyZ Zc.steady hfr hf f1 f2 f3' f4 (by
      have nL' : ¬ ce.locals = X.env.locals := fun z => nL z.symm
      show (rawInt ce.locals == rawInt X.env.locals) = false
      simp only [rawInt, beq_eq_false_iff_ne, ne_eq]
      intro z
      injection z with z1 z2
      exact nL' (Int.ofNat_inj.mp z1)) fin
/-- [elt for name in iter], where elt may raise what W takes -/
theorem pe_lcE {X : Cx} {W : XK} {elt tg iter : Expr} {scope : Scope} {mine : List (Str × Nat)} {pos : Pos} {wi : TI} {g : TG} {te : TE} (hs : X.stack = X.env :: X.outer) (hf : X.env.frame = some X.env.locals) (hc : X.calm = true) (hN : X.N.Nodup)
    (tk : Takes X (fun cls d _ H => W cls d H)) (hiter : PI X tg iter wi) (ok : BlkOk X.N X.env.scope scope mine)
    (hgoal : ∀ (s : Shared) (H : Hp) (C : Addr) (cl : List (Str × Addr)) (its : List Addr), PG (X.blk s H scope (compEnvC scope cl C X.env) its) tg g)
    (helt : ∀ (s : Shared) (H : Hp) (C : Addr) (cl : List (Str × Addr)) (its : List Addr) (pn : List (Addr × Obj)) (bx : Value → Shared → Prop), Takes ((X.blk s H scope (compEnvC scope cl C X.env) its).tr pn bx) (fun cls d _ H => W cls d H) → PE ((X.blk s H scope (compEnvC scope cl C X.env) its).tr pn bx) elt te)
    (hset : ∀ vx, foldedSetIterable iter X.env vx = pure vx := by intro _; rfl) : PE X (.ListComp elt [⟨tg, iter, [], 0⟩] scope pos) (tLc wi g tYes te (mine.map (·.2))) := by
  refine ⟨fun pins s σ H Q I h => ?_⟩
  rw [eval_ListComp]
  have free_ : ∀ y ∈ scope.names, y.2 = .free → ∃ c, X.env.cells.lookup y.1 = some c := by
    intro y hy e
    rcases ok.free y hy e with k | k
    · exact I.ok.has _ (.inl k)
    · exact I.ok.has _ (.inr k)
  refine comp_endX rfl hset (closure_ok free_) ok.kind (fun y hy e => by rw [ok.uniq y hy, e]) ?_
  refine thn (hiter.run pins s σ H _ I h) ?_
  intro xv s1 hx
  refine thn hx ?_
  rintro itv t2 ⟨it, its, tn, J, G2, rfl, J2, T, go2, fr2, q⟩
  refine wpAny_newObj_type (newEnv_comp ?_) (by show 0 ≤ sizeLine; decide)
  generalize edst : t2.heap.objs.size = dst
  have ndst : G2 dst = none := J2.hok.fresh (Nat.le_of_eq edst)
  obtain ⟨Wv, ⟨k0, wk0⟩, turns_⟩ := q dst ndst
  generalize et3 : ({ t2 with heap := t2.heap.push { cls := .type "list", data := .seq ([] : List Value).toArray } } : Shared) = t3
  have hp3 : t3.heap = t2.heap.push { cls := .type "list", data := .seq ([] : List Value).toArray } := by rw [← et3]
  have J3 : Inv X pins σ (upd G2 dst (.lst [])) t3 := by
    rw [← et3]
    refine J2.laid (t' := t2.toks) (fun b o e => Heap.get?_push_of_some _ e) (Nat.le_of_eq edst) ⟨Nat.zero_le _, [], 0, .nil, ?_⟩
    rw [← edst]
    exact Heap.get?_push_size _ rfl
  have old : ∀ b ∈ its, b < t2.heap.objs.size := by
    intro b hb
    obtain ⟨o, e, _⟩ := T.obj _ _ go2 b hb
    exact Heap.lt_size e
  have fr3 : ∀ b ∈ its, FpOk X pins (upd G2 dst (.lst [])) b ∧ b < t3.heap.objs.size := by
    intro b hb
    have hlt := old b hb
    have ne : b ≠ dst := by rw [← edst]; exact Nat.ne_of_lt hlt
    refine ⟨⟨?_, (fr2 b hb).2⟩, ?_⟩
    · rw [upd_ne ne]
      exact (fr2 b hb).1
    · rw [hp3, Heap.size_push]
      exact Nat.lt_succ_of_lt hlt
  have go3 : tn 0 t3.heap := T.keep _ _ _ go2 fun b _ o e => by
    rw [hp3]
    exact Heap.get?_push_of_some _ e
  have J4 := block_start J3 ok hN fr3
  have pgo := hgoal t3 (upd G2 dst (.lst [])) t3.heap.objs.size (cellsFrom (t3.heap.objs.size + 1) scope.names (cloFrom X.env.cells scope.names [])) its
  have peo := helt t3 (upd G2 dst (.lst [])) t3.heap.objs.size (cellsFrom (t3.heap.objs.size + 1) scope.names (cloFrom X.env.cells scope.names [])) its
  show codeAny _ _ (.compStart (.ListComp elt [⟨tg, iter, [], 0⟩] scope pos) 0 (.ref it) (.ref dst) (compEnvC scope (cellsFrom (t3.heap.objs.size + 1) scope.names (cloFrom X.env.cells scope.names [])) t3.heap.objs.size X.env))
    (EndX (model X.prog X.w) X.A X.xe _ (.ref dst) (compEnvC scope (cellsFrom (t3.heap.objs.size + 1) scope.names (cloFrom X.env.cells scope.names [])) t3.heap.objs.size X.env)) { t3 with heap := pushCells (t3.heap.push { cls := .type "dict", data := .dict #[] }) scope.names }
  have nofp : ∀ b ∈ its, (upd G2 dst (.lst [])) b = none := fun b hb => (fr3 b hb).1.1
  generalize ece : compEnvC scope (cellsFrom (t3.heap.objs.size + 1) scope.names (cloFrom X.env.cells scope.names [])) t3.heap.objs.size X.env = ce at J4 pgo peo ⊢
  have eqL : ce.locals = t3.heap.objs.size := by subst ece; rfl
  have eqF : ce.frame = X.env.frame := by subst ece; rfl
  generalize eG3 : upd G2 dst (.lst []) = G3 at J3 J4 pgo peo wk0 nofp fr3
  generalize et4 : ({ t3 with heap := pushCells (t3.heap.push { cls := .type "dict", data := .dict #[] }) scope.names } : Shared) = t4 at J4 ⊢
  have go4 : tn 0 t4.heap := T.keep _ _ _ go3 fun b _ o e => by
    rw [← et4]
    exact pushCells_keeps _ _ _ _ (Heap.get?_push_of_some _ e)
  have okB : (X.blk t3 G3 scope ce its).Ok := J4.ok
  have stat : ∀ {σ' : St} {H' : Hp} {s' : Shared}, Inv (X.blk t3 G3 scope ce its) [] σ' H' s' → (∀ b ∈ its, H' b = none) → ∀ b ∈ its, FpOk (X.blk t3 G3 scope ce its) [] H' b := by
    intro σ' H' s' I' hn b hb
    refine ⟨hn b hb, (I'.ok.exf b hb).1, I'.ok.exfs b hb, .inl hb, fun vx c e => (I'.ok.exf b hb).2 vx c e, fun p hp => ?_⟩
    have hp' : p ∈ ([] : List (Addr × Obj)) ++ [] := hp
    simp at hp'
  have round : codeAny (model X.prog X.w) X.A (.compLoop (.ListComp elt [⟨tg, iter, [], 0⟩] scope pos) 0 (.ref it) (.ref dst) ce) (EndX (model X.prog X.w) X.A X.xe (EP X pins σ Q) (.ref dst) ce) t4 := by
    refine compLoop_any (fun n s' => ∃ ix H', Inv (X.blk t3 G3 scope ce its) [] (wipe σ (mine.map (·.2))) H' s' ∧ tn ix s'.heap ∧ (∀ b ∈ its, H' b = none) ∧ Wv ix n H') ?_ k0 ⟨0, G3, J4, go4, nofp, wk0⟩
    rintro n t5 ⟨ix, G5, J5, go5, no5, wk5⟩
    rcases turns_ ix n G5 wk5 with ⟨stops_, atEnd⟩ | ⟨goes, Nx, hNx, oneTurn⟩
    · refine thnF (T.done (X.blk t3 G3 scope ce its) rfl rfl rfl hc ix [] t5 _ G5 (fun _ _ => False) J5 (stat J5 no5) go5 stops_) ?_
      rintro r t6 ⟨rfl, J6⟩
      have J7 : Inv X pins σ G5 t6 := J3.call' (ch := its) J6.os J6.base J6.hok J6.bare fun b hb => ⟨(fr3 b hb).1.2.2.2.1, (fr3 b hb).1.2.1, (fr3 b hb).1.2.2.2.2.1, (fr3 b hb).1.2.2.2.2.2⟩
      have nC : G5 ce.locals = none := J6.free
      obtain ⟨m, hn, _⟩ := J6.loc
      obtain ⟨q0, q1, q2, q3, q4, q5⟩ := J3.fpOk (b := ce.locals) (H' := G5) (by rw [eqL]; exact Nat.le_refl _) nC
      refine ⟨m, hn, fun h'' sb => ?_⟩
      exact ⟨.ref dst, G5, J7.turned (t' := t6.toks) (fun b o hb e => (sb.2 b hb).trans e) q0 q1 q3 q4 q5, rfl, atEnd⟩
    · refine thnF (T.item (X.blk t3 G3 scope ce its) rfl rfl rfl hc ix [] t5 _ G5 (fun _ _ => False) J5 (stat J5 no5) go5 goes) ?_
      rintro r t6 ⟨ux, rfl, h6⟩
      refine thnF h6 ?_
      rintro _ t7 ⟨vx, G7, J7, rel7, yld7, go7, no7⟩
      have J7p := J7.pinned (stat J7 no7) (T.obj _ _ go7)
      refine thnF (pgo.run _ t7 _ G7 vx ux _ J7p rel7 (oneTurn vx G7 yld7)) ?_
      rintro _ t8 ⟨σ8, G8, J8, wip8, wq8⟩
      refine thnF ((pts_nil (X := X.blk t3 G3 scope ce its)).run _ t8 σ8 G8 _ J8 wq8) ?_
      rintro b t9 ⟨G9, J9, wq9⟩
      have fin : ∀ {s' : Shared} {H' : Hp}, Inv (X.blk t3 G3 scope ce its) ([] ++ pinsAt its t7.heap) σ8 H' s' → Nx H' → ∃ m, m < n ∧ ∃ ix H', Inv (X.blk t3 G3 scope ce its) [] (wipe σ (mine.map (·.2))) H' s' ∧ tn ix s'.heap ∧ (∀ b ∈ its, H' b = none) ∧ Wv ix m H' := by
        intro s' H' I' nxt
        obtain ⟨m', less, w'⟩ := hNx H' nxt
        have kept : ∀ b ∈ its, ∀ o, t7.heap.get? b = some o → s'.heap.get? b = some o ∧ H' b = none := by
          intro b hb o e
          obtain ⟨z1, z2, _⟩ := I'.pin (b, o) (List.mem_append_right _ (List.mem_append_right _ (mem_pinsAt hb e)))
          exact ⟨z1, z2⟩
        have lens : (wipe σ (mine.map (·.2))).length = σ8.length := by rw [← wip8, wipe_length]
        refine ⟨m', less, ix + 1, H', (I'.unpinned (pins := [])).weak lens ?_, T.keep _ _ _ go7 fun b hb o e => (kept b hb o e).1, ?_, w'⟩
        · intro j v e
          rw [← wip8] at e
          exact (wipe_some e).1
        · intro b hb
          obtain ⟨o, e, _⟩ := T.obj _ _ go7 b hb
          exact (kept b hb o e).2
      cases b with
      | false =>
        simp only [Bool.false_eq_true, if_false] at wq9 ⊢
        exact fin J9 wq9
      | true =>
        simp only [if_true] at wq9 ⊢
        have takes : Takes ((X.blk t3 G3 scope ce its).tr ((X.blk t3 G3 scope ce its).pn ++ ([] ++ pinsAt its t7.heap)) (XE (X.blk t3 G3 scope ce its) fun cls d _ H => W cls d H)) (fun cls d _ H => W cls d H) := by
          rintro u' s' ⟨a, B, sI, pins', σ', H', cls, d, e, J', nb, up, sky, na, os, ag, w⟩
          exact ⟨a, B, sI, [] ++ pinsAt its t7.heap, σ', H', cls, d, e, J'.ofTry okB, nb, up, sky, na, os, ag, w⟩
        refine wpAny_mono ((peo _ _ takes).run [] t9 σ8 G9 _ (J9.toTry _) wq9) ?_ ?_
        · rintro z ta ⟨yv, Ga, Jap, rel10, soFar, atD, szD, nxt⟩
          have Ja : Inv (X.blk t3 G3 scope ce its) ([] ++ pinsAt its t7.heap) σ8 Ga ta := Jap.ofTry okB
          exact app_ok (X := X.blk t3 G3 scope ce its) Ja atD szD rel10 fun tb Jb => fin Jb nxt
        · intro u' ta hx
          exact blk_out (Q := EP X pins σ Q) (acc := .ref dst) hs hf eqF eqL J3 fr3 tk hx
  exact codeAny_compStart_list round (T.self X.A 0 _ _ _ go4 round)
end
end DL

/-! A comprehension of lists of its own that an exception may leave; lists of lists that a slot alone knows. -/
namespace DL
open PySem L2
section
variable {K : PySem.W.Frag} {F H F' H' : Hp}
theorem ObAll.snoc {v : V} {ft : List Addr} {o : Ob} (x : ObAt K F H v ft o) : ∀ {vs : List V} {fts : List (List Addr)} {os : List Ob}, ObAll K F H vs fts os → ObAll K F H (vs ++ [v]) (fts ++ [ft]) (os ++ [o])
  | _, _, _, .nil => .cons x .nil
  | _, _, _, .cons y t => .cons y (ObAll.snoc x t)
theorem ObAll.len : ∀ {vs : List V} {fts : List (List Addr)} {os : List Ob}, ObAll K F H vs fts os → vs.length = os.length ∧ fts.length = os.length
  | _, _, _, .nil => ⟨rfl, rfl⟩
  | _, _, _, .cons y t => ⟨congrArg (· + 1) (ObAll.len t).1, congrArg (· + 1) (ObAll.len t).2⟩
theorem ObAll.get : ∀ {vs : List V} {fts : List (List Addr)} {os : List Ob} {k : Nat} {o : Ob}, ObAll K F H vs fts os → os[k]? = some o → ∃ v ft, vs[k]? = some v ∧ fts[k]? = some ft ∧ ObAt K F H v ft o
  | _, _, _, _, _, .nil, e => by simp at e
  | _, _, _, 0, _, .cons y _, e => by simp at e; subst e; exact ⟨_, _, rfl, rfl, y⟩
  | _, _, _, k + 1, _, .cons _ t, e => by simpa using ObAll.get (k := k) t (by simpa using e)
theorem mem_flat {α : Type} : ∀ {l : List (List α)} {k : Nat} {x : List α} {a : α}, l[k]? = some x → a ∈ x → a ∈ l.flatten
  | [], _, _, _, e, _ => by simp at e
  | y :: ys, 0, _, _, e, h => by simp at e; subst e; rw [List.flatten_cons]; exact List.mem_append_left _ h
  | y :: ys, k + 1, _, _, e, h => by rw [List.flatten_cons]; exact List.mem_append_right _ (mem_flat (k := k) (by simpa using e) h)
theorem ObAll.put {v : V} {ft : List Addr} {o : Ob} (f : Same F F') : ∀ {vs : List V} {fts : List (List Addr)} {os : List Ob} {k : Nat}, ObAll K F H vs fts os → vs[k]? = some v → fts[k]? = some ft → fts.flatten.Nodup → (∀ b ∈ fts.flatten, b ∉ ft → H' b = H b) → ObAt K F' H' v ft o → ObAll K F' H' vs fts (os.set k o)
  | _, _, _, _, .nil, e, _, _, _, _ => by simp at e
  | _, _, _, 0, .cons y t, e1, e2, nd, off, new => by
    simp at e1 e2
    subst e1 e2
    rw [List.flatten_cons] at nd off
    exact .cons new (t.mono f fun b hb => off b (List.mem_append_right _ hb) fun z => (List.nodup_append.mp nd).2.2 b z b hb rfl)
  | _, _, _, k + 1, .cons y t, e1, e2, nd, off, new => by
    simp at e1 e2
    rw [List.flatten_cons] at nd off
    refine .cons (y.mono f fun b hb => off b (List.mem_append_left _ hb) fun z => (List.nodup_append.mp nd).2.2 b hb b (mem_flat e2 z) rfl) ?_
    exact ObAll.put f t e1 e2 (List.nodup_append.mp nd).2.1 (fun b hb => off b (List.mem_append_right _ hb)) new
end
section
variable {X : Cx} {E : XK} {k : Nat}
/-- [me for i in xs], each a new list; it stops at the first that raises -/
def lcLO (i : Nat) (me : M Rs) (ρ : List Sl) : List PD → List (List PD) → Option (Ro Rs)
  | [], acc => some (.ok (.o (.arr none (acc.map .lst))))
  | x :: xs, acc => match me (ρ.set i (.d x)) with
    | some (.ok (.o (.lst ys))) => if acc.length < big then lcLO i me ρ xs (acc ++ [ys]) else none
    | some (.ex c) => some (.ex c)
    | _ => none
def mLcO (i : Nat) (mi : M (List PD)) (me : M Rs) : M Rs := fun ρ => match mi ρ with
  | some (.ok xs) => lcLO i me ρ xs []
  | some (.ex c) => some (.ex c)
  | none => none
theorem lc_soundO {K : PySem.W.Frag} {i : Nat} {te : TE} {me : M Rs} {F0 H0 F H F1 H1 : Hp} {σ : St} {ρ : List Sl} {J : It} {vs : List V} {xs : List PD} {r : Ro Rs} {Q : VK}
    (he : ∀ F0 H0 F H σ ρ r Q, Rel K F0 H0 F H σ ρ → me ρ = some r → PoR K F H Q E r → te σ H Q)
    (R : Rel K F0 H0 F H σ ρ) (g : Grow F H F1 H1) (d : DaAll K F1 vs xs) (W : Walk J vs.length (fun H'' => Same F1 H'') (YAt vs)) (h : lcLO i me ρ xs [] = some r)
    (p : PoR K F H Q E r) (D : Addr) (nD : H1 D = none) :
    ∃ W : Nat → Nat → Hp → Prop, (∃ m, W 0 m (upd H1 D (.lst []))) ∧ ∀ n m H, W n m H →
      (J.stop n H ∧ Q (.ref D) H) ∨ (J.go n H ∧ ∃ Nx : Hp → Prop, (∀ H', Nx H' → ∃ m', m' < m ∧ W (n + 1) m' H') ∧ ∀ x H', J.yld n H x H' → gName i x (wipe σ [i]) H' fun σ2 H2 => wipe σ2 [i] = wipe σ [i] ∧ tYes σ2 H2 fun b H3 =>
        if b = true then te σ2 H3 fun y H4 => ∃ acc, H4 D = some (.lst acc) ∧ acc.length < sizeLine ∧ Nx (upd H4 D (.lst (acc ++ [y]))) else Nx H3) := by
  refine lc_it (Qd := fun H' => Q (.ref D) H') W (fun n H' => ∃ F' us fts acc, Grow F1 H1 F' H' ∧ F' D = none ∧ H' D = some (.lst us) ∧ ObAll K F' H' us fts (acc.map Ob.lst) ∧ (D :: fts.flatten).Nodup ∧ (∀ a ∈ fts.flatten, H1 a = none ∧ F' a = none ∧ H' a ≠ none) ∧ lcLO i me ρ (xs.drop n) acc = some r) ?_ (fun n H' _ ⟨F', us, fts, acc, q, _⟩ => q.f.trans q.fh) ?_ ?_
  · exact ⟨F1, [], [], [], .newO g.fh nD, g.fh.free nD, upd_same, .nil, by simp, fun a ha => by simp at ha, h⟩
  · rintro n v H' H'' hn ⟨F', us, fts, acc, q, nF, hD, da, nd, tr, hr⟩ ⟨rfl, ev⟩
    obtain ⟨y, ey, dy⟩ := d.get ev
    rw [drop_get ey] at hr
    have R1 : Rel K F0 H0 F' H'' ((wipe σ [i]).set i (some v)) (ρ.set i (.d y)) := by
      have z := ((R.grow (g.trans q)).setN (i := i) (o := none)).setD (i := i) (dy.mono q.f)
      have e1 : (ρ.set i Sl.no).set i (Sl.d y) = ρ.set i (Sl.d y) := List.set_set ..
      rw [e1] at z
      exact z
    show wipe ((wipe σ [i]).set i (some v)) [i] = wipe σ [i] ∧ _
    refine ⟨by show (((σ.set i none).set i (some v)).set i none) = σ.set i none; rw [List.set_set, List.set_set], ?_⟩
    show te _ _ _
    unfold lcLO at hr
    split at hr
    · rename_i z ez
      split at hr
      · rename_i hz
        refine he F0 H0 F' H'' _ _ _ _ R1 ez fun w F3 H3 g3 dw => ?_
        obtain ⟨ft, dw, hft⟩ := dw
        have dw' := dw
        obtain ⟨b, ws, rfl, rfl, k1, k2⟩ := dw'
        obtain ⟨b1, b2, b3⟩ := hft b (by simp)
        have nF3 : F3 D = none := (g3.n D (by rw [hD]; simp)).trans nF
        have bD : b ≠ D := fun e => by rw [e, hD] at b1; cases b1
        have off : ∀ a ∈ fts.flatten, a ≠ D := fun a ha e => (List.nodup_cons.mp nd).1 (e ▸ ha)
        have nb : b ∉ fts.flatten := fun hb => (tr b hb).2.2 b1
        have same : ∀ a ∈ fts.flatten, upd H3 D (.lst (us ++ [.ref b])) a = H'' a := fun a ha => by
          rw [upd_ne (off a ha)]
          cases e : H'' a with
          | none => exact absurd e (tr a ha).2.2
          | some o => exact g3.h a o e
        refine ⟨us, g3.h _ _ hD, lt_line (by rw [da.len.1, List.length_map]; exact hz), F3, us ++ [.ref b], fts ++ [[b]], acc ++ [z], ?_, nF3, upd_same, ?_, ?_, ?_, hr⟩
        · have q3 := q.trans g3
          refine ⟨q3.f, fun b o e => ?_, fun b o e => ?_, q3.n, fun z b ys e y => ?_⟩
          · rw [upd_ne (ne_of_none e nD)]; exact q3.h b o e
          · rw [upd_ne (ne_of_none e nF3)]; exact q3.fh b o e
          · by_cases hb : b = D
            · subst hb; rw [upd_same] at e; cases e
            · rw [upd_ne hb] at e; exact q3.t z b ys e y
        · rw [List.map_append]
          exact (da.mono g3.f same).snoc (o := .lst z) ⟨b, ws, rfl, rfl, by rw [upd_ne bD]; exact k1, k2⟩
        · rw [List.flatten_append]
          simp only [List.flatten_cons, List.flatten_nil, List.append_nil]
          obtain ⟨n1, n2⟩ := List.nodup_cons.mp nd
          refine List.nodup_cons.mpr ⟨fun z => ?_, ?_⟩
          · rcases List.mem_append.mp z with z | z
            · exact n1 z
            · exact bD (by simpa using z : D = b).symm
          · refine List.nodup_append.mpr ⟨n2, by simp, fun a ha c hc e => ?_⟩
            have : c = b := by simpa using hc
            subst this e
            exact nb ha
        · intro a ha
          rw [List.flatten_append] at ha
          simp only [List.flatten_cons, List.flatten_nil, List.append_nil] at ha
          rcases List.mem_append.mp ha with ha | ha
          · obtain ⟨t1, t2, t3⟩ := tr a ha
            exact ⟨t1, (g3.n a t3).trans t2, by rw [same a ha]; exact t3⟩
          · have : a = b := by simpa using ha
            subst this
            exact ⟨q.h.free b1, b2, by rw [upd_ne bD]; exact b3⟩
      · cases hr
    · rename_i c ec
      cases hr
      exact he F0 H0 F' H'' _ _ _ _ R1 ec fun F3 H3 g3 => p F3 H3 ((g.trans q).trans g3)
    · cases hr
  · rintro H' ⟨F', us, fts, acc, q, nF, hD, da, nd, tr, hr⟩
    rw [List.drop_eq_nil_of_le (by rw [d.len]; exact Nat.le_refl _)] at hr
    cases hr
    refine p _ F' H' (g.trans q) ⟨D :: fts.flatten, ⟨D, us, [], fts, ⟨rfl, rfl⟩, rfl, nd, hD, da⟩, fun a ha => ?_⟩
    rcases List.mem_cons.mp ha with e | ha
    · subst e
      exact ⟨g.h.free nD, nF, by rw [hD]; simp⟩
    · obtain ⟨t1, t2, t3⟩ := tr a ha
      exact ⟨g.h.free t1, t2, t3⟩
theorem Cok.blkE {s : Shared} {H : Hp} {scope : Scope} {cenv : Env} {fp : List Addr} {pn : List (Addr × Obj)} {bx : Value → Shared → Prop} (c : Cok X E k) (t : Takes ((X.blk s H scope cenv fp).tr pn bx) (fun cls d _ H => E cls d H)) :
    Cok ((X.blk s H scope cenv fp).tr pn bx) E k := ⟨c.calm, c.nd, t, c.hr⟩
theorem dr_lcO {i : Nat} {x : Str} {elt iter : Expr} {scope : Scope} {pos pos' : Pos} {mi : M (List PD)} {me : M Rs} (c : Cok X E k) (hi : DI X E (.Name x pos') iter mi)
    (hg : ∀ (s : Shared) (H : Hp) (C : Addr) (cl : List (Str × Addr)) (fp : List Addr), PG (X.blk s H scope (compEnvC scope cl C X.env) fp) (.Name x pos') (gName i))
    (he : ∀ (s : Shared) (H : Hp) (C : Addr) (cl : List (Str × Addr)) (fp : List Addr) (pn : List (Addr × Obj)) (bx : Value → Shared → Prop), Cok ((X.blk s H scope (compEnvC scope cl C X.env) fp).tr pn bx) E k →
      DR ((X.blk s H scope (compEnvC scope cl C X.env) fp).tr pn bx) E elt me)
    (N : List Str) (sc : Scope) (eN : X.N = N := by rfl) (es : X.env.scope = sc := by rfl) (ok : blkC N sc scope [(x, i)] = true := by decide +kernel) (hst : X.stack = X.env :: X.outer := by rfl) (hf : X.env.frame = some X.env.locals := by rfl)
    (hs : ∀ x, foldedSetIterable iter X.env x = pure x := by intro _; rfl) :
    DR X E (.ListComp elt [⟨.Name x pos', iter, [], 0⟩] scope pos) (mLcO i mi me) := by
  obtain ⟨ti, h1, h2⟩ := hi
  have he' : ∃ te, (∀ (s : Shared) (H : Hp) (C : Addr) (cl : List (Str × Addr)) (fp : List Addr) (pn : List (Addr × Obj)) (bx : Value → Shared → Prop), Takes ((X.blk s H scope (compEnvC scope cl C X.env) fp).tr pn bx) (fun cls d _ H => E cls d H) →
      PE ((X.blk s H scope (compEnvC scope cl C X.env) fp).tr pn bx) elt te) ∧ ∀ F0 H0 F H σ ρ r Q, Rel X.K F0 H0 F H σ ρ → me ρ = some r → PoR X.K F H Q E r → te σ H Q := by
    refine ⟨fun σ H Q => ∃ F0 H0 F ρ r, Rel X.K F0 H0 F H σ ρ ∧ me ρ = some r ∧ PoR X.K F H Q E r, fun s H C cl fp pn bx tk => ?_, fun F0 H0 F H σ ρ r Q R h p => ⟨F0, H0, F, ρ, r, R, h, p⟩⟩
    obtain ⟨t, q1, q2⟩ := he s H C cl fp pn bx (c.blkE tk)
    exact ⟨fun pins s σ H Q I ⟨F0, H0, F, ρ, r, R, h, p⟩ => q1.run pins s σ H Q I (q2 F0 H0 F H σ ρ r Q R h p)⟩
  obtain ⟨te, he1, he2⟩ := he'
  refine ⟨_, pe_lcE (mine := [(x, i)]) hst hf c.calm c.nd c.tk h1 (blkOk_by (by rw [eN, es]; exact ok)) hg he1 hs, fun F0 H0 F H σ ρ r Q R h p => ?_⟩
  unfold mLcO at h
  split at h
  · rename_i xs e
    exact h2 F0 H0 F H σ ρ _ _ R e fun J vs F1 H1 g d W D nD => lc_soundO he2 R g d W h p D nD
  · rename_i c e
    cases h
    exact h2 F0 H0 F H σ ρ _ _ R e fun F' H' g => p F' H' g
  · cases h
/-- (a, e), e a new list of objects -/
def mPairA (ma : M PD) (me : M Rs) : M Rs := mb ma fun x => mb me fun r => ml (match r with | .o (.arr none os) => some (.o (.arr (some x) os)) | _ => none)
theorem dr_pairA {a e : Expr} {ma : M PD} {me : M Rs} {pos : Pos} {kk} (ha : DE X E a ma) (he : DR X E e me)
    (hs1 : starEach [a, e] X.env = (false, eval a X.env) :: starEach [e] X.env := by rfl) (hs2 : starEach [e] X.env = (false, eval e X.env) :: starEach [] X.env := by rfl) :
    DR X E (.Tuple [a, e] kk pos) (mPairA ma me) := by
  obtain ⟨t, h1, h2⟩ := ha
  obtain ⟨t', h3, h4⟩ := he
  refine ⟨_, pe_tup (pa_cons h1 (pa_cons h3 pa_nil hs2) hs1), fun F0 H0 F H σ ρ q Q R h p => ?_⟩
  rcases mb_ok h with ⟨x, e1, e2⟩ | ⟨c, e1, e2⟩
  · refine h2 F0 H0 F H σ ρ _ _ R e1 fun v0 F1 H1 g1 d1 => ?_
    rcases mb_ok e2 with ⟨y, e3, e4⟩ | ⟨c, e3, e4⟩
    · refine h4 F0 H0 F1 H1 σ ρ _ _ (R.grow g1) e3 fun v F' H' g2 d => ⟨le_line (n := 2) (by decide), fun t ht => ?_⟩
      unfold ml at e4
      obtain ⟨z, ez, rfl⟩ := Option.map_eq_some_iff.mp e4
      split at ez
      · rename_i os
        cases ez
        obtain ⟨ft, ⟨a', vs, ts, fts, ⟨rfl, rfl⟩, rfl, nd, k1, k2⟩, k3⟩ := d
        have g := g1.trans g2
        have hta : ∀ b ∈ [] ++ a' :: fts.flatten, b ≠ t := fun b hb q => (k3 b hb).2.2 (q ▸ ht)
        have g3 : Grow F' H' F' (upd H' t (.tup [v0, .ref a'])) := .newO g.fh ht (fun ys q i => by
          cases q
          obtain ⟨j, hj⟩ := i (.ref a') (by simp)
          cases hj)
        refine p _ F' _ (g.trans g3) ⟨[t] ++ a' :: fts.flatten, ⟨a', vs, [t], fts, ⟨t, v0, rfl, rfl, upd_same, d1.mono g2.f⟩, rfl, ?_, ?_, ?_⟩, fun b hb => ?_⟩
        · exact List.nodup_cons.mpr ⟨fun z => hta t z rfl, nd⟩
        · rw [upd_ne (hta a' (by simp))]; exact k1
        · exact k2.mono (Same.refl _) fun b hb => upd_ne (hta b (by simp [hb]))
        · rcases List.mem_cons.mp hb with y | y
          · subst y
            exact ⟨g.h.free ht, g.fh.free ht, by rw [upd_same]; simp⟩
          · obtain ⟨n1, n2, n3⟩ := k3 b y
            exact ⟨g1.h.free n1, n2, by rw [upd_ne (hta b y)]; exact n3⟩
      · cases ez
    · cases e4
      exact h4 F0 H0 F1 H1 σ ρ _ _ (R.grow g1) e3 fun F2 H2 g2 => p F2 H2 (g1.trans g2)
  · cases e2
    exact h2 F0 H0 F H σ ρ _ _ R e1 fun F2 H2 g2 => p F2 H2 g2
/-- the objects of a list that slot i alone knows, and what may be done with one of them -/
theorem Rel.getA {K : PySem.W.Frag} {F0 H0 F H : Hp} {σ : St} {ρ : List Sl} {i : Nat} {x : Option PD} {os : List Ob} (R : Rel K F0 H0 F H σ ρ) (e : ρ[i]? = some (.o (.arr x os))) : ∃ v a vs ts fts, σ[i]? = some (some v) ∧ HeadAt K F H v a ts x ∧ H a = some (.lst vs) ∧ ObAll K F H vs fts os ∧
    Own H0 F H (ts ++ a :: fts.flatten) ∧ (ts ++ a :: fts.flatten).Nodup ∧ ∀ n u ft H' o', vs[n]? = some u → fts[n]? = some ft → (∀ b, b ∉ ft → H' b = H b) → (∀ b ∈ ft, H' b ≠ none) → ObAt K F H' u ft o' → Rel K F0 H0 F H' σ (ρ.set i (.o (.arr x (os.set n o')))) := by
  obtain ⟨v, ft, es, ⟨a, vs, ts, fts, hd, eft, nd, ha, all⟩, ow, k1, _⟩ := R.getO e
  subst eft
  refine ⟨v, a, vs, ts, fts, es, hd, ha, all, ow, nd, fun n u ft H' o' e1 e2 off tr new => ?_⟩
  obtain ⟨d1, d2, d3⟩ := List.nodup_append.mp nd
  obtain ⟨d4, d5⟩ := List.nodup_cons.mp d2
  have ats : ∀ b ∈ ts, b ∉ ft := fun b hb z => d3 b hb b (List.mem_cons_of_mem _ (mem_flat e2 z)) rfl
  have aa : a ∉ ft := fun z => d4 (mem_flat e2 z)
  refine k1 H' _ (fun b hb => off b fun z => hb (List.mem_append_right _ (List.mem_cons_of_mem _ (mem_flat e2 z)))) (fun b hb => ?_) ⟨a, vs, ts, fts, ?_, rfl, nd, (off a aa).trans ha, ObAll.put (Same.refl _) all e1 e2 d5 (fun b _ hb => off b hb) new⟩
  · by_cases z : b ∈ ft
    · exact tr b z
    · rw [off b z]; exact (ow b hb).2.2
  · cases x with
    | none => exact hd
    | some x =>
      obtain ⟨t, v0, q1, q2, q3, q4⟩ := hd
      exact ⟨t, v0, q1, q2, (off t (ats t (by rw [q2]; simp))).trans q3, q4⟩
/-- x[n].append(e), x[1][n].append(e) -/
def sAppN (i : Nat) (hd : Bool) (mn me : M PD) : MS := fun ρ => match ρ[i]?, mn ρ, me ρ with
  | some (.o (.arr x os)), some (.ok (.int n)), some (.ok y) => (match os[n.toNat]? with
    | some (.lst ys) => if x.isSome = hd ∧ 0 ≤ n ∧ ys.length < big then some (.nx (ρ.set i (.o (.arr x (os.set n.toNat (.lst (ys ++ [y]))))))) else none
    | _ => none)
  | _, _, _ => none
theorem atI_of {α : Type} {xs : List α} {n : Int} {x : α} (h : 0 ≤ n) (e : xs[n.toNat]? = some x) : atI xs n = some x := by
  have := atI_nat e
  rwa [Int.toNat_of_nonneg h] at this
theorem appN_rel {K : PySem.W.Frag} {F0 H0 F H : Hp} {σ : St} {ρ : List Sl} {i n : Nat} {x : Option PD} {os : List Ob} {ys : List PD} {b : Addr} {us : List V} {v : V} {a : Addr} {ts : List Addr} {vs : List V} {y : PD} {w : V}
    (R : Rel K F0 H0 F H σ ρ) (e : ρ[i]? = some (.o (.arr x os))) (eo : os[n]? = some (.lst ys)) (es : σ[i]? = some (some v)) (hd : HeadAt K F H v a ts x) (ha : H a = some (.lst vs)) (eb : vs[n]? = some (.ref b)) (hb : H b = some (.lst us)) (d : Da K F w y) :
    Rel K F0 H0 F (upd H b (.lst (us ++ [w]))) σ (ρ.set i (.o (.arr x (os.set n (.lst (ys ++ [y])))))) := by
  obtain ⟨v', a', vs', ts', fts, es', hd', ha', all, ow, nd, k⟩ := R.getA e
  rw [es] at es'
  cases es'
  have ea : a' = a := by
    cases x with
    | none => have := hd.1.symm.trans hd'.1; cases this; rfl
    | some x =>
      obtain ⟨t, v0, q1, q2, q3, q4⟩ := hd
      obtain ⟨t', v0', p1, p2, p3, p4⟩ := hd'
      have := q1.symm.trans p1; cases this
      rw [q3] at p3
      injection p3 with p3; injection p3 with p3
      injection p3 with _ p3; injection p3 with p3 _; injection p3 with p3
      exact p3.symm
  subst ea
  rw [ha] at ha'
  cases ha'
  obtain ⟨u, ft, e1, e2, b', us', rfl, rfl, q1, q2⟩ := all.get eo
  rw [eb] at e1
  cases e1
  rw [hb] at q1
  cases q1
  refine k n _ _ _ _ eb e2 (fun c hc => upd_ne (by simpa using hc)) (fun c hc => ?_) ⟨b, us ++ [w], rfl, rfl, upd_same, q2.append (.cons d .nil)⟩
  have : c = b := by simpa using hc
  rw [this, upd_same]; simp
section
variable {x : Str} {px ps pa pc pos : Pos} {e n : Expr} {mn me : M PD}
theorem ds_appN (i : Nat) (hn : DE X E n mn) (he : DE X E e me) (hN : X.N[i]? = some x := by rfl) (hv : Vis X.env.scope x := by first | exact Or.inl rfl | exact Or.inr (Or.inl rfl) | exact Or.inr (Or.inr rfl)) (hd : (x == ("__debug__" : Str)) = false := by decide)
    (hcd : (x == ("__classdict__" : Str)) = false := by decide) (hpi : PlainIx n := by exact fun _ _ => rfl)
    (hst : starEach [e] X.env = (false, eval e X.env) :: starEach [] X.env := by rfl)
    (hbase : attributeBase (.Subscript (.Name x px) n ps) "append" X.env (eval (.Subscript (.Name x px) n ps) X.env) = eval (.Subscript (.Name x px) n ps) X.env := by rfl)
    (hfew : ((backTo pc (starEach [e] X.env)).all (fun x => !x.1) && (backToKw pc (keywordEach [] X.env)).all (fun x => x.1.isSome)
      && decide ([e].length + ([] : List Keyword).length + (if ([] : List Keyword).isEmpty then 0 else 1) < 30)) = true := by rfl)
    (hline : (pa.endLine == pc.line) = true := by rfl) (hplain : (backTo pc (starEach ([] : List Expr) X.env)).any (·.1) = false := by rfl)
    (hs : swapsWith (.Call (.Attribute (.Subscript (.Name x px) n ps) "append" pa) [e] [] pc) none pos.line X.env = pure false := by rfl) :
    DS X E (.Expr (.Call (.Attribute (.Subscript (.Name x px) n ps) "append" pa) [e] [] pc) pos) (sAppN i false mn me) := by
  obtain ⟨tn, h1, h2⟩ := hn
  obtain ⟨te, h3, h4⟩ := he
  refine ⟨_, ps_expr (pe_bm PySem.F.plainAttrs_list PySem.F.slot_list_append PySem.F.type_list_append mt_append (pe_ix ix_list (pv i hN hv hd hcd) h1 hpi) (pa_cons h3 pa_nil hst) hbase hfew hline hst hplain) hs, fun F0 H0 F H σ ρ r D R h p => ?_⟩
  unfold sAppN at h
  split at h
  · rename_i x os nn y ex en ey
    split at h
    · rename_i ys eo
      split at h
      · rename_i hc
        obtain ⟨hx, h0, hz⟩ := hc
        cases h
        obtain ⟨v, a, vs, ts, fts, es, hd, ha, all, ow, nd, k⟩ := R.getA ex
        obtain ⟨u, ft, e1, e2, b, us, rfl, rfl, q1, q2⟩ := all.get eo
        cases x with
        | some x => cases hx
        | none =>
          obtain ⟨rfl, rfl⟩ := hd
          refine ⟨.ref a, es, h2 F0 H0 F H σ ρ _ _ R en fun w F' H' g d => ?_⟩
          cases d
          refine ⟨a, vs, nn, .ref b, rfl, rfl, SqL.of (g.h _ _ ha), atI_of h0 e1, .inl ⟨rfl, _, SqL.of (g.h _ _ q1)⟩, ?_⟩
          refine h4 F0 H0 F' H' σ ρ _ _ (R.grow g) ey fun w F2 H2 g2 d2 => ?_
          have G := g.trans g2
          refine ⟨b, us, w, rfl, rfl, G.h _ _ q1, lt_line (by rw [q2.len]; exact hz), ?_⟩
          exact p σ F2 _ (appN_rel (R.grow G) ex eo es ⟨rfl, rfl⟩ (G.h _ _ ha) e1 (G.h _ _ q1) d2) G.f
      · cases h
    · cases h
  · cases h
theorem ds_appN1 (i : Nat) {p1 ps1 : Pos} {jj : Nat} (hn : DE X E n mn) (he : DE X E e me) (hN : X.N[i]? = some x := by rfl) (hv : Vis X.env.scope x := by first | exact Or.inl rfl | exact Or.inr (Or.inl rfl) | exact Or.inr (Or.inr rfl)) (hd : (x == ("__debug__" : Str)) = false := by decide)
    (hcd : (x == ("__classdict__" : Str)) = false := by decide) (hpi : PlainIx n := by exact fun _ _ => rfl) (hp1 : PlainIx (.Constant (.int 1) jj p1) := by exact fun _ _ => rfl)
    (hst : starEach [e] X.env = (false, eval e X.env) :: starEach [] X.env := by rfl)
    (hbase : attributeBase (.Subscript (.Subscript (.Name x px) (.Constant (.int 1) jj p1) ps1) n ps) "append" X.env (eval (.Subscript (.Subscript (.Name x px) (.Constant (.int 1) jj p1) ps1) n ps) X.env) = eval (.Subscript (.Subscript (.Name x px) (.Constant (.int 1) jj p1) ps1) n ps) X.env := by rfl)
    (hfew : ((backTo pc (starEach [e] X.env)).all (fun x => !x.1) && (backToKw pc (keywordEach [] X.env)).all (fun x => x.1.isSome)
      && decide ([e].length + ([] : List Keyword).length + (if ([] : List Keyword).isEmpty then 0 else 1) < 30)) = true := by rfl)
    (hline : (pa.endLine == pc.line) = true := by rfl) (hplain : (backTo pc (starEach ([] : List Expr) X.env)).any (·.1) = false := by rfl)
    (hs : swapsWith (.Call (.Attribute (.Subscript (.Subscript (.Name x px) (.Constant (.int 1) jj p1) ps1) n ps) "append" pa) [e] [] pc) none pos.line X.env = pure false := by rfl) :
    DS X E (.Expr (.Call (.Attribute (.Subscript (.Subscript (.Name x px) (.Constant (.int 1) jj p1) ps1) n ps) "append" pa) [e] [] pc) pos) (sAppN i true mn me) := by
  obtain ⟨tn, h1, h2⟩ := hn
  obtain ⟨te, h3, h4⟩ := he
  refine ⟨_, ps_expr (pe_bm PySem.F.plainAttrs_list PySem.F.slot_list_append PySem.F.type_list_append mt_append (pe_ix ix_list (pe_ix ix_tup (pv i hN hv hd hcd) pe_int hp1) h1 hpi) (pa_cons h3 pa_nil hst) hbase hfew hline hst hplain) hs, fun F0 H0 F H σ ρ r D R h p => ?_⟩
  unfold sAppN at h
  split at h
  · rename_i x os nn y ex en ey
    split at h
    · rename_i ys eo
      split at h
      · rename_i hc
        obtain ⟨hx, h0, hz⟩ := hc
        cases h
        obtain ⟨v, a, vs, ts, fts, es, hd, ha, all, ow, nd, k⟩ := R.getA ex
        obtain ⟨u, ft, e1, e2, b, us, rfl, rfl, q1, q2⟩ := all.get eo
        cases x with
        | none => cases hx
        | some x =>
          obtain ⟨t, v0, rfl, rfl, w3, w4⟩ := hd
          refine ⟨.ref t, es, t, [v0, .ref a], 1, .ref a, rfl, rfl, SqT.of w3, rfl, h2 F0 H0 F H σ ρ _ _ R en fun w F' H' g d => ?_⟩
          cases d
          refine ⟨a, vs, nn, .ref b, rfl, rfl, SqL.of (g.h _ _ ha), atI_of h0 e1, .inl ⟨rfl, _, SqL.of (g.h _ _ q1)⟩, ?_⟩
          refine h4 F0 H0 F' H' σ ρ _ _ (R.grow g) ey fun w F2 H2 g2 d2 => ?_
          have G := g.trans g2
          refine ⟨b, us, w, rfl, rfl, G.h _ _ q1, lt_line (by rw [q2.len]; exact hz), ?_⟩
          exact p σ F2 _ (appN_rel (R.grow G) ex eo es ⟨t, v0, rfl, rfl, G.h _ _ w3, w4.mono G.f⟩ (G.h _ _ ha) e1 (G.h _ _ q1) d2) G.f
      · cases h
    · cases h
  · cases h
/-- x.clear(), x[1].clear(), x not looked at again -/
def sClrN (i : Nat) (hd : Bool) : MS := fun ρ => match ρ[i]? with
  | some (.o (.arr x _)) => if x.isSome = hd then some (.nx (ρ.set i .no)) else none
  | _ => none
theorem clrN_rel {K : PySem.W.Frag} {F0 H0 F H : Hp} {σ : St} {ρ : List Sl} {i : Nat} {x : Option PD} {os : List Ob} (R : Rel K F0 H0 F H σ ρ) (e : ρ[i]? = some (.o (.arr x os))) : ∃ v a vs ts, σ[i]? = some (some v) ∧ HeadAt K F H v a ts x ∧ H a = some (.lst vs) ∧ Rel K F0 H0 F (upd H a (.lst [])) σ (ρ.set i .no) := by
  obtain ⟨v, ft, es, at_, ow, k⟩ := R.drop e
  have nf := at_.nofl
  obtain ⟨a, vs, ts, fts, hd, eft, nd, ha, all⟩ := at_
  refine ⟨v, a, vs, ts, es, hd, ha, k _ (fun b hb => upd_ne fun z => hb (by rw [eft, z]; simp)) fun b hb => ?_⟩
  by_cases z : b = a
  · rw [z, upd_same]
    exact ⟨by simp, fun xs e => by cases e⟩
  · rw [upd_ne z]
    exact ⟨(ow b hb).2.2, nf b hb⟩
theorem ds_clrN (i : Nat) (hN : X.N[i]? = some x := by rfl) (hv : Vis X.env.scope x := by first | exact Or.inl rfl | exact Or.inr (Or.inl rfl) | exact Or.inr (Or.inr rfl)) (hd : (x == ("__debug__" : Str)) = false := by decide)
    (hcd : (x == ("__classdict__" : Str)) = false := by decide)
    (hbase : attributeBase (.Name x px) "clear" X.env (eval (.Name x px) X.env) = eval (.Name x px) X.env := by rfl) (hline : (pa.endLine == pc.line) = true := by rfl)
    (hs : swapsWith (.Call (.Attribute (.Name x px) "clear" pa) [] [] pc) none pos.line X.env = pure false := by rfl) :
    DS X E (.Expr (.Call (.Attribute (.Name x px) "clear" pa) [] [] pc) pos) (sClrN i false) := by
  refine ⟨_, ps_expr (pe_bm0 PySem.F.plainAttrs_list PySem.F.slot_list_clear PySem.F.type_list_clear mt_clear (pv i hN hv hd hcd) hbase hline) hs, fun F0 H0 F H σ ρ r D R h p => ?_⟩
  unfold sClrN at h
  split at h
  · rename_i x os ex
    split at h
    · rename_i hx
      cases h
      obtain ⟨v, a, vs, ts, es, hd, ha, R2⟩ := clrN_rel R ex
      cases x with
      | some x => cases hx
      | none =>
        obtain ⟨rfl, rfl⟩ := hd
        exact ⟨.ref a, es, .inl ⟨rfl, _, SqL.of ha⟩, a, vs, rfl, rfl, ha, p σ F _ R2 (Same.refl _)⟩
    · cases h
  · cases h
theorem ds_clrN1 (i : Nat) {pi : Pos} {jj : Nat} (hN : X.N[i]? = some x := by rfl) (hv : Vis X.env.scope x := by first | exact Or.inl rfl | exact Or.inr (Or.inl rfl) | exact Or.inr (Or.inr rfl)) (hd : (x == ("__debug__" : Str)) = false := by decide)
    (hcd : (x == ("__classdict__" : Str)) = false := by decide) (hpi : PlainIx (.Constant (.int 1) jj pi) := by exact fun _ _ => rfl)
    (hbase : attributeBase (.Subscript (.Name x px) (.Constant (.int 1) jj pi) ps) "clear" X.env (eval (.Subscript (.Name x px) (.Constant (.int 1) jj pi) ps) X.env) = eval (.Subscript (.Name x px) (.Constant (.int 1) jj pi) ps) X.env := by rfl) (hline : (pa.endLine == pc.line) = true := by rfl)
    (hs : swapsWith (.Call (.Attribute (.Subscript (.Name x px) (.Constant (.int 1) jj pi) ps) "clear" pa) [] [] pc) none pos.line X.env = pure false := by rfl) :
    DS X E (.Expr (.Call (.Attribute (.Subscript (.Name x px) (.Constant (.int 1) jj pi) ps) "clear" pa) [] [] pc) pos) (sClrN i true) := by
  refine ⟨_, ps_expr (pe_bm0 PySem.F.plainAttrs_list PySem.F.slot_list_clear PySem.F.type_list_clear mt_clear (pe_ix ix_tup (pv i hN hv hd hcd) pe_int hpi) hbase hline) hs, fun F0 H0 F H σ ρ r D R h p => ?_⟩
  unfold sClrN at h
  split at h
  · rename_i x os ex
    split at h
    · rename_i hx
      cases h
      obtain ⟨v, a, vs, ts, es, hd, ha, R2⟩ := clrN_rel R ex
      cases x with
      | none => cases hx
      | some x =>
        obtain ⟨t, v0, rfl, rfl, q3, q4⟩ := hd
        exact ⟨.ref t, es, t, [v0, .ref a], 1, .ref a, rfl, rfl, SqT.of q3, rfl, .inl ⟨rfl, _, SqL.of ha⟩, a, vs, rfl, rfl, ha, p σ F _ R2 (Same.refl _)⟩
    · cases h
  · cases h
end
end
end DL

/-! Shelves: instances of a class of the program; statements and expressions that change what was handed in. -/
namespace DL
open PySem L2
/-! ### a shelf that is read -/
/-- the facts of the class -/
structure ShT (K : PySem.W.Frag) (mg : Str → Option Value) (C : Addr) : Prop where
  g : mg "Shelf" = some (.ref C)
  s : ShC K C
  cl : Cls K C
  nm : NoAttr K C "many"
  nh : NoAttr K C "held"
theorem shf_many {m : Int} {b : Addr} : (shfF m b).lookup ("many" : Str) = some (.int m) := by
  unfold shfF
  rw [List.lookup_cons, show (("many" : Str) == "many") = true by decide +kernel]
theorem shf_held {m : Int} {b : Addr} : (shfF m b).lookup ("held" : Str) = some (.ref b) := by
  unfold shfF
  rw [List.lookup_cons, show (("held" : Str) == "many") = false by decide +kernel]
  rw [List.lookup_cons, show (("held" : Str) == "held") = true by decide +kernel]
theorem shf_no {m : Int} {b : Addr} {x : Str} (h1 : (x == ("many" : Str)) = false) (h2 : (x == ("held" : Str)) = false) : (shfF m b).lookup x = none := by
  unfold shfF
  rw [List.lookup_cons, h1, List.lookup_cons, h2]
  rfl
def fMany : PD → Option PD
  | .dict [(.bool true, .none), (.int m, .list _)] => some (.int m)
  | _ => none
def fHeld : PD → Option PD
  | .dict [(.bool true, .none), (.int _, .list hs)] => some (.list hs)
  | _ => none
@[simp] theorem fMany_s {m : Int} {held : List (List Int)} : fMany (shfD m held) = some (.int m) := rfl
@[simp] theorem fHeld_s {m : Int} {held : List (List Int)} : fHeld (shfD m held) = some (.list (held.map fun w => .list (w.map .int))) := rfl
theorem Da.shelf {K : PySem.W.Frag} {F : Hp} {v : V} {m : Int} {hs : List PD} (d : Da K F v (.dict [(.bool true, .none), (.int m, .list hs)])) :
    ∃ C a dx b xs, ShC K C ∧ v = .ref a ∧ F a = some (.ins C dx (shfF m b)) ∧ F b = some (.lst xs) ∧ DaAll K F xs hs := by
  cases d with
  | scr h1 h2 =>
    rename_i ns
    cases ns with
    | nil => cases h2
    | cons n ns => cases h2
  | dct h1 h2 h3 => cases h3
  | shf h0 h1 h2 h3 h4 h5 =>
    cases h5
    exact ⟨_, _, _, _, _, h0, rfl, h1, h3, h4.da⟩
section
variable {X : Cx} {E : XK} {k : Nat} {C : Addr}
theorem de_many {e : Expr} {m : M PD} {pos : Pos} (T : ShT X.K X.mg C) (h : DE X E e m) (hb : attributeBase e "many" X.env (eval e X.env) = eval e X.env := by rfl) : DE X E (.Attribute e "many" pos) (m1 fMany m) := by
  obtain ⟨t, h1, h2⟩ := h
  refine ⟨_, pe_fld h1 hb, fun F0 H0 F H σ ρ q Q R h p => ?_⟩
  rcases mb_ok h with ⟨x, e1, e2⟩ | ⟨c, e1, e2⟩
  · refine h2 F0 H0 F H σ ρ _ _ R e1 fun v F' H' g d => ?_
    unfold ml fMany at e2
    obtain ⟨z, ez, rfl⟩ := Option.map_eq_some_iff.mp e2
    split at ez
    · cases ez
      obtain ⟨D, a, dx, b, xs, k0, rfl, k1, k2, k3⟩ := d.shelf
      cases T.s.uniq k0
      exact ⟨a, _, dx, _, _, rfl, g.fh _ _ k1, T.cl, T.nm, shf_many, p _ F' H' g (.int _)⟩
    · cases ez
  · cases e2
    exact h2 F0 H0 F H σ ρ _ _ R e1 fun F' H' g => p F' H' g
theorem de_held {e : Expr} {m : M PD} {pos : Pos} (T : ShT X.K X.mg C) (h : DE X E e m) (hb : attributeBase e "held" X.env (eval e X.env) = eval e X.env := by rfl) : DE X E (.Attribute e "held" pos) (m1 fHeld m) := by
  obtain ⟨t, h1, h2⟩ := h
  refine ⟨_, pe_fld h1 hb, fun F0 H0 F H σ ρ q Q R h p => ?_⟩
  rcases mb_ok h with ⟨x, e1, e2⟩ | ⟨c, e1, e2⟩
  · refine h2 F0 H0 F H σ ρ _ _ R e1 fun v F' H' g d => ?_
    unfold ml fHeld at e2
    obtain ⟨z, ez, rfl⟩ := Option.map_eq_some_iff.mp e2
    split at ez
    · cases ez
      obtain ⟨D, a, dx, b, xs, k0, rfl, k1, k2, k3⟩ := d.shelf
      cases T.s.uniq k0
      exact ⟨a, _, dx, _, _, rfl, g.fh _ _ k1, T.cl, T.nh, shf_held, p _ F' H' g (.lst k2 k3)⟩
    · cases ez
  · cases e2
    exact h2 F0 H0 F H σ ρ _ _ R e1 fun F' H' g => p F' H' g
/-- the method m of shelves does what g tells, the shelf read only, at level k -/
def MetOk (P : Program) (w : World) (K : PySem.W.Frag) (mg : Str → Option Value) (base : Heap) (C : Addr) (m : Str) (k : Nat) (g : List PD → Option (Ro Rs)) : Prop :=
  ∃ f fd ps, FnOk P w K mg base (L2.CX P w) k f fd ps (spD K g) ∧ Meth K C m f ∧ Binds K fd ps []
/-- e.m(), the shelf read only -/
def mMet (g : List PD → Option (Ro Rs)) (a : M PD) : M Rs := mb a fun x _ => match fMany x with | some _ => g [x] | none => none
theorem dr_met0 {m : Str} {e : Expr} {ma : M PD} {j : Nat} {g : List PD → Option (Ro Rs)} {apos pos : Pos} {pl : Sem Bool} (c : Cok X E k) (T : ShT X.K X.mg C) (F : MetOk X.prog X.w X.K X.mg X.base C m j g) (hj : j ≤ k) (he : DE X E e ma)
    (h1 : (m == ("many" : Str)) = false := by decide +kernel) (h2 : (m == ("held" : Str)) = false := by decide +kernel)
    (ht : eval (.Call (.Attribute e m apos) [] [] pos) X.env = (do
      let ov ← eval e X.env
      standAt apos.atName
      let (f, first) ← holding [ov] (getMethod ov m pl)
      callWith pos f first (backTo pos (starEach [] X.env)) (backToKw pos (keywordEach [] X.env))) := by rfl) :
    DR X E (.Call (.Attribute e m apos) [] [] pos) (mMet g ma) := by
  obtain ⟨t, k1, k2⟩ := he
  obtain ⟨f, fd, ps, F, hm, hb⟩ := F
  refine ⟨_, pe_meth0 k1 T.cl hm F (c.hr.mono hj) hb .nil (passes_call c.tk fun _ _ _ _ h => h) ht, fun F0 H0 F H σ ρ r Q R h p => ?_⟩
  rcases mb_ok h with ⟨x, e1, e2⟩ | ⟨c, e1, e2⟩
  · refine k2 F0 H0 F H σ ρ _ _ R e1 fun v F' H' g' d => ?_
    split at e2
    · rename_i em
      unfold fMany at em
      split at em
      · obtain ⟨D, a, dx, b, xs, q0, rfl, q1, q2, q3⟩ := d.shelf
        cases T.s.uniq q0
        refine ⟨a, dx, _, rfl, g'.fh _ _ q1, shf_no h1 h2, ?_⟩
        show spD X.K _ (.ref a :: ([] ++ [])) H' Q E
        exact ⟨F', _, r, ⟨g'.fh, (R.grow g').ti⟩, .cons d .nil, e2, p.grow g'⟩
      · cases em
    · cases e2
  · cases e2
    exact k2 F0 H0 F H σ ρ _ _ R e1 fun F' H' g => p F' H' g
/-! ### a new shelf -/
def spInit (K : PySem.W.Frag) (C : Addr) : Sp := fun vs H Q _ => ∃ x dx m, vs = [.ref x, .int m] ∧ H x = some (.ins C dx []) ∧ ∀ b, H b = none → Q .non (upd (upd (upd H x (.ins C dx [("many", .int m)])) b (.lst [])) x (.ins C dx (shfF m b)))
theorem ok_init {P : Program} {w : World} {K : PySem.W.Frag} {mg : Str → Option Value} {base : Heap} {f C : Addr} {fd : FuncData} {p0 p1 p2 p3 p4 p5 p6 q1 q2 q3 : Pos} {st : Stmt} (F : Fun K "__init__" "Shelf.__init__" st f fd) (S : FnScope ["self", "many"] ["self", "many"] (defScope st)) (T : ShT K mg C)
    (hb : defBody st = [.Assign [.Attribute (.Name "self" p0) "many" p1] (.Name "many" p2) p3, .Assign [.Attribute (.Name "self" p4) "held" p5] (.List [] p6) q1])
    (v0 : Vis (defScope st) "self") (v1 : Vis (defScope st) "many") : FnOk P w K mg base (L2.CX P w) 1 f fd ["self", "many"] (spInit K C) := by
  refine F.okX S (fun vs H Q E h => ?_) (fun cdv A outer s H vs Q E hr h => ?_)
  · obtain ⟨x, dx, m, rfl, _⟩ := h
    rfl
  · obtain ⟨x, dx, m, rfl, h1, h2⟩ := h
    rw [hb]
    refine ⟨_, pss_cons (ps_fld (pv 0 rfl v0 (by decide) (by decide)) (pv 1 rfl v1 (by decide) (by decide)) rfl) (pss_one (ps_fld (pv 0 rfl v0 (by decide) (by decide)) (pe_lst pa_nil) rfl)), ?_⟩
    refine ⟨.int m, rfl, .ref x, rfl, x, C, dx, [], rfl, h1, T.cl, T.nm, by show 0 < 1000; decide, ?_⟩
    refine ⟨Nat.zero_le _, fun b hb => ?_⟩
    have hbx : b ≠ x := fun z => by rw [z, upd_same] at hb; cases hb
    rw [upd_ne hbx] at hb
    refine ⟨.ref x, rfl, x, C, dx, [("many", .int m)], rfl, by rw [upd_ne (Ne.symm hbx), upd_same]; rfl, T.cl, T.nh, by show 1 < 1000; decide, ?_⟩
    have e : putF "held" (.ref b) [("many", .int m)] = shfF m b := by
      show (if ("many" : Str) = "held" then _ else _) = _
      rw [if_neg (by decide +kernel)]
      rfl
    rw [e]
    exact h2 b hb
theorem Grow.news {F H H' : Hp} (e : Same F H) (h1 : ∀ b, H b ≠ none → H' b = H b) (h2 : ∀ b xs, H b = none → H' b = some (.tup xs) → Ints xs → False) : Grow F H F H' :=
  ⟨Same.refl _, fun b o q => (h1 b (by rw [q]; simp)).trans q, fun b o q => (h1 b (by rw [e b o q]; simp)).trans (e b o q), fun _ _ => rfl, fun z b xs q i => by
    by_cases y : H b = none
    · exact (h2 b xs y q i).elim
    · rw [h1 b y] at q; exact z b xs q i⟩
def asI1 : PD → Option Int
  | .int i => some i
  | _ => none
def mMake (a : M PD) : M Rs := mb a fun x => ml ((asI1 x).map fun m => .o (.shf m []))
theorem dr_make {e : Expr} {ma : M PD} {f : Addr} {fd : FuncData} {p pos : Pos} (c : Cok X E k) (T : ShT X.K X.mg C) (Mk : Mk X.K C f) (F : FnOk X.prog X.w X.K X.mg X.base (L2.CX X.prog X.w) 1 f fd ["self", "many"] (spInit X.K C)) (hb : Binds X.K fd ["self", "many"] []) (hj : 2 ≤ k) (he : DE X E e ma)
    (hg : Gl X "Shelf" := by rfl) (hs : starEach [e] X.env = (false, eval e X.env) :: starEach [] X.env := by rfl) : DR X E (.Call (.Name "Shelf" p) [e] [] pos) (mMake ma) := by
  obtain ⟨t, k1, k2⟩ := he
  refine ⟨_, pe_make Mk F (c.hr.mono hj) hg T.g hb .nil (passes_call c.tk fun _ _ _ _ h => h) (pa_cons k1 pa_nil hs) (by decide) hs rfl, fun F0 H0 F H σ ρ r Q R h p => ?_⟩
  rcases mb_ok h with ⟨x, e1, e2⟩ | ⟨c, e1, e2⟩
  · refine k2 F0 H0 F H σ ρ _ _ R e1 fun v F' H' g d => ?_
    unfold ml at e2
    obtain ⟨z, ez, rfl⟩ := Option.map_eq_some_iff.mp e2
    obtain ⟨m, em, rfl⟩ := Option.map_eq_some_iff.mp ez
    unfold asI1 at em
    split at em
    · cases em
      cases d
      intro x dx nx nd ne
      refine ⟨x, dx, m, rfl, by rw [upd_same], fun b hb => ⟨rfl, ?_⟩⟩
      have hbx : b ≠ x := fun z => by rw [z, upd_same] at hb; cases hb
      rw [upd_ne hbx] at hb
      have hbd : b ≠ dx := fun z => by rw [z, upd_same] at hb; cases hb
      rw [upd_ne hbd] at hb
      have g2 : Grow F' H' F' (upd (upd (upd (upd (upd H' dx (.own x)) x (.ins C dx [])) x (.ins C dx [("many", .int m)])) b (.lst [])) x (.ins C dx (shfF m b))) := by
        refine .news g.fh (fun a ha => ?_) (fun a xs ha ht i => ?_)
        · have n1 : a ≠ x := fun z => ha (z ▸ nx)
          have n2 : a ≠ dx := fun z => ha (z ▸ nd)
          have n3 : a ≠ b := fun z => ha (z ▸ hb)
          rw [upd_ne n1, upd_ne n3, upd_ne n1, upd_ne n1, upd_ne n2]
        · by_cases n1 : a = x
          · rw [n1, upd_same] at ht; cases ht
          · rw [upd_ne n1] at ht
            by_cases n3 : a = b
            · rw [n3, upd_same] at ht; cases ht
            · rw [upd_ne n3, upd_ne n1, upd_ne n1] at ht
              by_cases n2 : a = dx
              · rw [n2, upd_same] at ht; cases ht
              · rw [upd_ne n2, ha] at ht; cases ht
      refine p _ F' _ (g.trans g2) ⟨[x, dx, b], ⟨C, x, dx, b, [], T.s, rfl, rfl, ?_, upd_same, ?_, ?_, .nil⟩, fun a ha => ?_⟩
      · simp only [List.nodup_cons, List.mem_cons, List.not_mem_nil, or_false, not_or, not_false_eq_true, List.nodup_nil, and_true]
        exact ⟨⟨Ne.symm ne, Ne.symm hbx⟩, Ne.symm hbd⟩
      · rw [upd_ne ne, upd_ne (Ne.symm hbd), upd_ne ne, upd_ne ne, upd_same]
      · rw [upd_ne hbx, upd_same]
      · simp only [List.mem_cons, List.not_mem_nil, or_false] at ha
        rcases ha with rfl | rfl | rfl
        · exact ⟨g.h.free nx, g.fh.free nx, by rw [upd_same]; simp⟩
        · exact ⟨g.h.free nd, g.fh.free nd, by rw [upd_ne ne, upd_ne (Ne.symm hbd), upd_ne ne, upd_ne ne, upd_same]; simp⟩
        · exact ⟨g.h.free hb, g.fh.free hb, by rw [upd_ne hbx, upd_same]; simp⟩
    · cases em
  · cases e2
    exact k2 F0 H0 F H σ ρ _ _ R e1 fun F' H' g => p F' H' g
end
end DL

/-! Statements and expressions that change what was handed in: the slots are told of at a return, at a raise, too. -/
namespace DL
open PySem L2
inductive OutW where
  | nx (ρ : List Sl)
  | bk (ρ : List Sl)
  | ct (ρ : List Sl)
  | rt (x : PD) (ρ : List Sl)
  | ex (c : Addr) (ρ : List Sl)
abbrev MW := List Sl → Option OutW
abbrev MV (α : Type) := List Sl → Option (Ro α × List Sl)
def PoW (K : PySem.W.Frag) (F0 H0 F : Hp) (D : Ends) (E : XK) : OutW → Prop
  | .nx ρ => ∀ σ F' H', Rel K F0 H0 F' H' σ ρ → Same F F' → D.nx σ H'
  | .bk ρ => ∀ σ F' H', Rel K F0 H0 F' H' σ ρ → Same F F' → D.bk σ H'
  | .ct ρ => ∀ σ F' H', Rel K F0 H0 F' H' σ ρ → Same F F' → D.ct σ H'
  | .rt x ρ => ∀ v σ F' H', Rel K F0 H0 F' H' σ ρ → Same F F' → Da K F' v x → D.rt v H'
  | .ex c ρ => ∀ σ F' H', Rel K F0 H0 F' H' σ ρ → Same F F' → E (.ref c) none H'
def PoV (K : PySem.W.Frag) (F0 H0 F : Hp) (σ : St) (Q : VK) (E : XK) : Ro PD × List Sl → Prop
  | (.ok x, ρ) => ∀ v F' H', Rel K F0 H0 F' H' σ ρ → Same F F' → Da K F' v x → Q v H'
  | (.ex c, ρ) => ∀ F' H', Rel K F0 H0 F' H' σ ρ → Same F F' → E (.ref c) none H'
def PoU (K : PySem.W.Frag) (F0 H0 F : Hp) (σ : St) (Q : Bool → Hp → Prop) (E : XK) : Ro Bool × List Sl → Prop
  | (.ok b, ρ) => ∀ F' H', Rel K F0 H0 F' H' σ ρ → Same F F' → Q b H'
  | (.ex c, ρ) => ∀ F' H', Rel K F0 H0 F' H' σ ρ → Same F F' → E (.ref c) none H'
structure VS (X : Cx) (E : XK) (st : Stmt) (m : MW) : Prop where
  ex : ∃ t, PS X st t ∧ ∀ F0 H0 F H σ ρ r D, Rel X.K F0 H0 F H σ ρ → m ρ = some r → PoW X.K F0 H0 F D E r → t D σ H
structure VSs (X : Cx) (E : XK) (st : List Stmt) (m : MW) : Prop where
  ex : ∃ t, PSs X st t ∧ ∀ F0 H0 F H σ ρ r D, Rel X.K F0 H0 F H σ ρ → m ρ = some r → PoW X.K F0 H0 F D E r → t D σ H
structure VE (X : Cx) (E : XK) (e : Expr) (m : MV PD) : Prop where
  ex : ∃ t, PE X e t ∧ ∀ F0 H0 F H σ ρ r Q, Rel X.K F0 H0 F H σ ρ → m ρ = some r → PoV X.K F0 H0 F σ Q E r → t σ H Q
structure VT (X : Cx) (E : XK) (e : Expr) (m : MV Bool) : Prop where
  ex : ∃ t, PT X e t ∧ ∀ F0 H0 F H σ ρ r Q, Rel X.K F0 H0 F H σ ρ → m ρ = some r → PoU X.K F0 H0 F σ Q E r → t σ H Q
structure VW (X : Cx) (E : XK) (e : Expr) (m : MV Bool) : Prop where
  ex : ∃ t, PW X e t ∧ ∀ F0 H0 F H σ ρ r Q, Rel X.K F0 H0 F H σ ρ → m ρ = some r → PoU X.K F0 H0 F σ Q E r → t σ H Q
theorem PoW.later {K : PySem.W.Frag} {F0 H0 F F' : Hp} {D : Ends} {E : XK} {r : OutW} (p : PoW K F0 H0 F D E r) (e : Same F F') : PoW K F0 H0 F' D E r := by
  cases r with
  | nx ρ => exact fun σ F2 H2 R q => p σ F2 H2 R (e.trans q)
  | bk ρ => exact fun σ F2 H2 R q => p σ F2 H2 R (e.trans q)
  | ct ρ => exact fun σ F2 H2 R q => p σ F2 H2 R (e.trans q)
  | rt x ρ => exact fun v σ F2 H2 R q => p v σ F2 H2 R (e.trans q)
  | ex c ρ => exact fun σ F2 H2 R q => p σ F2 H2 R (e.trans q)
theorem PoV.later {K : PySem.W.Frag} {F0 H0 F F' : Hp} {σ : St} {Q : VK} {E : XK} {r : Ro PD × List Sl} (p : PoV K F0 H0 F σ Q E r) (e : Same F F') : PoV K F0 H0 F' σ Q E r := by
  obtain ⟨r, ρ⟩ := r
  cases r with
  | ok x => exact fun v F2 H2 R q => p v F2 H2 R (e.trans q)
  | ex c => exact fun F2 H2 R q => p F2 H2 R (e.trans q)
theorem PoU.later {K : PySem.W.Frag} {F0 H0 F F' : Hp} {σ : St} {Q : Bool → Hp → Prop} {E : XK} {r : Ro Bool × List Sl} (p : PoU K F0 H0 F σ Q E r) (e : Same F F') : PoU K F0 H0 F' σ Q E r := by
  obtain ⟨r, ρ⟩ := r
  cases r with
  | ok x => exact fun F2 H2 R q => p F2 H2 R (e.trans q)
  | ex c => exact fun F2 H2 R q => p F2 H2 R (e.trans q)
section
variable {X : Cx} {E : XK} {k : Nat}
/-! ### blocks -/
def wNil : MW := fun ρ => some (.nx ρ)
def wSeq (a b : MW) : MW := fun ρ => match a ρ with
  | some (.nx ρ') => b ρ'
  | r => r
theorem vss_nil : VSs X E [] wNil := ⟨_, pss_nil, fun F0 H0 F H σ ρ r D R h p => by cases h; exact p σ F H R (Same.refl _)⟩
theorem vss_cons {st : Stmt} {rest : List Stmt} {ma mb' : MW} (ha : VS X E st ma) (hb : VSs X E rest mb') : VSs X E (st :: rest) (wSeq ma mb') := by
  obtain ⟨ta, h1, h2⟩ := ha
  obtain ⟨tb, h3, h4⟩ := hb
  refine ⟨_, pss_cons h1 h3, fun F0 H0 F H σ ρ r D R h p => ?_⟩
  unfold wSeq at h
  split at h
  · rename_i ρ' e
    exact h2 F0 H0 F H σ ρ _ _ R e fun σ' F' H' R' q => h4 F0 H0 F' H' σ' ρ' r D R' h (p.later q)
  · rename_i hn
    refine h2 F0 H0 F H σ ρ r _ R h ?_
    cases r with
    | nx ρ' => exact absurd h (hn ρ')
    | bk ρ' => exact p
    | ct ρ' => exact p
    | rt x ρ' => exact p
    | ex c ρ' => exact p
theorem vss_one {st : Stmt} {ma : MW} (ha : VS X E st ma) : VSs X E [st] ma := by
  obtain ⟨ta, h1, h2⟩ := ha
  exact ⟨_, pss_one h1, h2⟩
/-- a statement that neither returns nor raises -/
def wLift (m : MS) : MW := fun ρ => match m ρ with
  | some (.nx ρ') => some (.nx ρ')
  | some (.bk ρ') => some (.bk ρ')
  | some (.ct ρ') => some (.ct ρ')
  | _ => none
theorem vs_lift {st : Stmt} {m : MS} (h : DS X E st m) : VS X E st (wLift m) := by
  obtain ⟨t, h1, h2⟩ := h
  refine ⟨t, h1, fun F0 H0 F H σ ρ r D R h p => ?_⟩
  unfold wLift at h
  split at h
  · rename_i ρ' e; cases h; exact h2 F0 H0 F H σ ρ _ _ R e p
  · rename_i ρ' e; cases h; exact h2 F0 H0 F H σ ρ _ _ R e p
  · rename_i ρ' e; cases h; exact h2 F0 H0 F H σ ρ _ _ R e p
  · cases h
/-- what is settled ahead of a block -/
def wFix (i : Nat) (m : MW) : MW := fun ρ => match ρ[i]? with
  | some (.o (.lst xs)) => m (ρ.set i (.d (.list xs)))
  | _ => m ρ
theorem vss_fix (i : Nat) {sts : List Stmt} {m : MW} (h : VSs X E sts m) : VSs X E sts (wFix i m) := by
  obtain ⟨t, h1, h2⟩ := h
  refine ⟨t, h1, fun F0 H0 F H σ ρ r D R h p => ?_⟩
  unfold wFix at h
  split at h
  · rename_i xs e
    obtain ⟨F', q1, R2⟩ := R.settle e
    exact h2 F0 H0 F' H σ _ r D R2 h (p.later q1)
  · exact h2 F0 H0 F H σ ρ r D R h p
def wIf (c : M Bool) (a b : MW) : MW := fun ρ => match c ρ with
  | some (.ok k) => if k = true then a ρ else b ρ
  | some (.ex c) => some (.ex c ρ)
  | none => none
theorem vs_if {c : Expr} {a b : List Stmt} {mc : M Bool} {ma mb' : MW} {pos : Pos} (hc : DT X E c mc) (ha : VSs X E a ma) (hb : VSs X E b mb') : VS X E (.If c a b pos) (wIf mc ma mb') := by
  obtain ⟨tc, k1, k2⟩ := hc
  obtain ⟨ta, h1, h2⟩ := ha
  obtain ⟨tb, h3, h4⟩ := hb
  refine ⟨_, ps_if k1 h1 h3, fun F0 H0 F H σ ρ r D R h p => ?_⟩
  unfold wIf at h
  split at h
  · rename_i b e
    refine k2 F0 H0 F H σ ρ _ _ R e fun F' H' g => ?_
    cases b with
    | true => rw [if_pos rfl] at h ⊢; exact h2 F0 H0 F' H' σ ρ _ _ (R.grow g) h (p.later g.f)
    | false => rw [if_neg (by decide)] at h ⊢; exact h4 F0 H0 F' H' σ ρ _ _ (R.grow g) h (p.later g.f)
  · rename_i c e
    cases h
    exact k2 F0 H0 F H σ ρ _ _ R e fun F' H' g => p σ F' H' (R.grow g) g.f
  · cases h
/-- an if whose test changes something -/
def wIfV (c : MV Bool) (a b : MW) : MW := fun ρ => match c ρ with
  | some (.ok k, ρ') => if k = true then a ρ' else b ρ'
  | some (.ex c, ρ') => some (.ex c ρ')
  | none => none
theorem vs_ifV {c : Expr} {a b : List Stmt} {mc : MV Bool} {ma mb' : MW} {pos : Pos} (hc : VT X E c mc) (ha : VSs X E a ma) (hb : VSs X E b mb') : VS X E (.If c a b pos) (wIfV mc ma mb') := by
  obtain ⟨tc, k1, k2⟩ := hc
  obtain ⟨ta, h1, h2⟩ := ha
  obtain ⟨tb, h3, h4⟩ := hb
  refine ⟨_, ps_if k1 h1 h3, fun F0 H0 F H σ ρ r D R h p => ?_⟩
  unfold wIfV at h
  split at h
  · rename_i b ρ' e
    refine k2 F0 H0 F H σ ρ _ _ R e fun F' H' R' s => ?_
    cases b with
    | true => rw [if_pos rfl] at h ⊢; exact h2 F0 H0 F' H' σ ρ' _ _ R' h (p.later s)
    | false => rw [if_neg (by decide)] at h ⊢; exact h4 F0 H0 F' H' σ ρ' _ _ R' h (p.later s)
  · rename_i c ρ' e
    cases h
    exact k2 F0 H0 F H σ ρ _ _ R e fun F' H' R' s => p σ F' H' R' s
  · cases h
def wRet (m : M PD) : MW := fun ρ => match m ρ with
  | some (.ok x) => some (.rt x ρ)
  | some (.ex c) => some (.ex c ρ)
  | none => none
theorem vs_ret {e : Expr} {m : M PD} {pos : Pos} (he : DE X E e m) : VS X E (.Return (some e) pos) (wRet m) := by
  obtain ⟨t, h1, h2⟩ := he
  refine ⟨_, ps_ret h1, fun F0 H0 F H σ ρ r D R h p => ?_⟩
  unfold wRet at h
  split at h
  · rename_i b e
    cases h
    exact h2 F0 H0 F H σ ρ _ _ R e fun v F' H' g d => p v σ F' H' (R.grow g) g.f d
  · rename_i c e
    cases h
    exact h2 F0 H0 F H σ ρ _ _ R e fun F' H' g => p σ F' H' (R.grow g) g.f
  · cases h
def wRetV (m : MV PD) : MW := fun ρ => match m ρ with
  | some (.ok x, ρ') => some (.rt x ρ')
  | some (.ex c, ρ') => some (.ex c ρ')
  | none => none
theorem vs_retV {e : Expr} {m : MV PD} {pos : Pos} (he : VE X E e m) : VS X E (.Return (some e) pos) (wRetV m) := by
  obtain ⟨t, h1, h2⟩ := he
  refine ⟨_, ps_ret h1, fun F0 H0 F H σ ρ r D R h p => ?_⟩
  unfold wRetV at h
  split at h
  · rename_i b ρ' e
    cases h
    exact h2 F0 H0 F H σ ρ _ _ R e fun v F' H' R' s d => p v σ F' H' R' s d
  · rename_i c ρ' e
    cases h
    exact h2 F0 H0 F H σ ρ _ _ R e fun F' H' R' s => p σ F' H' R' s
  · cases h
def wExp (m : M Rs) : MW := fun ρ => match m ρ with
  | some (.ok _) => some (.nx ρ)
  | some (.ex c) => some (.ex c ρ)
  | none => none
theorem vs_exp {e : Expr} {m : M Rs} {pos : Pos} (he : DR X E e m) (hs : swapsWith e none pos.line X.env = pure false := by rfl) : VS X E (.Expr e pos) (wExp m) := by
  obtain ⟨t, h1, h2⟩ := he
  refine ⟨_, ps_expr h1 hs, fun F0 H0 F H σ ρ r D R h p => ?_⟩
  unfold wExp at h
  split at h
  · rename_i b e
    cases h
    exact h2 F0 H0 F H σ ρ _ _ R e fun v F' H' g d => p _ F' H' (R.grow g) g.f
  · rename_i c e
    cases h
    exact h2 F0 H0 F H σ ρ _ _ R e fun F' H' g => p σ F' H' (R.grow g) g.f
  · cases h
def wExpV (m : MV PD) : MW := fun ρ => match m ρ with
  | some (.ok _, ρ') => some (.nx ρ')
  | some (.ex c, ρ') => some (.ex c ρ')
  | none => none
theorem vs_expV {e : Expr} {m : MV PD} {pos : Pos} (he : VE X E e m) (hs : swapsWith e none pos.line X.env = pure false := by rfl) : VS X E (.Expr e pos) (wExpV m) := by
  obtain ⟨t, h1, h2⟩ := he
  refine ⟨_, ps_expr h1 hs, fun F0 H0 F H σ ρ r D R h p => ?_⟩
  unfold wExpV at h
  split at h
  · rename_i b ρ' e
    cases h
    exact h2 F0 H0 F H σ ρ _ _ R e fun v F' H' R' s d => p _ F' H' R' s
  · rename_i c ρ' e
    cases h
    exact h2 F0 H0 F H σ ρ _ _ R e fun F' H' R' s => p σ F' H' R' s
  · cases h
/-- name = e, e changes something and gives data -/
def wSetV (i : Nat) (m : MV PD) : MW := fun ρ => match m ρ with
  | some (.ok x, ρ') => some (.nx (ρ'.set i (.d x)))
  | some (.ex c, ρ') => some (.ex c ρ')
  | none => none
theorem vs_setV {i : Nat} {x : Str} {e : Expr} {m : MV PD} {pos pos' : Pos} (hN : X.N.Nodup) (he : VE X E e m) (hi : X.N[i]? = some x := by rfl) (hx : Loc X.env.scope x := by first | exact Or.inl rfl | exact Or.inr rfl)
    (hs : swapsWith e (some (.Name x pos')) pos.line X.env = pure false := by rfl) (hf : X.fn x = true ∨ X.env.scope.names.lookup x = some .local := by first | exact .inl rfl | exact .inr rfl | assumption) : VS X E (.Assign [.Name x pos'] e pos) (wSetV i m) := by
  obtain ⟨t, h1, h2⟩ := he
  refine ⟨_, ps_set hN hi hx h1 hs hf, fun F0 H0 F H σ ρ r D R h p => ?_⟩
  unfold wSetV at h
  split at h
  · rename_i b ρ' e
    cases h
    exact h2 F0 H0 F H σ ρ _ _ R e fun v F' H' R' s d => p _ F' H' (R'.setD d) s
  · rename_i c ρ' e
    cases h
    exact h2 F0 H0 F H σ ρ _ _ R e fun F' H' R' s => p σ F' H' R' s
  · cases h
def wRaise (c : Addr) : MW := fun ρ => some (.ex c ρ)
theorem vs_raise {x m : Str} {j : Nat} {p p2 pos pos2 : Pos} {C : Addr} {bmB : List Value} {B newId initId : String} (c : Cok X E k) (Fb : ExcBaseFacts B newId initId bmB) (q : PySem.W.excIn X.K C bmB newId = true) (gC : X.mg x = some (.ref C)) (kC : PySem.W.keepIn X.K (.ref C) = true)
    (h1 : PySem.W.subIn X.K (.ref C) (.type "BaseException") = some true) (h2 : PySem.W.typeIn X.K (.ref C) = some (.type "type")) (hg : Gl X x := by rfl)
    (hdb : (x == ("__debug__" : Str)) = false := by decide) : VS X E (.Raise (some (.Call (.Name x p) [.Constant (.str m) j p2] [] pos)) none pos2) (wRaise C) :=
  ⟨_, ps_raise c.calm c.tk (pmk_own Fb q gC kC (raises_own h1 h2) hg hdb), fun F0 H0 F H σ ρ r D R h p => by cases h; exact p σ F H R (Same.refl _)⟩
/-! ### loops -/
def forW (i : Nat) (b : MW) : List PD → MW
  | [], ρ => some (.nx ρ)
  | x :: xs, ρ => match b (ρ.set i (.d x)) with
    | some (.nx ρ') => forW i b xs ρ'
    | some (.ct ρ') => forW i b xs ρ'
    | some (.bk ρ') => some (.nx ρ')
    | r => r
def wFor (i : Nat) (mi : M (List PD)) (b : MW) : MW := fun ρ => match mi ρ with
  | some (.ok xs) => forW i b xs ρ
  | some (.ex c) => some (.ex c ρ)
  | none => none
theorem vs_for {i : Nat} {x : Str} {pos pos' : Pos} {iter : Expr} {body : List Stmt} {mi : M (List PD)} {mb' : MW} (c : Cok X E k) (hp : PassesOwn (model X.prog X.w) X.A X.env X.xe) (hi : DI X E (.Name x pos') iter mi) (hb : VSs X E body mb')
    (hx : X.N[i]? = some x := by rfl) (hl : Loc X.env.scope x := by first | exact Or.inl rfl | exact Or.inr rfl) (hf : X.fn x = true ∨ X.env.scope.names.lookup x = some .local := by first | exact .inl rfl | exact .inr rfl | assumption)
    (hs : ∀ x, foldedSetIterable iter X.env x = pure x := by intro _; rfl) : VS X E (.For (.Name x pos') iter body [] pos) (wFor i mi mb') := by
  obtain ⟨ti, h1, h2⟩ := hi
  obtain ⟨tb, h3, h4⟩ := hb
  refine ⟨_, ps_for hp c.calm h1 (pg_name c.nd hx hl hf) h3 hs, fun F0 H0 F H σ ρ r D R h p => ?_⟩
  unfold wFor at h
  split at h
  · rename_i xs e
    refine h2 F0 H0 F H σ ρ _ _ R e fun J vs F1 H1 g d W => ?_
    have p1 := p.later g.f
    refine for_it W (fun n σ' H' => ∃ F' ρ', Rel X.K F0 H0 F' H' σ' ρ' ∧ Same F1 F' ∧ forW i mb' (xs.drop n) ρ' = some r) ⟨F1, ρ, R.grow g, Same.refl _, h⟩ (fun n σ' H' _ ⟨F', ρ', R', q, _⟩ => q.trans R'.fh) ?_ ?_
    · rintro n v σ' H' H'' hn ⟨F', ρ', R', q, hr⟩ ⟨rfl, ev⟩
      obtain ⟨y, ey, dy⟩ := d.get ev
      rw [drop_get ey] at hr
      unfold forW at hr
      have R2 := R'.setD (i := i) (dy.mono q)
      show tb _ _ _
      split at hr
      · rename_i ρ2 e2
        exact h4 F0 H0 F' H'' _ _ _ _ R2 e2 fun σ3 F3 H3 R3 q3 => ⟨F3, ρ2, R3, q.trans q3, hr⟩
      · rename_i ρ2 e2
        exact h4 F0 H0 F' H'' _ _ _ _ R2 e2 fun σ3 F3 H3 R3 q3 => ⟨F3, ρ2, R3, q.trans q3, hr⟩
      · rename_i ρ2 e2
        cases hr
        exact h4 F0 H0 F' H'' _ _ _ _ R2 e2 fun σ3 F3 H3 R3 q3 => p1 σ3 F3 H3 R3 (q.trans q3)
      · rename_i n1 n2 n3
        refine h4 F0 H0 F' H'' _ _ r _ R2 hr ?_
        have p2 := p1.later q
        cases r with
        | nx ρ2 => exact absurd hr (n1 ρ2)
        | bk ρ2 => exact absurd hr (n3 ρ2)
        | ct ρ2 => exact absurd hr (n2 ρ2)
        | rt z ρ2 => exact p2
        | ex c ρ2 => exact p2
    · rintro σ' H' ⟨F', ρ', R', q, hr⟩
      rw [List.drop_eq_nil_of_le (by rw [d.len]; exact Nat.le_refl _)] at hr
      cases hr
      exact p1 σ' F' H' R' q
  · rename_i c e
    cases h
    exact h2 F0 H0 F H σ ρ _ _ R e fun F' H' g => p σ F' H' (R.grow g) g.f
  · cases h
/-! ### expressions -/
def vB (m : MV PD) : MV Bool := fun ρ => match m ρ with
  | some (.ok (.bool b), ρ') => some (.ok b, ρ')
  | some (.ex c, ρ') => some (.ex c, ρ')
  | _ => none
theorem vt_val {e : Expr} {m : MV PD} (h : VE X E e m) (he : ∀ whole, isTrue e X.env whole = (do let v ← whole; standAt e.pos; holding [v] (truthy v)) := by intro _; rfl) : VT X E e (vB m) := by
  obtain ⟨t, ht, hs⟩ := h
  refine ⟨_, pt_val ht he, fun F0 H0 F H σ ρ r Q R h p => ?_⟩
  unfold vB at h
  split at h
  · rename_i b ρ' e
    cases h
    refine hs F0 H0 F H σ ρ _ _ R e fun v F' H' R' s d => ?_
    cases d
    exact ⟨_, rfl, p F' H' R' s⟩
  · rename_i c ρ' e
    cases h
    exact hs F0 H0 F H σ ρ _ _ R e fun F' H' R' s => p F' H' R' s
  · cases h
/-- a test that changes nothing -/
def vT (m : M Bool) : MV Bool := fun ρ => (m ρ).map fun r => (r, ρ)
theorem vt_pure {e : Expr} {m : M Bool} (h : DT X E e m) : VT X E e (vT m) := by
  obtain ⟨t, ht, hs⟩ := h
  refine ⟨t, ht, fun F0 H0 F H σ ρ r Q R h p => ?_⟩
  unfold vT at h
  obtain ⟨q, eq, rfl⟩ := Option.map_eq_some_iff.mp h
  refine hs F0 H0 F H σ ρ _ _ R eq ?_
  cases q with
  | ok b => exact fun F' H' g => p F' H' (R.grow g) g.f
  | ex c => exact fun F' H' g => p F' H' (R.grow g) g.f
def vE (m : M PD) : MV PD := fun ρ => (m ρ).map fun r => (r, ρ)
theorem ve_pure {e : Expr} {m : M PD} (h : DE X E e m) : VE X E e (vE m) := by
  obtain ⟨t, ht, hs⟩ := h
  refine ⟨t, ht, fun F0 H0 F H σ ρ r Q R h p => ?_⟩
  unfold vE at h
  obtain ⟨q, eq, rfl⟩ := Option.map_eq_some_iff.mp h
  refine hs F0 H0 F H σ ρ _ _ R eq ?_
  cases q with
  | ok b => exact fun v F' H' g d => p v F' H' (R.grow g) g.f d
  | ex c => exact fun F' H' g => p F' H' (R.grow g) g.f
def vNot (m : MV Bool) : MV Bool := fun ρ => match m ρ with
  | some (.ok b, ρ') => some (.ok (!b), ρ')
  | r => r
theorem vt_not {a : Expr} {ma : MV Bool} {pos : Pos} (ha : VT X E a ma) : VT X E (.UnaryOp .Not a pos) (vNot ma) := by
  obtain ⟨ta, h1, h2⟩ := ha
  refine ⟨_, pt_not h1, fun F0 H0 F H σ ρ q Q R h p => ?_⟩
  unfold vNot at h
  split at h
  · rename_i b ρ' e
    cases h
    exact h2 F0 H0 F H σ ρ _ _ R e fun F' H' R' s => p F' H' R' s
  · rename_i hn
    obtain ⟨q, ρ'⟩ := q
    cases q with
    | ok b => exact absurd h (hn b ρ')
    | ex c => exact h2 F0 H0 F H σ ρ _ _ R h fun F' H' R' s => p F' H' R' s
/-- a compared with b; a changes something -/
def v2 (f : PD → PD → Option PD) (a : MV PD) (b : M PD) : MV PD := fun ρ => match a ρ with
  | some (.ok x, ρ') => (match b ρ' with
    | some (.ok y) => (f x y).map fun z => (.ok z, ρ')
    | some (.ex c) => some (.ex c, ρ')
    | none => none)
  | some (.ex c, ρ') => some (.ex c, ρ')
  | none => none
theorem v2_sound {K : PySem.W.Frag} {ta tb : TE} {r : R2} {f : PD → PD → Option PD} {a : MV PD} {b : M PD} {F0 H0 F H : Hp} {σ : St} {ρ : List Sl} {q : Ro PD × List Sl} {Q : VK}
    (ha : ∀ F0 H0 F H σ ρ r Q, Rel K F0 H0 F H σ ρ → a ρ = some r → PoV K F0 H0 F σ Q E r → ta σ H Q) (hb : ∀ F0 H0 F H σ ρ r Q, Rel K F0 H0 F H σ ρ → b ρ = some r → PoE K F H Q E r → tb σ H Q) (hr : Snd2 K r f)
    (R : Rel K F0 H0 F H σ ρ) (h : v2 f a b ρ = some q) (p : PoV K F0 H0 F σ Q E q) : ta σ H fun x H1 => tb σ H1 fun y H2 => r x y H2 Q := by
  unfold v2 at h
  split at h
  · rename_i x ρ' e1
    refine ha F0 H0 F H σ ρ _ _ R e1 fun v F' H' R' s d => ?_
    split at h
    · rename_i y e3
      obtain ⟨z, ez, rfl⟩ := Option.map_eq_some_iff.mp h
      refine hb F0 H0 F' H' σ ρ' _ _ R' e3 fun w F2 H2 g2 d2 => ?_
      exact hr F2 H2 v w x y z Q g2.fh (d.mono g2.f) d2 ez fun u F3 H3 g3 d3 => p u F3 H3 (R'.grow (g2.trans g3)) (s.trans (g2.trans g3).f) d3
    · rename_i c e3
      cases h
      exact hb F0 H0 F' H' σ ρ' _ _ R' e3 fun F2 H2 g2 => p F2 H2 (R'.grow g2) (s.trans g2.f)
    · cases h
  · rename_i c ρ' e1
    cases h
    exact ha F0 H0 F H σ ρ _ _ R e1 fun F' H' R' s => p F' H' R' s
  · cases h
theorem ve_cmp {op : CmpOp} {r : R2} {f : PD → PD → Option PD} {a b : Expr} {ma : MV PD} {mb' : M PD} {pos : Pos} (ho : OpR X (compareOp op) r) (hr : Snd2 X.K r f) (ha : VE X E a ma) (hb : DE X E b mb') (hm : behindInMarks op b = false := by first | exact nomark _ | rfl) : VE X E (.Compare a [op] [b] pos) (v2 f ma mb') := by
  obtain ⟨ta, h1, h2⟩ := ha
  obtain ⟨tb, h3, h4⟩ := hb
  exact ⟨_, pe_cmpR ho h1 h3 hm, fun F0 H0 F H σ ρ q Q R h p => v2_sound h2 h4 hr R h p⟩
theorem vt_cmp {op : CmpOp} {r : R2} {f : PD → PD → Option PD} {a b : Expr} {ma : MV PD} {mb' : M PD} {pos : Pos} (ho : OpR X (compareOp op) r) (hr : Snd2 X.K r f) (ha : VE X E a ma) (hb : DE X E b mb') (hm : behindInMarks op b = false := by first | exact nomark _ | rfl) : VT X E (.Compare a [op] [b] pos) (vB (v2 f ma mb')) := by
  obtain ⟨ta, h1, h2⟩ := ha
  obtain ⟨tb, h3, h4⟩ := hb
  refine ⟨_, pt_cmpR ho h1 h3 hm, fun F0 H0 F H σ ρ q Q R h p => ?_⟩
  unfold vB at h
  split at h
  · rename_i b ρ' e
    cases h
    refine v2_sound h2 h4 hr R e fun v F' H' R' s d => ?_
    cases d
    exact ⟨_, rfl, p F' H' R' s⟩
  · rename_i c ρ' e
    cases h
    exact v2_sound h2 h4 hr R e fun F' H' R' s => p F' H' R' s
  · cases h
theorem vt_eq (c : Cok X E k) {a b : Expr} {ma : MV PD} {mb' : M PD} {pos : Pos} (ha : VE X E a ma) (hb : DE X E b mb') : VT X E (.Compare a [.Eq] [b] pos) (vB (v2 fEq ma mb')) := vt_cmp (op_eqD c.hr.units) snd_eq ha hb
theorem vt_ne (c : Cok X E k) {a b : Expr} {ma : MV PD} {mb' : M PD} {pos : Pos} (ha : VE X E a ma) (hb : DE X E b mb') : VT X E (.Compare a [.NotEq] [b] pos) (vB (v2 fNe ma mb')) := vt_cmp (op_neD c.hr.units) snd_ne ha hb
theorem ve_eq (c : Cok X E k) {a b : Expr} {ma : MV PD} {mb' : M PD} {pos : Pos} (ha : VE X E a ma) (hb : DE X E b mb') : VE X E (.Compare a [.Eq] [b] pos) (v2 fEq ma mb') := ve_cmp (op_eqD c.hr.units) snd_eq ha hb
theorem ve_ne (c : Cok X E k) {a b : Expr} {ma : MV PD} {mb' : M PD} {pos : Pos} (ha : VE X E a ma) (hb : DE X E b mb') : VE X E (.Compare a [.NotEq] [b] pos) (v2 fNe ma mb') := ve_cmp (op_neD c.hr.units) snd_ne ha hb
def vAnd (a b : MV Bool) : MV Bool := fun ρ => match a ρ with
  | some (.ok k, ρ') => if k = true then b ρ' else some (.ok false, ρ')
  | r => r
def vOr (a b : MV Bool) : MV Bool := fun ρ => match a ρ with
  | some (.ok k, ρ') => if k = true then some (.ok true, ρ') else b ρ'
  | r => r
theorem vw_and1 {a : Expr} {ma : MV Bool} {pos : Pos} (ha : VT X E a ma) : VW X E (.BoolOp .And [a] pos) ma := by
  obtain ⟨ta, h1, h2⟩ := ha
  exact ⟨_, pw_and1 h1, h2⟩
theorem vw_or1 {a : Expr} {ma : MV Bool} {pos : Pos} (ha : VT X E a ma) : VW X E (.BoolOp .Or [a] pos) ma := by
  obtain ⟨ta, h1, h2⟩ := ha
  exact ⟨_, pw_or1 h1, h2⟩
theorem vw_and {a b : Expr} {rest : List Expr} {ma mb' : MV Bool} {pos : Pos} (ha : VT X E a ma) (hb : VW X E (.BoolOp .And (b :: rest) pos) mb') : VW X E (.BoolOp .And (a :: b :: rest) pos) (vAnd ma mb') := by
  obtain ⟨ta, h1, h2⟩ := ha
  obtain ⟨tb, h3, h4⟩ := hb
  refine ⟨_, pw_and h1 h3, fun F0 H0 F H σ ρ q Q R h p => ?_⟩
  unfold vAnd at h
  split at h
  · rename_i x ρ' e
    refine h2 F0 H0 F H σ ρ _ _ R e fun F' H' R' s => ?_
    cases x with
    | true => rw [if_pos rfl] at h ⊢; exact h4 F0 H0 F' H' σ ρ' _ _ R' h (p.later s)
    | false => rw [if_neg (by decide)] at h ⊢; cases h; exact p F' H' R' s
  · rename_i hn
    obtain ⟨q, ρ'⟩ := q
    cases q with
    | ok b => exact absurd h (hn b ρ')
    | ex c => exact h2 F0 H0 F H σ ρ _ _ R h fun F' H' R' s => p F' H' R' s
theorem vw_or {a b : Expr} {rest : List Expr} {ma mb' : MV Bool} {pos : Pos} (ha : VT X E a ma) (hb : VW X E (.BoolOp .Or (b :: rest) pos) mb') : VW X E (.BoolOp .Or (a :: b :: rest) pos) (vOr ma mb') := by
  obtain ⟨ta, h1, h2⟩ := ha
  obtain ⟨tb, h3, h4⟩ := hb
  refine ⟨_, pw_or h1 h3, fun F0 H0 F H σ ρ q Q R h p => ?_⟩
  unfold vOr at h
  split at h
  · rename_i x ρ' e
    refine h2 F0 H0 F H σ ρ _ _ R e fun F' H' R' s => ?_
    cases x with
    | true => rw [if_pos rfl] at h ⊢; cases h; exact p F' H' R' s
    | false => rw [if_neg (by decide)] at h ⊢; exact h4 F0 H0 F' H' σ ρ' _ _ R' h (p.later s)
  · rename_i hn
    obtain ⟨q, ρ'⟩ := q
    cases q with
    | ok b => exact absurd h (hn b ρ')
    | ex c => exact h2 F0 H0 F H σ ρ _ _ R h fun F' H' R' s => p F' H' R' s
theorem VW.t {e : Expr} {m : MV Bool} (h : VW X E e m) : VT X E e m := by
  obtain ⟨t, h1, h2⟩ := h
  exact ⟨t, h1.pt, h2⟩
/-- a and b as values, both bools -/
def vAndV (a b : MV PD) : MV PD := fun ρ => match a ρ with
  | some (.ok (.bool k), ρ') => if k = true then b ρ' else some (.ok (.bool false), ρ')
  | some (.ex c, ρ') => some (.ex c, ρ')
  | _ => none
theorem ve_one {a : Expr} {op : BoolOp} {ma : MV PD} {pos : Pos} (ha : VE X E a ma) : VE X E (.BoolOp op [a] pos) ma := by
  obtain ⟨ta, h1, h2⟩ := ha
  exact ⟨_, pe_one h1, h2⟩
theorem ve_and {a b : Expr} {rest : List Expr} {ma mb' : MV PD} {pos : Pos} (ha : VE X E a ma) (hb : VE X E (.BoolOp .And (b :: rest) pos) mb') : VE X E (.BoolOp .And (a :: b :: rest) pos) (vAndV ma mb') := by
  obtain ⟨ta, h1, h2⟩ := ha
  obtain ⟨tb, h3, h4⟩ := hb
  refine ⟨_, pe_and h1 h3, fun F0 H0 F H σ ρ q Q R h p => ?_⟩
  unfold vAndV at h
  split at h
  · rename_i k ρ' e
    refine h2 F0 H0 F H σ ρ _ _ R e fun v F' H' R' s d => ?_
    cases d
    refine ⟨_, rfl, ?_⟩
    cases k with
    | true => rw [if_pos rfl] at h ⊢; exact h4 F0 H0 F' H' σ ρ' _ _ R' h (p.later s)
    | false => rw [if_neg (by decide)] at h ⊢; cases h; exact p _ F' H' R' s (.bl false)
  · rename_i c ρ' e
    cases h
    exact h2 F0 H0 F H σ ρ _ _ R e fun F' H' R' s => p F' H' R' s
  · cases h
end
end DL

/-! Objects lent to a def, to a method. -/
namespace DL
open PySem L2
/-! ### one object of a slot is lent -/
def obAt (ρ : List Sl) (i : Nat) : Option Ob := match ρ[i]? with
  | some (.o (.shf m held)) => some (.shf m held)
  | some (.o (.lst xs)) => some (.lst xs)
  | some (.o (.par _ _ o)) => some o
  | _ => none
def obPut (ρ : List Sl) (i : Nat) (o : Ob) : List Sl := match ρ[i]? with
  | some (.o (.par a ft _)) => ρ.set i (.o (.par a ft o))
  | _ => ρ.set i (.o o.ow)
theorem cutH_in {F : Hp} {ft : List Addr} {b : Addr} (h : b ∈ ft) : cutH F ft b = none := if_pos h
theorem cutH_off {F : Hp} {ft : List Addr} {b : Addr} (h : b ∉ ft) : cutH F ft b = F b := if_neg h
section
variable {K : PySem.W.Frag} {F0 H0 F H F' H' : Hp} {σ : St} {ρ : List Sl}
theorem ObAt.ref {v : V} {ft : List Addr} {o : Ob} (x : ObAt K F H v ft o) : ∃ a, v = .ref a ∧ a ∈ ft ∧ ft.Nodup ∧ ∀ b ∈ ft, H b ≠ none := by
  cases o with
  | lst xs =>
    obtain ⟨a, vs, e1, e2, e3, e4⟩ := x
    refine ⟨a, e1, by rw [e2]; simp, by rw [e2]; simp, fun b hb => ?_⟩
    rw [e2] at hb
    have : b = a := by simpa using hb
    rw [this, e3]
    simp
  | shf m held =>
    obtain ⟨C, a, dx, b, xs, e0, e1, e2, e3, e4, e5, e6, e7⟩ := x
    refine ⟨a, e1, by rw [e2]; simp, e3, fun c hc => ?_⟩
    rw [e2] at hc
    simp only [List.mem_cons, List.not_mem_nil, or_false] at hc
    rcases hc with rfl | rfl | rfl
    · rw [e4]; simp
    · rw [e5]; simp
    · rw [e6]; simp
/-- the heaps behind a call that had the objects at ex lent -/
theorem Grow.lent {ex : List Addr} (G : Grow F0 H0 F H) (n : ∀ a ∈ ex, H0 a = none ∧ ∀ xs, H a = some (.tup xs) → Ints xs → False) (g : Grow F (cutH H ex) F' H') : Grow F0 H0 F' H' :=
  ⟨G.f.trans g.f, fun b o q => g.h b o (by rw [cutH_off fun z => by rw [(n b z).1] at q; cases q]; exact G.h b o q), g.fh,
    fun b q => by
      have hb : b ∉ ex := fun z => q (n b z).1
      have : cutH H ex b ≠ none := by rw [cutH_off hb]; exact ne_none_of G.h q
      exact (g.n b this).trans (G.n b q), fun z => g.t fun b xs q i => by
      by_cases hb : b ∈ ex
      · rw [cutH_in hb] at q; cases q
      · rw [cutH_off hb] at q; exact G.t z b xs q i⟩
theorem Rel.lend {i : Nat} {o : Ob} (R : Rel K F0 H0 F H σ ρ) (e : obAt ρ i = some o) : ∃ v ft, σ[i]? = some (some v) ∧ ObAt K F H v ft o ∧ Own H0 F H ft ∧
    ∀ F' H' o', Grow F (cutH H ft) F' H' → ObAt K F' H' v ft o' → (∀ a ∈ ft, F' a = none ∧ H' a ≠ none) → Rel K F0 H0 F' H' σ (obPut ρ i o') := by
  obtain ⟨G, l, t0, ft, h1, h2, h3⟩ := R
  have main : ∀ s, ρ[i]? = some (.o s) → (∀ v fs, OwAt K F H v fs s → ObAt K F H v fs o) → (∀ o' F' H' v fs, OwAt K F H v fs s → ObAt K F' H' v fs o' → ∃ s', obPut ρ i o' = ρ.set i (.o s') ∧ OwAt K F' H' v fs s') →
      ∃ v ft, σ[i]? = some (some v) ∧ ObAt K F H v ft o ∧ Own H0 F H ft ∧ ∀ F' H' o', Grow F (cutH H ft) F' H' → ObAt K F' H' v ft o' → (∀ a ∈ ft, F' a = none ∧ H' a ≠ none) → Rel K F0 H0 F' H' σ (obPut ρ i o') := by
    intro s es k1 k2
    have hl : i < σ.length := by rw [l]; exact (List.getElem?_eq_some_iff.mp es).1
    have hlr : i < ρ.length := (List.getElem?_eq_some_iff.mp es).1
    obtain ⟨v, e1, e2⟩ := h1 i _ _ es (List.getElem?_eq_getElem hl)
    have ev : σ[i]? = some (some v) := by rw [List.getElem?_eq_getElem hl, e1]
    refine ⟨v, ft i, ev, k1 v _ e2, h2 i, fun F' H' o' g new tr => ?_⟩
    obtain ⟨s', es', new'⟩ := k2 o' F' H' v (ft i) e2 new
    rw [es']
    have G' := G.lent (ex := ft i) (fun a ha => ⟨(h2 i a ha).2.1, e2.nofl a ha⟩) g
    have keep : ∀ j, j ≠ i → ∀ a ∈ ft j, H' a = H a ∧ F' a = none := fun j hj a ha => by
      obtain ⟨z1, z2, z3⟩ := h2 j a ha
      have hb : a ∉ ft i := h3 j i hj a ha
      have hc : cutH H (ft i) a = H a := cutH_off hb
      refine ⟨?_, (g.n a (by rw [hc]; exact z3)).trans z1⟩
      cases q : H a with
      | none => exact absurd q z3
      | some u => exact g.h a u (by rw [hc]; exact q)
    refine ⟨G', by simp [l], t0, ft, fun j s o q1 q2 => ?_, fun j a ha => ?_, h3⟩
    · by_cases z : j = i
      · subst z
        rw [List.getElem?_set_self hlr] at q1
        rw [ev] at q2
        cases q1; cases q2
        exact ⟨v, rfl, new'⟩
      · rw [List.getElem?_set_ne (Ne.symm z)] at q1
        exact (h1 j s o q1 q2).mono g.f fun a ha => (keep j z a ha).1
    · by_cases z : j = i
      · subst z
        obtain ⟨t1, t2⟩ := tr a ha
        exact ⟨t1, (h2 j a ha).2.1, t2⟩
      · obtain ⟨z1, z2, z3⟩ := h2 j a ha
        obtain ⟨k3, k4⟩ := keep j z a ha
        exact ⟨k4, z2, by rw [k3]; exact z3⟩
  unfold obAt at e
  split at e
  · rename_i m held es
    cases e
    exact main _ es (fun v fs x => x) fun o' F' H' v fs x y => ⟨o'.ow, by unfold obPut; rw [es], y.ow⟩
  · rename_i xs es
    cases e
    exact main _ es (fun v fs x => x) fun o' F' H' v fs x y => ⟨o'.ow, by unfold obPut; rw [es], y.ow⟩
  · rename_i a fp o2 es
    cases e
    exact main _ es (fun v fs x => x.2.2) fun o' F' H' v fs x y => ⟨.par a fp o', by unfold obPut; rw [es], x.1, x.2.1, y⟩
  · cases e
end
/-! ### a def whose first parameters are objects that it may change -/
abbrev GFW := List Ob → List PD → Option (Ro PD × List Ob)
def PoF (K : PySem.W.Frag) (F H : Hp) (ovs : List V) (fts : List (List Addr)) (Q : VK) (E : XK) : Ro PD × List Ob → Prop
  | (.ok x, os) => ∀ v F' H', Grow F (cutH H fts.flatten) F' H' → ObAll K F' H' ovs fts os → (∀ a ∈ fts.flatten, F' a = none ∧ H' a ≠ none) → Da K F' v x → Q v H'
  | (.ex c, os) => ∀ F' H', Grow F (cutH H fts.flatten) F' H' → ObAll K F' H' ovs fts os → (∀ a ∈ fts.flatten, F' a = none ∧ H' a ≠ none) → E (.ref c) none H'
def spW (K : PySem.W.Frag) (g : GFW) : Sp := fun vs H Q E => ∃ F ovs fts us os ds r, vs = ovs ++ us ∧ ObAll K F H ovs fts os ∧ fts.flatten.Nodup ∧ (∀ a ∈ fts.flatten, F a = none) ∧ (Same F H ∧ TupIn F H) ∧ DaAll K F us ds ∧ g os ds = some r ∧ PoF K F H ovs fts Q E r
def parL : List Addr → List (List Addr) → List Ob → List Sl
  | a :: as, f :: fs, o :: os => .o (.par a f o) :: parL as fs os
  | _, _, _ => []
def unpar : List Addr → List (List Addr) → List Sl → Option (List Ob)
  | [], [], _ => some []
  | a :: as, f :: fs, .o (.par b g o) :: ρ => if a = b ∧ f = g then (unpar as fs ρ).map (o :: ·) else none
  | _, _, _ => none
def finW (as : List Addr) (fs : List (List Addr)) : Option OutW → Option (Ro PD × List Ob)
  | some (.nx ρ) => (unpar as fs ρ).map fun os => (.ok .none, os)
  | some (.rt x ρ) => (unpar as fs ρ).map fun os => (.ok x, os)
  | some (.ex c ρ) => (unpar as fs ρ).map fun os => (.ex c, os)
  | _ => none
open Classical in
/-- what comes out wherever the q objects stand -/
noncomputable def uniA {α : Type} (q : Nat) (f : List Addr → List (List Addr) → Option α) : Option α := if h : ∃ o, ∀ as fs, as.length = q → fs.length = q → f as fs = some o then some h.choose else none
theorem uniA_at {α : Type} {q : Nat} {f : List Addr → List (List Addr) → Option α} {o : α} (h : uniA q f = some o) {as : List Addr} {fs : List (List Addr)} (h1 : as.length = q) (h2 : fs.length = q) : f as fs = some o := by
  unfold uniA at h
  split at h
  · rename_i z
    cases h
    exact z.choose_spec as fs h1 h2
  · cases h
theorem uniA_eq {α : Type} {q : Nat} {f : List Addr → List (List Addr) → Option α} {o : α} (h : ∀ as fs, as.length = q → fs.length = q → f as fs = some o) : uniA q f = some o := by
  unfold uniA
  have z : ∃ o, ∀ as fs, as.length = q → fs.length = q → f as fs = some o := ⟨o, h⟩
  rw [dif_pos z]
  have h1 := z.choose_spec (List.replicate q 0) (List.replicate q []) (by simp) (by simp)
  rw [h _ _ (by simp) (by simp)] at h1
  exact h1.symm
/-- the def's function: q objects, n parameters, l names in all -/
noncomputable def defW (q n l : Nat) (m : MW) (os : List Ob) (ds : List PD) : Option (Ro PD × List Ob) :=
  if os.length = q ∧ q + ds.length = n then uniA q fun as fs => finW as fs (m (parL as fs os ++ (ds.map .d ++ List.replicate (l - n) .no))) else none
section
variable {K : PySem.W.Frag} {F0 H0 F H F' H' : Hp} {σ : St} {ρ : List Sl}
theorem ObAll.refs : ∀ {vs : List V} {fts : List (List Addr)} {os : List Ob}, ObAll K F H vs fts os → ∃ as : List Addr, vs = as.map V.ref
  | _, _, _, .nil => ⟨[], rfl⟩
  | _, _, _, .cons x t => by
    obtain ⟨a, e, _⟩ := x.ref
    obtain ⟨as, e2⟩ := ObAll.refs t
    exact ⟨a :: as, by rw [e, e2]; rfl⟩
theorem ObAll.trk : ∀ {vs : List V} {fts : List (List Addr)} {os : List Ob}, ObAll K F H vs fts os → ∀ a ∈ fts.flatten, H a ≠ none
  | _, _, _, .nil, _, h => by simp at h
  | _, _, _, .cons x t, a, h => by
    rw [List.flatten_cons] at h
    rcases List.mem_append.mp h with q | q
    · obtain ⟨_, _, _, _, z⟩ := x.ref
      exact z a q
    · exact ObAll.trk t a q
theorem parL_len : ∀ {as : List Addr} {fs : List (List Addr)} {os : List Ob}, as.length = os.length → fs.length = os.length → (parL as fs os).length = os.length
  | [], fs, [], _, _ => by cases fs <;> rfl
  | a :: as, f :: fs, o :: os, h1, h2 => by
    show (parL as fs os).length + 1 = _
    rw [parL_len (by simpa using h1) (by simpa using h2)]
    rfl
  | [], _, _ :: _, h, _ => by simp at h
  | _ :: _, _, [], h, _ => by simp at h
  | _ :: _, [], _ :: _, _, h => by simp at h
theorem parL_at : ∀ {as : List Addr} {fs : List (List Addr)} {os : List Ob} {i : Nat} {s : Sl}, (parL as fs os)[i]? = some s → ∃ a f o, as[i]? = some a ∧ fs[i]? = some f ∧ os[i]? = some o ∧ s = .o (.par a f o)
  | a :: as, f :: fs, o :: os, 0, s, h => by
    have : s = .o (.par a f o) := by simpa [parL] using h.symm
    exact ⟨a, f, o, rfl, rfl, rfl, this⟩
  | a :: as, f :: fs, o :: os, i + 1, s, h => by
    have h' : (parL as fs os)[i]? = some s := by simpa [parL] using h
    simpa using parL_at h'
  | [], _, _, _, _, h => by simp [parL] at h
  | _ :: _, [], _, _, _, h => by simp [parL] at h
  | _ :: _, _ :: _, [], _, _, h => by simp [parL] at h
theorem ObAll.at : ∀ {vs : List V} {fts : List (List Addr)} {os : List Ob} {i : Nat} {v : V} {f : List Addr} {o : Ob}, ObAll K F H vs fts os → vs[i]? = some v → fts[i]? = some f → os[i]? = some o → ObAt K F H v f o
  | _, _, _, _, _, _, _, .nil, e, _, _ => by simp at e
  | _, _, _, 0, _, _, _, .cons x _, e1, e2, e3 => by
    simp at e1 e2 e3
    subst e1 e2 e3
    exact x
  | _, _, _, i + 1, _, _, _, .cons _ t, e1, e2, e3 => ObAll.at (i := i) t (by simpa using e1) (by simpa using e2) (by simpa using e3)
theorem flat_apart : ∀ {fts : List (List Addr)} {i j : Nat} {f g : List Addr}, fts.flatten.Nodup → fts[i]? = some f → fts[j]? = some g → i ≠ j → ∀ a ∈ f, a ∉ g
  | [], _, _, _, _, _, e, _, _ => by simp at e
  | x :: xs, 0, 0, _, _, _, _, _, h => absurd rfl h
  | x :: xs, 0, j + 1, f, g, nd, e1, e2, _ => by
    simp at e1 e2
    subst e1
    rw [List.flatten_cons] at nd
    exact fun a ha hg => (List.nodup_append.mp nd).2.2 a ha a (mem_flat e2 hg) rfl
  | x :: xs, i + 1, 0, f, g, nd, e1, e2, _ => by
    simp at e1 e2
    subst e2
    rw [List.flatten_cons] at nd
    exact fun a ha hg => (List.nodup_append.mp nd).2.2 a hg a (mem_flat e1 ha) rfl
  | x :: xs, i + 1, j + 1, f, g, nd, e1, e2, h => by
    rw [List.flatten_cons] at nd
    exact flat_apart (List.nodup_append.mp nd).2.1 (by simpa using e1) (by simpa using e2) (fun z => h (by rw [z]))
theorem Rel.beginsW {fts : List (List Addr)} {us : List V} {os : List Ob} {ds : List PD} {as : List Addr} {N : List Str} (x : ObAll K F H (as.map V.ref) fts os) (nd : fts.flatten.Nodup) (nf : ∀ a ∈ fts.flatten, F a = none) (e : Same F H ∧ TupIn F H) (d : DaAll K F us ds) :
    Rel K F (cutH H fts.flatten) F H (start N (as.map V.ref ++ us)) (parL as fts os ++ (ds.map .d ++ List.replicate (N.length - (os.length + ds.length)) .no)) := by
  have hl := d.len
  obtain ⟨l1, l2⟩ := x.len
  have l1' : as.length = os.length := by simpa using l1
  have lp := parL_len l1' l2
  have trk := x.trk
  have nofl := x.nofl
  have t1 : TupIn F (cutH H fts.flatten) := fun b xs q i => by
    by_cases hb : b ∈ fts.flatten
    · rw [cutH_in hb] at q; cases q
    · rw [cutH_off hb] at q; exact e.2 b xs q i
  have sc : Same F (cutH H fts.flatten) := fun b o q => by
    rw [cutH_off fun z => by rw [nf b z] at q; cases q]
    exact e.1 b o q
  have ch : Same (cutH H fts.flatten) H := fun b o q => by
    by_cases hb : b ∈ fts.flatten
    · rw [cutH_in hb] at q; cases q
    · rw [cutH_off hb] at q; exact q
  refine ⟨⟨Same.refl _, ch, e.1, fun _ _ => rfl, fun _ => e.2⟩, by simp [L2.start, lp, hl, l1'], t1, fun i => (fts[i]?).getD [], fun i s o e1 e2 => ?_, fun i a ha => ?_, fun i j hij a ha hb => ?_⟩
  · unfold L2.start at e2
    by_cases hi : i < os.length
    · rw [List.getElem?_append_left (by rw [lp]; exact hi)] at e1
      obtain ⟨a, f, o', k1, k2, k3, rfl⟩ := parL_at e1
      rw [List.getElem?_append_left (by simp [l1']; omega), List.getElem?_map, List.getElem?_append_left (by simp [l1']; omega), List.getElem?_map, k1] at e2
      cases e2
      have at_ := x.at (by rw [List.getElem?_map, k1]; rfl) k2 k3
      show SlAt K F H (some (V.ref a)) ((fts[i]?).getD []) _
      rw [k2]
      exact ⟨.ref a, rfl, rfl, rfl, at_⟩
    · have hf : (fts[i]?).getD [] = [] := by rw [List.getElem?_eq_none (by omega)]; rfl
      show SlAt K F H o ((fts[i]?).getD []) s
      rw [hf]
      rw [List.getElem?_append_right (by rw [lp]; omega), lp] at e1
      by_cases hj : i - os.length < ds.length
      · rw [List.getElem?_append_left (by simpa using hj), List.getElem?_map] at e1
        obtain ⟨y, ey, rfl⟩ := Option.map_eq_some_iff.mp e1
        rw [List.getElem?_append_left (by simp [l1', hl]; omega), List.getElem?_map, List.getElem?_append_right (by simp [l1']; omega)] at e2
        simp only [List.length_map, l1'] at e2
        obtain ⟨v, ev, rfl⟩ := Option.map_eq_some_iff.mp e2
        obtain ⟨y', ey', dy⟩ := d.get ev
        rw [ey] at ey'
        cases ey'
        exact ⟨rfl, v, rfl, dy⟩
      · rw [List.getElem?_append_right (by simp; omega), List.getElem?_replicate] at e1
        split at e1
        · cases e1; exact rfl
        · cases e1
  · replace ha : a ∈ (fts[i]?).getD [] := ha
    cases hf : fts[i]? with
    | none => rw [hf] at ha; cases ha
    | some f =>
      rw [hf] at ha
      have hm := mem_flat hf ha
      exact ⟨nf a hm, cutH_in hm, trk a hm⟩
  · replace ha : a ∈ (fts[i]?).getD [] := ha
    replace hb : a ∈ (fts[j]?).getD [] := hb
    cases hf : fts[i]? with
    | none => rw [hf] at ha; cases ha
    | some f =>
      cases hg : fts[j]? with
      | none => rw [hg] at hb; cases hb
      | some g =>
        rw [hf] at ha
        rw [hg] at hb
        exact flat_apart nd hf hg hij a ha hb
theorem unpar_at : ∀ {as : List Addr} {fs : List (List Addr)} {ρ : List Sl} {os : List Ob}, unpar as fs ρ = some os → as.length = os.length ∧ fs.length = os.length ∧ ∀ (i : Nat) (a : Addr) (f : List Addr) (o : Ob), as[i]? = some a → fs[i]? = some f → os[i]? = some o → ρ[i]? = some (.o (.par a f o))
  | [], [], ρ, os, h => by
    have : os = [] := by simpa [unpar] using h.symm
    subst this
    exact ⟨rfl, rfl, fun i a f o e => by simp at e⟩
  | a :: as, f :: fs, .o (.par b g o) :: ρ, os, h => by
    unfold unpar at h
    split at h
    · rename_i hc
      obtain ⟨rfl, rfl⟩ := hc
      obtain ⟨os', e, rfl⟩ := Option.map_eq_some_iff.mp h
      obtain ⟨k1, k2, k3⟩ := unpar_at e
      refine ⟨by simp [k1], by simp [k2], fun i a' f' o' e1 e2 e3 => ?_⟩
      cases i with
      | zero =>
        simp at e1 e2 e3
        subst e1 e2 e3
        rfl
      | succ i => simpa using k3 i a' f' o' (by simpa using e1) (by simpa using e2) (by simpa using e3)
    · cases h
  | [], _ :: _, _, _, h => by simp [unpar] at h
  | _ :: _, [], _, _, h => by simp [unpar] at h
  | _ :: _, _ :: _, [], _, h => by simp [unpar] at h
  | _ :: _, _ :: _, .no :: _, _, h => by simp [unpar] at h
  | _ :: _, _ :: _, .d _ :: _, _, h => by simp [unpar] at h
  | _ :: _, _ :: _, .e _ :: _, _, h => by simp [unpar] at h
  | _ :: _, _ :: _, .o (.lst _) :: _, _, h => by simp [unpar] at h
  | _ :: _, _ :: _, .o (.dic _) :: _, _, h => by simp [unpar] at h
  | _ :: _, _ :: _, .o (.fz _) :: _, _, h => by simp [unpar] at h
  | _ :: _, _ :: _, .o (.box _ _) :: _, _, h => by simp [unpar] at h
  | _ :: _, _ :: _, .o (.shf _ _) :: _, _, h => by simp [unpar] at h
  | _ :: _, _ :: _, .o (.arr _ _) :: _, _, h => by simp [unpar] at h
theorem ObAll.of : ∀ {as : List Addr} {fts : List (List Addr)} {os : List Ob}, as.length = os.length → fts.length = os.length → (∀ (i : Nat) (a : Addr) (f : List Addr) (o : Ob), as[i]? = some a → fts[i]? = some f → os[i]? = some o → ObAt K F H (.ref a) f o) → ObAll K F H (as.map V.ref) fts os
  | [], [], [], _, _, _ => .nil
  | a :: as, f :: fts, o :: os, h1, h2, h => .cons (h 0 a f o rfl rfl rfl) (ObAll.of (by simpa using h1) (by simpa using h2) fun i a' f' o' e1 e2 e3 => h (i + 1) a' f' o' (by simpa using e1) (by simpa using e2) (by simpa using e3))
  | [], [], _ :: _, h, _, _ => by simp at h
  | [], _ :: _, [], _, h, _ => by simp at h
  | [], _ :: _, _ :: _, h, _, _ => by simp at h
  | _ :: _, [], [], h, _, _ => by simp at h
  | _ :: _, [], _ :: _, _, h, _ => by simp at h
  | _ :: _, _ :: _, [], h, _, _ => by simp at h
/-- what the def leaves of the objects -/
theorem Rel.back {G0 : Hp} {as : List Addr} {fts : List (List Addr)} {os : List Ob} (R : Rel K F0 G0 F' H' σ ρ) (h : unpar as fts ρ = some os) : ObAll K F' H' (as.map V.ref) fts os ∧ ∀ a ∈ fts.flatten, F' a = none ∧ H' a ≠ none := by
  obtain ⟨k1, k2, k3⟩ := unpar_at h
  obtain ⟨G, l, t0, ft, h1, h2, h3⟩ := R
  have each : ∀ (i : Nat) (a : Addr) (f : List Addr) (o : Ob), as[i]? = some a → fts[i]? = some f → os[i]? = some o → ObAt K F' H' (.ref a) f o ∧ ∀ b ∈ f, F' b = none ∧ H' b ≠ none := by
    intro i a f o e1 e2 e3
    have es := k3 i a f o e1 e2 e3
    have hl : i < σ.length := by rw [l]; exact (List.getElem?_eq_some_iff.mp es).1
    obtain ⟨v, ev, q1, q2, q3⟩ := h1 i _ _ es (List.getElem?_eq_getElem hl)
    subst q1
    rw [q2] at q3
    refine ⟨q3, fun b hb => ?_⟩
    obtain ⟨z1, z2, z3⟩ := h2 i b (by rw [q2]; exact hb)
    exact ⟨z1, z3⟩
  refine ⟨ObAll.of k1 k2 fun i a f o e1 e2 e3 => (each i a f o e1 e2 e3).1, fun b hb => ?_⟩
  obtain ⟨f, hf, hb'⟩ := List.mem_flatten.mp hb
  obtain ⟨i, hi⟩ := List.getElem?_of_mem hf
  have hil : i < fts.length := (List.getElem?_eq_some_iff.mp hi).1
  exact (each i as[i] f os[i] (List.getElem?_eq_getElem (by omega)) hi (List.getElem?_eq_getElem (by omega))).2 b hb'
end
theorem def_fnW {P : Program} {w : World} {K : PySem.W.Frag} {mg : Str → Option Value} {base : Heap} {x qual : Str} {st : Stmt} {f : Addr} {fd : FuncData} {N ps : List Str} {k q n l : Nat} {m : MW} (F : Fun K x qual st f fd) (S : FnScope N ps (defScope st)) (hn : ps.length = n) (hl : N.length = l)
    (hbody : ∀ (cdv : Value) (A : Around) (outer : List Env) (s : Shared) (H : Hp) (E : XK), Cok (cxOf (L2.CX P w) P w K mg base N qual (defScope st) f cdv A outer s H E) E k →
      PassesOwn (model P w) (cxOf (L2.CX P w) P w K mg base N qual (defScope st) f cdv A outer s H E).A (cxOf (L2.CX P w) P w K mg base N qual (defScope st) f cdv A outer s H E).env (cxOf (L2.CX P w) P w K mg base N qual (defScope st) f cdv A outer s H E).xe →
      VSs (cxOf (L2.CX P w) P w K mg base N qual (defScope st) f cdv A outer s H E) E (defBody st) m) :
    FnOk P w K mg base (L2.CX P w) (k + 1) f fd ps (spW K (defW q n l m)) := by
  refine F.okX S (fun vs H Q E h => ?_) (fun cdv A outer s H vs Q E hr h => ?_)
  · obtain ⟨F, ovs, fts, us, os, ds, r, rfl, q1, q2, q3, q4, q5, q6, _⟩ := h
    unfold defW at q6
    split at q6
    · rename_i e
      rw [List.length_append, q1.len.1, q5.len, hn, ← e.2, e.1]
    · cases q6
  · obtain ⟨F1, ovs, fts, us, os, ds, r, rfl, q1, q2, q3, q4, q5, q6, q7⟩ := h
    obtain ⟨t, h1, h2⟩ := hbody cdv A outer s H E ⟨rfl, S.nd, takes_of rfl rfl rfl rfl, hr⟩ (passes_of rfl)
    refine ⟨t, h1, ?_⟩
    unfold defW at q6
    split at q6
    · rename_i e
      obtain ⟨as, rfl⟩ := q1.refs
      have la := q1.len
      have q8 := uniA_at q6 (as := as) (fs := fts) (by rw [← e.1, ← la.1]; simp) (by rw [← e.1, la.2])
      have R := Rel.beginsW (N := N) q1 q2 q3 q4 q5
      rw [e.1, e.2, hl] at R
      unfold finW at q8
      split at q8
      · rename_i ρ' eo
        obtain ⟨os', eu, rfl⟩ := Option.map_eq_some_iff.mp q8
        refine h2 F1 _ F1 H _ _ _ _ R eo fun σ' F' H' R' _ => ?_
        obtain ⟨b1, b2⟩ := R'.back eu
        exact q7 _ F' H' R'.g b1 b2 .non
      · rename_i z ρ' eo
        obtain ⟨os', eu, rfl⟩ := Option.map_eq_some_iff.mp q8
        refine h2 F1 _ F1 H _ _ _ _ R eo fun v σ' F' H' R' _ d => ?_
        obtain ⟨b1, b2⟩ := R'.back eu
        exact q7 v F' H' R'.g b1 b2 d
      · rename_i c ρ' eo
        obtain ⟨os', eu, rfl⟩ := Option.map_eq_some_iff.mp q8
        refine h2 F1 _ F1 H _ _ _ _ R eo fun σ' F' H' R' _ => ?_
        obtain ⟨b1, b2⟩ := R'.back eu
        exact q7 F' H' R'.g b1 b2
      · cases q8
    · cases q6
/-- a def without such parameters, by statements with effects -/
def finV : Option OutW → Option (Ro Rs)
  | some (.nx _) => some (.ok (.d .none))
  | some (.rt x _) => some (.ok (.d x))
  | some (.ex c _) => some (.ex c)
  | _ => none
def defV (n l : Nat) (m : MW) (ds : List PD) : Option (Ro Rs) := if ds.length = n then finV (m (ds.map .d ++ List.replicate (l - n) .no)) else none
theorem def_fnV {P : Program} {w : World} {K : PySem.W.Frag} {mg : Str → Option Value} {base : Heap} {x qual : Str} {st : Stmt} {f : Addr} {fd : FuncData} {N ps : List Str} {k n l : Nat} {m : MW} (F : Fun K x qual st f fd) (S : FnScope N ps (defScope st)) (hn : ps.length = n) (hl : N.length = l)
    (hbody : ∀ (cdv : Value) (A : Around) (outer : List Env) (s : Shared) (H : Hp) (E : XK), Cok (cxOf (L2.CX P w) P w K mg base N qual (defScope st) f cdv A outer s H E) E k →
      PassesOwn (model P w) (cxOf (L2.CX P w) P w K mg base N qual (defScope st) f cdv A outer s H E).A (cxOf (L2.CX P w) P w K mg base N qual (defScope st) f cdv A outer s H E).env (cxOf (L2.CX P w) P w K mg base N qual (defScope st) f cdv A outer s H E).xe →
      VSs (cxOf (L2.CX P w) P w K mg base N qual (defScope st) f cdv A outer s H E) E (defBody st) m) :
    FnOk P w K mg base (L2.CX P w) (k + 1) f fd ps (spD K (defV n l m)) := by
  refine F.okX S (fun vs H Q E h => ?_) (fun cdv A outer s H vs Q E hr h => ?_)
  · obtain ⟨F, ds, r, q1, q2, q3, _⟩ := h
    unfold defV at q3
    split at q3
    · rename_i e; rw [q2.len, e, hn]
    · cases q3
  · obtain ⟨F1, ds, r, q1, q2, q3, q4⟩ := h
    obtain ⟨t, h1, h2⟩ := hbody cdv A outer s H E ⟨rfl, S.nd, takes_of rfl rfl rfl rfl, hr⟩ (passes_of rfl)
    refine ⟨t, h1, ?_⟩
    unfold defV at q3
    split at q3
    · rename_i e
      have R := Rel.begins (N := N) q1 q2
      rw [e, hl] at R
      unfold finV at q3
      split at q3
      · rename_i ρ' eo
        cases q3
        exact h2 F1 H F1 H _ _ _ _ R eo fun σ' F' H' R' _ => q4 _ F' H' R'.g .non
      · rename_i z ρ' eo
        cases q3
        exact h2 F1 H F1 H _ _ _ _ R eo fun v σ' F' H' R' _ d => q4 v F' H' R'.g d
      · rename_i c ρ' eo
        cases q3
        exact h2 F1 H F1 H _ _ _ _ R eo fun σ' F' H' R' _ => q4 F' H' R'.g
      · cases q3
    · cases q3
end DL

/-! Calls that change what is handed in; what a method does to its shelf; a try around such calls. -/
namespace DL
open PySem L2
section
variable {K : PySem.W.Frag} {F0 H0 F H : Hp} {σ : St} {ρ : List Sl}
/-- the object of a slot is changed in place -/
theorem Rel.chg {i : Nat} {o : Ob} (R : Rel K F0 H0 F H σ ρ) (e : obAt ρ i = some o) : ∃ v ft, σ[i]? = some (some v) ∧ ObAt K F H v ft o ∧ Own H0 F H ft ∧ ∀ H' o', (∀ b, b ∉ ft → H' b = H b) → ObAt K F H' v ft o' → Rel K F0 H0 F H' σ (obPut ρ i o') := by
  obtain ⟨v, ft, ev, at_, ow, back⟩ := R.lend e
  refine ⟨v, ft, ev, at_, ow, fun H' o' off new => ?_⟩
  obtain ⟨_, _, _, _, trk⟩ := new.ref
  refine back F H' o' ⟨Same.refl _, fun b u q => ?_, fun b u q => ?_, fun _ _ => rfl, fun z b xs q y => ?_⟩ new fun a ha => ⟨(ow a ha).1, trk a ha⟩
  · by_cases hb : b ∈ ft
    · rw [cutH_in hb] at q; cases q
    · rw [cutH_off hb] at q; rw [off b hb]; exact q
  · have hb : b ∉ ft := fun z => by rw [(ow b z).1] at q; cases q
    rw [off b hb]
    exact R.fh b u q
  · by_cases hb : b ∈ ft
    · exact (new.nofl b hb xs q y).elim
    · rw [off b hb] at q
      exact z b xs (by rw [cutH_off hb]; exact q) y
theorem HeldAt.snoc {b : Addr} {w : List Int} {xs : List V} {held : List (List Int)} (h : HeldAt F xs held) (e : F b = some (.lst (w.map V.int))) : HeldAt F (xs ++ [.ref b]) (held ++ [w]) := Paired.snoc h ⟨b, rfl, e⟩
theorem HeldAt.len {xs : List V} {held : List (List Int)} (h : HeldAt F xs held) : xs.length = held.length := Paired.length h
theorem HeldAt.get {xs : List V} {held : List (List Int)} {i : Nat} {w : List Int} (h : HeldAt F xs held) (e : held[i]? = some w) : ∃ b, xs[i]? = some (.ref b) ∧ F b = some (.lst (w.map V.int)) := by
  have hl := h.len
  have hi : i < xs.length := by rw [hl]; exact (List.getElem?_eq_some_iff.mp e).1
  obtain ⟨b, e1, e2⟩ := paired_get h (List.getElem?_eq_getElem hi) e
  exact ⟨b, by rw [List.getElem?_eq_getElem hi, e1], e2⟩
theorem HeldAt.erase : ∀ {xs : List V} {held : List (List Int)} (i : Nat), HeldAt F xs held → HeldAt F (xs.eraseIdx i) (held.eraseIdx i)
  | _, _, _, .nil => .nil
  | _, _, 0, .cons _ t => t
  | _, _, i + 1, .cons h t => .cons h (HeldAt.erase i t)
end
def MetW (P : Program) (w : World) (K : PySem.W.Frag) (mg : Str → Option Value) (base : Heap) (C : Addr) (m : Str) (k : Nat) (g : GFW) : Prop :=
  ∃ f fd ps, FnOk P w K mg base (L2.CX P w) k f fd ps (spW K g) ∧ Meth K C m f ∧ Binds K fd ps []
def DefOkW (P : Program) (w : World) (K : PySem.W.Frag) (mg : Str → Option Value) (base : Heap) (x : Str) (k : Nat) (g : GFW) : Prop :=
  ∃ f fd ps, FnOk P w K mg base (L2.CX P w) k f fd ps (spW K g) ∧ mg x = some (.ref f) ∧ PySem.W.keepIn K (.ref f) = true ∧ Binds K fd ps []
section
variable {X : Cx} {E : XK} {k : Nat} {C : Addr}
/-- what comes of a call with slot i's object -/
def out1 (ρ : List Sl) (i : Nat) : Option (Ro PD × List Ob) → Option (Ro PD × List Sl)
  | some (r, [o]) => some (r, obPut ρ i o)
  | _ => none
/-- x.m(e, ..) -/
def vMet (g : GFW) (i : Nat) (ma : M (List PD)) : MV PD := fun ρ => match obAt ρ i, ma ρ with
  | some (.shf n held), some (.ok ds) => out1 ρ i (g [.shf n held] ds)
  | _, _ => none
theorem out1_some {ρ : List Sl} {i : Nat} {q : Option (Ro PD × List Ob)} {r : Ro PD × List Sl} (h : out1 ρ i q = some r) : ∃ y o, q = some (y, [o]) ∧ r = (y, obPut ρ i o) := by
  unfold out1 at h
  split at h
  · rename_i y o
    cases h
    exact ⟨y, o, rfl, rfl⟩
  · cases h
theorem lent1 {K : PySem.W.Frag} {F0 H0 F F' H' : Hp} {σ : St} {ρ : List Sl} {i : Nat} {v : V} {ft : List Addr} {y : Ro PD} {o : Ob} {Q : VK} (s : Same F F')
    (back : ∀ F2 H2 o', Grow F' (cutH H' ft) F2 H2 → ObAt K F2 H2 v ft o' → (∀ a ∈ ft, F2 a = none ∧ H2 a ≠ none) → Rel K F0 H0 F2 H2 σ (obPut ρ i o')) (p : PoV K F0 H0 F σ Q E (y, obPut ρ i o)) : PoF K F' H' [v] [ft] Q E (y, [o]) := by
  have fl : [ft].flatten = ft := by simp
  cases y with
  | ok x =>
    intro u F2 H2 G all tr d
    rw [fl] at G tr
    cases all with
    | cons b1 b2 => exact p u F2 H2 (back F2 H2 o G b1 tr) (s.trans G.f) d
  | ex c =>
    intro F2 H2 G all tr
    rw [fl] at G tr
    cases all with
    | cons b1 b2 => exact p F2 H2 (back F2 H2 o G b1 tr) (s.trans G.f)
theorem ve_met (i : Nat) {x m : Str} {px apos pos : Pos} {e : Expr} {es : List Expr} {j : Nat} {g : GFW} {ma : M (List PD)} {pl : Sem Bool} (c : Cok X E k) (T : ShT X.K X.mg C) (F : MetW X.prog X.w X.K X.mg X.base C m j g) (hj : j ≤ k) (ha : DA X E (e :: es) ma)
    (h1 : (m == ("many" : Str)) = false := by decide +kernel) (h2 : (m == ("held" : Str)) = false := by decide +kernel)
    (hN : X.N[i]? = some x := by rfl) (hv : Vis X.env.scope x := by first | exact Or.inl rfl | exact Or.inr (Or.inl rfl) | exact Or.inr (Or.inr rfl)) (hd : (x == ("__debug__" : Str)) = false := by decide) (hcd : (x == ("__classdict__" : Str)) = false := by decide)
    (hst : starEach (e :: es) X.env = (false, eval e X.env) :: starEach es X.env := by rfl) (hpl : (backTo pos (starEach es X.env)).any (·.1) = false := by rfl)
    (ht : eval (.Call (.Attribute (.Name x px) m apos) (e :: es) [] pos) X.env = (do
      let ov ← eval (.Name x px) X.env
      standAt apos.atName
      let (f, first) ← holding [ov] (getMethod ov m pl)
      callWith pos f first (backTo pos (starEach (e :: es) X.env)) (backToKw pos (keywordEach [] X.env))) := by rfl) :
    VE X E (.Call (.Attribute (.Name x px) m apos) (e :: es) [] pos) (vMet g i ma) := by
  obtain ⟨t, k1, k2⟩ := ha
  obtain ⟨f, fd, ps, F, hm, hb⟩ := F
  refine ⟨_, pe_meth (pv i hN hv hd hcd) T.cl hm F (c.hr.mono hj) hb .nil (passes_call c.tk fun _ _ _ _ h => h) k1 hst hpl ht, fun F0 H0 F H σ ρ r Q R h p => ?_⟩
  unfold vMet at h
  split at h
  · rename_i n held ds eo ed
    obtain ⟨y, o, eg, rfl⟩ := out1_some h
    obtain ⟨v, ft, ev, ⟨D, a, dx, b, xs, q0, rfl, rfl, nd, q1, q2, q3, q4⟩, ow, _⟩ := R.lend eo
    cases T.s.uniq q0
    refine ⟨.ref a, ev, a, dx, _, rfl, q1, shf_no h1 h2, k2 F0 H0 F H σ ρ _ _ R ed fun vs F' H' g' d => ?_⟩
    have R' := R.grow g'
    obtain ⟨v2, ft2, ev2, at2, ow2, back⟩ := R'.lend eo
    rw [ev] at ev2
    cases ev2
    obtain ⟨_, _, _, nd2, _⟩ := at2.ref
    have fl : [ft2].flatten = ft2 := by simp
    show spW X.K _ (.ref a :: (vs ++ [])) H' Q E
    rw [List.append_nil]
    exact ⟨F', [.ref a], [ft2], vs, [.shf n held], ds, _, rfl, .cons at2 .nil, by rw [fl]; exact nd2, fun b hb => (ow2 b (by rwa [fl] at hb)).1, ⟨g'.fh, R'.ti⟩, d, eg, lent1 g'.f back p⟩
  · cases h
/-- f(x, e, ..) -/
def vCallW (g : GFW) (i : Nat) (ma : M (List PD)) : MV PD := fun ρ => match obAt ρ i, ma ρ with
  | some o, some (.ok ds) => out1 ρ i (g [o] ds)
  | _, _ => none
theorem ve_callW (i : Nat) {x f : Str} {px pf pos : Pos} {es : List Expr} {j : Nat} {g : GFW} {ma : M (List PD)} (c : Cok X E k) (F : DefOkW X.prog X.w X.K X.mg X.base f j g) (hj : j ≤ k) (ha : DA X E es ma)
    (hg : Gl X f := by rfl) (hdb : (f == ("__debug__" : Str)) = false := by decide)
    (hN : X.N[i]? = some x := by rfl) (hv : Vis X.env.scope x := by first | exact Or.inl rfl | exact Or.inr (Or.inl rfl) | exact Or.inr (Or.inr rfl)) (hd : (x == ("__debug__" : Str)) = false := by decide) (hcd : (x == ("__classdict__" : Str)) = false := by decide)
    (hst : starEach (.Name x px :: es) X.env = (false, eval (.Name x px) X.env) :: starEach es X.env := by rfl) (hpl : (backTo pos (starEach es X.env)).any (·.1) = false := by rfl) :
    VE X E (.Call (.Name f pf) (.Name x px :: es) [] pos) (vCallW g i ma) := by
  obtain ⟨t, k1, k2⟩ := ha
  obtain ⟨fa, fd, ps, F, hm, hk, hb⟩ := F
  refine ⟨_, pe_call F (c.hr.mono hj) hg hm hk hb .nil (passes_call c.tk fun _ _ _ _ h => h) (pa_cons (pv i hN hv hd hcd) k1 hst) hdb hst hpl, fun F0 H0 F H σ ρ r Q R h p => ?_⟩
  unfold vCallW at h
  split at h
  · rename_i o1 ds eo ed
    obtain ⟨y, o, eg, rfl⟩ := out1_some h
    obtain ⟨v, ft, ev, at1, ow, _⟩ := R.lend eo
    refine ⟨v, ev, k2 F0 H0 F H σ ρ _ _ R ed fun vs F' H' g' d => ?_⟩
    have R' := R.grow g'
    obtain ⟨v2, ft2, ev2, at2, ow2, back⟩ := R'.lend eo
    rw [ev] at ev2
    cases ev2
    obtain ⟨_, _, _, nd2, _⟩ := at2.ref
    have fl : [ft2].flatten = ft2 := by simp
    show spW X.K _ ((v :: vs) ++ []) H' Q E
    rw [List.append_nil]
    exact ⟨F', [v], [ft2], vs, [o1], ds, _, rfl, .cons at2 .nil, by rw [fl]; exact nd2, fun b hb => (ow2 b (by rwa [fl] at hb)).1, ⟨g'.fh, R'.ti⟩, d, eg, lent1 g'.f back p⟩
  · cases h
/-! ### self.held.append(e), self.held.pop(n) -/
def wHApp (i : Nat) (m : M PD) : MW := fun ρ => match obAt ρ i, m ρ with
  | some (.shf n held), some (.ok (.list zs)) => (asInts zs).bind fun w => if held.length < big then some (.nx (obPut ρ i (.shf n (held ++ [w])))) else none
  | some (.shf _ _), some (.ex c) => some (.ex c ρ)
  | _, _ => none
theorem vs_happ (i : Nat) {x : Str} {px p1 pa pc pos : Pos} {e : Expr} {m : M PD} (T : ShT X.K X.mg C) (he : DE X E e m) (hN : X.N[i]? = some x := by rfl) (hv : Vis X.env.scope x := by first | exact Or.inl rfl | exact Or.inr (Or.inl rfl) | exact Or.inr (Or.inr rfl)) (hd : (x == ("__debug__" : Str)) = false := by decide)
    (hcd : (x == ("__classdict__" : Str)) = false := by decide)
    (hf : attributeBase (.Name x px) "held" X.env (eval (.Name x px) X.env) = eval (.Name x px) X.env := by rfl)
    (hst : starEach [e] X.env = (false, eval e X.env) :: starEach [] X.env := by rfl)
    (hbase : attributeBase (.Attribute (.Name x px) "held" p1) "append" X.env (eval (.Attribute (.Name x px) "held" p1) X.env) = eval (.Attribute (.Name x px) "held" p1) X.env := by rfl)
    (hfew : ((backTo pc (starEach [e] X.env)).all (fun x => !x.1) && (backToKw pc (keywordEach [] X.env)).all (fun x => x.1.isSome)
      && decide ([e].length + ([] : List Keyword).length + (if ([] : List Keyword).isEmpty then 0 else 1) < 30)) = true := by rfl)
    (hline : (pa.endLine == pc.line) = true := by rfl) (hplain : (backTo pc (starEach ([] : List Expr) X.env)).any (·.1) = false := by rfl)
    (hs : swapsWith (.Call (.Attribute (.Attribute (.Name x px) "held" p1) "append" pa) [e] [] pc) none pos.line X.env = pure false := by rfl) :
    VS X E (.Expr (.Call (.Attribute (.Attribute (.Name x px) "held" p1) "append" pa) [e] [] pc) pos) (wHApp i m) := by
  obtain ⟨t, h1, h2⟩ := he
  refine ⟨_, ps_expr (pe_bm PySem.F.plainAttrs_list PySem.F.slot_list_append PySem.F.type_list_append mt_append (pe_fld (pv i hN hv hd hcd) hf) (pa_cons h1 pa_nil hst) hbase hfew hline hst hplain) hs, fun F0 H0 F H σ ρ r D R h p => ?_⟩
  unfold wHApp at h
  split at h
  · rename_i n held zs eo em
    obtain ⟨w, ew, h⟩ := Option.bind_eq_some_iff.mp h
    split at h
    · rename_i hz
      cases h
      obtain ⟨v, ft, ev, ⟨D1, a, dx, b, xs, q0, rfl, rfl, nd, q1, q2, q3, q4⟩, ow, _⟩ := R.lend eo
      cases T.s.uniq q0
      refine ⟨.ref a, ev, a, _, dx, _, .ref b, rfl, q1, T.cl, T.nh, shf_held, .inl ⟨rfl, _, SqL.of q3⟩, h2 F0 H0 F H σ ρ _ _ R em fun u F' H' g d => ?_⟩
      have R' := R.grow g
      obtain ⟨v2, ft2, ev2, ⟨D2, a2, dx2, b2, xs2, w0, k1, rfl, nd2, w1, w2, w3, w4⟩, ow2, back⟩ := R'.chg eo
      rw [ev] at ev2
      cases ev2
      cases k1
      have e1 := g.h _ _ q1
      rw [w1] at e1
      injection e1 with e1
      injection e1 with eC edx efs
      subst edx
      have eb : b2 = b := by
        injection efs with _ efs
        injection efs with efs _
        injection efs with _ efs
        injection efs
      subst eb
      have e3 := g.h _ _ q3
      rw [w3] at e3
      cases e3
      have ez := asInts_eq ew
      subst ez
      cases d with
      | lst d1 d2 =>
        rename_i c us
        have := DaAll.ints w d2
        subst this
        refine ⟨_, _, .ref c, rfl, rfl, w3, lt_line (by rw [w4.len]; exact hz), ?_⟩
        simp only [List.nodup_cons, List.mem_cons, List.not_mem_nil, or_false, not_or, not_false_eq_true, List.nodup_nil, and_true] at nd2
        obtain ⟨⟨n1, n2⟩, n3⟩ := nd2
        refine p σ F' _ (back _ _ (fun y hy => upd_ne (by simp only [List.mem_cons, List.not_mem_nil, or_false, not_or] at hy; exact hy.2.2)) ⟨_, _, _, _, _, w0, rfl, rfl, ?_, ?_, ?_, upd_same, w4.snoc d1⟩) g.f
        · simp only [List.nodup_cons, List.mem_cons, List.not_mem_nil, or_false, not_or, not_false_eq_true, List.nodup_nil, and_true]
          exact ⟨⟨n1, n2⟩, n3⟩
        · rw [upd_ne n2]; exact w1
        · rw [upd_ne n3]; exact w2
    · cases h
  · rename_i n held c eo em
    cases h
    obtain ⟨v, ft, ev, ⟨D1, a, dx, b, xs, q0, rfl, rfl, nd, q1, q2, q3, q4⟩, ow, _⟩ := R.lend eo
    cases T.s.uniq q0
    exact ⟨.ref a, ev, a, _, dx, _, .ref b, rfl, q1, T.cl, T.nh, shf_held, .inl ⟨rfl, _, SqL.of q3⟩, h2 F0 H0 F H σ ρ _ _ R em fun F' H' g => p σ F' H' (R.grow g) g.f⟩
  · cases h
def vHPop (i : Nat) (m : M PD) : MV PD := fun ρ => match obAt ρ i, m ρ with
  | some (.shf n held), some (.ok (.int z)) => if 0 ≤ z ∧ held.length < big then (held[z.toNat]?).map fun w => (.ok (.list (w.map .int)), obPut ρ i (.shf n (held.eraseIdx z.toNat))) else none
  | _, _ => none
theorem ve_hpop (i : Nat) {x : Str} {px p1 pa pc : Pos} {e : Expr} {m : M PD} (T : ShT X.K X.mg C) (he : DE X E e m) (hN : X.N[i]? = some x := by rfl) (hv : Vis X.env.scope x := by first | exact Or.inl rfl | exact Or.inr (Or.inl rfl) | exact Or.inr (Or.inr rfl)) (hd : (x == ("__debug__" : Str)) = false := by decide)
    (hcd : (x == ("__classdict__" : Str)) = false := by decide)
    (hf : attributeBase (.Name x px) "held" X.env (eval (.Name x px) X.env) = eval (.Name x px) X.env := by rfl)
    (hst : starEach [e] X.env = (false, eval e X.env) :: starEach [] X.env := by rfl)
    (hbase : attributeBase (.Attribute (.Name x px) "held" p1) "pop" X.env (eval (.Attribute (.Name x px) "held" p1) X.env) = eval (.Attribute (.Name x px) "held" p1) X.env := by rfl)
    (hfew : ((backTo pc (starEach [e] X.env)).all (fun x => !x.1) && (backToKw pc (keywordEach [] X.env)).all (fun x => x.1.isSome)
      && decide ([e].length + ([] : List Keyword).length + (if ([] : List Keyword).isEmpty then 0 else 1) < 30)) = true := by rfl)
    (hline : (pa.endLine == pc.line) = true := by rfl) (hplain : (backTo pc (starEach ([] : List Expr) X.env)).any (·.1) = false := by rfl) :
    VE X E (.Call (.Attribute (.Attribute (.Name x px) "held" p1) "pop" pa) [e] [] pc) (vHPop i m) := by
  obtain ⟨t, h1, h2⟩ := he
  refine ⟨_, pe_bm PySem.F.plainAttrs_list PySem.F.slot_list_pop PySem.F.type_list_pop mt_popAt (pe_fld (pv i hN hv hd hcd) hf) (pa_cons h1 pa_nil hst) hbase hfew hline hst hplain, fun F0 H0 F H σ ρ r Q R h p => ?_⟩
  unfold vHPop at h
  split at h
  · rename_i n held z eo em
    split at h
    · rename_i hz
      obtain ⟨w, ew, rfl⟩ := Option.map_eq_some_iff.mp h
      obtain ⟨v, ft, ev, ⟨D1, a, dx, b, xs, q0, rfl, rfl, nd, q1, q2, q3, q4⟩, ow, _⟩ := R.lend eo
      cases T.s.uniq q0
      refine ⟨.ref a, ev, a, _, dx, _, .ref b, rfl, q1, T.cl, T.nh, shf_held, .inl ⟨rfl, _, SqL.of q3⟩, h2 F0 H0 F H σ ρ _ _ R em fun u F' H' g d => ?_⟩
      cases d
      have R' := R.grow g
      obtain ⟨v2, ft2, ev2, ⟨D2, a2, dx2, b2, xs2, w0, k1, rfl, nd2, w1, w2, w3, w4⟩, ow2, back⟩ := R'.chg eo
      rw [ev] at ev2
      cases ev2
      cases k1
      have e1 := g.h _ _ q1
      rw [w1] at e1
      injection e1 with e1
      injection e1 with eC edx efs
      subst edx
      have eb : b2 = b := by
        injection efs with _ efs
        injection efs with efs _
        injection efs with _ efs
        injection efs
      subst eb
      have e3 := g.h _ _ q3
      rw [w3] at e3
      cases e3
      obtain ⟨c, ec, fc⟩ := w4.get ew
      have hlen := w4.len
      have hlt : z.toNat < _ := (List.getElem?_eq_some_iff.mp ec).1
      have hbig : z < 2 ^ 63 := by have := hz.2; unfold big at this; omega
      refine ⟨_, _, z, z.toNat, .ref c, rfl, rfl, w3, by omega, hbig, PySem.StrLaws.seqIndex_nonneg hz.1 (by omega), ec, ?_⟩
      simp only [List.nodup_cons, List.mem_cons, List.not_mem_nil, or_false, not_or, not_false_eq_true, List.nodup_nil, and_true] at nd2
      obtain ⟨⟨n1, n2⟩, n3⟩ := nd2
      refine p _ F' _ (back _ _ (fun y hy => upd_ne (by simp only [List.mem_cons, List.not_mem_nil, or_false, not_or] at hy; exact hy.2.2)) ⟨_, _, _, _, _, w0, rfl, rfl, ?_, ?_, ?_, upd_same, w4.erase _⟩) g.f (.lst fc (DaAll.of_ints _))
      · simp only [List.nodup_cons, List.mem_cons, List.not_mem_nil, or_false, not_or, not_false_eq_true, List.nodup_nil, and_true]
        exact ⟨⟨n1, n2⟩, n3⟩
      · rw [upd_ne n2]; exact w1
      · rw [upd_ne n3]; exact w2
    · cases h
  · cases h
/-! ### try: calls that change what was handed in -/
def PoB (K : PySem.W.Frag) (F0 H0 F : Hp) (σ : St) (D : Ends) (W : WX) : Ro PD × List Sl → Prop
  | (.ok _, ρ) => ∀ F' H', Rel K F0 H0 F' H' σ ρ → Same F F' → D.nx σ H'
  | (.ex c, ρ) => ∀ F' H', Rel K F0 H0 F' H' σ ρ → Same F F' → W (.ref c) none σ H'
structure TB (X : Cx) (body : List Stmt) (m : MV PD) : Prop where
  ex : ∃ tb : WX → TS, (∀ (W : WX) (pn : List (Addr × Obj)) (xe : Value → Shared → Prop), Takes (X.tr pn xe) W → PSs (X.tr pn xe) body (tb W)) ∧
    ∀ F0 H0 F H σ ρ r D W, Rel X.K F0 H0 F H σ ρ → m ρ = some r → PoB X.K F0 H0 F σ D W r → tb W D σ H
theorem pe_methAt {f : Addr} {fd : FuncData} {ps : List Str} {sp : Sp} {W : WX} {m : Str} {apos pos : Pos} {o e : Expr} {es : List Expr} {ta : TE} {t : TA} {j : Nat} {pl : Sem Bool} (he : PE X o ta) (c : Cls X.K C) (hm : Meth X.K C m f) (F : FnOk X.prog X.w X.K X.mg X.base (L2.CX X.prog X.w) j f fd ps sp) (hr : Room j X.A) (hb : Binds X.K fd ps []) (tk : Takes X W) (ha : PA X (e :: es) t)
    (hst : starEach (e :: es) X.env = (false, eval e X.env) :: starEach es X.env) (hpl : (backTo pos (starEach es X.env)).any (·.1) = false)
    (ht : eval (.Call (.Attribute o m apos) (e :: es) [] pos) X.env = (do
      let ov ← eval o X.env
      standAt apos.atName
      let (f, first) ← holding [ov] (getMethod ov m pl)
      callWith pos f first (backTo pos (starEach (e :: es) X.env)) (backToKw pos (keywordEach [] X.env)))) :
    PE X (.Call (.Attribute o m apos) (e :: es) [] pos) (fun σ H Q => ta σ H fun x H1 => ∃ a dx fs, x = .ref a ∧ H1 a = some (.ins C dx fs) ∧ fs.lookup m = none ∧ t σ H1 fun vs H2 => sp (x :: vs) H2 Q (WE W σ)) := by
  refine ⟨fun pins s σ H Q I h => ?_⟩
  refine PySem.W.methodCall_KW (pl := pl) (thn (he.run pins s σ H _ I h) fun u s1 ⟨x, H1, I1, rx, a, dx, fs, ex, ea, l, q⟩ => ?_) ht
  subst ex
  obtain rfl : u = Value.ref a := rx
  refine getmeth_ok I1 ea c hm l ?_
  refine PySem.W.callWith_K (first := [.ref a]) (h₀ := X.base) I.ok.mod.kin hm.kp (thn (ha.run pos pins s1 σ H1 _ I1 q) fun us s2 ⟨vs, H2, I2, r, q2⟩ => ⟨I2.kIn, ?_⟩) hst hpl
  exact run_fnS (us := .ref a :: us) (vs := .ref a :: vs) F hr hb (passAt tk σ) I2 (.cons rfl r) q2
theorem tb_met (i : Nat) {x m : Str} {px apos pos pos2 : Pos} {e : Expr} {es : List Expr} {j : Nat} {g : GFW} {ma : M (List PD)} {pl : Sem Bool} (c : Cok X E k) (T : ShT X.K X.mg C) (F : MetW X.prog X.w X.K X.mg X.base C m j g) (hj : j ≤ k)
    (ha : ∀ (pn : List (Addr × Obj)) (xe : Value → Shared → Prop), Cok (X.tr pn xe) NoE k → DA (X.tr pn xe) NoE (e :: es) ma)
    (h1 : (m == ("many" : Str)) = false := by decide +kernel) (h2 : (m == ("held" : Str)) = false := by decide +kernel)
    (hN : X.N[i]? = some x := by rfl) (hv : Vis X.env.scope x := by first | exact Or.inl rfl | exact Or.inr (Or.inl rfl) | exact Or.inr (Or.inr rfl)) (hd : (x == ("__debug__" : Str)) = false := by decide) (hcd : (x == ("__classdict__" : Str)) = false := by decide)
    (hst : starEach (e :: es) X.env = (false, eval e X.env) :: starEach es X.env := by rfl) (hpl : (backTo pos (starEach es X.env)).any (·.1) = false := by rfl)
    (ht : eval (.Call (.Attribute (.Name x px) m apos) (e :: es) [] pos) X.env = (do
      let ov ← eval (.Name x px) X.env
      standAt apos.atName
      let (f, first) ← holding [ov] (getMethod ov m pl)
      callWith pos f first (backTo pos (starEach (e :: es) X.env)) (backToKw pos (keywordEach [] X.env))) := by rfl)
    (hs : swapsWith (.Call (.Attribute (.Name x px) m apos) (e :: es) [] pos) none pos2.line X.env = pure false := by rfl) :
    TB X [.Expr (.Call (.Attribute (.Name x px) m apos) (e :: es) [] pos) pos2] (vMet g i ma) := by
  obtain ⟨f, fd, ps, F, hm, hb⟩ := F
  refine ⟨_, fun W pn xe tk => pss_one (ps_expr (X := X.tr pn xe) (pe_methAt (X := X.tr pn xe) (W := W) (pv (X := X.tr pn xe) i hN hv hd hcd) T.cl hm F (c.hr.mono hj) hb tk (try_args (ha pn xe ⟨c.calm, c.nd, takes0, c.hr⟩)) hst hpl ht) hs), fun F0 H0 F H σ ρ r D W R h p => ?_⟩
  unfold vMet at h
  split at h
  · rename_i n held ds eo ed
    obtain ⟨y, o, eg, rfl⟩ := out1_some h
    obtain ⟨v, ft, ev, ⟨D1, a, dx, b, xs, q0, rfl, rfl, nd, q1, q2, q3, q4⟩, ow, _⟩ := R.lend eo
    cases T.s.uniq q0
    refine ⟨.ref a, ev, a, dx, _, rfl, q1, shf_no h1 h2, F0, H0, F, ρ, _, R, ed, fun vs F' H' g' d => ?_⟩
    have R' := R.grow g'
    obtain ⟨v2, ft2, ev2, at2, ow2, back⟩ := R'.lend eo
    rw [ev] at ev2
    cases ev2
    obtain ⟨_, _, _, nd2, _⟩ := at2.ref
    have fl : [ft2].flatten = ft2 := by simp
    show spW X.K _ (.ref a :: vs) H' _ _
    refine ⟨F', [.ref a], [ft2], vs, [.shf n held], ds, _, rfl, .cons at2 .nil, by rw [fl]; exact nd2, fun b hb => (ow2 b (by rwa [fl] at hb)).1, ⟨g'.fh, R'.ti⟩, d, eg, lent1 (E := WE W σ) g'.f back ?_⟩
    cases y with
    | ok z => exact fun v F2 H2 R2 s2 _ => p F2 H2 R2 s2
    | ex cc => exact fun F2 H2 R2 s2 => p F2 H2 R2 s2
  · cases h
/-- if test: one body, else: the other -/
def vIfB (mt : M Bool) (a b : MV PD) : MV PD := fun ρ => match mt ρ with
  | some (.ok k) => if k = true then a ρ else b ρ
  | _ => none
theorem tb_if {t : Expr} {p q : List Stmt} {mt : M Bool} {ma mb' : MV PD} {pos : Pos} (c : Cok X E k) (ht : ∀ (pn : List (Addr × Obj)) (xe : Value → Shared → Prop), Cok (X.tr pn xe) NoE k → DT (X.tr pn xe) NoE t mt) (hp : TB X p ma) (hq : TB X q mb') :
    TB X [.If t p q pos] (vIfB mt ma mb') := by
  obtain ⟨ta, a1, a2⟩ := hp
  obtain ⟨tb, b1, b2⟩ := hq
  refine ⟨fun W => tIfS (fun σ H Q => ∃ F0 H0 F ρ r, Rel X.K F0 H0 F H σ ρ ∧ mt ρ = some r ∧ PoT F H Q NoE r) (ta W) (tb W), fun W pn xe tk => ?_, fun F0 H0 F H σ ρ r D W R h po => ?_⟩
  · have htt : PT (X.tr pn xe) t (fun σ H Q => ∃ F0 H0 F ρ r, Rel X.K F0 H0 F H σ ρ ∧ mt ρ = some r ∧ PoT F H Q NoE r) := by
      obtain ⟨tt, q1, q2⟩ := ht pn xe ⟨c.calm, c.nd, takes0, c.hr⟩
      exact ⟨fun pins s σ H Q I ⟨F0, H0, F, ρ, r, R, h, p⟩ => q1.run pins s σ H Q I (q2 F0 H0 F H σ ρ r Q R h p)⟩
    exact pss_one (ps_if htt (a1 W pn xe tk) (b1 W pn xe tk))
  · unfold vIfB at h
    split at h
    · rename_i kk e
      refine ⟨F0, H0, F, ρ, _, R, e, fun F' H' g => ?_⟩
      have po' : PoB X.K F0 H0 F' σ D W r := by
        obtain ⟨y, ρ'⟩ := r
        cases y with
        | ok z => exact fun F2 H2 R2 s2 => po F2 H2 R2 (g.f.trans s2)
        | ex cc => exact fun F2 H2 R2 s2 => po F2 H2 R2 (g.f.trans s2)
      cases kk with
      | true => rw [if_pos rfl] at h; exact a2 F0 H0 F' H' σ ρ r D W (R.grow g) h po'
      | false => rw [if_neg (by decide)] at h; exact b2 F0 H0 F' H' σ ρ r D W (R.grow g) h po'
    · cases h
def toW : Option Out → Option OutW
  | some (.nx ρ) => some (.nx ρ)
  | _ => none
noncomputable def wTry (i : Nat) (b : MV PD) (cs : List Addr) (suite : Addr → Addr → MS) : MW := fun ρ => match b ρ with
  | some (.ok _, ρ') => some (.nx ρ')
  | some (.ex c, ρ') => if c ∈ cs then toW (unif fun a => offE i (suite c a (ρ'.set i (.e a)))) else none
  | none => none
theorem vs_try (i : Nat) {xc n : Str} {Cx : Addr} {cs : List Addr} {suite : Addr → Addr → MS} {b₀ : Stmt} {sts body : List Stmt} {np pos pos' : Pos} {mb' : MV PD} (c : Cok X E k)
    (hstk : X.stack = X.env :: X.outer) (hfr : X.env.frame = some X.env.locals) (hgC : X.mg xc = some (.ref Cx)) (hC : ∀ c ∈ cs, PySem.W.exmOne X.K (.ref c) (.ref Cx) = some true)
    (hB : TB X body mb')
    (hS : ∀ c ∈ cs, ∀ (a : Addr) (oe : Obj) (pn : List (Addr × Obj)), Zc (.ref c) none oe → (∃ vs, oe.data = .fields vs) → DSs (X.suite a ((a, oe) :: pn)) NoE (b₀ :: sts) (suite c a))
    (hi : X.N[i]? = some n := by rfl) (hln : X.env.kindOf n = some .local := by rfl) (hgx : Gl X xc := by rfl) (hdx : (xc == ("__debug__" : Str)) = false := by decide) :
    VS X E (.Try body [.ExceptHandler (some (.Name xc np)) (some n) (b₀ :: sts) pos'] [] [] pos) (wTry i mb' cs suite) := by
  obtain ⟨tb, h1, h2⟩ := hB
  refine ⟨_, ps_try_as (i := i) (Wout := fun _ _ _ _ => False) (ts := tSuite X.K cs suite) hstk hfr c.nd hi hln ⟨hgx, hdx, .inl hgC⟩ takes0
    (fun W pn xe tk _ => h1 W pn xe tk) (fun a oe cls d pn hz hf => try_suite hS a oe cls d pn hz hf), fun F0 H0 F1 H σ ρ r D R h p => ?_⟩
  unfold wTry at h
  split at h
  · rename_i z ρ' e
    cases h
    exact h2 F0 H0 F1 H σ ρ _ D _ R e fun F' H' R' s => p σ F' H' R' s
  · rename_i cc ρ' e
    split at h
    · rename_i hcc
      refine h2 F0 H0 F1 H σ ρ _ D _ R e fun F' H' R' s => ?_
      cases hu : unif (fun a => offE i (suite cc a (ρ'.set i (.e a)))) with
      | none => rw [hu] at h; cases h
      | some o =>
        rw [hu] at h
        unfold toW at h
        split at h
        · rename_i ρ2 eo
          cases eo
          cases h
          exact try_wish (E := NoE) hC hcc R' (.refl R'.fh) hu (fun σ' F2 H2 R2 s2 => p σ' F2 H2 R2 (s.trans s2))
        · cases h
    · cases h
  · cases h
end
end DL

/-! Places of objects: a slot, an item of a list of objects that a slot knows; two objects lent at once. -/
namespace DL
open PySem L2
structure Pl where
  i : Nat
  n : Option Nat
def obAtP (ρ : List Sl) (p : Pl) : Option Ob := match p.n with
  | none => obAt ρ p.i
  | some n => match ρ[p.i]? with
    | some (.o (.arr none os)) => os[n]?
    | _ => none
def obPutP (ρ : List Sl) (p : Pl) (o : Ob) : List Sl := match p.n with
  | none => obPut ρ p.i o
  | some n => match ρ[p.i]? with
    | some (.o (.arr none os)) => ρ.set p.i (.o (.arr none (os.set n o)))
    | _ => ρ
/-- u is the value of what stands at p -/
def PlV (H : Hp) (σ : St) (p : Pl) (u : V) : Prop := match p.n with
  | none => σ[p.i]? = some (some u)
  | some n => ∃ a vs, σ[p.i]? = some (some (.ref a)) ∧ H a = some (.lst vs) ∧ vs[n]? = some u
theorem PlV.mono {H H' : Hp} {σ : St} {p : Pl} {u : V} (h : PlV H σ p u) (e : Same H H') : PlV H' σ p u := by
  unfold PlV at h ⊢
  split at h
  · exact h
  · obtain ⟨a, vs, h1, h2, h3⟩ := h
    exact ⟨a, vs, h1, e _ _ h2, h3⟩
theorem PlV.uniq {H : Hp} {σ : St} {p : Pl} {u u' : V} (h : PlV H σ p u) (h' : PlV H σ p u') : u = u' := by
  obtain ⟨i, n⟩ := p
  cases n with
  | none =>
    have h : σ[i]? = some (some u) := h
    have h' : σ[i]? = some (some u') := h'
    rw [h] at h'
    cases h'
    rfl
  | some n =>
    obtain ⟨a, vs, h1, h2, h3⟩ := h
    obtain ⟨a', vs', h1', h2', h3'⟩ := h'
    rw [h1] at h1'; cases h1'
    rw [h2] at h2'; cases h2'
    rw [h3] at h3'; cases h3'
    rfl
/-- how a place's object stands within what its slot knows -/
def InSlot (H : Hp) (n : Option Nat) (v u : V) (fp : List Addr) : Prop := match n with
  | none => u = v
  | some n => ∃ a vs, v = .ref a ∧ H a = some (.lst vs) ∧ vs[n]? = some u ∧ a ∉ fp
theorem place_at {ρ : List Sl} {p : Pl} {o : Ob} (e : obAtP ρ p = some o) : ∃ s, ρ[p.i]? = some (.o s) ∧ ∀ (K : PySem.W.Frag) (F H : Hp) (v : V) (ft : List Addr), OwAt K F H v ft s → ∃ u fp, InSlot H p.n v u fp ∧ (∀ a ∈ fp, a ∈ ft) ∧ ObAt K F H u fp o ∧
    ∀ F' H' o', Same F F' → (∀ a ∈ ft, a ∉ fp → H' a = H a) → ObAt K F' H' u fp o' → ∃ s', (∀ ρ' : List Sl, ρ'[p.i]? = some (.o s) → obPutP ρ' p o' = ρ'.set p.i (.o s')) ∧ OwAt K F' H' v ft s' := by
  obtain ⟨i, n⟩ := p
  cases n with
  | none =>
    have e' : obAt ρ i = some o := e
    unfold obAt at e'
    have low : ∀ s : Ow, ρ[i]? = some (.o s) → (∀ K F H v ft, OwAt K F H v ft s → ObAt K F H v ft o) → (∀ (o' : Ob) (ρ' : List Sl), ρ'[i]? = some (.o s) → obPut ρ' i o' = ρ'.set i (.o o'.ow)) →
        ∃ s, ρ[i]? = some (.o s) ∧ ∀ (K : PySem.W.Frag) (F H : Hp) (v : V) (ft : List Addr), OwAt K F H v ft s → ∃ u fp, InSlot H none v u fp ∧ (∀ a ∈ fp, a ∈ ft) ∧ ObAt K F H u fp o ∧
          ∀ F' H' o', Same F F' → (∀ a ∈ ft, a ∉ fp → H' a = H a) → ObAt K F' H' u fp o' → ∃ s', (∀ ρ' : List Sl, ρ'[i]? = some (.o s) → obPutP ρ' ⟨i, none⟩ o' = ρ'.set i (.o s')) ∧ OwAt K F' H' v ft s' := fun s es k1 k2 =>
      ⟨s, es, fun K F H v ft x => ⟨v, ft, rfl, fun a h => h, k1 _ _ _ _ _ x, fun F' H' o' _ _ y => ⟨o'.ow, fun ρ' h => k2 o' ρ' h, y.ow⟩⟩⟩
    split at e'
    · rename_i m held es
      cases e'
      exact low _ es (fun K F H v ft x => x) fun o' ρ' h => by unfold obPut; rw [h]
    · rename_i xs es
      cases e'
      exact low _ es (fun K F H v ft x => x) fun o' ρ' h => by unfold obPut; rw [h]
    · rename_i a fp o2 es
      cases e'
      exact ⟨_, es, fun K F H v ft x => ⟨v, ft, rfl, fun a h => h, x.2.2, fun F' H' o' _ _ y => ⟨.par a fp o', fun ρ' h => by show obPut ρ' i o' = _; unfold obPut; rw [h], x.1, x.2.1, y⟩⟩⟩
    · cases e'
  | some n =>
    have e' : (match ρ[i]? with | some (.o (.arr none os)) => os[n]? | _ => none) = some o := e
    split at e'
    · rename_i os es
      refine ⟨_, es, fun K F H v ft x => ?_⟩
      obtain ⟨a, vs, ts, fts, hd, eft, nd, ha, all⟩ := x
      obtain ⟨rfl, rfl⟩ := hd
      rw [List.nil_append] at eft
      subst eft
      obtain ⟨u, fp, e1, e2, at1⟩ := all.get e'
      obtain ⟨d4, d5⟩ := List.nodup_cons.mp nd
      have na : a ∉ fp := fun z => d4 (mem_flat e2 z)
      refine ⟨u, fp, ⟨a, vs, rfl, ha, e1, na⟩, fun b hb => List.mem_cons_of_mem _ (mem_flat e2 hb), at1, fun F' H' o' f off new => ⟨.arr none (os.set n o'), fun ρ' h => ?_, a, vs, [], fts, ⟨rfl, rfl⟩, rfl, nd, ?_, ?_⟩⟩
      · show (match ρ'[i]? with | some (.o (.arr none os)) => ρ'.set i (.o (.arr none (os.set n o'))) | _ => ρ') = _
        rw [h]
      · rw [off a List.mem_cons_self na]; exact ha
      · exact ObAll.put f all e1 e2 d5 (fun b hb nb => off b (List.mem_cons_of_mem _ hb) nb) new
    · cases e'
section
variable {K : PySem.W.Frag} {F0 H0 F H F' H' : Hp} {σ : St} {ρ : List Sl}
/-- all slots at once; what stands at ex is changed behind -/
theorem Rel.open (R : Rel K F0 H0 F H σ ρ) : ∃ ft : Nat → List Addr, (∀ i s, ρ[i]? = some (.o s) → ∃ v, σ[i]? = some (some v) ∧ OwAt K F H v (ft i) s) ∧ (∀ i, Own H0 F H (ft i)) ∧ (∀ i j, i ≠ j → ∀ a ∈ ft i, a ∉ ft j) ∧
    ∀ ex F' H' ρ', ρ'.length = ρ.length → (∀ a ∈ ex, ∃ j, a ∈ ft j) → (∀ a ∈ ex, ∀ xs, H a = some (.tup xs) → Ints xs → False) → Grow F (cutH H ex) F' H' → (∀ a ∈ ex, F' a = none ∧ H' a ≠ none) →
      (∀ (j : Nat) s, ρ'[j]? = some s → (ρ[j]? = some s ∧ ∀ a ∈ ft j, a ∉ ex) ∨ ∃ v s', σ[j]? = some (some v) ∧ s = .o s' ∧ OwAt K F' H' v (ft j) s') → Rel K F0 H0 F' H' σ ρ' := by
  obtain ⟨G, l, t0, ft, h1, h2, h3⟩ := R
  refine ⟨ft, fun i s es => ?_, h2, h3, fun ex F' H' ρ' hl hin hno g tr hs => ?_⟩
  · have hl : i < σ.length := by rw [l]; exact (List.getElem?_eq_some_iff.mp es).1
    obtain ⟨v, e1, e2⟩ := h1 i _ _ es (List.getElem?_eq_getElem hl)
    exact ⟨v, by rw [List.getElem?_eq_getElem hl, e1], e2⟩
  · have G' := G.lent (ex := ex) (fun a ha => ⟨by obtain ⟨j, hj⟩ := hin a ha; exact (h2 j a hj).2.1, hno a ha⟩) g
    have keep : ∀ j, ∀ a ∈ ft j, a ∉ ex → H' a = H a ∧ F' a = none := fun j a ha hb => by
      obtain ⟨z1, z2, z3⟩ := h2 j a ha
      have hc : cutH H ex a = H a := cutH_off hb
      refine ⟨?_, (g.n a (by rw [hc]; exact z3)).trans z1⟩
      cases q : H a with
      | none => exact absurd q z3
      | some u => exact g.h a u (by rw [hc]; exact q)
    refine ⟨G', by rw [l, hl], t0, ft, fun j s o q1 q2 => ?_, fun j a ha => ?_, h3⟩
    · rcases hs j s q1 with ⟨q3, q4⟩ | ⟨v, s', q3, rfl, q4⟩
      · exact (h1 j s o q3 q2).mono g.f fun a ha => (keep j a ha (q4 a ha)).1
      · rw [q3] at q2
        cases q2
        exact ⟨v, rfl, q4⟩
    · by_cases z : a ∈ ex
      · obtain ⟨t1, t2⟩ := tr a z
        exact ⟨t1, (h2 j a ha).2.1, t2⟩
      · obtain ⟨k3, k4⟩ := keep j a ha z
        exact ⟨k4, (h2 j a ha).2.1, by rw [k3]; exact (h2 j a ha).2.2⟩
theorem InSlot.pv {i : Nat} {n : Option Nat} {v u : V} {fp : List Addr} (h : InSlot H n v u fp) (e : σ[i]? = some (some v)) : PlV H σ ⟨i, n⟩ u := by
  cases n with
  | none => have h : u = v := h; rw [h]; exact e
  | some n =>
    obtain ⟨a, vs, rfl, h2, h3, _⟩ := h
    exact ⟨a, vs, e, h2, h3⟩
theorem cut_keep {ex : List Addr} (g : Grow F (cutH H ex) F' H') {a : Addr} (h : a ∉ ex) (t : H a ≠ none) : H' a = H a := by
  cases q : H a with
  | none => exact absurd q t
  | some u => exact g.h a u (by rw [cutH_off h]; exact q)
/-- the object of a place is lent -/
theorem Rel.lendP {p : Pl} {o : Ob} (R : Rel K F0 H0 F H σ ρ) (e : obAtP ρ p = some o) : ∃ u fp, PlV H σ p u ∧ ObAt K F H u fp o ∧ Own H0 F H fp ∧
    (∀ F' H' o', Grow F (cutH H fp) F' H' → ObAt K F' H' u fp o' → (∀ a ∈ fp, F' a = none ∧ H' a ≠ none) → Rel K F0 H0 F' H' σ (obPutP ρ p o')) ∧
    ∀ q oq w, q.i ≠ p.i → obAtP ρ q = some oq → PlV H σ q w → ∃ fq, ObAt K F H w fq oq ∧ (∀ a ∈ fq, a ∉ fp ∧ H a ≠ none) ∧ ∀ H' : Hp, (∀ a, a ∉ fp → H a ≠ none → H' a = H a) → PlV H' σ q w := by
  obtain ⟨ft, h1, h2, h3, h4⟩ := R.open
  obtain ⟨s, es, pl⟩ := place_at e
  obtain ⟨v, ev, ow⟩ := h1 _ _ es
  obtain ⟨u, fp, k1, k2, k3, k4⟩ := pl K F H v (ft p.i) ow
  refine ⟨u, fp, k1.pv ev, k3, fun a ha => h2 p.i a (k2 a ha), fun F' H' o' g new tr => ?_, fun q oq w hq eq pw => ?_⟩
  · obtain ⟨s', put, ow'⟩ := k4 F' H' o' g.f (fun a ha na => cut_keep g na (h2 p.i a ha).2.2) new
    rw [put ρ es]
    refine h4 fp F' H' _ (by simp) (fun a ha => ⟨p.i, k2 a ha⟩) k3.nofl g tr fun j s2 q1 => ?_
    by_cases z : j = p.i
    · subst z
      rw [List.getElem?_set_self (List.getElem?_eq_some_iff.mp es).1] at q1
      cases q1
      exact .inr ⟨v, s', ev, rfl, ow'⟩
    · rw [List.getElem?_set_ne (Ne.symm z)] at q1
      exact .inl ⟨q1, fun a ha hb => h3 j p.i z a ha (k2 a hb)⟩
  · obtain ⟨sq, esq, plq⟩ := place_at eq
    obtain ⟨vq, evq, owq⟩ := h1 _ _ esq
    obtain ⟨u2, fq, w1, w2, w3, w4⟩ := plq K F H vq (ft q.i) owq
    have := pw.uniq (w1.pv evq)
    subst this
    have apart : ∀ a ∈ ft q.i, a ∉ fp := fun a ha hb => h3 q.i p.i hq a ha (k2 a hb)
    refine ⟨fq, w3, fun a ha => ⟨apart a (w2 a ha), (h2 q.i a (w2 a ha)).2.2⟩, fun H' hH => ?_⟩
    obtain ⟨qi, qn⟩ := q
    cases qn with
    | none => exact pw
    | some n =>
      obtain ⟨a, vs, z1, z2, z3⟩ := pw
      refine ⟨a, vs, z1, ?_, z3⟩
      rw [hH a ?_ (by rw [z2]; simp)]
      · exact z2
      · -- the list of objects stands apart
        rw [evq] at z1
        cases z1
        have hs : ∃ os, sq = .arr none os := by
          have e' : (match ρ[qi]? with | some (.o (.arr none os)) => os[n]? | _ => none) = some oq := eq
          split at e'
          · rename_i os eos
            have esq' : ρ[qi]? = some (.o sq) := esq
            rw [eos] at esq'
            cases esq'
            exact ⟨os, rfl⟩
          · cases e'
        obtain ⟨os, rfl⟩ := hs
        obtain ⟨a2, vs2, ts, fts, hd, eft, nd, ha2, all⟩ := owq
        obtain ⟨hd1, hd2⟩ := hd
        cases hd1
        exact apart a (by rw [eft]; exact List.mem_append_right _ List.mem_cons_self)
/-- the objects of two places are lent -/
theorem Rel.lendPQ {p q : Pl} {o1 o2 : Ob} (R : Rel K F0 H0 F H σ ρ) (e1 : obAtP ρ p = some o1) (e2 : obAtP ρ q = some o2) (ne : p.i ≠ q.i) : ∃ u fp w fq, PlV H σ p u ∧ PlV H σ q w ∧ ObAt K F H u fp o1 ∧ ObAt K F H w fq o2 ∧ Own H0 F H (fp ++ fq) ∧ (fp ++ fq).Nodup ∧
    ∀ F' H' o1' o2', Grow F (cutH H (fp ++ fq)) F' H' → ObAt K F' H' u fp o1' → ObAt K F' H' w fq o2' → (∀ a ∈ fp ++ fq, F' a = none ∧ H' a ≠ none) → Rel K F0 H0 F' H' σ (obPutP (obPutP ρ p o1') q o2') := by
  obtain ⟨ft, h1, h2, h3, h4⟩ := R.open
  obtain ⟨s, es, pl⟩ := place_at e1
  obtain ⟨v, ev, ow⟩ := h1 _ _ es
  obtain ⟨u, fp, k1, k2, k3, k4⟩ := pl K F H v (ft p.i) ow
  obtain ⟨sq, esq, plq⟩ := place_at e2
  obtain ⟨vq, evq, owq⟩ := h1 _ _ esq
  obtain ⟨w, fq, w1, w2, w3, w4⟩ := plq K F H vq (ft q.i) owq
  obtain ⟨_, _, _, nd1, _⟩ := k3.ref
  obtain ⟨_, _, _, nd2, _⟩ := w3.ref
  refine ⟨u, fp, w, fq, k1.pv ev, w1.pv evq, k3, w3, fun a ha => ?_, List.nodup_append.mpr ⟨nd1, nd2, fun a ha b hb z => h3 p.i q.i ne a (k2 a ha) (w2 a (z ▸ hb))⟩, fun F' H' o1' o2' g new1 new2 tr => ?_⟩
  · rcases List.mem_append.mp ha with z | z
    · exact h2 p.i a (k2 a z)
    · exact h2 q.i a (w2 a z)
  · obtain ⟨s', put, ow'⟩ := k4 F' H' o1' g.f (fun a ha na => cut_keep g (fun z => (List.mem_append.mp z).elim na fun z => h3 p.i q.i ne a ha (w2 a z)) (h2 p.i a ha).2.2) new1
    obtain ⟨t', putq, owq'⟩ := w4 F' H' o2' g.f (fun a ha na => cut_keep g (fun z => (List.mem_append.mp z).elim (fun z => h3 q.i p.i (Ne.symm ne) a ha (k2 a z)) na) (h2 q.i a ha).2.2) new2
    have esq' : (ρ.set p.i (.o s'))[q.i]? = some (.o sq) := by rw [List.getElem?_set_ne ne]; exact esq
    rw [put ρ es, putq _ esq']
    refine h4 (fp ++ fq) F' H' _ (by simp) (fun a ha => (List.mem_append.mp ha).elim (fun z => ⟨p.i, k2 a z⟩) fun z => ⟨q.i, w2 a z⟩) (fun a ha => (List.mem_append.mp ha).elim (k3.nofl a) (w3.nofl a)) g tr fun j s2 q1 => ?_
    by_cases z : j = q.i
    · subst z
      rw [List.getElem?_set_self (List.getElem?_eq_some_iff.mp esq').1] at q1
      cases q1
      exact .inr ⟨vq, t', evq, rfl, owq'⟩
    · rw [List.getElem?_set_ne (Ne.symm z)] at q1
      by_cases z2 : j = p.i
      · subst z2
        rw [List.getElem?_set_self (List.getElem?_eq_some_iff.mp es).1] at q1
        cases q1
        exact .inr ⟨v, s', ev, rfl, ow'⟩
      · rw [List.getElem?_set_ne (Ne.symm z2)] at q1
        exact .inl ⟨q1, fun a ha hb => (List.mem_append.mp hb).elim (fun y => h3 j p.i z2 a ha (k2 a y)) fun y => h3 j q.i z a ha (w2 a y)⟩
end
end DL

/-! Calls that change what stands at places. -/
namespace DL
open PySem L2
structure LE (X : Cx) (E : XK) (e : Expr) (mp : List Sl → Option Pl) : Prop where
  ex : ∃ t, PE X e t ∧ ∀ F0 H0 F H σ ρ p o Q, Rel X.K F0 H0 F H σ ρ → mp ρ = some p → obAtP ρ p = some o → (∀ u F' H', Grow F H F' H' → PlV H' σ p u → Q u H') → t σ H Q
def plN (i : Nat) : List Sl → Option Pl := fun _ => some ⟨i, none⟩
def plIx (i : Nat) (mn : M PD) : List Sl → Option Pl := fun ρ => match mn ρ with
  | some (.ok (.int n)) => if 0 ≤ n then some ⟨i, some n.toNat⟩ else none
  | _ => none
section
variable {X : Cx} {E : XK} {k : Nat} {C : Addr}
theorem le_name (i : Nat) {x : Str} {px : Pos} (hN : X.N[i]? = some x := by rfl) (hv : Vis X.env.scope x := by first | exact Or.inl rfl | exact Or.inr (Or.inl rfl) | exact Or.inr (Or.inr rfl)) (hd : (x == ("__debug__" : Str)) = false := by decide) (hcd : (x == ("__classdict__" : Str)) = false := by decide) :
    LE X E (.Name x px) (plN i) := by
  refine ⟨_, pv i hN hv hd hcd, fun F0 H0 F H σ ρ p o Q R ep eo z => ?_⟩
  cases ep
  obtain ⟨u, fp, pu, _⟩ := R.lendP eo
  exact ⟨u, pu, z u F H (.refl R.fh) pu⟩
theorem le_ix (i : Nat) {x : Str} {b : Expr} {px pos : Pos} {mn : M PD} (hb : DE X E b mn) (hs : PlainIx b := by exact fun _ _ => rfl) (hN : X.N[i]? = some x := by rfl) (hv : Vis X.env.scope x := by first | exact Or.inl rfl | exact Or.inr (Or.inl rfl) | exact Or.inr (Or.inr rfl))
    (hd : (x == ("__debug__" : Str)) = false := by decide) (hcd : (x == ("__classdict__" : Str)) = false := by decide) : LE X E (.Subscript (.Name x px) b pos) (plIx i mn) := by
  obtain ⟨tb, h3, h4⟩ := hb
  refine ⟨_, pe_ix ix_list (pv i hN hv hd hcd) h3 hs, fun F0 H0 F H σ ρ p o Q R ep eo z => ?_⟩
  unfold plIx at ep
  split at ep
  · rename_i n en
    split at ep
    · rename_i h0
      cases ep
      obtain ⟨u, fp, pu, _⟩ := R.lendP eo
      obtain ⟨a, vs, z1, z2, z3⟩ : ∃ a vs, σ[i]? = some (some (.ref a)) ∧ H a = some (.lst vs) ∧ vs[n.toNat]? = some u := pu
      refine ⟨.ref a, z1, h4 F0 H0 F H σ ρ _ _ R en fun w F' H' g d => ?_⟩
      cases d
      exact ⟨a, vs, n, u, rfl, rfl, SqL.of (g.h _ _ z2), atI_of h0 z3, z u F' H' g ⟨a, vs, z1, g.h _ _ z2, z3⟩⟩
    · cases ep
  · cases ep
/-! ### one place -/
def outP (ρ : List Sl) (p : Pl) : Option (Ro PD × List Ob) → Option (Ro PD × List Sl)
  | some (r, [o]) => some (r, obPutP ρ p o)
  | _ => none
theorem outP_some {ρ : List Sl} {p : Pl} {q : Option (Ro PD × List Ob)} {y : Ro PD} {ρ' : List Sl} (h : outP ρ p q = some (y, ρ')) : ∃ o, q = some (y, [o]) ∧ ρ' = obPutP ρ p o := by
  unfold outP at h
  split at h
  · rename_i y' o
    cases h
    exact ⟨o, rfl, rfl⟩
  · cases h
/-- P.m(e, ..) -/
def vMetP (g : GFW) (mp : List Sl → Option Pl) (ma : M (List PD)) : MV PD := fun ρ => match mp ρ, ma ρ with
  | some p, some (.ok ds) => (match obAtP ρ p with
    | some (.shf n held) => outP ρ p (g [.shf n held] ds)
    | _ => none)
  | _, _ => none
/-- what stands at other places stays -/
def KeepOff (H H' : Hp) (σ : St) (ρ : List Sl) (p : Pl) : Prop := ∀ q oq w, q.i ≠ p.i → obAtP ρ q = some oq → PlV H σ q w → PlV H' σ q w ∧ ∀ b o, w = .ref b → H b = some o → H' b = some o
theorem metP_ex {m : Str} {o e : Expr} {es : List Expr} {apos pos : Pos} {j : Nat} {g : GFW} {mp : List Sl → Option Pl} {ma : M (List PD)} {pl : Sem Bool} (c : Cok X E k) (T : ShT X.K X.mg C) (F : MetW X.prog X.w X.K X.mg X.base C m j g) (hj : j ≤ k) (hl : LE X E o mp) (ha : DA X E (e :: es) ma)
    (h1 : (m == ("many" : Str)) = false) (h2 : (m == ("held" : Str)) = false)
    (hst : starEach (e :: es) X.env = (false, eval e X.env) :: starEach es X.env) (hpl : (backTo pos (starEach es X.env)).any (·.1) = false)
    (ht : eval (.Call (.Attribute o m apos) (e :: es) [] pos) X.env = (do
      let ov ← eval o X.env
      standAt apos.atName
      let (fn, fst1) ← holding [ov] (getMethod ov m pl)
      callWith pos fn fst1 (backTo pos (starEach (e :: es) X.env)) (backToKw pos (keywordEach [] X.env)))) :
    ∃ t, PE X (.Call (.Attribute o m apos) (e :: es) [] pos) t ∧ ∀ F0 H0 F H σ ρ y ρ' p Q, Rel X.K F0 H0 F H σ ρ → mp ρ = some p → vMetP g mp ma ρ = some (y, ρ') →
      (∀ F' H', Rel X.K F0 H0 F' H' σ ρ' → Same F F' → KeepOff H H' σ ρ p → match y with | .ok x => ∀ v, Da X.K F' v x → Q v H' | .ex c => E (.ref c) none H') → t σ H Q := by
  obtain ⟨ta, l1, l2⟩ := hl
  obtain ⟨t, k1, k2⟩ := ha
  obtain ⟨f, fd, ps, F, hm, hb⟩ := F
  refine ⟨_, pe_meth l1 T.cl hm F (c.hr.mono hj) hb .nil (passes_call c.tk fun _ _ _ _ h => h) k1 hst hpl ht, fun F0 H0 F H σ ρ y ρ' p Q R ep h po => ?_⟩
  unfold vMetP at h
  rw [ep] at h
  split at h
  · rename_i p' ds ep' ed
    cases ep'
    split at h
    · rename_i n held eo
      obtain ⟨o, eg, rfl⟩ := outP_some h
      refine l2 F0 H0 F H σ ρ p _ _ R ep eo fun u F1 H1 g1 pu => ?_
      have R1 := R.grow g1
      obtain ⟨u', fp, pu', at1, _⟩ := R1.lendP eo
      cases pu.uniq pu'
      obtain ⟨D1, a, dx, b, xs, q0, rfl, rfl, nd, q1, q2, q3, q4⟩ := at1
      cases T.s.uniq q0
      refine ⟨a, dx, _, rfl, q1, shf_no h1 h2, k2 F0 H0 F1 H1 σ ρ _ _ R1 ed fun vs F' H' g' d => ?_⟩
      have R' := R1.grow g'
      obtain ⟨u2, fp2, pu2, at2, ow2, back, keep⟩ := R'.lendP eo
      cases (pu.mono g'.h).uniq pu2
      obtain ⟨_, _, _, nd2, _⟩ := at2.ref
      have fl : [fp2].flatten = fp2 := by simp
      show spW X.K _ (.ref a :: (vs ++ [])) H' Q E
      rw [List.append_nil]
      have ko : ∀ H2 : Hp, (∀ b, b ∉ fp2 → H' b ≠ none → H2 b = H' b) → KeepOff H H2 σ ρ p := fun H2 hk q oq w hq eq pw => by
        obtain ⟨fq, aq, off, st⟩ := keep q oq w hq eq (pw.mono (g1.h.trans g'.h))
        refine ⟨st H2 hk, fun b o ew eb => ?_⟩
        obtain ⟨b', eb', hb', _⟩ := aq.ref
        rw [ew] at eb'
        cases eb'
        obtain ⟨o1, o2⟩ := off b hb'
        rw [hk b o1 o2]
        exact g'.h _ _ (g1.h _ _ eb)
      refine ⟨F', [.ref a], [fp2], vs, [.shf n held], ds, (y, [o]), rfl, .cons at2 .nil, by rw [fl]; exact nd2, fun b hb => (ow2 b (by rwa [fl] at hb)).1, ⟨g'.fh, R'.ti⟩, d, eg, ?_⟩
      cases y with
      | ok x =>
        intro v F2 H2 G all tr dv
        rw [fl] at G tr
        cases all with
        | cons b1 b2 => exact po F2 H2 (back F2 H2 o G b1 tr) ((g1.f.trans g'.f).trans G.f) (ko H2 fun b hb tb => cut_keep G hb tb) v dv
      | ex c =>
        intro F2 H2 G all tr
        rw [fl] at G tr
        cases all with
        | cons b1 b2 => exact po F2 H2 (back F2 H2 o G b1 tr) ((g1.f.trans g'.f).trans G.f) (ko H2 fun b hb tb => cut_keep G hb tb)
    · cases h
  · cases h
theorem obPutP_ne {ρ : List Sl} {p : Pl} {o : Ob} {j : Nat} (h : j ≠ p.i) : (obPutP ρ p o)[j]? = ρ[j]? := by
  obtain ⟨i, n⟩ := p
  have h : j ≠ i := h
  cases n with
  | none =>
    show (obPut ρ i o)[j]? = _
    unfold obPut
    split <;> exact List.getElem?_set_ne (Ne.symm h)
  | some n =>
    show (match ρ[i]? with | some (.o (.arr none os)) => ρ.set i (.o (.arr none (os.set n o))) | _ => ρ)[j]? = _
    split
    · exact List.getElem?_set_ne (Ne.symm h)
    · rfl
theorem obAtP_eq {ρ ρ' : List Sl} {q : Pl} (h : ρ'[q.i]? = ρ[q.i]?) : obAtP ρ' q = obAtP ρ q := by
  obtain ⟨i, n⟩ := q
  have h : ρ'[i]? = ρ[i]? := h
  cases n with
  | none => show obAt ρ' i = obAt ρ i; unfold obAt; rw [h]
  | some n => show (match ρ'[i]? with | some (.o (.arr none os)) => os[n]? | _ => none) = (match ρ[i]? with | some (.o (.arr none os)) => os[n]? | _ => none); rw [h]
/-- for x in Q: P.m(e, ..); Q a list that is left as it is -/
def forPut (i : Nat) (q : Pl) (mp : List Sl → Option Pl) (m : MV PD) : List PD → MW
  | [], ρ => some (.nx ρ)
  | x :: xs, ρ => match mp (ρ.set i (.d x)) with
    | some p => if p.i ≠ q.i then (match m (ρ.set i (.d x)) with
      | some (.ok _, ρ') => forPut i q mp m xs ρ'
      | _ => none) else none
    | none => none
def wForPut (i : Nat) (mq mp : List Sl → Option Pl) (m : MV PD) : MW := fun ρ => match mq ρ with
  | some q => (match obAtP ρ q with
    | some (.lst xs) => if q.i ≠ i then forPut i q mp m xs ρ else none
    | _ => none)
  | none => none
theorem vs_forPut {i : Nat} {x m : Str} {pos pos' pos2 apos cpos : Pos} {iter o e : Expr} {es : List Expr} {j : Nat} {g : GFW} {mq mp : List Sl → Option Pl} {ma : M (List PD)} {pl : Sem Bool} (c : Cok X E k) (hp : PassesOwn (model X.prog X.w) X.A X.env X.xe) (hi : LE X E iter mq)
    (T : ShT X.K X.mg C) (F : MetW X.prog X.w X.K X.mg X.base C m j g) (hj : j ≤ k) (hl : LE X E o mp) (ha : DA X E (e :: es) ma)
    (h1 : (m == ("many" : Str)) = false := by decide +kernel) (h2 : (m == ("held" : Str)) = false := by decide +kernel)
    (hst : starEach (e :: es) X.env = (false, eval e X.env) :: starEach es X.env := by rfl) (hpl : (backTo cpos (starEach es X.env)).any (·.1) = false := by rfl)
    (ht : eval (.Call (.Attribute o m apos) (e :: es) [] cpos) X.env = (do
      let ov ← eval o X.env
      standAt apos.atName
      let (fn, fst1) ← holding [ov] (getMethod ov m pl)
      callWith cpos fn fst1 (backTo cpos (starEach (e :: es) X.env)) (backToKw cpos (keywordEach [] X.env))) := by rfl)
    (hsw : swapsWith (.Call (.Attribute o m apos) (e :: es) [] cpos) none pos2.line X.env = pure false := by rfl)
    (hx : X.N[i]? = some x := by rfl) (hlo : Loc X.env.scope x := by first | exact Or.inl rfl | exact Or.inr rfl) (hf : X.fn x = true ∨ X.env.scope.names.lookup x = some .local := by first | exact .inl rfl | exact .inr rfl | assumption)
    (hs : ∀ x, foldedSetIterable iter X.env x = pure x := by intro _; rfl) : VS X E (.For (.Name x pos') iter [.Expr (.Call (.Attribute o m apos) (e :: es) [] cpos) pos2] [] pos) (wForPut i mq mp (vMetP g mp ma)) := by
  obtain ⟨ti, i1, i2⟩ := hi
  obtain ⟨t, m1, m2⟩ := metP_ex c T F hj hl ha h1 h2 hst hpl ht
  refine ⟨_, ps_for hp c.calm (DX.pi_any i1) (pg_name c.nd hx hlo hf) (pss_one (ps_expr m1 hsw)) hs, fun F0 H0 F H σ ρ r D R h p => ?_⟩
  unfold wForPut at h
  split at h
  · rename_i q eq
    split at h
    · rename_i xs eo
      split at h
      · rename_i hqi
        refine i2 F0 H0 F H σ ρ q _ _ R eq eo fun u F1 H1 g1 pu => ?_
        have R1 := R.grow g1
        obtain ⟨u', fq, pu', ⟨b, vs, rfl, rfl, b1, b2⟩, _⟩ := R1.lendP eo
        cases pu.uniq pu'
        refine .inl ⟨b, rfl, ⟨vs, SqL.of b1⟩, ?_⟩
        refine for_it (walk_list (K := X.K) (a := b) (xs := vs)) (fun n σ' H' => ∃ F' ρ', Rel X.K F0 H0 F' H' σ' ρ' ∧ Same F1 F' ∧ PlV H' σ' q (.ref b) ∧ H' b = some (.lst vs) ∧ obAtP ρ' q = some (.lst xs) ∧ forPut i q mp (vMetP g mp ma) (xs.drop n) ρ' = some r) ⟨F1, ρ, R1, Same.refl _, pu, b1, eo, h⟩ (fun n σ' H' _ ⟨F', ρ', _, _, _, z, _⟩ => SqL.of z) ?_ ?_
        · rintro n v σ' H' H'' hn ⟨F', ρ', R', sf, pq, eb, eo', hr⟩ ⟨rfl, ev⟩
          obtain ⟨y, ey, dy⟩ := b2.get ev
          rw [drop_get ey] at hr
          unfold forPut at hr
          have R2 := R'.setD (i := i) (dy.mono sf)
          split at hr
          · rename_i pp epp
            split at hr
            · rename_i hpq
              split at hr
              · rename_i zz ρ2 em
                show t _ _ _
                have eo2 : obAtP (ρ'.set i (.d y)) q = some (.lst xs) := (obAtP_eq (List.getElem?_set_ne (Ne.symm hqi))).trans eo'
                have pq2 : PlV H'' (σ'.set i (some v)) q (.ref b) := by
                  obtain ⟨qi, qn⟩ := q
                  have hqi : qi ≠ i := hqi
                  cases qn with
                  | none => exact (List.getElem?_set_ne (Ne.symm hqi)).trans pq
                  | some n =>
                    obtain ⟨a, vs', z1, z2, z3⟩ := pq
                    exact ⟨a, vs', (List.getElem?_set_ne (Ne.symm hqi)).trans z1, z2, z3⟩
                refine m2 F0 H0 F' H'' _ _ _ _ pp _ R2 epp em fun F3 H3 R3 s3 ko => fun w dw => ?_
                obtain ⟨k1, k2⟩ := ko q _ _ (Ne.symm hpq) eo2 pq2
                refine ⟨F3, ρ2, R3, sf.trans s3, k1, k2 b _ rfl eb, ?_, hr⟩
                unfold vMetP at em
                rw [epp] at em
                split at em
                · rename_i p' ds ep' ed
                  cases ep'
                  split at em
                  · obtain ⟨o, _, rfl⟩ := outP_some em
                    rw [obAtP_eq (obPutP_ne (Ne.symm hpq))]
                    exact eo2
                  · cases em
                · cases em
              · cases hr
            · cases hr
          · cases hr
        · rintro σ' H' ⟨F', ρ', R', sf, _, _, _, hr⟩
          rw [List.drop_eq_nil_of_le (by rw [b2.len]; exact Nat.le_refl _)] at hr
          cases hr
          exact p σ' F' H' R' (g1.f.trans sf)
      · cases h
    · cases h
  · cases h
/-! ### two places -/
def outPQ (ρ : List Sl) (p q : Pl) : Option (Ro PD × List Ob) → Option (Ro PD × List Sl)
  | some (r, [o1, o2]) => some (r, obPutP (obPutP ρ p o1) q o2)
  | _ => none
theorem outPQ_some {ρ : List Sl} {p q : Pl} {z : Option (Ro PD × List Ob)} {r : Ro PD × List Sl} (h : outPQ ρ p q z = some r) : ∃ y o1 o2, z = some (y, [o1, o2]) ∧ r = (y, obPutP (obPutP ρ p o1) q o2) := by
  unfold outPQ at h
  split at h
  · rename_i y o1 o2
    cases h
    exact ⟨y, o1, o2, rfl, rfl⟩
  · cases h
theorem lent2 {K : PySem.W.Frag} {F0 H0 F F' H' : Hp} {σ : St} {ρ : List Sl} {p q : Pl} {u w : V} {fp fq : List Addr} {y : Ro PD} {o1 o2 : Ob} {Q : VK} (s : Same F F')
    (back : ∀ F2 H2 o1' o2', Grow F' (cutH H' (fp ++ fq)) F2 H2 → ObAt K F2 H2 u fp o1' → ObAt K F2 H2 w fq o2' → (∀ a ∈ fp ++ fq, F2 a = none ∧ H2 a ≠ none) → Rel K F0 H0 F2 H2 σ (obPutP (obPutP ρ p o1') q o2')) (po : PoV K F0 H0 F σ Q E (y, obPutP (obPutP ρ p o1) q o2)) : PoF K F' H' [u, w] [fp, fq] Q E (y, [o1, o2]) := by
  have fl : [fp, fq].flatten = fp ++ fq := by simp
  cases y with
  | ok x =>
    intro v F2 H2 G all tr d
    rw [fl] at G tr
    cases all with
    | cons b1 b2 =>
      cases b2 with
      | cons b2 b3 => exact po v F2 H2 (back F2 H2 o1 o2 G b1 b2 tr) (s.trans G.f) d
  | ex c =>
    intro F2 H2 G all tr
    rw [fl] at G tr
    cases all with
    | cons b1 b2 =>
      cases b2 with
      | cons b2 b3 => exact po F2 H2 (back F2 H2 o1 o2 G b1 b2 tr) (s.trans G.f)
/-- P.m(Q) -/
def vMet2 (g : GFW) (mp mq : List Sl → Option Pl) : MV PD := fun ρ => match mp ρ, mq ρ with
  | some p, some q => (match obAtP ρ p, obAtP ρ q with
    | some (.shf n held), some o2 => if p.i ≠ q.i then outPQ ρ p q (g [.shf n held, o2] []) else none
    | _, _ => none)
  | _, _ => none
theorem ve_met2 {m : Str} {o e : Expr} {apos pos : Pos} {j : Nat} {g : GFW} {mp mq : List Sl → Option Pl} {pl : Sem Bool} (c : Cok X E k) (T : ShT X.K X.mg C) (F : MetW X.prog X.w X.K X.mg X.base C m j g) (hj : j ≤ k) (hl : LE X E o mp) (hq : LE X E e mq)
    (h1 : (m == ("many" : Str)) = false := by decide +kernel) (h2 : (m == ("held" : Str)) = false := by decide +kernel)
    (hst : starEach [e] X.env = (false, eval e X.env) :: starEach [] X.env := by rfl) (hpl : (backTo pos (starEach ([] : List Expr) X.env)).any (·.1) = false := by rfl)
    (ht : eval (.Call (.Attribute o m apos) [e] [] pos) X.env = (do
      let ov ← eval o X.env
      standAt apos.atName
      let (fn, fst1) ← holding [ov] (getMethod ov m pl)
      callWith pos fn fst1 (backTo pos (starEach [e] X.env)) (backToKw pos (keywordEach [] X.env))) := by rfl) :
    VE X E (.Call (.Attribute o m apos) [e] [] pos) (vMet2 g mp mq) := by
  obtain ⟨ta, l1, l2⟩ := hl
  obtain ⟨tb, l3, l4⟩ := hq
  obtain ⟨f, fd, ps, F, hm, hb⟩ := F
  refine ⟨_, pe_meth l1 T.cl hm F (c.hr.mono hj) hb .nil (passes_call c.tk fun _ _ _ _ h => h) (pa_cons l3 pa_nil hst) hst hpl ht, fun F0 H0 F H σ ρ r Q R h po => ?_⟩
  unfold vMet2 at h
  split at h
  · rename_i p q ep eq
    split at h
    · rename_i n held o2 eo eo2
      split at h
      · rename_i hne
        obtain ⟨y, o1', o2', eg, rfl⟩ := outPQ_some h
        refine l2 F0 H0 F H σ ρ p _ _ R ep eo fun u F1 H1 g1 pu => ?_
        have R1 := R.grow g1
        obtain ⟨u', fp, pu', at1, _⟩ := R1.lendP eo
        cases pu.uniq pu'
        obtain ⟨D1, a, dx, b, xs, q0, rfl, rfl, nd, q1, q2, q3, q4⟩ := at1
        cases T.s.uniq q0
        refine ⟨a, dx, _, rfl, q1, shf_no h1 h2, l4 F0 H0 F1 H1 σ ρ q _ _ R1 eq eo2 fun w F' H' g' pw => ?_⟩
        have R' := R1.grow g'
        obtain ⟨u2, fp2, w2, fq, pu2, pw2, at2, atq, ow2, nd2, back⟩ := R'.lendPQ eo eo2 hne
        cases (pu.mono g'.h).uniq pu2
        cases pw.uniq pw2
        have fl : [fp2, fq].flatten = fp2 ++ fq := by simp
        show spW X.K _ [.ref a, w] H' Q E
        exact ⟨F', [.ref a, w], [fp2, fq], [], [.shf n held, o2], [], _, rfl, .cons at2 (.cons atq .nil), by rw [fl]; exact nd2, fun b hb => (ow2 b (by rwa [fl] at hb)).1, ⟨g'.fh, R'.ti⟩, .nil, eg, lent2 (g1.f.trans g'.f) back po⟩
      · cases h
    · cases h
  · cases h
/-- f(P, Q, e, ..) -/
def vCall2 (g : GFW) (mp mq : List Sl → Option Pl) (ma : M (List PD)) : MV PD := fun ρ => match mp ρ, mq ρ, ma ρ with
  | some p, some q, some (.ok ds) => (match obAtP ρ p, obAtP ρ q with
    | some o1, some o2 => if p.i ≠ q.i then outPQ ρ p q (g [o1, o2] ds) else none
    | _, _ => none)
  | _, _, _ => none
theorem ve_call2 {f : Str} {pf pos : Pos} {e1 e2 : Expr} {es : List Expr} {j : Nat} {g : GFW} {mp mq : List Sl → Option Pl} {ma : M (List PD)} (c : Cok X E k) (F : DefOkW X.prog X.w X.K X.mg X.base f j g) (hj : j ≤ k) (hl : LE X E e1 mp) (hq : LE X E e2 mq) (ha : DA X E es ma)
    (hg : Gl X f := by rfl) (hdb : (f == ("__debug__" : Str)) = false := by decide)
    (hst : starEach (e1 :: e2 :: es) X.env = (false, eval e1 X.env) :: starEach (e2 :: es) X.env := by rfl) (hst2 : starEach (e2 :: es) X.env = (false, eval e2 X.env) :: starEach es X.env := by rfl) (hpl : (backTo pos (starEach (e2 :: es) X.env)).any (·.1) = false := by rfl) :
    VE X E (.Call (.Name f pf) (e1 :: e2 :: es) [] pos) (vCall2 g mp mq ma) := by
  obtain ⟨ta, l1, l2⟩ := hl
  obtain ⟨tb, l3, l4⟩ := hq
  obtain ⟨t, k1, k2⟩ := ha
  obtain ⟨fa, fd, ps, F, hm, hk, hb⟩ := F
  refine ⟨_, pe_call F (c.hr.mono hj) hg hm hk hb .nil (passes_call c.tk fun _ _ _ _ h => h) (pa_cons l1 (pa_cons l3 k1 hst2) hst) hdb hst hpl, fun F0 H0 F H σ ρ r Q R h po => ?_⟩
  unfold vCall2 at h
  split at h
  · rename_i p q ds ep eq ed
    split at h
    · rename_i o1 o2 eo eo2
      split at h
      · rename_i hne
        obtain ⟨y, o1', o2', eg, rfl⟩ := outPQ_some h
        refine l2 F0 H0 F H σ ρ p _ _ R ep eo fun u F1 H1 g1 pu => ?_
        have R1 := R.grow g1
        refine l4 F0 H0 F1 H1 σ ρ q _ _ R1 eq eo2 fun w F2 H2 g2 pw => ?_
        have R2 := R1.grow g2
        refine k2 F0 H0 F2 H2 σ ρ _ _ R2 ed fun vs F' H' g' d => ?_
        have R' := R2.grow g'
        obtain ⟨u2, fp2, w2, fq, pu2, pw2, at2, atq, ow2, nd2, back⟩ := R'.lendPQ eo eo2 hne
        cases (pu.mono (g2.h.trans g'.h)).uniq pu2
        cases (pw.mono g'.h).uniq pw2
        have fl : [fp2, fq].flatten = fp2 ++ fq := by simp
        show spW X.K _ ((u :: w :: vs) ++ []) H' Q E
        rw [List.append_nil]
        exact ⟨F', [u, w], [fp2, fq], vs, [o1, o2], ds, _, rfl, .cons at2 (.cons atq .nil), by rw [fl]; exact nd2, fun b hb => (ow2 b (by rwa [fl] at hb)).1, ⟨g'.fh, R'.ti⟩, d, eg, lent2 ((g1.f.trans g2.f).trans g'.f) back po⟩
      · cases h
    · cases h
  · cases h
end
end DL

/-! Lists that were handed in; lists of objects, made, changed, told. -/
namespace DL
open PySem L2
section
variable {X : Cx} {E : XK} {k : Nat}
/-- xs.append(e), xs perhaps handed in -/
def wAppP (i : Nat) (m : M PD) : MW := fun ρ => match obAt ρ i, m ρ with
  | some (.lst xs), some (.ok y) => if xs.length < big then some (.nx (obPut ρ i (.lst (xs ++ [y])))) else none
  | some (.lst _), some (.ex c) => some (.ex c ρ)
  | _, _ => none
theorem vs_appP (i : Nat) {x : Str} {px pa pc pos : Pos} {e : Expr} {m : M PD} (he : DE X E e m) (hN : X.N[i]? = some x := by rfl) (hv : Vis X.env.scope x := by first | exact Or.inl rfl | exact Or.inr (Or.inl rfl) | exact Or.inr (Or.inr rfl)) (hd : (x == ("__debug__" : Str)) = false := by decide)
    (hcd : (x == ("__classdict__" : Str)) = false := by decide)
    (hst : starEach [e] X.env = (false, eval e X.env) :: starEach [] X.env := by rfl)
    (hbase : attributeBase (.Name x px) "append" X.env (eval (.Name x px) X.env) = eval (.Name x px) X.env := by rfl)
    (hfew : ((backTo pc (starEach [e] X.env)).all (fun x => !x.1) && (backToKw pc (keywordEach [] X.env)).all (fun x => x.1.isSome)
      && decide ([e].length + ([] : List Keyword).length + (if ([] : List Keyword).isEmpty then 0 else 1) < 30)) = true := by rfl)
    (hline : (pa.endLine == pc.line) = true := by rfl) (hplain : (backTo pc (starEach ([] : List Expr) X.env)).any (·.1) = false := by rfl)
    (hs : swapsWith (.Call (.Attribute (.Name x px) "append" pa) [e] [] pc) none pos.line X.env = pure false := by rfl) :
    VS X E (.Expr (.Call (.Attribute (.Name x px) "append" pa) [e] [] pc) pos) (wAppP i m) := by
  obtain ⟨t, h1, h2⟩ := he
  refine ⟨_, ps_expr (pe_bm PySem.F.plainAttrs_list PySem.F.slot_list_append PySem.F.type_list_append mt_append (pv i hN hv hd hcd) (pa_cons h1 pa_nil hst) hbase hfew hline hst hplain) hs, fun F0 H0 F H σ ρ r D R h p => ?_⟩
  unfold wAppP at h
  split at h
  · rename_i xs y eo em
    split at h
    · rename_i hz
      cases h
      obtain ⟨v, ft, ev, ⟨a, vs, rfl, rfl, q1, q2⟩, ow, _⟩ := R.lend eo
      refine ⟨.ref a, ev, .inl ⟨rfl, _, SqL.of q1⟩, h2 F0 H0 F H σ ρ _ _ R em fun w F' H' g d => ?_⟩
      obtain ⟨v2, ft2, ev2, ⟨a2, vs2, rfl, rfl, w1, w2⟩, ow2, back⟩ := (R.grow g).chg eo
      rw [ev] at ev2
      cases ev2
      exact ⟨a, vs2, w, rfl, rfl, w1, lt_line (by rw [w2.len]; exact hz), p σ F' _ (back _ (.lst (xs ++ [y])) (fun b hb => upd_ne (by simpa using hb)) ⟨a, _, rfl, rfl, upd_same, w2.append (.cons d .nil)⟩) g.f⟩
    · cases h
  · rename_i xs c eo em
    cases h
    obtain ⟨v, ft, ev, ⟨a, vs, rfl, rfl, q1, q2⟩, ow, _⟩ := R.lend eo
    exact ⟨.ref a, ev, .inl ⟨rfl, _, SqL.of q1⟩, h2 F0 H0 F H σ ρ _ _ R em fun F' H' g => p σ F' H' (R.grow g) g.f⟩
  · cases h
/-- xs.pop(n), xs perhaps handed in -/
def vPopP (i : Nat) (m : M PD) : MV PD := fun ρ => match obAt ρ i, m ρ with
  | some (.lst xs), some (.ok (.int z)) => if 0 ≤ z ∧ xs.length < big then (xs[z.toNat]?).map fun y => (.ok y, obPut ρ i (.lst (xs.eraseIdx z.toNat))) else none
  | _, _ => none
theorem ve_popP (i : Nat) {x : Str} {px pa pc : Pos} {e : Expr} {m : M PD} (he : DE X E e m) (hN : X.N[i]? = some x := by rfl) (hv : Vis X.env.scope x := by first | exact Or.inl rfl | exact Or.inr (Or.inl rfl) | exact Or.inr (Or.inr rfl)) (hd : (x == ("__debug__" : Str)) = false := by decide)
    (hcd : (x == ("__classdict__" : Str)) = false := by decide)
    (hst : starEach [e] X.env = (false, eval e X.env) :: starEach [] X.env := by rfl)
    (hbase : attributeBase (.Name x px) "pop" X.env (eval (.Name x px) X.env) = eval (.Name x px) X.env := by rfl)
    (hfew : ((backTo pc (starEach [e] X.env)).all (fun x => !x.1) && (backToKw pc (keywordEach [] X.env)).all (fun x => x.1.isSome)
      && decide ([e].length + ([] : List Keyword).length + (if ([] : List Keyword).isEmpty then 0 else 1) < 30)) = true := by rfl)
    (hline : (pa.endLine == pc.line) = true := by rfl) (hplain : (backTo pc (starEach ([] : List Expr) X.env)).any (·.1) = false := by rfl) :
    VE X E (.Call (.Attribute (.Name x px) "pop" pa) [e] [] pc) (vPopP i m) := by
  obtain ⟨t, h1, h2⟩ := he
  refine ⟨_, pe_bm PySem.F.plainAttrs_list PySem.F.slot_list_pop PySem.F.type_list_pop mt_popAt (pv i hN hv hd hcd) (pa_cons h1 pa_nil hst) hbase hfew hline hst hplain, fun F0 H0 F H σ ρ r Q R h p => ?_⟩
  unfold vPopP at h
  split at h
  · rename_i xs z eo em
    split at h
    · rename_i hz
      obtain ⟨y, ey, rfl⟩ := Option.map_eq_some_iff.mp h
      obtain ⟨v, ft, ev, ⟨a, vs, rfl, rfl, q1, q2⟩, ow, _⟩ := R.lend eo
      refine ⟨.ref a, ev, .inl ⟨rfl, _, SqL.of q1⟩, h2 F0 H0 F H σ ρ _ _ R em fun w F' H' g d => ?_⟩
      cases d
      obtain ⟨v2, ft2, ev2, ⟨a2, vs2, rfl, rfl, w1, w2⟩, ow2, back⟩ := (R.grow g).chg eo
      rw [ev] at ev2
      cases ev2
      obtain ⟨u, eu, du⟩ := w2.get' ey
      have hlen := w2.len
      have hlt : z.toNat < xs.length := (List.getElem?_eq_some_iff.mp ey).1
      have hbig : z < 2 ^ 63 := by have := hz.2; unfold big at this; omega
      exact ⟨a, vs2, z, z.toNat, u, rfl, rfl, w1, by omega, hbig, PySem.StrLaws.seqIndex_nonneg hz.1 (by omega), eu, p u F' _ (back _ (.lst (xs.eraseIdx z.toNat)) (fun b hb => upd_ne (by simpa using hb)) ⟨a, _, rfl, rfl, upd_same, w2.eraseIdx _⟩) g.f du⟩
    · cases h
  · cases h
/-! ### [a, b], both new objects -/
def asOb : Rs → Option Ob
  | .o (.lst xs) => some (.lst xs)
  | .o (.shf m held) => some (.shf m held)
  | _ => none
theorem asOb_eq {r : Rs} {o : Ob} (h : asOb r = some o) : r = .o o.ow := by
  unfold asOb at h
  split at h
  · cases h; rfl
  · cases h; rfl
  · cases h
def mArr2 (ma mb' : M Rs) : M Rs := mb ma fun x => mb mb' fun y => ml ((asOb x).bind fun o1 => (asOb y).map fun o2 => .o (.arr none [o1, o2]))
theorem dr_arr2 {a b : Expr} {ma mb' : M Rs} {pos : Pos} (ha : DR X E a ma) (hb : DR X E b mb')
    (hs1 : starEach [a, b] X.env = (false, eval a X.env) :: starEach [b] X.env := by rfl) (hs2 : starEach [b] X.env = (false, eval b X.env) :: starEach [] X.env := by rfl) :
    DR X E (.List [a, b] pos) (mArr2 ma mb') := by
  obtain ⟨t, h1, h2⟩ := ha
  obtain ⟨t', h3, h4⟩ := hb
  refine ⟨_, pe_lst (pa_cons h1 (pa_cons h3 pa_nil hs2) hs1), fun F0 H0 F H σ ρ q Q R h p => ?_⟩
  rcases mb_ok h with ⟨x, e1, e2⟩ | ⟨c, e1, e2⟩
  · refine h2 F0 H0 F H σ ρ _ _ R e1 fun v1 F1 H1 g1 d1 => ?_
    rcases mb_ok e2 with ⟨y, e3, e4⟩ | ⟨c, e3, e4⟩
    · refine h4 F0 H0 F1 H1 σ ρ _ _ (R.grow g1) e3 fun v2 F' H' g2 d2 => ⟨le_line (n := 2) (by decide), fun t ht => ?_⟩
      unfold ml at e4
      obtain ⟨z, ez, rfl⟩ := Option.map_eq_some_iff.mp e4
      obtain ⟨o1, eo1, ez⟩ := Option.bind_eq_some_iff.mp ez
      obtain ⟨o2, eo2, rfl⟩ := Option.map_eq_some_iff.mp ez
      cases asOb_eq eo1
      cases asOb_eq eo2
      obtain ⟨ft1, w1, k1⟩ := d1
      obtain ⟨ft2, w2, k2⟩ := d2
      have w1 := w1.ob
      have w2 := w2.ob
      obtain ⟨_, _, _, nd1, _⟩ := w1.ref
      obtain ⟨_, _, _, nd2, _⟩ := w2.ref
      have s1 : ∀ b ∈ ft1, H' b = H1 b := fun b hb => by
        cases e : H1 b with
        | none => exact absurd e (k1 b hb).2.2
        | some o => exact g2.h b o e
      have n1 : ∀ b ∈ ft1, b ≠ t := fun b hb z => by rw [← z, s1 b hb] at ht; exact (k1 b hb).2.2 ht
      have n2 : ∀ b ∈ ft2, b ≠ t := fun b hb z => (k2 b hb).2.2 (z ▸ ht)
      have g := g1.trans g2
      have g3 : Grow F' H' F' (upd H' t (.lst [v1, v2])) := .newO g.fh ht
      refine p _ F' _ (g.trans g3) ⟨[] ++ t :: [ft1, ft2].flatten, ⟨t, [v1, v2], [], [ft1, ft2], ⟨rfl, rfl⟩, rfl, ?_, upd_same, .cons ?_ (.cons ?_ .nil)⟩, fun b hb => ?_⟩
      · simp only [List.nil_append, List.flatten_cons, List.flatten_nil, List.append_nil]
        refine List.nodup_cons.mpr ⟨fun z => ?_, List.nodup_append.mpr ⟨nd1, nd2, fun a ha b hb z => (k1 a ha).2.2 (by rw [z]; exact (k2 b hb).1)⟩⟩
        rcases List.mem_append.mp z with z | z
        · exact n1 t z rfl
        · exact n2 t z rfl
      · exact w1.mono g2.f fun b hb => by rw [upd_ne (n1 b hb)]; exact s1 b hb
      · exact w2.mono (Same.refl _) fun b hb => upd_ne (n2 b hb)
      · simp only [List.nil_append, List.flatten_cons, List.flatten_nil, List.append_nil, List.mem_cons, List.mem_append] at hb
        rcases hb with rfl | hb | hb
        · exact ⟨g.h.free ht, g.fh.free ht, by rw [upd_same]; simp⟩
        · obtain ⟨x1, x2, x3⟩ := k1 b hb
          exact ⟨x1, (g2.n b x3).trans x2, by rw [upd_ne (n1 b hb), s1 b hb]; exact x3⟩
        · obtain ⟨x1, x2, x3⟩ := k2 b hb
          exact ⟨g1.h.free x1, x2, by rw [upd_ne (n2 b hb)]; exact x3⟩
    · cases e4
      exact h4 F0 H0 F1 H1 σ ρ _ _ (R.grow g1) e3 fun F2 H2 g2 => p F2 H2 (g1.trans g2)
  · cases e2
    exact h2 F0 H0 F H σ ρ _ _ R e1 fun F2 H2 g2 => p F2 H2 g2
/-! ### what is made of objects that are looked at, lists of numbers in a list of its own -/
def intOb : Ob → Bool
  | .lst zs => zs.all intP
  | _ => false
theorem ObAll.intO {K : PySem.W.Frag} {F F' H : Hp} : ∀ {vs : List V} {fts : List (List Addr)} {os : List Ob}, ObAll K F H vs fts os → os.all intOb = true → ObAll K F' H vs fts os
  | _, _, _, .nil, _ => .nil
  | _, _, _, .cons (o := o) x t, e => by
    rw [List.all_cons, Bool.and_eq_true] at e
    refine .cons ?_ (ObAll.intO t e.2)
    cases o with
    | lst zs =>
      obtain ⟨a, us, e1, e2, e3, e4⟩ := x
      exact ⟨a, us, e1, e2, e3, e4.intP e.1⟩
    | shf m held => cases e.1
def mPkA (i : Nat) (m : M Rs) : M Rs := fun ρ => match mPk i m ρ with
  | some (.ok (.o (.arr none os))) => if os.all intOb = true then some (.ok (.o (.arr none os))) else none
  | _ => none
theorem dr_pkA (i : Nat) {e : Expr} {m : M Rs} (h : DR X E e m) : DR X E e (mPkA i m) := by
  obtain ⟨t, h1, h2⟩ := h
  refine ⟨t, h1, fun F0 H0 F H σ ρ q Q R h p => ?_⟩
  unfold mPkA at h
  split at h
  · rename_i os eq
    split at h
    · rename_i hz
      cases h
      have go : ∀ (s : Ow) (x : PD), ρ[i]? = some (.o s) → Rs.data (.o s) = some x → m (ρ.set i (.d x)) = some (.ok (.o (.arr none os))) → t σ H Q := fun s x e hx h => by
        obtain ⟨F1, ft, R1, s1, n1, off⟩ := R.peek e hx
        refine h2 F0 H0 F1 H σ _ _ Q R1 h fun v F' H' g d => ?_
        obtain ⟨ft2, ⟨a, vs, ts, fts, hd, eft, nd, k1, k2⟩, k3⟩ := d
        refine p _ _ H' (g.uncut R.fh n1 off s1) ⟨ft2, ⟨a, vs, ts, fts, hd, eft, nd, k1, k2.intO hz⟩, fun b hb => ?_⟩
        obtain ⟨l1, l2, l3⟩ := k3 b hb
        refine ⟨l1, ?_, l3⟩
        unfold cutH
        split
        · rfl
        · exact l2
      rcases mPk_cases eq with ⟨s, x, e1, e2, e3⟩ | e3
      · exact go s x e1 e2 e3
      · exact h2 F0 H0 F H σ ρ _ Q R e3 p
    · cases h
  · cases h
end
/-! ### xs[n] = e, e a new list -/
theorem nodup_setF {b : Addr} : ∀ {fts : List (List Addr)} {n : Nat}, fts.flatten.Nodup → b ∉ fts.flatten → (fts.set n [b]).flatten.Nodup ∧ ∀ c ∈ (fts.set n [b]).flatten, c = b ∨ c ∈ fts.flatten
  | [], n, h, _ => by simp
  | f :: fts, 0, h, hb => by
    rw [List.flatten_cons] at h hb
    rw [List.set_cons_zero, List.flatten_cons, List.flatten_cons]
    refine ⟨List.nodup_cons.mpr ⟨fun z => hb (List.mem_append_right _ z), (List.nodup_append.mp h).2.1⟩, fun c hc => ?_⟩
    rcases List.mem_append.mp hc with z | z
    · exact .inl (by simpa using z)
    · exact .inr (List.mem_append_right _ z)
  | f :: fts, n + 1, h, hb => by
    rw [List.flatten_cons] at h hb
    rw [List.set_cons_succ, List.flatten_cons, List.flatten_cons]
    obtain ⟨d1, d2, d3⟩ := List.nodup_append.mp h
    obtain ⟨i1, i2⟩ := nodup_setF (n := n) d2 fun z => hb (List.mem_append_right _ z)
    refine ⟨List.nodup_append.mpr ⟨d1, i1, fun a ha c hc z => ?_⟩, fun c hc => ?_⟩
    · rcases i2 c hc with y | y
      · exact hb (List.mem_append_left _ (by rw [← y, ← z]; exact ha))
      · exact d3 a ha c y z
    · rcases List.mem_append.mp hc with y | y
      · exact .inr (List.mem_append_left _ y)
      · exact (i2 c y).imp id (List.mem_append_right _)
theorem ObAll.setO {K : PySem.W.Frag} {F H : Hp} {v : V} {f : List Addr} {o : Ob} (x : ObAt K F H v f o) : ∀ {vs : List V} {fts : List (List Addr)} {os : List Ob} {n : Nat}, ObAll K F H vs fts os → ObAll K F H (vs.set n v) (fts.set n f) (os.set n o)
  | _, _, _, _, .nil => by simpa using ObAll.nil
  | _, _, _, 0, .cons y t => .cons x t
  | _, _, _, n + 1, .cons y t => .cons y (ObAll.setO x t)
theorem Rel.putA {K : PySem.W.Frag} {F0 H0 F H F' H' : Hp} {σ : St} {ρ : List Sl} {i n : Nat} {os : List Ob} {o : Ob} {b : Addr} (R : Rel K F0 H0 F H σ ρ) (g : Grow F H F' H') (e : ρ[i]? = some (.o (.arr none os))) (at' : ObAt K F' H' (.ref b) [b] o) (nb : H b = none) (fb : F' b = none) :
    ∃ a vs, σ[i]? = some (some (.ref a)) ∧ H' a = some (.lst vs) ∧ vs.length = os.length ∧ Rel K F0 H0 F' (upd H' a (.lst (vs.set n (.ref b)))) σ (ρ.set i (.o (.arr none (os.set n o)))) := by
  obtain ⟨G, l, t0, ft, h1, h2, h3⟩ := R
  have hl : i < σ.length := by rw [l]; exact (List.getElem?_eq_some_iff.mp e).1
  have hlr : i < ρ.length := (List.getElem?_eq_some_iff.mp e).1
  obtain ⟨v, e1, a, vs, ts, fts, ⟨rfl, rfl⟩, eft, nd, ha, all⟩ := h1 i _ _ e (List.getElem?_eq_getElem hl)
  rw [List.nil_append] at eft
  have es : σ[i]? = some (some (.ref a)) := by rw [List.getElem?_eq_getElem hl, e1]
  have keep : ∀ j c, c ∈ ft j → H' c = H c ∧ F' c = none := fun j c hc => by
    obtain ⟨z1, z2, z3⟩ := h2 j c hc
    refine ⟨?_, (g.n c z3).trans z1⟩
    cases q : H c with
    | none => exact absurd q z3
    | some u => exact g.h _ _ q
  have aft : a ∈ ft i := by rw [eft]; exact List.mem_cons_self
  have nft : ∀ j, b ∉ ft j := fun j z => (h2 j b z).2.2 nb
  obtain ⟨ka1, ka2⟩ := keep i a aft
  have nba : b ≠ a := fun z => nft i (z ▸ aft)
  have G' := G.trans g
  have at2 : ObAt K F' (upd H' a (.lst (vs.set n (.ref b)))) (.ref b) [b] o := at'.mono (Same.refl _) fun c hc => by
    have : c = b := by simpa using hc
    rw [this, upd_ne nba]
  rw [eft] at aft
  have nd' : (a :: fts.flatten).Nodup := by rw [eft] at nd; exact nd
  obtain ⟨d1, d2⟩ := List.nodup_cons.mp nd'
  have bfl : b ∉ fts.flatten := fun z => nft i (by rw [eft]; exact List.mem_cons_of_mem _ z)
  obtain ⟨f1, f2⟩ := nodup_setF (n := n) d2 bfl
  have infl : ∀ c, c ∈ fts.flatten → c ∈ ft i := fun c hc => by rw [eft]; exact List.mem_cons_of_mem _ hc
  have ai : a ∈ ft i := by rw [eft]; exact List.mem_cons_self
  refine ⟨a, vs, es, by rw [ka1]; exact ha, all.len.1, ⟨G'.f, fun c u q => ?_, fun c u q => ?_, G'.n, fun z c xs q y => ?_⟩, by simp [l], t0, ftSet ft i (a :: (fts.set n [b]).flatten), fun j s u q1 q2 => ?_, fun j c hc => ?_, fun j m hjm c hc hm => ?_⟩
  · rw [upd_ne fun z => by rw [z, (h2 i a ai).2.1] at q; cases q]
    exact G'.h c u q
  · rw [upd_ne fun z => by rw [z, ka2] at q; cases q]
    exact G'.fh c u q
  · by_cases hc : c = a
    · rw [hc, upd_same] at q; cases q
    · rw [upd_ne hc] at q; exact G'.t z c xs q y
  · by_cases z : j = i
    · subst z
      rw [ftSet_same]
      rw [List.getElem?_set_self hlr] at q1
      rw [es] at q2
      cases q1; cases q2
      refine ⟨_, rfl, a, vs.set n (.ref b), [], fts.set n [b], ⟨rfl, rfl⟩, rfl, ?_, upd_same, ObAll.setO at2 (all.mono g.f fun c hc => ?_)⟩
      · exact List.nodup_cons.mpr ⟨fun z => (f2 a z).elim (fun y => nba y.symm) d1, f1⟩
      · rw [upd_ne fun (z : c = a) => d1 (z ▸ hc)]
        exact (keep j c (infl c hc)).1
    · rw [ftSet_ne z]
      rw [List.getElem?_set_ne (Ne.symm z)] at q1
      refine (h1 j s u q1 q2).mono g.f fun c hc => ?_
      rw [upd_ne fun (y : c = a) => h3 j i z c hc (y ▸ ai)]
      exact (keep j c hc).1
  · by_cases z : j = i
    · rw [z, ftSet_same] at hc
      rcases List.mem_cons.mp hc with y | y
      · subst y
        exact ⟨ka2, (h2 i c ai).2.1, by rw [upd_same]; simp⟩
      · rcases f2 c y with w | w
        · subst w
          obtain ⟨_, _, _, _, tr⟩ := at'.ref
          exact ⟨fb, G.h.free nb, by rw [upd_ne nba]; exact tr c (by simp)⟩
        · obtain ⟨z1, z2, z3⟩ := h2 i c (infl c w)
          obtain ⟨k1, k2⟩ := keep i c (infl c w)
          exact ⟨k2, z2, by rw [upd_ne fun (y : c = a) => d1 (y ▸ w), k1]; exact z3⟩
    · rw [ftSet_ne z] at hc
      obtain ⟨z1, z2, z3⟩ := h2 j c hc
      obtain ⟨k1, k2⟩ := keep j c hc
      exact ⟨k2, z2, by rw [upd_ne fun (y : c = a) => h3 j i z c hc (y ▸ ai), k1]; exact z3⟩
  · have inI : ∀ c, c ∈ a :: (fts.set n [b]).flatten → c = b ∨ c ∈ ft i := fun c hc => by
      rcases List.mem_cons.mp hc with y | y
      · exact .inr (y ▸ ai)
      · exact (f2 c y).imp id (infl c)
    by_cases z : j = i
    · rw [z, ftSet_same] at hc
      by_cases z' : m = i
      · exact hjm (z.trans z'.symm)
      · rw [ftSet_ne z'] at hm
        rcases inI c hc with y | y
        · exact nft m (y ▸ hm)
        · exact h3 m i z' c hm y
    · rw [ftSet_ne z] at hc
      by_cases z' : m = i
      · rw [z', ftSet_same] at hm
        rcases inI c hm with y | y
        · exact nft j (y ▸ hc)
        · exact h3 j i z c hc y
      · rw [ftSet_ne z'] at hm
        exact h3 j m hjm c hc hm
section
variable {X : Cx} {E : XK} {k : Nat}
def sPutA (i : Nat) (mv : M Rs) (mn : M PD) : MS := fun ρ => match ρ[i]?, mv ρ, mn ρ with
  | some (.o (.arr none os)), some (.ok (.o (.lst xs))), some (.ok (.int n)) => (match ixN os.length n with
    | some j => some (.nx (ρ.set i (.o (.arr none (os.set j (.lst xs))))))
    | none => none)
  | _, _, _ => none
theorem ds_putA (i : Nat) {x : Str} {px ps pos : Pos} {e n : Expr} {mv : M Rs} {mn : M PD} (he : DR X E e mv) (hn : DE X E n mn) (hN : X.N[i]? = some x := by rfl) (hv : Vis X.env.scope x := by first | exact Or.inl rfl | exact Or.inr (Or.inl rfl) | exact Or.inr (Or.inr rfl)) (hd : (x == ("__debug__" : Str)) = false := by decide)
    (hcd : (x == ("__classdict__" : Str)) = false := by decide)
    (ha : ∀ v, assign (.Subscript (.Name x px) n ps) X.env v = (do
      let o1 ← holding [v] (eval (.Name x px) X.env)
      let n1 ← holding [v, o1] (eval n X.env)
      standAt ps
      holding [v, o1, n1] (setItem o1 n1 v)
      release [v, o1, n1] []) := by intro _; rfl)
    (hs : swapsWithSole [.Subscript (.Name x px) n ps] e pos.line X.env = pure false := by rfl) (hw : swappedStores [.Subscript (.Name x px) n ps] e X.env = pure none := by rfl)
    (h1' : (assignEach [.Subscript (.Name x px) n ps] X.env).map (·.2) = [assign (.Subscript (.Name x px) n ps) X.env] := by rfl) :
    DS X E (.Assign [.Subscript (.Name x px) n ps] e pos) (sPutA i mv mn) := by
  obtain ⟨t, h1, h2⟩ := he
  obtain ⟨t', h3, h4⟩ := hn
  refine ⟨_, ps_asg h1 (pg_sub (pv i hN hv hd hcd) h3 set_list ha) hs hw h1', fun F0 H0 F H σ ρ r D R h p => ?_⟩
  unfold sPutA at h
  split at h
  · rename_i os xs nn ex ey en
    split at h
    · rename_i j ej
      cases h
      obtain ⟨v0, a0, vs0, ts0, fts0, es0, hd0, _⟩ := R.getA ex
      refine h2 F0 H0 F H σ ρ _ _ R ey fun w F' H' g d => ?_
      obtain ⟨ft, ⟨b, us, rfl, rfl, k1, k2⟩, k3⟩ := d
      obtain ⟨b1, b2, b3⟩ := k3 b (by simp)
      refine ⟨.ref a0, by rw [es0, hd0.1], h4 F0 H0 F' H' σ ρ _ _ (R.grow g) en fun u F2 H2 g2 d2 => ?_⟩
      cases d2
      have fb2 : F2 b = none := (g2.n b b3).trans b2
      obtain ⟨a, vs, es, ha2, hlen, R2⟩ := R.putA (n := j) (o := .lst xs) (b := b) (g.trans g2) ex ⟨b, us, rfl, rfl, g2.h _ _ k1, k2.mono g2.f⟩ b1 fb2
      rw [es0, hd0.1] at es
      cases es
      exact ⟨a0, vs, nn, j, rfl, rfl, ha2, by rw [hlen]; exact ej, p σ F2 _ R2 (g.trans g2).f⟩
    · cases h
  · cases h
end
end DL

/-! A def that is handed the exception that is being handled, and asks its class. -/
namespace DL
open PySem L2 PySem.Spec PyProof.Rows
section
variable {X : Cx} {E : XK} {k : Nat}
/-- isinstance, an exception asked that every state bears -/
theorem call_isP {a D : Addr} {oe : Obj} (hp : (a, oe) ∈ X.pn) (CD : ExcC X.K D) (hz : Zc (.ref D) none oe) (hf : ∃ vs, oe.data = .fields vs) : CallR X (.builtin "isinstance") (rIsE X.K D a) := by
  intro pins s σ H xs us Q I r ⟨c, cv, b, ex, hcv, e, q⟩
  subst ex
  cases r with
  | cons r1 r2 => cases r2 with
    | cons r3 r4 =>
      cases r4
      cases r1
      have e3 := hcv _ r3
      subst e3
      have at_ := (I.pin (a, oe) (List.mem_append_left _ hp)).1
      obtain ⟨fs, hv⟩ := hf
      have J : PySem.W.InstAt s.heap a oe D none := by
        obtain ⟨oc, od, oda, osl⟩ := oe
        obtain ⟨z1, z2⟩ := hz
        dsimp only at z1 z2 hv
        subst z1 z2 hv
        exact ⟨at_, rfl, rfl, True.intro⟩
      exact PySem.W.kia_one (PySem.W.handS_kitx_exc CD.hg CD.hk CD.hs CD.hd CD.ha CD.hn CD.ht CD.hm) I.kIn J e (by intro z; cases z) fun tk => ⟨.bl b, H, I.kept (t' := tk) fun _ _ z => z, rfl, q⟩
theorem isP_sound {a D : Addr} {oe : Obj} {i : Nat} {x tn : Str} {p p1 p2 pos : Pos} {c : V} {cv : Value} {b : Bool} (hp : (a, oe) ∈ X.pn) (CD : ExcC X.K D) (hz : Zc (.ref D) none oe) (hf : ∃ vs, oe.data = .fields vs)
    (hT : PE X (.Name tn p2) (tC c)) (hc : ∀ u, RelV c u → u = cv) (hk : PySem.W.kitOne X.K (.ref D) cv = some b)
    (hm : X.mg "isinstance" = none) (hN : X.N[i]? = some x) (hv : Vis X.env.scope x) (hd : (x == ("__debug__" : Str)) = false) (hcd : (x == ("__classdict__" : Str)) = false)
    (hg : Gl X "isinstance")
    (hs : starEach [.Name x p1, .Name tn p2] X.env = (false, eval (.Name x p1) X.env) :: starEach [.Name tn p2] X.env) (hs2 : starEach [.Name tn p2] X.env = (false, eval (.Name tn p2) X.env) :: starEach [] X.env)
    (hpl : (backTo pos (starEach [.Name tn p2] X.env)).any (·.1) = false) :
    DE X E (.Call (.Name "isinstance" p) [.Name x p1, .Name tn p2] [] pos) (mIsE i a b) := by
  refine ⟨_, pe_callB (call_isP hp CD hz hf) hg hm (by decide +kernel) (pa_cons (pv i hN hv hd hcd) (pa_cons hT pa_nil hs2) hs) (by decide) (by decide) hs hpl, fun F0 H0 F H σ ρ r Q R h po => ?_⟩
  unfold mIsE at h
  split at h
  · rename_i a' e
    split at h
    · rename_i ea
      subst ea
      cases h
      exact ⟨.ref a', R.getE e, c, cv, b, rfl, hc, hk, po _ F H (.refl R.fh) (.bl b)⟩
    · cases h
  · cases h
theorem de_isP {a D C : Addr} {oe : Obj} (i : Nat) {x tn : Str} {p p1 p2 pos : Pos} {b : Bool} (hp : (a, oe) ∈ X.pn) (CD : ExcC X.K D) (hz : Zc (.ref D) none oe) (hf : ∃ vs, oe.data = .fields vs)
    (hm : X.mg "isinstance" = none) (hmT : X.mg tn = some (.ref C)) (hk : PySem.W.kitOne X.K (.ref D) (.ref C) = some b) (hgT : Gl X tn := by rfl) (hdb : (tn == ("__debug__" : Str)) = false := by decide)
    (hN : X.N[i]? = some x := by rfl) (hv : Vis X.env.scope x := by first | exact Or.inl rfl | exact Or.inr (Or.inl rfl) | exact Or.inr (Or.inr rfl)) (hd : (x == ("__debug__" : Str)) = false := by decide) (hcd : (x == ("__classdict__" : Str)) = false := by decide)
    (hg : Gl X "isinstance" := by rfl)
    (hs : starEach [.Name x p1, .Name tn p2] X.env = (false, eval (.Name x p1) X.env) :: starEach [.Name tn p2] X.env := by rfl) (hs2 : starEach [.Name tn p2] X.env = (false, eval (.Name tn p2) X.env) :: starEach [] X.env := by rfl)
    (hpl : (backTo pos (starEach [.Name tn p2] X.env)).any (·.1) = false := by rfl) :
    DE X E (.Call (.Name "isinstance" p) [.Name x p1, .Name tn p2] [] pos) (mIsE i a b) :=
  isP_sound (c := .ref C) (cv := .ref C) hp CD hz hf (pe_glob hgT hmT rfl hdb) (fun u r => r) hk hm hN hv hd hcd hg hs hs2 hpl
theorem de_isPb {a D : Addr} {oe : Obj} (i : Nat) {x tn : Str} {T : String} {p p1 p2 pos : Pos} {b : Bool} (hp : (a, oe) ∈ X.pn) (CD : ExcC X.K D) (hz : Zc (.ref D) none oe) (hf : ∃ vs, oe.data = .fields vs)
    (hm : X.mg "isinstance" = none) (hmT : X.mg tn = none) (hT : bootBuiltins tn = some (.type T)) (hk : PySem.W.kitOne X.K (.ref D) (.type T) = some b) (hgT : Gl X tn := by rfl) (hn : tn ≠ "__name__" := by decide) (hdb : (tn == ("__debug__" : Str)) = false := by decide)
    (hN : X.N[i]? = some x := by rfl) (hv : Vis X.env.scope x := by first | exact Or.inl rfl | exact Or.inr (Or.inl rfl) | exact Or.inr (Or.inr rfl)) (hd : (x == ("__debug__" : Str)) = false := by decide) (hcd : (x == ("__classdict__" : Str)) = false := by decide)
    (hg : Gl X "isinstance" := by rfl)
    (hs : starEach [.Name x p1, .Name tn p2] X.env = (false, eval (.Name x p1) X.env) :: starEach [.Name tn p2] X.env := by rfl) (hs2 : starEach [.Name tn p2] X.env = (false, eval (.Name tn p2) X.env) :: starEach [] X.env := by rfl)
    (hpl : (backTo pos (starEach [.Name tn p2] X.env)).any (·.1) = false := by rfl) :
    DE X E (.Call (.Name "isinstance" p) [.Name x p1, .Name tn p2] [] pos) (mIsE i a b) :=
  isP_sound (c := .ty T) (cv := .type T) hp CD hz hf (pe_bltn (v := .ty T) hgT hmT hT rfl hn hdb) (fun u r => r) hk hm hN hv hd hcd hg hs hs2 hpl
end
/-- the def f, handed an exception of a class c in cs, gives the bools g c in a list -/
structure FnE (P : Program) (w : World) (K : PySem.W.Frag) (mg : Str → Option Value) (base : Heap) (k : Nat) (f : Addr) (fd : FuncData) (ps : List Str) (cs : List Addr) (g : Addr → List Bool) : Prop where
  len : ps.length = 1
  run : ∀ (A : Around) (outer : List Env) (s : Shared) (F H : Hp) (args : Args) (Q : VK) (E : XK) (p : Addr × Obj) (c : Addr), c ∈ cs → Zc (.ref c) none p.2 → (∃ vs, p.2.data = .fields vs) → L2H.RoomH k A → L2H.PinOk outer H s p → Env0 P w K mg base A outer s H →
    BindsTo s fd args (ps.zip [.ref p.1]) → (Same F H ∧ TupIn F H) → (∀ v F' H', Grow F H F' H' → Da K F' v (.list ((g c).map .bool)) → Q v H') → codeAny (model P w) A (.call (.ref f) args) (CR (L2.CX P w) outer P w H s Q E) s
theorem def_fnE {P : Program} {w : World} {K : PySem.W.Frag} {mg : Str → Option Value} {base : Heap} {x qual q : Str} {st : Stmt} {f : Addr} {fd : FuncData} {N : List Str} {k : Nat} {cs : List Addr} {g : Addr → List Bool} {m : Addr → Addr → MS} (F : Fun K x qual st f fd) (S : FnScope (q :: N) [q] (defScope st))
    (hbody : ∀ (cdv : Value) (A : Around) (outer : List Env) (s : Shared) (H : Hp) (E : XK) (p : Addr × Obj) (c : Addr), c ∈ cs → Zc (.ref c) none p.2 → (∃ vs, p.2.data = .fields vs) → p ∈ (L2H.cxH (L2.CX P w) P w K mg base (q :: N) qual (defScope st) f cdv A outer s H E p).pn →
      DSs (L2H.cxH (L2.CX P w) P w K mg base (q :: N) qual (defScope st) f cdv A outer s H E p) E (defBody st) (m c p.1))
    (hrun : ∀ c ∈ cs, ∀ a, m c a (.e a :: List.replicate N.length .no) = some (.rt (.d (.list ((g c).map .bool))))) : FnE P w K mg base (k + 1) f fd [q] cs g := by
  obtain ⟨oc, od, kV, doc, pm, an, cdv, ct, osl, rfl, lk, hcd⟩ := F.ex
  refine ⟨rfl, fun A outer s F1 H args Q E p c hc hz hf hr hpin e0 hb fh po => ?_⟩
  have KX : K.In s.heap := e0.mod.kin.keeps fun b o e => (e0.bs b o e).1
  have lim : s.heap.NoLimit := e0.mod.nolimit.keeps fun b o e => (e0.bs b o e).1
  have hkind : ∀ y ∈ [q].zip [Value.ref p.1], (defScope st).names.lookup y.1 = some .local ∨ ((defScope st).names.lookup y.1 = some .cell ∧ ((cellsFrom (s.heap.objs.size + 1) (defScope st).names []).lookup y.1).isSome = true) := fun ⟨n, v⟩ hy => by
    rcases S.par n (List.of_mem_zip hy).1 with z | z
    · exact .inl z
    · exact .inr ⟨z, PySem.W.cellsFrom_some _ _ _ (.inl z)⟩
  have rv : Vals [V.ref p.1] [Value.ref p.1] := .cons rfl .nil
  refine codeAny_call_function hr.depth (KX _ _ lk) rfl S.co S.gen rfl (PySem.W.codeRec_of KX hcd) (hb _ _ _ _ ?_)
  refine wpAny_newFunctionEnv_cells S.kind hkind fun env he s1 x1 => ?_
  subst he
  refine ⟨lim.keeps x1.toInCall.keep, codeAny_func ?_⟩
  obtain ⟨t, ht, hq⟩ := hbody cdv A outer s H E p c hc hz hf List.mem_cons_self
  have I : Inv (L2H.cxH (L2.CX P w) P w K mg base (q :: N) qual (defScope st) f cdv A outer s H E p) [] (L2.start (q :: N) [V.ref p.1]) H s1 := L2H.inv_startH S hpin e0 rfl rv x1
  have R0 : Rel K F1 H F1 H (L2.start (q :: N) []) ([].map .d ++ List.replicate ((q :: N).length - ([] : List PD).length) .no) := Rel.begins (N := q :: N) fh .nil
  have R1 := R0.setE (i := 0) (a := p.1)
  have R2 : Rel K F1 H F1 H (L2.start (q :: N) [V.ref p.1]) (.e p.1 :: List.replicate N.length .no) := by
    have e1 : (L2.start (q :: N) []).set 0 (some (.ref p.1)) = L2.start (q :: N) [V.ref p.1] := by
      show (List.replicate ((q :: N).length - 0) (none : Option V)).set 0 (some (.ref p.1)) = some (.ref p.1) :: List.replicate ((q :: N).length - 1) none
      rfl
    rw [e1] at R1
    exact R1
  have hq' := hq F1 H F1 H _ _ _ { nx := fun _ H' => Q .non H', rt := Q } R2 (hrun c hc p.1) fun v F' H' g d => po v F' H' g d
  refine wpAny_mono (ht.run [] s1 _ H _ I hq') (fun fl s' hs => ?_) fun e s' hs => hs
  · have fin : ∀ {σ' : L2.St} {H' : Hp} {v : V} {u : Value}, Inv (L2H.cxH (L2.CX P w) P w K mg base (q :: N) qual (defScope st) f cdv A outer s H E p) [] σ' H' s' → RelV v u → Q v H' → CE outer P w H s Q u s' :=
      fun {σ' H' v u} J rv q => ⟨v, H', J.os, J.bare, J.base, J.hok, rv, q⟩
    cases fl with
    | ret u =>
      obtain ⟨v, σ', H', J, rv, q⟩ := hs
      exact fin J rv q
    | next =>
      obtain ⟨σ', H', J, q⟩ := hs
      exact fin (v := V.non) (u := Value.none) J rfl q
    | brk =>
      obtain ⟨_, _, _, q⟩ := hs
      exact False.elim q
    | cont =>
      obtain ⟨_, _, _, q⟩ := hs
      exact False.elim q
def DefOkE (P : Program) (w : World) (K : PySem.W.Frag) (mg : Str → Option Value) (base : Heap) (x : Str) (k : Nat) (cs : List Addr) (g : Addr → List Bool) : Prop :=
  ∃ f fd ps, FnE P w K mg base k f fd ps cs g ∧ mg x = some (.ref f) ∧ PySem.W.keepIn K (.ref f) = true ∧ Binds K fd ps []
section
variable {X : Cx} {E : XK} {k : Nat}
/-- f(e), e the exception -/
def mWhich (i : Nat) (a : Addr) (bs : List Bool) : M PD := fun ρ => match ρ[i]? with
  | some (.e a') => if a' = a then some (.ok (.list (bs.map .bool))) else none
  | _ => none
theorem de_which {a c : Addr} {oe : Obj} {pn : List (Addr × Obj)} (i : Nat) {x f : Str} {px pf pos : Pos} {cs : List Addr} {g : Addr → List Bool} {E' : XK} {k' : Nat} (ck : Cok X E' k') (hc : c ∈ cs) (hz : Zc (.ref c) none oe) (hf : ∃ vs, oe.data = .fields vs)
    (F : DefOkE X.prog X.w X.K X.mg X.base f k cs g) (hj : k ≤ k')
    (hg : Gl X f := by rfl) (hdb : (f == ("__debug__" : Str)) = false := by decide)
    (hN : X.N[i]? = some x := by rfl) (hv : Vis X.env.scope x := by first | exact Or.inl rfl | exact Or.inr (Or.inl rfl) | exact Or.inr (Or.inr rfl)) (hd : (x == ("__debug__" : Str)) = false := by decide) (hcd : (x == ("__classdict__" : Str)) = false := by decide)
    (hs : starEach [.Name x px] X.env = (false, eval (.Name x px) X.env) :: starEach [] X.env := by rfl) (hpl : (backTo pos (starEach ([] : List Expr) X.env)).any (·.1) = false := by rfl) :
    DE (X.suite a ((a, oe) :: pn)) E (.Call (.Name f pf) [.Name x px] [] pos) (mWhich i a (g c)) := by
  obtain ⟨fa, fd, ps, F, hm, hk, hb⟩ := F
  have hr0 := ck.hr.mono hj
  have hr : L2H.RoomH k (X.suite a ((a, oe) :: pn)).A := ⟨hr0.dp, hr0.un⟩
  have tk : Takes (X.suite a ((a, oe) :: pn)) (fun _ _ _ _ => False) := takes0
  refine ⟨fun σ H Q => ∃ F, (Same F H ∧ TupIn F H) ∧ σ[i]? = some (some (.ref a)) ∧ ∀ v F' H', Grow F H F' H' → Da X.K F' v (.list ((g c).map .bool)) → Q v H', ⟨fun pins s σ H Q I h => ?_⟩, fun F0 H0 F H σ ρ r Q R h po => ?_⟩
  · obtain ⟨F1, fh, es, po⟩ := h
    refine wpAny_Call_Name_kw (ld_glob I hg hm ?_ hdb)
    refine PySem.W.callWith_K (h₀ := X.base) I.ok.mod.kin hk (thn ((pa_cons (X := X.suite a ((a, oe) :: pn)) (pv i hN hv hd hcd) pa_nil hs).run pos pins s σ H (fun vs H1 => vs = [.ref a] ∧ H1 = H) I ⟨.ref a, es, rfl, rfl⟩) fun us s1 ⟨vs, H1, I1, r, q, eH⟩ => ⟨I1.kIn, ?_⟩) hs hpl
    subst q eH
    cases r with
    | cons r1 r2 =>
      cases r2
      cases r1
      have b := hb s1 [.ref a] I1.kIn (by rw [F.len]; rfl)
      rw [List.append_nil] at b
      have P1 := I1.pin (a, oe) (List.mem_append_left _ List.mem_cons_self)
      have hpin : L2H.PinOk X.stack H1 s1 (a, oe) := ⟨P1.1, P1.2.1, fun hm => (List.mem_cons.mp (I1.stkSub a hm)).elim P1.2.2.1 P1.2.2.2.1, P1.2.2.2.2⟩
      refine wpAny_call (codeAny_mono (F.run _ X.stack s1 F1 H1 ⟨[.ref a], []⟩ Q NoE (a, oe) c hc hz hf hr hpin I1.env0 b fh po) fun r s' hq => ?_)
      cases r with
      | error e => exact L2.passes_call tk (fun _ _ _ _ z => z) pins σ H1 s1 e s' I1 hq
      | ok fl =>
        cases fl with
        | ret u => exact I1.after hq
        | next => exact False.elim hq
        | brk => exact False.elim hq
        | cont => exact False.elim hq
  · unfold mWhich at h
    split at h
    · rename_i a' e
      split at h
      · rename_i ea
        subst ea
        cases h
        exact ⟨F, ⟨R.fh, R.ti⟩, R.getE e, fun v F' H' g d => po v F' H' g d⟩
      · cases h
    · cases h
end
end DL

/-! Running the text's functions over data. -/
namespace DL
open PySem L2
/-- what holds behind a loop or a block -/
def OutOk (N : List Sl → Prop) (G : Rs → Prop) : Out → Prop
  | .nx ρ => N ρ
  | .rt r => G r
  | _ => False
theorem forL_go {i : Nat} {b : MS} (I : Nat → List Sl → Prop) (G : Rs → Prop) : ∀ (xs : List PD) (n : Nat) (ρ : List Sl), I n ρ →
    (∀ k x ρ, xs[k]? = some x → I (n + k) ρ → ∃ o, b (ρ.set i (.d x)) = some o ∧ OutOk (I (n + k + 1)) G o) → ∃ o, forL i b xs ρ = some o ∧ OutOk (I (n + xs.length)) G o
  | [], n, ρ, h, _ => ⟨.nx ρ, rfl, h⟩
  | x :: xs, n, ρ, h, hs => by
    obtain ⟨o, e, ho⟩ := hs 0 x ρ rfl h
    unfold forL
    rw [e]
    cases o with
    | nx ρ' =>
      obtain ⟨o2, e2, ho2⟩ := forL_go I G xs (n + 1) ρ' ho fun k y ρ'' hy hI => by
        have z := hs (k + 1) y ρ'' hy (by rw [show n + (k + 1) = n + 1 + k by omega]; exact hI)
        rw [show n + (k + 1) + 1 = n + 1 + k + 1 by omega] at z
        exact z
      exact ⟨o2, e2, by rw [List.length_cons, show n + (xs.length + 1) = n + 1 + xs.length by omega]; exact ho2⟩
    | rt r => exact ⟨.rt r, rfl, ho⟩
    | bk _ => exact ho.elim
    | ct _ => exact ho.elim
    | ex _ => exact ho.elim
/-- a loop that runs to its end -/
theorem forL_end {i : Nat} {b : MS} {xs : List PD} {ρ : List Sl} (I : Nat → List Sl → Prop) (h0 : I 0 ρ) (hs : ∀ k x ρ, xs[k]? = some x → I k ρ → ∃ ρ', b (ρ.set i (.d x)) = some (.nx ρ') ∧ I (k + 1) ρ') : ∃ ρ', forL i b xs ρ = some (.nx ρ') ∧ I xs.length ρ' := by
  obtain ⟨o, e, ho⟩ := forL_go (i := i) (b := b) I (fun _ => False) xs 0 ρ h0 fun k x ρ hx hI => by
    rw [Nat.zero_add] at hI ⊢
    obtain ⟨ρ', e, h⟩ := hs k x ρ hx hI
    exact ⟨_, e, h⟩
  rw [Nat.zero_add] at ho
  cases o with
  | nx ρ' => exact ⟨ρ', e, ho⟩
  | rt _ => exact ho.elim
  | bk _ => exact ho.elim
  | ct _ => exact ho.elim
  | ex _ => exact ho.elim
theorem forL_at {i : Nat} {b : MS} {xs : List PD} {ρ : List Sl} {o : Option Out} (hf : forL i b xs ρ = o) (I : Nat → List Sl → Prop) (h0 : I 0 ρ) (hs : ∀ k x ρ, xs[k]? = some x → I k ρ → ∃ ρ', b (ρ.set i (.d x)) = some (.nx ρ') ∧ I (k + 1) ρ') : ∃ ρ', o = some (.nx ρ') ∧ I xs.length ρ' := by
  obtain ⟨ρ', e, h⟩ := forL_end I h0 hs
  exact ⟨ρ', by rw [← hf, e], h⟩
theorem forL_ret {i : Nat} {b : MS} {xs : List PD} {ρ : List Sl} {o : Option Out} (hf : forL i b xs ρ = o) (I : Nat → List Sl → Prop) (G : Rs → Prop) (h0 : I 0 ρ) (hs : ∀ k x ρ, xs[k]? = some x → I k ρ → ∃ o, b (ρ.set i (.d x)) = some o ∧ OutOk (I (k + 1)) G o) :
    (∃ ρ', o = some (.nx ρ') ∧ I xs.length ρ') ∨ ∃ r, o = some (.rt r) ∧ G r := by
  obtain ⟨o', e, h⟩ := forL_go (i := i) (b := b) I G xs 0 ρ h0 fun k x ρ hx hI => by rw [Nat.zero_add] at hI ⊢; exact hs k x ρ hx hI
  rw [Nat.zero_add] at h
  cases o' with
  | nx ρ' => exact .inl ⟨ρ', by rw [← hf, e], h⟩
  | rt r => exact .inr ⟨r, by rw [← hf, e], h⟩
  | bk _ => exact h.elim
  | ct _ => exact h.elim
  | ex _ => exact h.elim
theorem lcL_map {α : Type} {i : Nat} {mt : M Bool} {me : M PD} {ρ : List Sl} (f : α → PD) (t : α → Bool) (g : α → PD) : ∀ (l : List α) (acc : List PD), (∀ a ∈ l, mt (ρ.set i (.d (f a))) = some (.ok (t a))) → (∀ a ∈ l, t a = true → me (ρ.set i (.d (f a))) = some (.ok (g a))) → acc.length + l.length ≤ big →
    lcL i mt me ρ (l.map f) acc = some (acc ++ (l.filter t).map g)
  | [], acc, _, _, _ => by simp [lcL]
  | a :: l, acc, ht, hg, hl => by
    have h1 := ht a List.mem_cons_self
    rw [List.length_cons] at hl
    rw [List.map_cons, List.filter_cons]
    unfold lcL
    rw [h1]
    cases e : t a with
    | true =>
      rw [hg a List.mem_cons_self e]
      simp only [if_true]
      rw [if_pos (by omega), lcL_map f t g l (acc ++ [g a]) (fun b hb => ht b (List.mem_cons_of_mem _ hb)) (fun b hb => hg b (List.mem_cons_of_mem _ hb)) (by rw [List.length_append]; simp; omega)]
      simp
    | false =>
      simp only [Bool.false_eq_true, if_false]
      exact lcL_map f t g l acc (fun b hb => ht b (List.mem_cons_of_mem _ hb)) (fun b hb => hg b (List.mem_cons_of_mem _ hb)) (by omega)

/-! ### what each piece does, once it is applied -/
section
variable {α β : Type} {ρ : List Sl} {a b : MS} {i j n : Nat} {x y : PD}
@[simp] theorem mr_ap {x : α} : mr x ρ = some (.ok x) := rfl
@[simp] theorem ml_some {x : α} : ml (some x) ρ = some (.ok x) := rfl
theorem ml_ap {o : Option α} : ml o ρ = o.map .ok := rfl
def bS (o : Option (Ro α)) (k : α → M β) (ρ : List Sl) : Option (Ro β) := match o with | some (.ok a) => k a ρ | some (.ex c) => some (.ex c) | none => none
@[simp] theorem bS_ok {k : α → M β} {x : α} : bS (some (.ok x)) k ρ = k x ρ := rfl
@[simp] theorem bS_ex {k : α → M β} {c : Addr} : bS (some (.ex c)) k ρ = some (.ex c) := rfl
@[simp] theorem mb_ap {m : M α} {k : α → M β} : mb m k ρ = bS (m ρ) k ρ := rfl
theorem mb_go {m : M α} {k : α → M β} {x : α} (h : m ρ = some (.ok x)) : mb m k ρ = k x ρ := by rw [mb_ap, h]; rfl
def thenS (o : Option Out) (b : MS) : Option Out := match o with | some (.nx ρ') => b ρ' | r => r
@[simp] theorem thenS_nx : thenS (some (.nx ρ)) b = b ρ := rfl
@[simp] theorem thenS_rt {r : Rs} : thenS (some (.rt r)) b = some (.rt r) := rfl
@[simp] theorem thenS_ex {c : Addr} : thenS (some (.ex c)) b = some (.ex c) := rfl
@[simp] theorem thenS_bk : thenS (some (.bk ρ)) b = some (.bk ρ) := rfl
@[simp] theorem thenS_ct : thenS (some (.ct ρ)) b = some (.ct ρ) := rfl
@[simp] theorem sSeq_ap : sSeq a b ρ = thenS (a ρ) b := by
  show (match a ρ with | some (.nx ρ') => b ρ' | r => r) = _
  rfl
def ifS (o : Option (Ro Bool)) (a b : MS) (ρ : List Sl) : Option Out := match o with | some (.ok k) => if k = true then a ρ else b ρ | some (.ex c) => some (.ex c) | none => none
@[simp] theorem ifS_ok {k : Bool} : ifS (some (.ok k)) a b ρ = if k = true then a ρ else b ρ := rfl
@[simp] theorem ifS_ex {c : Addr} : ifS (some (.ex c)) a b ρ = some (.ex c) := rfl
@[simp] theorem sIf_ap {c : M Bool} : sIf c a b ρ = ifS (c ρ) a b ρ := rfl
@[simp] theorem m1_ap {f : PD → Option PD} {m : M PD} : m1 f m ρ = mb m (fun x => ml (f x)) ρ := rfl
@[simp] theorem m2_ap {f : PD → PD → Option PD} {m m' : M PD} : m2 f m m' ρ = mb m (fun x => mb m' fun y => ml (f x y)) ρ := rfl
@[simp] theorem mDat_ap {m : M Rs} : mDat m ρ = mb m (fun x => ml x.data) ρ := rfl
@[simp] theorem mRs_ap {m : M PD} : mRs m ρ = mb m (fun x => mr (.d x)) ρ := rfl
@[simp] theorem mB_ap {m : M PD} : mB m ρ = mb m (fun x => ml (asB x)) ρ := rfl
@[simp] theorem mC_ap {f : List PD → Option Rs} {m : M (List PD)} : mC f m ρ = mb m (fun x => ml (f x)) ρ := rfl
@[simp] theorem mS1_ap {f : PD → Option Rs} {m : M PD} : mS1 f m ρ = mb m (fun x => ml (f x)) ρ := rfl
@[simp] theorem mCons_ap {m : M PD} {m' : M (List PD)} : mCons m m' ρ = mb m (fun x => mb m' fun xs => mr (x :: xs)) ρ := rfl
@[simp] theorem mNil_ap : mNil ρ = some (.ok []) := rfl
@[simp] theorem mTup_ap {m : M (List PD)} : mTup m ρ = mb m (fun xs => ml (if xs.length ≤ big then some (.tuple xs) else none)) ρ := rfl
@[simp] theorem mLst_ap {m : M (List PD)} : mLst m ρ = mb m (fun xs => ml (if xs.length ≤ big then some (.o (.lst xs)) else none)) ρ := rfl
@[simp] theorem mIf_ap {c : M Bool} {m m' : M α} : mIf c m m' ρ = mb c (fun k => if k = true then m else m') ρ := rfl
@[simp] theorem mAnd_ap {c d : M Bool} : mAnd c d ρ = mb c (fun k => if k = true then d else mr false) ρ := rfl
@[simp] theorem mOr_ap {c d : M Bool} : mOr c d ρ = mb c (fun k => if k = true then mr true else d) ρ := rfl
@[simp] theorem mNot_ap {c : M Bool} : mNot c ρ = mb c (fun k => mr (!k)) ρ := rfl
@[simp] theorem mAndV_ap {c d : M PD} : mAndV c d ρ = mb (mB c) (fun k => if k = true then d else mr (.bool false)) ρ := rfl
@[simp] theorem mOrV_ap {c d : M PD} : mOrV c d ρ = mb (mB c) (fun k => if k = true then mr (.bool true) else d) ρ := rfl
@[simp] theorem mNotV_ap {c : M PD} : mNotV c ρ = mb (mB c) (fun k => mr (.bool (!k))) ρ := rfl
@[simp] theorem mChain_ap {f g : PD → PD → Option PD} {p q r : M PD} : mChain f g p q r ρ = mb p (fun x => mb q fun y => mb (ml ((f x y).bind asB)) fun k => if k = true then mb r fun z => ml (g y z) else mr (.bool false)) ρ := rfl
@[simp] theorem mPart_ap {m : M PD} : mPart m ρ = mb m (fun x => ml ((asI x).map some)) ρ := rfl
@[simp] theorem mSl_ap {p : M PD} {l h : M (Option Int)} : mSl p l h ρ = mb p (fun x => mb l fun l => mb h fun u => ml (fSl l u x)) ρ := rfl
@[simp] theorem mCall_ap {g : GF} {m : M (List PD)} : mCall g m ρ = mb m (fun xs _ => g xs) ρ := rfl
@[simp] theorem mSeq_ap {m : M PD} : mSeq m ρ = mb m (fun x => ml (asSeq x)) ρ := rfl
@[simp] theorem mRng_ap {f : List PD → Option (List PD)} {m : M (List PD)} : mRng f m ρ = mb m (fun xs => ml (f xs)) ρ := rfl
@[simp] theorem mLR_ap {m : M PD} : mLR m ρ = mb m (fun x => ml ((asRng1 [x]).map fun ys => .o (.lst ys))) ρ := rfl
@[simp] theorem mRev_ap {m : M PD} : mRev m ρ = mb m (fun x => ml ((asRev [x]).map fun ys => .o (.lst ys))) ρ := rfl
@[simp] theorem mM1_ap {f : Str → PD → Option Rs} {p q : M PD} : mM1 f p q ρ = mb p (fun x => mb (ml (asT x)) fun z => mb q fun y => ml (f z y)) ρ := rfl
@[simp] theorem mFl_ap {m : M PD} : mFl m ρ = mb m (fun x => ml (if isFlat x = true then some x else none)) ρ := rfl
@[simp] theorem mIsi_ap {T : String} {m : M PD} : mIsi T m ρ = mb m (fun x => ml (fIsi T x)) ρ := rfl
theorem mV_d (h : ρ[i]? = some (.d x)) : mV i ρ = some (.ok x) := by unfold mV; rw [h]
@[simp] theorem mV_ap : mV i ρ = match ρ[i]? with | some (.d x) => some (.ok x) | _ => none := rfl
@[simp] theorem mPk_ap {m : M α} : mPk i m ρ = match ρ[i]? with | some (.o (.lst xs)) => m (ρ.set i (.d (.list xs))) | some (.o (.box x xs)) => m (ρ.set i (.d (.tuple [x, .list xs]))) | some (.o (.shf n held)) => m (ρ.set i (.d (shfD n held))) | some (.o (.arr none os)) => m (ρ.set i (.d (.list (os.map Ob.dat)))) | some (.o (.arr (some x) os)) => m (ρ.set i (.d (.tuple [x, .list (os.map Ob.dat)]))) | some (.o (.par _ _ o)) => m (ρ.set i (.d o.dat)) | _ => m ρ := rfl
@[simp] theorem mLc_ap {mi : M (List PD)} {mt : M Bool} {me : M PD} : mLc i mi mt me ρ = match mi ρ with | some (.ok xs) => (lcL i mt me ρ xs []).map (fun ys => .ok (.o (.lst ys))) | some (.ex c) => some (.ex c) | none => none := rfl
@[simp] theorem sNil_ap : sNil ρ = some (.nx ρ) := rfl
@[simp] theorem sBrk_ap : sBrk ρ = some (.bk ρ) := rfl
@[simp] theorem sCnt_ap : sCnt ρ = some (.ct ρ) := rfl
@[simp] theorem sRetN_ap : sRetN ρ = some (.rt (.d .none)) := rfl
@[simp] theorem sRaise_ap {c : Addr} : sRaise c ρ = some (.ex c) := rfl
@[simp] theorem sSet_ap {m : M Rs} : sSet i m ρ = match m ρ with | some (.ok r) => some (.nx (ρ.set i r.sl)) | some (.ex c) => some (.ex c) | none => none := rfl
@[simp] theorem sRet_ap {m : M Rs} : sRet m ρ = match m ρ with | some (.ok r) => some (.rt r) | some (.ex c) => some (.ex c) | none => none := rfl
@[simp] theorem sExp_ap {m : M Rs} : sExp m ρ = match m ρ with | some (.ok _) => some (.nx ρ) | some (.ex c) => some (.ex c) | none => none := rfl
@[simp] theorem sRetV_ap : sRetV i ρ = match ρ[i]? with | some (.d x) => some (.rt (.d x)) | some (.o s) => some (.rt (.o s)) | _ => none := rfl
@[simp] theorem sMove_ap : sMove i j ρ = match ρ[j]? with | some (.d x) => some (.nx (ρ.set i (.d x))) | some (.o (.lst xs)) => some (.nx ((ρ.set j (.d (.list xs))).set i (.d (.list xs)))) | _ => none := rfl
@[simp] theorem sFix_ap : sFix i a ρ = match ρ[i]? with | some (.o (.lst xs)) => a (ρ.set i (.d (.list xs))) | _ => a ρ := rfl
@[simp] theorem sFor_ap {mi : M (List PD)} : sFor i mi a ρ = match mi ρ with | some (.ok xs) => forL i a xs ρ | some (.ex c) => some (.ex c) | none => none := rfl
@[simp] theorem sApp_ap {m : M PD} : sApp i m ρ = match ρ[i]? with | some (.o (.lst xs)) => (match m ρ with | some (.ok y) => if xs.length < big then some (.nx (ρ.set i (.o (.lst (xs ++ [y]))))) else none | some (.ex c) => some (.ex c) | none => none) | _ => none := rfl
@[simp] theorem sAppPop_ap {m : M PD} : sAppPop i j m ρ = match ρ[i]?, ρ[j]?, m ρ with | some (.o (.lst xs)), some (.o (.lst ys)), some (.ok (.int n)) => if i ≠ j ∧ 0 ≤ n ∧ xs.length < big ∧ ys.length < big then (match ys[n.toNat]? with | some y => some (.nx ((ρ.set j (.o (.lst (ys.eraseIdx n.toNat)))).set i (.o (.lst (xs ++ [y]))))) | none => none) else none | _, _, _ => none := rfl
@[simp] theorem sPut_ap {mv mn : M PD} : sPut i mv mn ρ = match ρ[i]?, mv ρ, mn ρ with | some (.o (.lst xs)), some (.ok y), some (.ok (.int n)) => (match ixN xs.length n with | some j => some (.nx (ρ.set i (.o (.lst (xs.set j y))))) | none => none) | _, _, _ => none := rfl
@[simp] theorem sPop_ap {m : M PD} : sPop i m ρ = match ρ[i]?, m ρ with | some (.o (.lst xs)), some (.ok (.int n)) => if 0 ≤ n ∧ n < xs.length ∧ xs.length < big then some (.nx (ρ.set i (.o (.lst (xs.eraseIdx n.toNat))))) else none | _, _ => none := rfl
@[simp] theorem sClr_ap : sClr i ρ = match ρ[i]? with | some (.o (.lst _)) => some (.nx (ρ.set i (.o (.lst [])))) | _ => none := rfl
@[simp] theorem sAll_ap {mt : M Bool} {c : Bool} : sAll i j mt c ρ = match ρ[j]? with | some (.o (.lst xs)) => if i ≠ j then allL i mt c (ρ.set j (.d (.list xs))) xs ρ else none | _ => none := rfl
@[simp] theorem mLcO_ap {mi : M (List PD)} {me : M Rs} : mLcO i mi me ρ = match mi ρ with | some (.ok xs) => lcLO i me ρ xs [] | some (.ex c) => some (.ex c) | none => none := rfl
@[simp] theorem mPairA_ap {ma : M PD} {me : M Rs} : mPairA ma me ρ = bS (ma ρ) (fun x => mb me fun r => ml (match r with | .o (.arr none os) => some (.o (.arr (some x) os)) | _ => none)) ρ := rfl
@[simp] theorem sAppN_ap {c : Bool} {mn me : M PD} : sAppN i c mn me ρ = match ρ[i]?, mn ρ, me ρ with | some (.o (.arr x os)), some (.ok (.int n)), some (.ok y) => (match os[n.toNat]? with | some (.lst ys) => if x.isSome = c ∧ 0 ≤ n ∧ ys.length < big then some (.nx (ρ.set i (.o (.arr x (os.set n.toNat (.lst (ys ++ [y]))))))) else none | _ => none) | _, _, _ => none := rfl
@[simp] theorem sClrN_ap {c : Bool} : sClrN i c ρ = match ρ[i]? with | some (.o (.arr x _)) => if x.isSome = c then some (.nx (ρ.set i .no)) else none | _ => none := rfl
@[simp] theorem data_a {os : List Ob} : (Rs.o (.arr none os)).data = some (.list (os.map Ob.dat)) := rfl
@[simp] theorem data_a1 {os : List Ob} : (Rs.o (.arr (some x) os)).data = some (.tuple [x, .list (os.map Ob.dat)]) := rfl
theorem defD_ap {m : MS} {ds : List PD} : defD n i m ds = if ds.length = n then finD (m (ds.map .d ++ List.replicate (i - n) .no)) else none := rfl
@[simp] theorem finD_nx : finD (some (.nx ρ)) = some (.ok (.d .none)) := rfl
@[simp] theorem finD_rt {r : Rs} : finD (some (.rt r)) = some (.ok r) := rfl
@[simp] theorem finD_ex {c : Addr} : finD (some (.ex c)) = some (.ex c) := rfl
@[simp] theorem data_d : (Rs.d x).data = some x := rfl
@[simp] theorem data_l {xs : List PD} : (Rs.o (.lst xs)).data = some (.list xs) := rfl
@[simp] theorem data_b {xs : List PD} : (Rs.o (.box x xs)).data = some (.tuple [x, .list xs]) := rfl
@[simp] theorem sl_d : (Rs.d x).sl = .d x := rfl
@[simp] theorem sl_o {s : Ow} : (Rs.o s).sl = .o s := rfl
@[simp] theorem asB_b {c : Bool} : asB (.bool c) = some c := rfl
@[simp] theorem asI_i {z : Int} : asI (.int z) = some z := rfl
@[simp] theorem asT_s {z : Str} : asT (.str z) = some z := rfl
@[simp] theorem asSeq_l {xs : List PD} : asSeq (.list xs) = some xs := rfl
@[simp] theorem asSeq_t {xs : List PD} : asSeq (.tuple xs) = some xs := rfl
@[simp] theorem asSeq_s {z : Str} : asSeq (.str z) = some (chars z) := rfl
@[simp] theorem asRev_l {xs : List PD} : asRev [.list xs] = some xs.reverse := rfl
@[simp] theorem flat_i {z : Int} : isFlat (.int z) = true := rfl
@[simp] theorem flat_b {c : Bool} : isFlat (.bool c) = true := rfl
@[simp] theorem flat_n : isFlat .none = true := rfl
@[simp] theorem flat_s {z : Str} : isFlat (.str z) = true := rfl
@[simp] theorem fLen_l {xs : List PD} : fLen [.list xs] = some (.d (.int xs.length)) := rfl
@[simp] theorem fLen_t {xs : List PD} : fLen [.tuple xs] = some (.d (.int xs.length)) := rfl
@[simp] theorem fLen_scr {ns : List Int} : fLen [scrD ns] = some (.d (.int ns.length)) := by
  show (if isScr (ns.map fun n => ((PyData.int n : PD), (PyData.none : PD))) = true then some (Rs.d (.int (ns.map fun n => ((PyData.int n : PD), (PyData.none : PD))).length)) else none) = _
  rw [if_pos (by cases ns <;> rfl), List.length_map]
@[simp] theorem fList_l {xs : List PD} : fList [.list xs] = some (.o (.lst xs)) := rfl
section
variable {p q : Int} {s t : Str}
@[simp] theorem fAdd_i : fAdd (.int p) (.int q) = some (.int (p + q)) := rfl
@[simp] theorem fAdd_l {xs ys : List PD} : fAdd (.list xs) (.list ys) = if xs.length + ys.length ≤ big then some (.list (xs ++ ys)) else none := rfl
@[simp] theorem fAdd_s : fAdd (.str s) (.str t) = if s.length + t.length ≤ big then some (.str (s ++ t)) else none := by
  show (match (if s.length + t.length ≤ big then some (PyData.str (s ++ t)) else none) with | some z => some z | none => none) = _
  split <;> simp_all
@[simp] theorem fSub_i : fSub (.int p) (.int q) = some (.int (p - q)) := rfl
theorem fMul_i : fMul (.int p) (.int q) = if mulOk p q = true then some (.int (p * q)) else none := by
  show (match (if mulOk p q = true then some (PyData.int (p * q)) else none) with | some z => some z | none => none) = _
  split <;> simp_all
theorem fDiv_i : fDiv (.int p) (.int q) = if divOk p q = true then some (.int (Int.fdiv p q)) else none := rfl
theorem fMod_i : fMod (.int p) (.int q) = if modOk p q = true then some (.int (Int.fmod p q)) else none := rfl
theorem fDiv_pos (h : 0 < q) (h2 : q < 1073741824) : fDiv (.int p) (.int q) = some (.int (p / q)) := by
  rw [fDiv_i, Int.fdiv_eq_ediv_of_nonneg _ (by omega), if_pos]
  unfold divOk
  simp only [Bool.and_eq_true, decide_eq_true_eq]
  omega
theorem fMod_pos (h : 0 < q) : fMod (.int p) (.int q) = some (.int (p % q)) := by
  rw [fMod_i, Int.fmod_eq_emod_of_nonneg _ (by omega), if_pos]
  unfold modOk
  simp only [decide_eq_true_eq]
  omega
@[simp] theorem fNeg_i : fNeg (.int p) = some (.int (-p)) := rfl
@[simp] theorem fLt_i : fLt (.int p) (.int q) = some (.bool (decide (p < q))) := rfl
@[simp] theorem fLe_i : fLe (.int p) (.int q) = some (.bool (decide (p ≤ q))) := rfl
@[simp] theorem fGt_i : fGt (.int p) (.int q) = some (.bool (decide (q < p))) := rfl
@[simp] theorem fGe_i : fGe (.int p) (.int q) = some (.bool (decide (q ≤ p))) := rfl
@[simp] theorem fIsN_n {c : Bool} : fIsN c x .none = some (.bool (if c then !isN x else isN x)) := rfl
@[simp] theorem isN_n : isN .none = true := rfl
@[simp] theorem isN_i : isN (.int p) = false := rfl
@[simp] theorem isN_l {xs : List PD} : isN (.list xs) = false := rfl
@[simp] theorem isN_t {xs : List PD} : isN (.tuple xs) = false := rfl
theorem fEq_ap (h1 : SeqAt.shaped x = true) (h2 : SeqAt.shaped y = true) : fEq x y = some (.bool (PyData.eqv x y)) := by unfold fEq; rw [h1, h2]; rfl
theorem fNe_ap (h1 : SeqAt.shaped x = true) (h2 : SeqAt.shaped y = true) : fNe x y = some (.bool (!PyData.eqv x y)) := by unfold fNe; rw [h1, h2]; rfl
theorem fIn_ap {c : Bool} {ds : List PD} (h1 : SeqAt.shaped x = true) (h2 : SeqAt.shaped (.list ds) = true) : fIn c x (.list ds) = some (.bool (if c then !(ds.any fun z => PyData.eqv z x) else ds.any fun z => PyData.eqv z x)) := by
  have e : fInL c x (.list ds) = some (.bool (if c then !(ds.any fun z => PyData.eqv z x) else ds.any fun z => PyData.eqv z x)) := by show (if (SeqAt.shaped x && SeqAt.shaped (.list ds)) = true then _ else _) = _; rw [h1, h2]; rfl
  unfold fIn orF
  rw [e]
@[simp] theorem fEq_i : fEq (.int p) (.int q) = some (.bool (decide (p = q))) := by
  rw [fEq_ap rfl rfl]
  unfold PyData.eqv
  rw [Bool.beq_eq_decide_eq]
@[simp] theorem fNe_i : fNe (.int p) (.int q) = some (.bool (!decide (p = q))) := by
  rw [fNe_ap rfl rfl]
  unfold PyData.eqv
  rw [Bool.beq_eq_decide_eq]
end
end
/-! ### shapes -/
theorem lay_all : ∀ {xs : List PD}, (∀ x ∈ xs, x.canLay0 = true) → PyData.canLayAll0 xs = true
  | [], _ => by simp [PyData.canLayAll0]
  | x :: xs, h => by simp [PyData.canLayAll0, h x List.mem_cons_self, lay_all fun y hy => h y (List.mem_cons_of_mem _ hy)]
theorem dep_all {n : Nat} : ∀ {xs : List PD}, (∀ x ∈ xs, x.depth ≤ n) → PyData.depthAll xs ≤ n
  | [], _ => by simp [PyData.depthAll]
  | x :: xs, h => by
    have h1 := h x List.mem_cons_self
    have h2 := dep_all fun y hy => h y (List.mem_cons_of_mem _ hy)
    simp only [PyData.depthAll]
    omega
/-- data that may be compared, at most n deep -/
structure Shp (n : Nat) (x : PD) : Prop where
  lay : x.canLay0 = true
  dep : x.depth ≤ n
theorem Shp.mono {n m : Nat} {x : PD} (h : Shp n x) (hm : n ≤ m) : Shp m x := ⟨h.lay, Nat.le_trans h.dep hm⟩
theorem Shp.list {n : Nat} {xs : List PD} (h : ∀ x ∈ xs, Shp n x) : Shp (n + 1) (.list xs) :=
  ⟨by simp only [PyData.canLay0]; exact lay_all fun x hx => (h x hx).lay, by simp only [PyData.depth]; have := dep_all fun x hx => (h x hx).dep; omega⟩
theorem Shp.tuple {n : Nat} {xs : List PD} (h : ∀ x ∈ xs, Shp n x) : Shp (n + 1) (.tuple xs) :=
  ⟨by simp only [PyData.canLay0]; exact lay_all fun x hx => (h x hx).lay, by simp only [PyData.depth]; have := dep_all fun x hx => (h x hx).dep; omega⟩
theorem Shp.int (i : Int) : Shp 0 (.int i) := ⟨by simp [PyData.canLay0], by simp [PyData.depth]⟩
theorem Shp.bool (i : Bool) : Shp 0 (.bool i) := ⟨by simp [PyData.canLay0], by simp [PyData.depth]⟩
theorem Shp.none : Shp 0 .none := ⟨by simp [PyData.canLay0], by simp [PyData.depth]⟩
theorem Shp.ok {n : Nat} {x : PD} (h : Shp n x) (hn : n ≤ 64 := by decide) : SeqAt.shaped x = true := by
  show (x.canLay0 && decide (x.depth ≤ 64)) = true
  rw [Bool.and_eq_true]
  exact ⟨h.lay, decide_eq_true (Nat.le_trans h.dep hn)⟩
/-- data that stands for an α, told apart by == -/
structure Enc {α : Type} [DecidableEq α] (n : Nat) (f : α → PD) : Prop where
  shp : ∀ a, Shp n (f a)
  eqv : ∀ a b, PyData.eqv (f a) (f b) = decide (a = b)
theorem eqvAll_map {α : Type} [DecidableEq α] {f : α → PD} (h : ∀ a b, PyData.eqv (f a) (f b) = decide (a = b)) : ∀ l m : List α, PyData.eqvAll (l.map f) (m.map f) = decide (l = m)
  | [], [] => by simp [PyData.eqvAll]
  | [], _ :: _ => by simp [PyData.eqvAll]
  | _ :: _, [] => by simp [PyData.eqvAll]
  | a :: l, b :: m => by
    simp only [List.map_cons, PyData.eqvAll, h, eqvAll_map h l m, List.cons.injEq]
    rw [Bool.decide_and]
theorem Enc.list {α : Type} [DecidableEq α] {n : Nat} {f : α → PD} (h : Enc n f) : Enc (n + 1) (fun l : List α => PyData.list (l.map f)) :=
  ⟨fun l => Shp.list fun x hx => by obtain ⟨a, _, rfl⟩ := List.mem_map.mp hx; exact h.shp a, fun l m => by simp only [PyData.eqv]; exact eqvAll_map h.eqv l m⟩
theorem Enc.int : Enc 0 PyData.int := ⟨Shp.int, fun a b => by unfold PyData.eqv; rw [Bool.beq_eq_decide_eq]⟩
theorem Enc.any {α : Type} [DecidableEq α] {n : Nat} {f : α → PD} (h : Enc n f) (l : List α) (a : α) : ((l.map f).any fun z => PyData.eqv z (f a)) = decide (a ∈ l) := by
  rw [List.any_map, Bool.eq_iff_iff, List.any_eq_true, decide_eq_true_eq]
  constructor
  · rintro ⟨b, hb, e⟩
    have e' : PyData.eqv (f b) (f a) = true := e
    rw [h.eqv, decide_eq_true_eq] at e'
    exact e' ▸ hb
  · intro ha
    refine ⟨a, ha, ?_⟩
    show PyData.eqv (f a) (f a) = true
    rw [h.eqv]
    simp
theorem Enc.fEq {α : Type} [DecidableEq α] {n : Nat} {f : α → PD} (h : Enc n f) (a b : α) (hn : n ≤ 64 := by decide) : fEq (f a) (f b) = some (.bool (decide (a = b))) := by rw [fEq_ap ((h.shp a).ok hn) ((h.shp b).ok hn), h.eqv]
theorem Enc.fNe {α : Type} [DecidableEq α] {n : Nat} {f : α → PD} (h : Enc n f) (a b : α) (hn : n ≤ 64 := by decide) : fNe (f a) (f b) = some (.bool (!decide (a = b))) := by rw [fNe_ap ((h.shp a).ok hn) ((h.shp b).ok hn), h.eqv]
theorem Enc.fIn {α : Type} [DecidableEq α] {n : Nat} {f : α → PD} (h : Enc n f) (c : Bool) (l : List α) (a : α) (hn : n ≤ 63 := by decide) : fIn c (f a) (.list (l.map f)) = some (.bool (if c then !decide (a ∈ l) else decide (a ∈ l))) := by
  rw [fIn_ap ((h.shp a).ok (by omega)) ((h.list.shp l).ok (by omega)), h.any]
abbrev dL (w : List Int) : PD := .list (w.map .int)
abbrev dW (ws : List (List Int)) : PD := .list (ws.map dL)
theorem encL : Enc 1 dL := Enc.int.list
theorem encW : Enc 2 dW := encL.list
theorem rngI_nat (n : Nat) : rngI 0 (n : Int) = (List.range n).map fun (i : Nat) => (i : Int) := by
  unfold rngI
  simp
theorem small_nat {n : Nat} (h : n ≤ 1000) : small (n : Int) = true := by
  unfold small
  simp only [Bool.and_eq_true, decide_eq_true_eq]
  omega
@[simp] theorem rng1_nat {n : Nat} (h : n ≤ 1000) : asRng1 [.int (n : Int)] = some ((List.range n).map fun (i : Nat) => .int (i : Int)) := by
  show (if small (n : Int) = true then _ else _) = _
  rw [if_pos (small_nat h), rngI_nat, List.map_map]
  rfl
theorem atI_lt {α : Type} {xs : List α} {k : Nat} (h : k < xs.length) : atI xs (k : Int) = some xs[k] := atI_nat (List.getElem?_eq_getElem h)
@[simp] theorem fIx_l {xs : List PD} {i : Int} : fIx (.list xs) (.int i) = atI xs i := rfl
@[simp] theorem fIx_t {xs : List PD} {i : Int} : fIx (.tuple xs) (.int i) = atI xs i := rfl
theorem fIx_scr {ns : List Int} {k : Nat} (h : k < ns.length) : fIx (scrD ns) (.int (k : Int)) = some (.int ns[k]) := by
  show (if isScr (ns.map fun n => ((PyData.int n : PD), (PyData.none : PD))) = true then (atI (ns.map fun n => ((PyData.int n : PD), (PyData.none : PD))) (k : Int)).map Prod.fst else none) = _
  rw [if_pos (by cases ns <;> rfl), atI_lt (by simpa using h)]
  simp
/-! ### loops that stop at the first item of a kind -/
def Stops : Out → Prop
  | .rt _ => True
  | .ex _ => True
  | _ => False
theorem forL_stop {i : Nat} {b : MS} {X : Out} (hX : Stops X) {x : PD} {xs : List PD} {ρ : List Sl} (h : b (ρ.set i (.d x)) = some X) : forL i b (x :: xs) ρ = some X := by
  unfold forL
  rw [h]
  cases X with
  | rt _ => rfl
  | ex _ => rfl
  | nx _ => exact hX.elim
  | bk _ => exact hX.elim
  | ct _ => exact hX.elim
theorem forL_first {α : Type} {i : Nat} {b : MS} {X : Out} (hX : Stops X) (f : α → PD) (t : α → Bool) (I : List Sl → Prop) : ∀ (l : List α) (ρ : List Sl), I ρ →
    (∀ a ∈ l, ∀ ρ, I ρ → (t a = true → b (ρ.set i (.d (f a))) = some X) ∧ (t a = false → ∃ ρ', b (ρ.set i (.d (f a))) = some (.nx ρ') ∧ I ρ')) →
    (l.any t = true ∧ forL i b (l.map f) ρ = some X) ∨ (l.any t = false ∧ ∃ ρ', forL i b (l.map f) ρ = some (.nx ρ') ∧ I ρ')
  | [], ρ, h, _ => .inr ⟨rfl, ρ, rfl, h⟩
  | a :: l, ρ, h, hs => by
    have z := hs a List.mem_cons_self ρ h
    rw [List.map_cons, List.any_cons]
    cases e : t a with
    | true => exact .inl ⟨rfl, forL_stop hX (z.1 e)⟩
    | false =>
      obtain ⟨ρ', e2, h2⟩ := z.2 e
      have e3 : forL i b (f a :: l.map f) ρ = forL i b (l.map f) ρ' := by
        rw [forL, e2]
      rw [e3, Bool.false_or]
      exact forL_first hX f t I l ρ' h2 fun a ha => hs a (List.mem_cons_of_mem _ ha)
theorem forL_firstAt {α : Type} {i : Nat} {b : MS} {X : Out} {xs : List PD} {ρ : List Sl} {o : Option Out} (hf : forL i b xs ρ = o) (l : List α) (f : α → PD) (hx : xs = l.map f) (hX : Stops X) (t : α → Bool) (I : List Sl → Prop) (h0 : I ρ)
    (hs : ∀ a ∈ l, ∀ ρ, I ρ → (t a = true → b (ρ.set i (.d (f a))) = some X) ∧ (t a = false → ∃ ρ', b (ρ.set i (.d (f a))) = some (.nx ρ') ∧ I ρ')) :
    (l.any t = true ∧ o = some X) ∨ (l.any t = false ∧ ∃ ρ', o = some (.nx ρ') ∧ I ρ') := by
  subst hx
  subst hf
  exact forL_first hX f t I l ρ h0 hs
theorem fSorted_i {ns : List Int} (h : ns.length < 64) : fSorted [dL ns] = some (.o (.lst ((sortI ns).map .int))) := by
  show ((asInts (ns.map .int)).bind _) = _
  rw [asInts_map]
  show (if ns.length < 64 then _ else _) = _
  rw [if_pos h]
theorem atI_neg {α : Type} (xs : List α) : atI xs (-1) = xs.getLast? := by
  cases e : xs.getLast? with
  | none =>
    rw [List.getLast?_eq_none_iff] at e
    subst e
    rfl
  | some v =>
    obtain ⟨ys, rfl⟩ := List.getLast?_eq_some_iff.mp e
    exact atI_last ys v
theorem atI_0 {α : Type} (xs : List α) : atI xs 0 = xs[0]? := by
  cases xs with
  | nil => rfl
  | cons x xs => exact atI_nat (j := 0) rfl
@[simp] theorem sFixA_ap {i : Nat} {m : MS} {ρ : List Sl} : sFixA i m ρ = fixS i (m ρ) := rfl
@[simp] theorem fixS_nx {i : Nat} {ρ : List Sl} : fixS i (some (.nx ρ)) = match ρ[i]? with | some (.o (.lst xs)) => some (.nx (ρ.set i (.d (.list xs)))) | _ => some (.nx ρ) := rfl
@[simp] theorem fixS_rt {i : Nat} {r : Rs} : fixS i (some (.rt r)) = some (.rt r) := rfl
@[simp] theorem fixS_ex {i : Nat} {c : Addr} : fixS i (some (.ex c)) = some (.ex c) := rfl
@[simp] theorem atI_map_lt {α β : Type} {f : α → β} {xs : List α} {k : Nat} (h : k < xs.length) : atI (xs.map f) (k : Int) = some (f xs[k]) := by
  rw [atI_lt (by simpa using h)]
  simp
@[simp] theorem atI_c0 {α : Type} {x : α} {xs : List α} : atI (x :: xs) 0 = some x := by rw [atI_0]; rfl
@[simp] theorem atI_c1 {α : Type} {x y : α} {xs : List α} : atI (x :: y :: xs) 1 = some y := atI_nat (j := 1) rfl
@[simp] theorem ml_none {α : Type} {ρ : List Sl} : ml (none : Option α) ρ = none := rfl
@[simp] theorem bS_none {α β : Type} {ρ : List Sl} {k : α → M β} : bS none k ρ = none := rfl
@[simp] theorem ifS_none {ρ : List Sl} {a b : MS} : ifS none a b ρ = none := rfl
@[simp] theorem thenS_none {b : MS} : thenS none b = none := rfl
theorem fEq_refl {x : PD} {n : Nat} (h : Shp n x) (hn : n ≤ 64 := by decide) : fEq x x = some (.bool true) := by rw [fEq_ap (h.ok hn) (h.ok hn), PySem.SeqAt.eqv_refl x h.lay]
theorem fNe_refl {x : PD} {n : Nat} (h : Shp n x) (hn : n ≤ 64 := by decide) : fNe x x = some (.bool false) := by rw [fNe_ap (h.ok hn) (h.ok hn), PySem.SeqAt.eqv_refl x h.lay]; rfl
@[simp] theorem fEq_b {a b : Bool} : fEq (.bool a) (.bool b) = some (.bool (a == b)) := by
  rw [fEq_ap rfl rfl]
  unfold PyData.eqv
  rfl
@[simp] theorem fNe_b {a b : Bool} : fNe (.bool a) (.bool b) = some (.bool (!(a == b))) := by
  rw [fNe_ap rfl rfl]
  unfold PyData.eqv
  rfl
@[simp] theorem isi_ii {z : Int} : fIsi "int" (.int z) = some (.bool true) := rfl
@[simp] theorem isi_bi {z : Int} : fIsi "bool" (.int z) = some (.bool false) := rfl
@[simp] theorem isi_bb {z : Bool} : fIsi "bool" (.bool z) = some (.bool true) := rfl
@[simp] theorem isi_ll {z : List PD} : fIsi "list" (.list z) = some (.bool true) := rfl
@[simp] theorem isi_tt {z : List PD} : fIsi "tuple" (.tuple z) = some (.bool true) := rfl
@[simp] theorem isi_ss {z : Str} : fIsi "str" (.str z) = some (.bool true) := rfl
theorem Enc.nat : Enc 0 fun (i : Nat) => PyData.int (i : Int) := ⟨fun i => Shp.int i, fun a b => by
  unfold PyData.eqv
  rw [Bool.beq_eq_decide_eq]
  exact decide_eq_decide.mpr ⟨fun h => by omega, fun h => by omega⟩⟩
theorem allL_none {i : Nat} {mt : M Bool} {c : Bool} {ρ1 : List Sl} : ∀ (xs : List PD) (ρ : List Sl), i < ρ.length → (∀ x ∈ xs, isFlat x = true ∧ mt (ρ1.set i (.d x)) = some (.ok false)) → ∃ s, allL i mt c ρ1 xs ρ = some (.nx (ρ.set i s))
  | [], ρ, hi, _ => ⟨ρ[i], by simp [allL]⟩
  | x :: xs, ρ, hi, h => by
    obtain ⟨h1, h2⟩ := h x List.mem_cons_self
    obtain ⟨s, hs⟩ := allL_none xs (ρ.set i (.d x)) (by simpa using hi) (fun y hy => h y (List.mem_cons_of_mem _ hy))
    refine ⟨s, ?_⟩
    unfold allL
    rw [if_pos h1, h2]
    show allL i mt c ρ1 xs (ρ.set i (.d x)) = _
    rw [hs, List.set_set]
@[simp] theorem rng1_2 : asRng1 [.int 2] = some [.int 0, .int 1] := rfl
@[simp] theorem forL_nil {i : Nat} {b : MS} {ρ : List Sl} : forL i b [] ρ = some (.nx ρ) := rfl
/-- one turn of a loop -/
def goS (o : Option Out) (k : MS) : Option Out := match o with
  | some (.nx ρ') => k ρ'
  | some (.ct ρ') => k ρ'
  | some (.bk ρ') => some (.nx ρ')
  | r => r
theorem forL_cons {i : Nat} {b : MS} {x : PD} {xs : List PD} {ρ : List Sl} : forL i b (x :: xs) ρ = goS (b (ρ.set i (.d x))) (forL i b xs) := rfl
@[simp] theorem goS_nx {k : MS} {ρ : List Sl} : goS (some (.nx ρ)) k = k ρ := rfl
@[simp] theorem goS_ct {k : MS} {ρ : List Sl} : goS (some (.ct ρ)) k = k ρ := rfl
@[simp] theorem goS_bk {k : MS} {ρ : List Sl} : goS (some (.bk ρ)) k = some (.nx ρ) := rfl
@[simp] theorem goS_rt {k : MS} {r : Rs} : goS (some (.rt r)) k = some (.rt r) := rfl
@[simp] theorem goS_ex {k : MS} {c : Addr} : goS (some (.ex c)) k = some (.ex c) := rfl
@[simp] theorem fEq_t2 {a b c d : Int} : fEq (.tuple [.int a, .int b]) (.tuple [.int c, .int d]) = some (.bool (decide (a = c ∧ b = d))) := by
  rw [fEq_ap rfl rfl]
  simp [PyData.eqv, PyData.eqvAll, Bool.decide_and, Bool.beq_eq_decide_eq]
@[simp] theorem fNe_t2 {a b c d : Int} : fNe (.tuple [.int a, .int b]) (.tuple [.int c, .int d]) = some (.bool (!decide (a = c ∧ b = d))) := by
  rw [fNe_ap rfl rfl]
  simp [PyData.eqv, PyData.eqvAll, Bool.decide_and, Bool.beq_eq_decide_eq]
@[simp] theorem fMax_i {p q : Int} : fMax [.int p, .int q] = some (.d (.int (if q > p then q else p))) := rfl
@[simp] theorem fMin_i {p q : Int} : fMin [.int p, .int q] = some (.d (.int (if q < p then q else p))) := rfl
@[simp] theorem mIxO_ap {i : Nat} {mn : M PD} {ρ : List Sl} : mIxO i mn ρ = match ρ[i]?, mn ρ with | some (.o (.lst xs)), some (.ok (.int n)) => (atI xs n).map .ok | _, _ => none := rfl
@[simp] theorem mIsE_ap {i : Nat} {a : Addr} {b : Bool} {ρ : List Sl} : mIsE i a b ρ = match ρ[i]? with | some (.e a') => if a' = a then some (.ok (.bool b)) else none | _ => none := rfl
@[simp] theorem offE_nx {i : Nat} {ρ : List Sl} : offE i (some (.nx ρ)) = some (.nx (ρ.set i .no)) := rfl
@[simp] theorem offE_rt {i : Nat} {r : Rs} : offE i (some (.rt r)) = some (.rt r) := rfl
theorem sTry_ok {i : Nat} {set : Option Nat} {g : GF} {ma : M (List PD)} {cs : List Addr} {suite : Addr → Addr → MS} {ρ : List Sl} {xs : List PD} {r : Rs} (h : ma ρ = some (.ok xs)) (hg : g xs = some (.ok r)) : sTry i set g ma cs suite ρ = some (.nx (putR set r ρ)) := by
  unfold sTry
  simp only [h, hg]
theorem sTry_ex {i : Nat} {set : Option Nat} {g : GF} {ma : M (List PD)} {cs : List Addr} {suite : Addr → Addr → MS} {ρ : List Sl} {xs : List PD} {c : Addr} {y : Out} (h : ma ρ = some (.ok xs)) (hg : g xs = some (.ex c)) (hc : c ∈ cs) (hy : ∀ a, offE i (suite c a (ρ.set i (.e a))) = some y) : sTry i set g ma cs suite ρ = some y := by
  unfold sTry
  simp only [h, hg]
  rw [if_pos hc]
  exact unif_eq hy
@[simp] theorem putR_none {r : Rs} {ρ : List Sl} : putR none r ρ = ρ := rfl
@[simp] theorem putR_some {j : Nat} {r : Rs} {ρ : List Sl} : putR (some j) r ρ = ρ.set j r.sl := rfl
@[simp] theorem atI_c2 {α : Type} {x y z : α} {xs : List α} : atI (x :: y :: z :: xs) 2 = some z := atI_nat (j := 2) rfl
@[simp] theorem atI_c3 {α : Type} {x y z u : α} {xs : List α} : atI (x :: y :: z :: u :: xs) 3 = some u := atI_nat (j := 3) rfl
@[simp] theorem fInt_i {p : Int} : fInt [.int p] = some (.d (.int p)) := rfl
@[simp] theorem fInt_b {b : Bool} : fInt [.bool b] = some (.d (.int (if b then 1 else 0))) := rfl
theorem fMul_l {xs : List PD} {n : Int} : fMul (.list xs) (.int n) = if xs.length * n.toNat ≤ big ∧ -1000 ≤ n ∧ n ≤ 1000 then some (.list (List.replicate n.toNat xs).flatten) else none := rfl
/-! ### loops by a test -/
theorem whl_go {c : M Bool} {b : MS} (I : List Sl → Prop) (μ : List Sl → Nat) (Q : Out → Prop) (hs : ∀ ρ, I ρ → (c ρ = some (.ok false) ∧ Q (.nx ρ)) ∨ (c ρ = some (.ok true) ∧ ∃ o, b ρ = some o ∧ ((∃ ρ', o = .nx ρ' ∧ I ρ' ∧ μ ρ' < μ ρ) ∨ (∃ r, o = .rt r ∧ Q o)))) :
    ∀ (n : Nat) (ρ : List Sl), I ρ → μ ρ < n → ∃ o, whlF c b n ρ = some o ∧ Q o
  | 0, _, _, h => by omega
  | n + 1, ρ, hI, hn => by
    unfold whlF
    rcases hs ρ hI with ⟨e, q⟩ | ⟨e, o, eo, h⟩
    · rw [e]
      exact ⟨.nx ρ, rfl, q⟩
    · rw [e]
      show ∃ o', (match b ρ with | some (.nx ρ') => whlF c b n ρ' | some (.ct ρ') => whlF c b n ρ' | some (.bk ρ') => some (.nx ρ') | r => r) = some o' ∧ Q o'
      rw [eo]
      rcases h with ⟨ρ', rfl, h1, h2⟩ | ⟨r, rfl, h1⟩
      · exact whl_go I μ Q hs n ρ' h1 (by omega)
      · exact ⟨.rt r, rfl, h1⟩
theorem whl_at {c : M Bool} {b : MS} {n : Nat} {ρ : List Sl} {o : Option Out} (hf : whlF c b n ρ = o) (I : List Sl → Prop) (μ : List Sl → Nat) (Q : List Sl → Prop) (h0 : I ρ) (hn : μ ρ < n) (hs : ∀ ρ, I ρ → (c ρ = some (.ok false) ∧ Q ρ) ∨ (c ρ = some (.ok true) ∧ ∃ ρ', b ρ = some (.nx ρ') ∧ I ρ' ∧ μ ρ' < μ ρ)) : ∃ ρ', o = some (.nx ρ') ∧ Q ρ' := by
  obtain ⟨o', e, q⟩ := whl_go I μ (fun o => ∃ ρ', o = .nx ρ' ∧ Q ρ') (fun ρ h => by
    rcases hs ρ h with ⟨e, q⟩ | ⟨e, ρ', e2, h1, h2⟩
    · exact .inl ⟨e, ρ, rfl, q⟩
    · exact .inr ⟨e, _, e2, .inl ⟨ρ', rfl, h1, h2⟩⟩) n ρ h0 hn
  obtain ⟨ρ', rfl, q⟩ := q
  exact ⟨ρ', by rw [← hf, e], q⟩
/-! ### dicts -/
@[simp] theorem asKey_2 {a b : Int} : asKey (.tuple [.int a, .int b]) = some [a, b] := rfl
@[simp] theorem okV_n : okV .none = true := rfl
@[simp] theorem okV_2 {a b : Int} : okV (.tuple [.int a, .int b]) = true := rfl
@[simp] theorem fDGet_d {kvs : List (List Int × PD)} {a b : Int} : fDGet (dctD kvs) (.tuple [.int a, .int b]) = valP kvs [a, b] := by
  unfold fDGet
  rw [asDct_dct]
  rfl
@[simp] theorem fDIn_d {neg : Bool} {kvs : List (List Int × PD)} {a b : Int} : fDIn neg (.tuple [.int a, .int b]) (dctD kvs) = some (.bool (if neg then !(valP kvs [a, b]).isSome else (valP kvs [a, b]).isSome)) := by
  unfold fDIn
  rw [asDct_dct]
  rfl
@[simp] theorem mDNinO_ap {i : Nat} {m : M PD} {ρ : List Sl} : mDNinO i m ρ = match ρ[i]?, m ρ with | some (.o (.dic kvs)), some (.ok y) => (asKey y).map (fun k => .ok (.bool (!(valP kvs k).isSome))) | _, _ => none := rfl
@[simp] theorem sDPut_ap {i : Nat} {mv mk : M PD} {ρ : List Sl} : sDPut i mv mk ρ = match ρ[i]?, mv ρ, mk ρ with | some (.o (.dic kvs)), some (.ok x), some (.ok y) => (asKey y).bind (fun k => if okV x = true ∧ kvs.length < big then some (.nx (ρ.set i (.o (.dic (putP kvs k x))))) else none) | _, _, _ => none := rfl
@[simp] theorem mDNew_ap {m : M PD} {ρ : List Sl} : mDNew m ρ = match m ρ with | some (.ok y) => (asKey y).map (fun k => .ok (.o (.dic [(k, .none)]))) | _ => none := rfl
@[simp] theorem sFrz_ap {i : Nat} {m : MS} {ρ : List Sl} : sFrz i m ρ = match ρ[i]? with | some (.o (.dic kvs)) => m (ρ.set i (.d (dctD kvs))) | _ => none := rfl
@[simp] theorem sForD_ap {i : Nat} {m : M PD} {b : MS} {ρ : List Sl} : sForD i m b ρ = match m ρ with | some (.ok x) => (asDct x).bind (fun kvs => forL i b (kvs.map fun p => .tuple (p.1.map .int)) ρ) | _ => none := rfl
@[simp] theorem sDUpd_ap {i : Nat} {m : M PD} {ρ : List Sl} : sDUpd i m ρ = match ρ[i]?, m ρ with | some (.o (.dic kvs)), some (.ok x) => (asDct x).bind (fun more => if kvs.length + more.length ≤ big ∧ (kvs ≠ [] ∨ ((more.all fun p => smallK p.1) = true ∧ (more.map (·.1)).Nodup)) then some (.nx (ρ.set i (.o (.dic (mergeP kvs more))))) else none) | _, _ => none := rfl
/-- the number in a slot; the length of a list that only a slot knows -/
def slN (i : Nat) (ρ : List Sl) : Nat := match ρ[i]? with
  | some (.d (.int n)) => n.toNat
  | _ => 0
def slLen (i : Nat) (ρ : List Sl) : Nat := match ρ[i]? with
  | some (.o (.lst xs)) => xs.length
  | _ => 0
/-- a loop that returns at the first item of which something comes -/
theorem forL_some {α β : Type} {i : Nat} {b : MS} (f : α → PD) (p : α → Option β) (R : β → Rs) (I : List Sl → Prop) : ∀ (l : List α) (ρ : List Sl), I ρ →
    (∀ a ∈ l, ∀ ρ, I ρ → (∀ y, p a = some y → b (ρ.set i (.d (f a))) = some (.rt (R y))) ∧ (p a = none → ∃ ρ', b (ρ.set i (.d (f a))) = some (.nx ρ') ∧ I ρ')) →
    (∃ y, l.findSome? p = some y ∧ forL i b (l.map f) ρ = some (.rt (R y))) ∨ (l.findSome? p = none ∧ ∃ ρ', forL i b (l.map f) ρ = some (.nx ρ') ∧ I ρ')
  | [], ρ, h, _ => .inr ⟨rfl, ρ, rfl, h⟩
  | a :: l, ρ, h, hs => by
    have z := hs a List.mem_cons_self ρ h
    rw [List.map_cons, List.findSome?_cons]
    cases e : p a with
    | some y => exact .inl ⟨y, rfl, forL_stop (X := .rt (R y)) True.intro (z.1 y e)⟩
    | none =>
      obtain ⟨ρ', e2, h2⟩ := z.2 e
      have e3 : forL i b (f a :: l.map f) ρ = forL i b (l.map f) ρ' := by rw [forL, e2]
      rw [e3]
      exact forL_some f p R I l ρ' h2 fun a ha => hs a (List.mem_cons_of_mem _ ha)
theorem forL_someAt {α β : Type} {i : Nat} {b : MS} {xs : List PD} {ρ : List Sl} {o : Option Out} (hf : forL i b xs ρ = o) (l : List α) (f : α → PD) (hx : xs = l.map f) (p : α → Option β) (R : β → Rs) (I : List Sl → Prop) (h0 : I ρ)
    (hs : ∀ a ∈ l, ∀ ρ, I ρ → (∀ y, p a = some y → b (ρ.set i (.d (f a))) = some (.rt (R y))) ∧ (p a = none → ∃ ρ', b (ρ.set i (.d (f a))) = some (.nx ρ') ∧ I ρ')) :
    (∃ y, l.findSome? p = some y ∧ o = some (.rt (R y))) ∨ (l.findSome? p = none ∧ ∃ ρ', o = some (.nx ρ') ∧ I ρ') := by
  subst hx
  subst hf
  exact forL_some f p R I l ρ h0 hs
theorem fLeS_i {ns : List Int} (h : ns.length < 64) : fLeS (dL ns) = some (.d (.int (usort ns).length)) := by
  show ((asInts (ns.map .int)).bind _) = _
  rw [asInts_map]
  show (if ns.length < 64 then _ else _) = _
  rw [if_pos h]
theorem fSoS_i {ns : List Int} (h : ns.length < 64) : fSoS (dL ns) = some (.o (.lst ((usort ns).map .int))) := by
  show ((asInts (ns.map .int)).bind _) = _
  rw [asInts_map]
  show (if ns.length < 64 then _ else _) = _
  rw [if_pos h]
@[simp] theorem mCallO_ap {g : GFO} {ma mb' : M PD} {mo : M Rs} {ρ : List Sl} : mCallO g ma mb' mo ρ = bS (ma ρ) (fun x => mb mb' fun y => mb mo fun r _ => match r with | .o (.lst xs) => g [x, y] xs | _ => none) ρ := rfl
@[simp] theorem mAddL_ap {ma mb' : M PD} {ρ : List Sl} : mAddL ma mb' ρ = bS (ma ρ) (fun x => mb mb' fun y => ml (match x, y with | .list xs, .list ys => if xs.length + ys.length ≤ big then some (.o (.lst (xs ++ ys))) else none | _, _ => none)) ρ := rfl
@[simp] theorem mPkI_ap {i : Nat} {m : M Rs} {ρ : List Sl} : mPkI i m ρ = match mPk i m ρ with | some (.ok (.o (.lst zs))) => if zs.all intP = true then some (.ok (.o (.lst zs))) else none | _ => none := rfl
@[simp] theorem intP_int {z : Int} : intP (.int z) = true := rfl
@[simp] theorem intP_map (l : List Int) : (l.map PyData.int).all intP = true := by simp [intP]
@[simp] theorem sMv_ap {i j : Nat} {ρ : List Sl} : sMv i j ρ = match ρ[j]? with | some (.o (.lst xs)) => if i ≠ j then some (.nx ((ρ.set j .no).set i (.o (.lst xs)))) else none | some (.d x) => some (.nx (ρ.set i (.d x))) | _ => none := rfl
@[simp] theorem sRetBox_ap {z : Str} {j : Nat} {ρ : List Sl} : sRetBox z j ρ = match ρ[j]? with | some (.o (.lst xs)) => some (.rt (.o (.box (.str z) xs))) | _ => none := rfl
@[simp] theorem mBox_ap {z : Str} {m : M Rs} {ρ : List Sl} : mBox z m ρ = bS (m ρ) (fun r => ml (match r with | .o (.lst xs) => some (.o (.box (.str z) xs)) | _ => none)) ρ := rfl
@[simp] theorem asLs_l {xs : List PD} : asLs (.list xs) = some xs := rfl
@[simp] theorem mIdx_ap {ma mb' : M PD} {ρ : List Sl} : mIdx ma mb' ρ = bS (ma ρ) (fun x => mb (ml (asLs x)) fun xs => mb mb' fun y => ml (fIndex (.list xs) y)) ρ := rfl
@[simp] theorem fIndex_i {ns : List Int} {n : Int} : fIndex (.list (ns.map .int)) (.int n) = if ns.idxOf n < ns.length then some (.int (ns.idxOf n : Nat)) else none := by
  have e : fIndex (.list (ns.map .int)) (.int n) = (asInts (ns.map .int)).bind fun ns => if ns.idxOf n < ns.length then some (PyData.int (ns.idxOf n : Nat)) else none := by
    cases ns <;> rfl
  rw [e, asInts_map]
  rfl
@[simp] theorem sClrB_ap {i : Nat} {ρ : List Sl} : sClrB i ρ = match ρ[i]? with | some (.o (.box x _)) => some (.nx (ρ.set i (.o (.box x [])))) | _ => none := rfl
end DL

/-! Running functions with effects over data. -/
namespace DL
open PySem L2
section
variable {α : Type} {ρ ρ' : List Sl} {a b : MW} {i j n : Nat} {x : PD} {c : Addr}
def thenW (o : Option OutW) (b : MW) : Option OutW := match o with | some (.nx ρ') => b ρ' | r => r
@[simp] theorem thenW_nx : thenW (some (.nx ρ)) b = b ρ := rfl
@[simp] theorem thenW_rt : thenW (some (.rt x ρ)) b = some (.rt x ρ) := rfl
@[simp] theorem thenW_ex : thenW (some (.ex c ρ)) b = some (.ex c ρ) := rfl
@[simp] theorem wSeq_ap : wSeq a b ρ = thenW (a ρ) b := by
  show (match a ρ with | some (.nx ρ') => b ρ' | r => r) = _
  rfl
@[simp] theorem wNil_ap : wNil ρ = some (.nx ρ) := rfl
def liftS (o : Option Out) : Option OutW := match o with | some (.nx ρ') => some (.nx ρ') | some (.bk ρ') => some (.bk ρ') | some (.ct ρ') => some (.ct ρ') | _ => none
@[simp] theorem liftS_nx : liftS (some (.nx ρ)) = some (.nx ρ) := rfl
@[simp] theorem liftS_ct : liftS (some (.ct ρ)) = some (.ct ρ) := rfl
@[simp] theorem wLift_ap {m : MS} : wLift m ρ = liftS (m ρ) := rfl
def ifW (o : Option (Ro Bool)) (a b : MW) (ρ : List Sl) : Option OutW := match o with | some (.ok k) => if k = true then a ρ else b ρ | some (.ex c) => some (.ex c ρ) | none => none
@[simp] theorem ifW_ok {k : Bool} : ifW (some (.ok k)) a b ρ = if k = true then a ρ else b ρ := rfl
@[simp] theorem ifW_ex : ifW (some (.ex c)) a b ρ = some (.ex c ρ) := rfl
@[simp] theorem wIf_ap {t : M Bool} : wIf t a b ρ = ifW (t ρ) a b ρ := rfl
def ifVS (o : Option (Ro Bool × List Sl)) (a b : MW) : Option OutW := match o with | some (.ok k, ρ') => if k = true then a ρ' else b ρ' | some (.ex c, ρ') => some (.ex c ρ') | none => none
@[simp] theorem ifVS_ok {k : Bool} : ifVS (some (.ok k, ρ)) a b = if k = true then a ρ else b ρ := rfl
@[simp] theorem ifVS_ex : ifVS (some (.ex c, ρ)) a b = some (.ex c ρ) := rfl
@[simp] theorem wIfV_ap {t : MV Bool} : wIfV t a b ρ = ifVS (t ρ) a b := rfl
@[simp] theorem wRet_ap {m : M PD} : wRet m ρ = match m ρ with | some (.ok x) => some (.rt x ρ) | some (.ex c) => some (.ex c ρ) | none => none := rfl
@[simp] theorem wRetV_ap {m : MV PD} : wRetV m ρ = match m ρ with | some (.ok x, ρ') => some (.rt x ρ') | some (.ex c, ρ') => some (.ex c ρ') | none => none := rfl
@[simp] theorem wExp_ap {m : M Rs} : wExp m ρ = match m ρ with | some (.ok _) => some (.nx ρ) | some (.ex c) => some (.ex c ρ) | none => none := rfl
@[simp] theorem wExpV_ap {m : MV PD} : wExpV m ρ = match m ρ with | some (.ok _, ρ') => some (.nx ρ') | some (.ex c, ρ') => some (.ex c ρ') | none => none := rfl
@[simp] theorem wSetV_ap {m : MV PD} : wSetV i m ρ = match m ρ with | some (.ok x, ρ') => some (.nx (ρ'.set i (.d x))) | some (.ex c, ρ') => some (.ex c ρ') | none => none := rfl
@[simp] theorem wRaise_ap : wRaise c ρ = some (.ex c ρ) := rfl
@[simp] theorem wFix_ap : wFix i a ρ = match ρ[i]? with | some (.o (.lst xs)) => a (ρ.set i (.d (.list xs))) | _ => a ρ := rfl
@[simp] theorem wFor_ap {mi : M (List PD)} : wFor i mi a ρ = match mi ρ with | some (.ok xs) => forW i a xs ρ | some (.ex c) => some (.ex c ρ) | none => none := rfl
@[simp] theorem vB_ap {m : MV PD} : vB m ρ = match m ρ with | some (.ok (.bool b), ρ') => some (.ok b, ρ') | some (.ex c, ρ') => some (.ex c, ρ') | _ => none := rfl
@[simp] theorem vT_ap {m : M Bool} : vT m ρ = (m ρ).map fun r => (r, ρ) := rfl
@[simp] theorem vE_ap {m : M PD} : vE m ρ = (m ρ).map fun r => (r, ρ) := rfl
@[simp] theorem vNot_ap {m : MV Bool} : vNot m ρ = match m ρ with | some (.ok b, ρ') => some (.ok (!b), ρ') | r => r := rfl
def b2S (o : Option (Ro PD × List Sl)) (f : PD → PD → Option PD) (b : M PD) : Option (Ro PD × List Sl) := match o with
  | some (.ok x, ρ') => (match b ρ' with | some (.ok y) => (f x y).map fun z => (.ok z, ρ') | some (.ex c) => some (.ex c, ρ') | none => none)
  | some (.ex c, ρ') => some (.ex c, ρ')
  | none => none
@[simp] theorem b2S_ok {f : PD → PD → Option PD} {b : M PD} : b2S (some (.ok x, ρ)) f b = match b ρ with | some (.ok y) => (f x y).map fun z => (.ok z, ρ) | some (.ex c) => some (.ex c, ρ) | none => none := rfl
@[simp] theorem b2S_ex {f : PD → PD → Option PD} {b : M PD} : b2S (some (.ex c, ρ)) f b = some (.ex c, ρ) := rfl
@[simp] theorem v2_ap {f : PD → PD → Option PD} {a : MV PD} {b : M PD} : v2 f a b ρ = b2S (a ρ) f b := rfl
def andS (o : Option (Ro Bool × List Sl)) (b : MV Bool) : Option (Ro Bool × List Sl) := match o with | some (.ok k, ρ') => if k = true then b ρ' else some (.ok false, ρ') | r => r
def orS (o : Option (Ro Bool × List Sl)) (b : MV Bool) : Option (Ro Bool × List Sl) := match o with | some (.ok k, ρ') => if k = true then some (.ok true, ρ') else b ρ' | r => r
@[simp] theorem andS_ok {k : Bool} {b : MV Bool} : andS (some (.ok k, ρ)) b = if k = true then b ρ else some (.ok false, ρ) := rfl
@[simp] theorem orS_ok {k : Bool} {b : MV Bool} : orS (some (.ok k, ρ)) b = if k = true then some (.ok true, ρ) else b ρ := rfl
@[simp] theorem vAnd_ap {a b : MV Bool} : vAnd a b ρ = andS (a ρ) b := rfl
@[simp] theorem vOr_ap {a b : MV Bool} : vOr a b ρ = orS (a ρ) b := rfl
def andVS (o : Option (Ro PD × List Sl)) (b : MV PD) : Option (Ro PD × List Sl) := match o with | some (.ok (.bool k), ρ') => if k = true then b ρ' else some (.ok (.bool false), ρ') | some (.ex c, ρ') => some (.ex c, ρ') | _ => none
@[simp] theorem andVS_ok {k : Bool} {b : MV PD} : andVS (some (.ok (.bool k), ρ)) b = if k = true then b ρ else some (.ok (.bool false), ρ) := rfl
@[simp] theorem vAndV_ap {a b : MV PD} : vAndV a b ρ = andVS (a ρ) b := rfl
@[simp] theorem obAt_ap : obAt ρ i = match ρ[i]? with | some (.o (.shf m held)) => some (.shf m held) | some (.o (.lst xs)) => some (.lst xs) | some (.o (.par _ _ o)) => some o | _ => none := rfl
@[simp] theorem obPut_ap {o : Ob} : obPut ρ i o = match ρ[i]? with | some (.o (.par a ft _)) => ρ.set i (.o (.par a ft o)) | _ => ρ.set i (.o o.ow) := rfl
@[simp] theorem ow_shf {m : Int} {held : List (List Int)} : (Ob.shf m held).ow = .shf m held := rfl
@[simp] theorem ow_lst {xs : List PD} : (Ob.lst xs).ow = .lst xs := rfl
@[simp] theorem dat_shf {m : Int} {held : List (List Int)} : (Ob.shf m held).dat = shfD m held := rfl
@[simp] theorem dat_lst {xs : List PD} : (Ob.lst xs).dat = .list xs := rfl
@[simp] theorem out1_ok {r : Ro PD} {o : Ob} : out1 ρ i (some (r, [o])) = some (r, obPut ρ i o) := rfl
@[simp] theorem vMet_ap {g : GFW} {ma : M (List PD)} : vMet g i ma ρ = match obAt ρ i, ma ρ with | some (.shf n held), some (.ok ds) => out1 ρ i (g [.shf n held] ds) | _, _ => none := rfl
@[simp] theorem vCallW_ap {g : GFW} {ma : M (List PD)} : vCallW g i ma ρ = match obAt ρ i, ma ρ with | some o, some (.ok ds) => out1 ρ i (g [o] ds) | _, _ => none := rfl
@[simp] theorem wHApp_ap {m : M PD} : wHApp i m ρ = match obAt ρ i, m ρ with | some (.shf n held), some (.ok (.list zs)) => (asInts zs).bind (fun w => if held.length < big then some (.nx (obPut ρ i (.shf n (held ++ [w])))) else none) | some (.shf _ _), some (.ex c) => some (.ex c ρ) | _, _ => none := rfl
@[simp] theorem vHPop_ap {m : M PD} : vHPop i m ρ = match obAt ρ i, m ρ with | some (.shf n held), some (.ok (.int z)) => if 0 ≤ z ∧ held.length < big then (held[z.toNat]?).map (fun w => (.ok (.list (w.map .int)), obPut ρ i (.shf n (held.eraseIdx z.toNat)))) else none | _, _ => none := rfl
@[simp] theorem mMet_ap {g : List PD → Option (Ro Rs)} {m : M PD} : mMet g m ρ = bS (m ρ) (fun x _ => match fMany x with | some _ => g [x] | none => none) ρ := rfl
@[simp] theorem mMake_ap {m : M PD} : mMake m ρ = bS (m ρ) (fun x => ml ((asI1 x).map fun m => .o (.shf m []))) ρ := rfl
@[simp] theorem asI1_i {z : Int} : asI1 (.int z) = some z := rfl
@[simp] theorem unpar_nil : unpar [] [] ρ = some [] := by cases ρ <;> rfl
@[simp] theorem unpar_cons {p q : Addr} {f g : List Addr} {as : List Addr} {fs : List (List Addr)} {o : Ob} : unpar (p :: as) (f :: fs) (.o (.par q g o) :: ρ) = if p = q ∧ f = g then (unpar as fs ρ).map (o :: ·) else none := rfl
@[simp] theorem finW_nx {as : List Addr} {fs : List (List Addr)} : finW as fs (some (.nx ρ)) = (unpar as fs ρ).map fun os => (.ok .none, os) := rfl
@[simp] theorem finW_rt {as : List Addr} {fs : List (List Addr)} : finW as fs (some (.rt x ρ)) = (unpar as fs ρ).map fun os => (.ok x, os) := rfl
@[simp] theorem finW_ex {as : List Addr} {fs : List (List Addr)} : finW as fs (some (.ex c ρ)) = (unpar as fs ρ).map fun os => (.ex c, os) := rfl
@[simp] theorem finV_nx : finV (some (.nx ρ)) = some (.ok (.d .none)) := rfl
@[simp] theorem finV_rt : finV (some (.rt x ρ)) = some (.ok (.d x)) := rfl
@[simp] theorem finV_ex : finV (some (.ex c ρ)) = some (.ex c) := rfl
@[simp] theorem toW_nx : toW (some (.nx ρ)) = some (.nx ρ) := rfl
theorem defW1 {n l : Nat} {m : MW} {o : Ob} {ds : List PD} {r : Ro PD × List Ob} (hn : 1 + ds.length = n) (h : ∀ a f, finW [a] [f] (m (.o (.par a f o) :: (ds.map .d ++ List.replicate (l - n) .no))) = some r) : defW 1 n l m [o] ds = some r := by
  unfold defW
  rw [if_pos ⟨rfl, hn⟩]
  refine uniA_eq fun as fs h1 h2 => ?_
  obtain ⟨a, rfl⟩ := List.length_eq_one_iff.mp h1
  obtain ⟨f, rfl⟩ := List.length_eq_one_iff.mp h2
  exact h a f
theorem defW2 {n l : Nat} {m : MW} {o o2 : Ob} {ds : List PD} {r : Ro PD × List Ob} (hn : 2 + ds.length = n) (h : ∀ a f a2 f2, finW [a, a2] [f, f2] (m (.o (.par a f o) :: .o (.par a2 f2 o2) :: (ds.map .d ++ List.replicate (l - n) .no))) = some r) : defW 2 n l m [o, o2] ds = some r := by
  unfold defW
  rw [if_pos ⟨rfl, hn⟩]
  refine uniA_eq fun as fs h1 h2 => ?_
  match as, fs, h1, h2 with
  | [a, a2], [f, f2], _, _ => exact h a f a2 f2
theorem wTry_ok {m : MV PD} {cs : List Addr} {suite : Addr → Addr → MS} {x : PD} (h : m ρ = some (.ok x, ρ')) : wTry i m cs suite ρ = some (.nx ρ') := by
  unfold wTry
  simp only [h]
theorem wTry_ex {m : MV PD} {cs : List Addr} {suite : Addr → Addr → MS} {y : List Sl} (h : m ρ = some (.ex c, ρ')) (hc : c ∈ cs) (hy : ∀ a, offE i (suite c a (ρ'.set i (.e a))) = some (.nx y)) : wTry i m cs suite ρ = some (.nx y) := by
  unfold wTry
  simp only [h]
  rw [if_pos hc, unif_eq hy]
  rfl
@[simp] theorem forW_nil : forW i a [] ρ = some (.nx ρ) := rfl
def goW (o : Option OutW) (k : MW) : Option OutW := match o with
  | some (.nx ρ') => k ρ'
  | some (.ct ρ') => k ρ'
  | some (.bk ρ') => some (.nx ρ')
  | r => r
theorem forW_cons {xs : List PD} : forW i a (x :: xs) ρ = goW (a (ρ.set i (.d x))) (forW i a xs) := rfl
@[simp] theorem goW_nx {k : MW} : goW (some (.nx ρ)) k = k ρ := rfl
@[simp] theorem goW_rt {k : MW} : goW (some (.rt x ρ)) k = some (.rt x ρ) := rfl
@[simp] theorem wAppP_ap {m : M PD} : wAppP i m ρ = match obAt ρ i, m ρ with | some (.lst xs), some (.ok y) => if xs.length < big then some (.nx (obPut ρ i (.lst (xs ++ [y])))) else none | some (.lst _), some (.ex c) => some (.ex c ρ) | _, _ => none := rfl
@[simp] theorem vPopP_ap {m : M PD} : vPopP i m ρ = match obAt ρ i, m ρ with | some (.lst xs), some (.ok (.int z)) => if 0 ≤ z ∧ xs.length < big then (xs[z.toNat]?).map (fun y => (.ok y, obPut ρ i (.lst (xs.eraseIdx z.toNat)))) else none | _, _ => none := rfl
@[simp] theorem plN_ap : DL.plN i ρ = some ⟨i, none⟩ := rfl
@[simp] theorem plIx_ap {m : M PD} : DL.plIx i m ρ = match m ρ with | some (.ok (.int n)) => if 0 ≤ n then some ⟨i, some n.toNat⟩ else none | _ => none := rfl
@[simp] theorem obAtP_n : obAtP ρ ⟨i, none⟩ = obAt ρ i := rfl
@[simp] theorem obAtP_s : obAtP ρ ⟨i, some n⟩ = match ρ[i]? with | some (.o (.arr none os)) => os[n]? | _ => none := rfl
@[simp] theorem obPutP_n {o : Ob} : obPutP ρ ⟨i, none⟩ o = obPut ρ i o := rfl
@[simp] theorem obPutP_s {o : Ob} : obPutP ρ ⟨i, some n⟩ o = match ρ[i]? with | some (.o (.arr none os)) => ρ.set i (.o (.arr none (os.set n o))) | _ => ρ := rfl
@[simp] theorem outP_ok {p : Pl} {r : Ro PD} {o : Ob} : outP ρ p (some (r, [o])) = some (r, obPutP ρ p o) := rfl
@[simp] theorem outPQ_ok {p q : Pl} {r : Ro PD} {o1 o2 : Ob} : outPQ ρ p q (some (r, [o1, o2])) = some (r, obPutP (obPutP ρ p o1) q o2) := rfl
@[simp] theorem vMetP_ap {g : GFW} {mp : List Sl → Option Pl} {ma : M (List PD)} : vMetP g mp ma ρ = match mp ρ, ma ρ with | some p, some (.ok ds) => (match obAtP ρ p with | some (.shf n held) => outP ρ p (g [.shf n held] ds) | _ => none) | _, _ => none := rfl
@[simp] theorem vMet2_ap {g : GFW} {mp mq : List Sl → Option Pl} : vMet2 g mp mq ρ = match mp ρ, mq ρ with | some p, some q => (match obAtP ρ p, obAtP ρ q with | some (.shf n held), some o2 => if p.i ≠ q.i then outPQ ρ p q (g [.shf n held, o2] []) else none | _, _ => none) | _, _ => none := rfl
@[simp] theorem vCall2_ap {g : GFW} {mp mq : List Sl → Option Pl} {ma : M (List PD)} : vCall2 g mp mq ma ρ = match mp ρ, mq ρ, ma ρ with | some p, some q, some (.ok ds) => (match obAtP ρ p, obAtP ρ q with | some o1, some o2 => if p.i ≠ q.i then outPQ ρ p q (g [o1, o2] ds) else none | _, _ => none) | _, _, _ => none := rfl
@[simp] theorem mArr2_ap {ma mb' : M Rs} : mArr2 ma mb' ρ = bS (ma ρ) (fun x => mb mb' fun y => ml ((asOb x).bind fun o1 => (asOb y).map fun o2 => .o (.arr none [o1, o2]))) ρ := rfl
@[simp] theorem asOb_l {xs : List PD} : asOb (.o (.lst xs)) = some (.lst xs) := rfl
@[simp] theorem asOb_s {m : Int} {held : List (List Int)} : asOb (.o (.shf m held)) = some (.shf m held) := rfl
@[simp] theorem mPkA_ap {m : M Rs} : mPkA i m ρ = match mPk i m ρ with | some (.ok (.o (.arr none os))) => if os.all intOb = true then some (.ok (.o (.arr none os))) else none | _ => none := rfl
@[simp] theorem sPutA_ap {mv : M Rs} {mn : M PD} : sPutA i mv mn ρ = match ρ[i]?, mv ρ, mn ρ with | some (.o (.arr none os)), some (.ok (.o (.lst xs))), some (.ok (.int n)) => (match ixN os.length n with | some j => some (.nx (ρ.set i (.o (.arr none (os.set j (.lst xs)))))) | none => none) | _, _, _ => none := rfl
@[simp] theorem wForPut_ap {mq mp : List Sl → Option Pl} {m : MV PD} : wForPut i mq mp m ρ = match mq ρ with | some q => (match obAtP ρ q with | some (.lst xs) => if q.i ≠ i then forPut i q mp m xs ρ else none | _ => none) | none => none := rfl
@[simp] theorem forPut_nil {q : Pl} {mp : List Sl → Option Pl} {m : MV PD} : forPut i q mp m [] ρ = some (.nx ρ) := rfl
@[simp] theorem vIfB_ap {t : M Bool} {a b : MV PD} : vIfB t a b ρ = match t ρ with | some (.ok k) => if k = true then a ρ else b ρ | _ => none := rfl
@[simp] theorem mWhich_ap {p : Addr} {bs : List Bool} : mWhich i p bs ρ = match ρ[i]? with | some (.e a') => if a' = p then some (.ok (.list (bs.map .bool))) else none | _ => none := rfl
end
/-- a loop with effects that runs to its end -/
theorem forW_end {i : Nat} {b : MW} (I : Nat → List Sl → Prop) : ∀ (xs : List PD) (n : Nat) (ρ : List Sl), I n ρ →
    (∀ k x ρ, xs[k]? = some x → I (n + k) ρ → ∃ ρ', b (ρ.set i (.d x)) = some (.nx ρ') ∧ I (n + k + 1) ρ') → ∃ ρ', forW i b xs ρ = some (.nx ρ') ∧ I (n + xs.length) ρ'
  | [], n, ρ, h, _ => ⟨ρ, rfl, h⟩
  | x :: xs, n, ρ, h, hs => by
    obtain ⟨ρ', e, ho⟩ := hs 0 x ρ rfl h
    rw [forW_cons, e]
    obtain ⟨ρ2, e2, ho2⟩ := forW_end I xs (n + 1) ρ' ho fun k y ρ'' hy hI => by
      have z := hs (k + 1) y ρ'' hy (by rw [show n + (k + 1) = n + 1 + k by omega]; exact hI)
      rw [show n + (k + 1) + 1 = n + 1 + k + 1 by omega] at z
      exact z
    exact ⟨ρ2, e2, by rw [List.length_cons, show n + (xs.length + 1) = n + 1 + xs.length by omega]; exact ho2⟩
theorem forW_at {i : Nat} {b : MW} {xs : List PD} {ρ : List Sl} {o : Option OutW} (hf : forW i b xs ρ = o) (I : Nat → List Sl → Prop) (h0 : I 0 ρ) (hs : ∀ k x ρ, xs[k]? = some x → I k ρ → ∃ ρ', b (ρ.set i (.d x)) = some (.nx ρ') ∧ I (k + 1) ρ') : ∃ ρ', o = some (.nx ρ') ∧ I xs.length ρ' := by
  obtain ⟨ρ', e, h⟩ := forW_end (i := i) (b := b) I xs 0 ρ h0 fun k x ρ hx hI => by rw [Nat.zero_add] at hI ⊢; exact hs k x ρ hx hI
  rw [Nat.zero_add] at h
  exact ⟨ρ', by rw [← hf, e], h⟩
end DL

namespace G
open PySem L2 DL DX
def top (i : Nat) : Stmt := PySem.Challenge.pw_shelfruns_k11_whole_shelf.main.body.getD i (.Pass ⟨0, 0, 0, 0⟩)
/-- the built-in names that the text leaves as they are -/
structure Blt (mg : Str → Option Value) : Prop where
  «ValueError» : mg "ValueError" = none
  «bool» : mg "bool" = none
  «int» : mg "int" = none
  «isinstance» : mg "isinstance" = none
  «len» : mg "len" = none
  «list» : mg "list" = none
  «range» : mg "range" = none
  «reversed» : mg "reversed" = none
  «set» : mg "set" = none
  «sorted» : mg "sorted" = none
  «tuple» : mg "tuple" = none
def m__law_cell_at : MS :=
    (sSeq (sIf (mB (m2 fLt (mV 1) (mDat (mC fLen (mCons (mV 0) mNil))))) (sRet (mRs (m2 fIx (mV 0) (mV 1)))) sNil)
    (sRet (mRs (mr (.int 0)))))
def m__law_order (g__law_cell_at : GF) : MS :=
    (sSeq (sSet 3 (mLR (mV 2)))
    (sSeq (sSet 4 (mLst mNil))
    (sSeq (sFor 5 (mRng asRng1 (mCons (mV 2) mNil))
    (sAppPop 4 3 (mPk 3 (mFl (m2 fMod (mDat (mCall g__law_cell_at (mCons (mV 0) (mCons (m2 fAdd (mV 1) (mV 5)) mNil)))) (mDat (mC fLen (mCons (mV 3) mNil))))))))
    (sRetV 4))))
def m__law_set : MS :=
    (sSeq (sSet 2 (mLst mNil))
    (sSeq (sFor 3 (mRng asRng1 (mCons (mV 1) mNil))
    (sSeq (sIf (mB (m2 fEq (m2 fMod (mV 0) (mr (.int 2))) (mr (.int 1)))) (sApp 2 (mV 3)) sNil)
    (sSet 0 (mRs (m2 fDiv (mV 0) (mr (.int 2)))))))
    (sRetV 2)))
def m__law_wish : MS :=
    (sSeq (sSet 3 (mRs (m2 fMod (mV 0) (mV 1))))
    (sSeq (sSet 4 (mRs (m2 fAdd (mr (.int 1)) (m2 fMod (m2 fDiv (mV 0) (mV 1)) (m2 fSub (mV 1) (mV 3))))))
    (sSeq (sSet 5 (mRs (mDat (mSl (mV 2) (mPart (mV 3)) (mPart (m2 fAdd (mV 3) (mV 4)))))))
    (sSeq (sIf (mB (m2 fEq (m2 fMod (m2 fDiv (mV 0) (mr (.int 1000))) (mr (.int 4))) (mr (.int 1)))) (sSet 5 (mRs (m2 fAdd (mDat (mRev (mV 5))) (mDat (mSl (mV 5) (mr none) (mPart (mr (.int 1)))))))) sNil)
    (sRetV 5)))))
def m__law_wishes (g__law_cell_at : GF) (g__law_order : GF) (g__law_set : GF) (g__law_wish : GF) : MS :=
    (sSeq (sSet 4 (mRs (mDat (mCall g__law_cell_at (mCons (mV 0) (mCons (mV 1) mNil))))))
    (sSeq (sSet 5 (mRs (m2 fAdd (mr (.int 1)) (m2 fMod (m2 fDiv (mV 4) (mr (.int 4))) (mV 2)))))
    (sSeq (sSet 6 (mRs (m2 fMod (m2 fDiv (mV 4) (mr (.int 40))) (m2 fAdd (mV 3) (mr (.int 1))))))
    (sSeq (sSet 7 (mRs (mDat (mCall g__law_order (mCons (mV 0) (mCons (m2 fAdd (mV 1) (mr (.int 1))) (mCons (mV 5) mNil)))))))
    (sSeq (sSet 8 (mLst mNil))
    (sSeq (sFor 9 (mRng asRng1 (mCons (mV 6) mNil))
    (sSeq (sSet 10 (mRs (mDat (mCall g__law_cell_at (mCons (mV 0) (mCons (m2 fAdd (m2 fAdd (mV 1) (mr (.int 10))) (mV 9)) mNil))))))
    (sIf (mB (m2 fEq (m2 fMod (mV 4) (mr (.int 4))) (mr (.int 0)))) (sApp 8 (mDat (mCall g__law_set (mCons (mV 10) (mCons (mV 5) mNil))))) (sApp 8 (mDat (mCall g__law_wish (mCons (mV 10) (mCons (mV 5) (mCons (mV 7) mNil)))))))))
    (sSeq (sIf (mAnd (mB (m2 fGt (m2 fMod (mV 4) (mr (.int 4))) (mr (.int 1)))) (mB (m2 fGt (mV 6) (mr (.int 0))))) (sSeq (sSet 11 (mRs (mDat (mCall g__law_cell_at (mCons (mV 0) (mCons (m2 fAdd (mV 1) (mr (.int 9))) mNil))))))
    (sPut 8 (mDat (mCall g__law_set (mCons (m2 fDiv (mV 11) (mV 6)) (mCons (mV 5) mNil)))) (m2 fMod (mV 11) (mV 6)))) sNil)
    (sFix 8 (sRet (mRs (mTup (mCons (mV 5) (mCons (mV 8) mNil)))))))))))))
def m_ask (C_NoBook : Addr) : MS :=
    (sFor 2 (mSeq (mV 1))
    (sFor 3 (mSeq (mV 2))
    (sIf (mOr (mB (m2 fLt (mV 3) (mr (.int 0)))) (mB (m2 fGe (mV 3) (mV 0)))) (sRaise C_NoBook) sNil)))
def m_Shelf_put (g_ask : GF) (C_FullShelf : Addr) : MW :=
    (wSeq (wExp (mRs (mPk 1 (mFl (mPk 0 (mFl (mDat (mCall g_ask (mCons (m1 fMany (mV 0)) (mCons (mDat (mLst (mCons (mV 1) mNil))) mNil))))))))))
    (wSeq (wIf (mPk 0 (mB (m2 fGe (mDat (mC fLen (mCons (m1 fHeld (mV 0)) mNil))) (mr (.int 12))))) (wRaise C_FullShelf) wNil)
    (wSeq (wHApp 0 (mDat (mPkI 1 (mS1 fSoS (mV 1)))))
    (wRet (mPk 0 (mFl (mDat (mC fLen (mCons (m1 fHeld (mV 0)) mNil)))))))))
def m_Shelf_put2 (g_ask : GF) (C_FullShelf : Addr) : MW :=
    (wSeq (wExp (mRs (mPk 1 (mFl (mPk 0 (mFl (mDat (mCall g_ask (mCons (m1 fMany (mV 0)) (mCons (mDat (mLst (mCons (mV 1) mNil))) mNil))))))))))
    (wSeq (wIf (mPk 0 (mB (m2 fGe (mDat (mC fLen (mCons (m1 fHeld (mV 0)) mNil))) (mr (.int 12))))) (wRaise C_FullShelf) wNil)
    (wSeq (wHApp 0 (mDat (mPkI 1 (mS1 fSoS (mV 1)))))
    (wRet (mPk 0 (mFl (mDat (mC fLen (mCons (m1 fHeld (mV 0)) mNil)))))))))
def m__law_whole : MS :=
    (sRet (mRs (mAndV (mIsi "int" (mV 0)) (mNotV (mIsi "bool" (mV 0))))))
def m_Shelf_take (C_NoWish : Addr) : MW :=
    (wSeq (wIf (mPk 0 (mOr (mB (m2 fLt (mV 1) (mr (.int 0)))) (mB (m2 fGe (mV 1) (mDat (mC fLen (mCons (m1 fHeld (mV 0)) mNil))))))) (wRaise C_NoWish) wNil)
    (wRetV (vHPop 0 (mV 1))))
def m__law_which (C_NoBook : Addr) (C_NoWish : Addr) (C_FullShelf : Addr) (C_NoOrder : Addr) (C_NoTurn : Addr) (C_BadLine : Addr) : Addr → Addr → MS := fun cc a =>
    (sSeq (sSet 1 (mRs (mDat (mLst (mCons (mIsE 0 a (decide (cc = C_NoBook))) (mCons (mIsE 0 a (decide (cc = C_NoWish))) (mCons (mIsE 0 a (decide (cc = C_NoTurn))) (mCons (mIsE 0 a (decide (cc = C_NoOrder))) mNil))))))))
    (sRet (mRs (m2 fAdd (mV 1) (mDat (mLst (mCons (mIsE 0 a (decide (cc = C_FullShelf))) (mCons (mIsE 0 a (decide (cc = C_BadLine))) (mCons (mIsE 0 a true) mNil)))))))))
noncomputable def m__law_refused (g_Shelf_put : GFW) (g_Shelf_take : GFW) (g__law_which : Addr → List Bool) (C_NoBook : Addr) (C_NoWish : Addr) (C_FullShelf : Addr) : MW :=
    (wSeq (wLift (sSet 4 (mRs (mDat (mLst mNil)))))
    (wSeq (wTry 5 (vIfB (mB (m2 fEq (mV 1) (mr (.int 0)))) (vMet g_Shelf_put 0 (mCons (mV 2) mNil)) (vMet g_Shelf_take 0 (mCons (mV 3) mNil))) [C_NoBook, C_NoWish, C_FullShelf] (fun cc a => (sSet 4 (mRs (mWhich 5 a (g__law_which cc))))))
    (wRet (mV 4))))
def m_turns : MS :=
    (sSeq (sSet 1 (mRs (mDat (mLst mNil))))
    (sSeq (sFor 2 (mRng asRng1 (mCons (mV 0) mNil))
    (sSet 1 (mRs (m2 fAdd (mV 1) (mDat (mLc 3 (mRng asRng1 (mCons (mV 0) mNil)) (mB (m2 fNe (mV 2) (mV 3))) (mTup (mCons (mV 2) (mCons (mV 3) mNil)))))))))
    (sRetV 1)))
def m_split : MS :=
    (sSeq (sFor 4 (mSeq (mV 0))
    (sIf (mAnd (mB (m2 (fIn false) (mV 1) (mV 4))) (mAnd (mB (m2 (fIn false) (mV 3) (mV 4))) (mB (m2 (fIn true) (mV 2) (mV 4))))) (sRet (mRs (mr (.bool true)))) sNil))
    (sRet (mRs (mr (.bool false)))))
def m_barred (g_split : GF) : MS :=
    (sSeq (sIf (mAnd (mB (m2 fEq (m2 fIx (mV 1) (mr (.int 0))) (m2 fIx (mV 2) (mr (.int 1))))) (mB (m2 fEq (m2 fIx (mV 1) (mr (.int 1))) (m2 fIx (mV 2) (mr (.int 0)))))) (sRet (mRs (mr (.bool true)))) sNil)
    (sSeq (sIf (mAnd (mB (m2 fEq (m2 fIx (mV 1) (mr (.int 1))) (m2 fIx (mV 2) (mr (.int 0))))) (mB (m2 fNe (m2 fIx (mV 1) (mr (.int 0))) (m2 fIx (mV 2) (mr (.int 1)))))) (sRet (mCall g_split (mCons (mV 0) (mCons (m2 fIx (mV 1) (mr (.int 0))) (mCons (m2 fIx (mV 1) (mr (.int 1))) (mCons (m2 fIx (mV 2) (mr (.int 1))) mNil)))))) sNil)
    (sSeq (sIf (mAnd (mB (m2 fEq (m2 fIx (mV 2) (mr (.int 1))) (m2 fIx (mV 1) (mr (.int 0))))) (mB (m2 fNe (m2 fIx (mV 2) (mr (.int 0))) (m2 fIx (mV 1) (mr (.int 1)))))) (sRet (mCall g_split (mCons (mV 0) (mCons (m2 fIx (mV 2) (mr (.int 0))) (mCons (m2 fIx (mV 2) (mr (.int 1))) (mCons (m2 fIx (mV 1) (mr (.int 1))) mNil)))))) sNil)
    (sRet (mRs (mr (.bool false)))))))
def m_leads_from (g_turns : GF) (g_barred : GF) : MS :=
    (sSeq (sSet 3 (mDNew (mV 2)))
    (sSeq (sSet 4 (mLst (mCons (mV 2) mNil)))
    (sSeq (sSet 5 (mRs (mr (.int 0))))
    (sSeq (whlF (mPk 4 (mB (m2 fLt (mV 5) (mDat (mC fLen (mCons (mV 4) mNil))))))
    (sSeq (sFor 6 (mSeq (mDat (mCall g_turns (mCons (mV 0) mNil))))
    (sIf (mPk 4 (mAnd (mB (mDNinO 3 (mV 6))) (mB (mDat (mCall g_barred (mCons (mV 1) (mCons (m2 fIx (mV 4) (mV 5)) (mCons (mV 6) mNil)))))))) (sSeq (sDPut 3 (mIxO 4 (mV 5)) (mV 6))
    (sApp 4 (mV 6))) sNil))
    (sSet 5 (mRs (m2 fAdd (mV 5) (mr (.int 1)))))) 1000)
    (sFrz 3 (sRetV 3))))))
def m_trail : MS :=
    (sSeq (sSet 2 (mLst (mCons (mV 1) mNil)))
    (sSeq (whlF (mPk 2 (mB (m2 (fIsN true) (m2 fDGet (mV 0) (m2 fIx (mV 2) (m1 fNeg (mr (.int 1))))) (mr .none))))
    (sApp 2 (m2 fDGet (mV 0) (mIxO 2 (m1 fNeg (mr (.int 1)))))) 1000)
    (sRetV 2)))
def m_joined : MS :=
    (sSeq (whlF (mAnd (mB (m2 fGt (mDat (mC fLen (mCons (mV 0) mNil))) (mr (.int 1)))) (mAnd (mB (m2 fGt (mDat (mC fLen (mCons (mV 1) mNil))) (mr (.int 1)))) (mB (m2 fEq (m2 fIx (mV 0) (m1 fNeg (mr (.int 2)))) (m2 fIx (mV 1) (m1 fNeg (mr (.int 2))))))))
    (sSeq (sSet 0 (mRs (mDat (mSl (mV 0) (mr none) (mPart (m1 fNeg (mr (.int 1))))))))
    (sSet 1 (mRs (mDat (mSl (mV 1) (mr none) (mPart (m1 fNeg (mr (.int 1))))))))) 1000)
    (sRet (mAddL (mV 0) (mDat (mRev (mDat (mSl (mV 1) (mr none) (mPart (m1 fNeg (mr (.int 1)))))))))))
def m_odd_ring (g_ask : GF) (g_turns : GF) (g_leads_from : GF) (g_barred : GF) (g_trail : GF) (g_joined : GF) : MS :=
    (sSeq (sExp (mCall g_ask (mCons (mV 0) (mCons (mV 1) mNil))))
    (sSeq (sSet 2 (fun _ => some (.ok (.o (.dic [])))))
    (sSeq (sFor 3 (mSeq (mDat (mCall g_turns (mCons (mV 0) mNil))))
    (sIf (mB (mDNinO 2 (mV 3))) (sSeq (sSet 4 (mRs (mDat (mCall g_leads_from (mCons (mV 0) (mCons (mV 1) (mCons (mV 3) mNil)))))))
    (sSeq (sDUpd 2 (mV 4))
    (sForD 5 (mV 4)
    (sForD 6 (mV 4)
    (sIf (mB (mDat (mCall g_barred (mCons (mV 1) (mCons (mV 5) (mCons (mV 6) mNil)))))) (sSeq (sSet 7 (mRs (mDat (mCall g_trail (mCons (mV 4) (mCons (mV 5) mNil))))))
    (sSeq (sSet 8 (mRs (mDat (mCall g_trail (mCons (mV 4) (mCons (mV 6) mNil))))))
    (sIf (mB (m2 fEq (m2 fMod (mDat (mC fLen (mCons (mV 7) mNil))) (mr (.int 2))) (m2 fMod (mDat (mC fLen (mCons (mV 8) mNil))) (mr (.int 2))))) (sRet (mCall g_joined (mCons (mV 7) (mCons (mV 8) mNil)))) sNil))) sNil))))) sNil))
    (sRet (mRs (mr .none))))))
def m_may_follow : MS :=
    (sSeq (sFor 3 (mSeq (mV 1))
    (sSeq (sFixA 4 (sSet 4 (mLc 5 (mSeq (mV 0)) (mB (m2 (fIn false) (mV 5) (mV 3))) (mV 5))))
    (sIf (mAnd (mB (m2 fGt (mDat (mC fLen (mCons (mV 4) mNil))) (mr (.int 0)))) (mAnd (mB (m2 fLt (mDat (mC fLen (mCons (mV 4) mNil))) (mDat (mS1 fLeS (mV 3))))) (mB (m2 (fIn true) (mV 2) (mV 3))))) (sRet (mRs (mr (.bool false)))) sNil)))
    (sRet (mRs (mr (.bool true)))))
def m_grown (g_may_follow : GF) (g_grown : GFO) : MS :=
    (sSeq (sIf (mPk 2 (mB (m2 fEq (mDat (mC fLen (mCons (mV 2) mNil))) (mV 0)))) (sRetV 2) sNil)
    (sSeq (sFor 3 (mRng asRng1 (mCons (mV 0) mNil))
    (sIf (mPk 2 (mAnd (mB (m2 (fIn true) (mV 3) (mV 2))) (mB (mDat (mCall g_may_follow (mCons (mV 2) (mCons (mV 1) (mCons (mV 3) mNil)))))))) (sSeq (sSet 4 (mCallO g_grown (mV 0) (mV 1) (mPkI 2 (mAddL (mV 2) (mDat (mLst (mCons (mV 3) mNil)))))))
    (sIf (mPk 4 (mB (m2 (fIsN true) (mV 4) (mr .none)))) (sRetV 4) sNil)) sNil))
    (sRet (mRs (mr .none)))))
def m_judged (g_odd_ring : GF) (g_grown : GFO) : MS :=
    (sSeq (sSet 2 (mCall g_odd_ring (mCons (mV 0) (mCons (mV 1) mNil))))
    (sSeq (sIf (mPk 2 (mB (m2 (fIsN true) (mV 2) (mr .none)))) (sRetBox "ring" 2) sNil)
    (sRet (mBox "order" (mCallO g_grown (mV 0) (mV 1) (mLst mNil))))))
def m_Shelf_told (g_judged : GF) : MS :=
    (sRet (mCall g_judged (mCons (m1 fMany (mV 0)) (mCons (m1 fHeld (mV 0)) mNil))))
def m_first (g_odd_ring : GF) (g_grown : GFO) : MS :=
    (sSeq (sIf (mB (m2 (fIsN true) (mDat (mCall g_odd_ring (mCons (mV 0) (mCons (mV 1) mNil)))) (mr .none))) (sRet (mRs (mr .none))) sNil)
    (sRet (mCallO g_grown (mV 0) (mV 1) (mLst mNil))))
def m_clash (g_odd_ring : GF) : MS :=
    (sSeq (sIf (mB (m2 (fIsN false) (mDat (mCall g_odd_ring (mCons (mV 0) (mCons (mV 1) mNil)))) (mr .none))) (sRet (mRs (mr .none))) sNil)
    (sSeq (sSet 2 (mLR (mDat (mC fLen (mCons (mV 1) mNil)))))
    (sSeq (sFor 3 (mRng asRng1 (mCons (mDat (mC fLen (mCons (mV 1) mNil))) mNil))
    (sSeq (sSet 4 (mPkI 2 (mLc 5 (mSeq (mV 2)) (mB (m2 fNe (mV 5) (mV 3))) (mV 5))))
    (sIf (mPk 4 (mB (m2 (fIsN true) (mDat (mCall g_odd_ring (mCons (mV 0) (mCons (mDat (mLc 5 (mSeq (mV 4)) (mr true) (m2 fIx (mV 1) (mV 5)))) mNil)))) (mr .none)))) (sMv 2 4) sNil)))
    (sRetV 2))))
def m_Shelf_worst (g_clash : GF) : MS :=
    (sRet (mCall g_clash (mCons (m1 fMany (mV 0)) (mCons (m1 fHeld (mV 0)) mNil))))
def m__law_is_turn (g__law_whole : GF) : MS :=
    (sSeq (sIf (mOr (mNot (mB (mIsi "tuple" (mV 0)))) (mOr (mB (m2 fNe (mDat (mC fLen (mCons (mV 0) mNil))) (mr (.int 2)))) (mOr (mNot (mB (mDat (mCall g__law_whole (mCons (m2 fIx (mV 0) (mr (.int 0))) mNil))))) (mNot (mB (mDat (mCall g__law_whole (mCons (m2 fIx (mV 0) (mr (.int 1))) mNil)))))))) (sRet (mRs (mr (.bool false)))) sNil)
    (sRet (mRs (mAndV (mChain fLe fLt (mr (.int 0)) (m2 fIx (mV 0) (mr (.int 0))) (mV 1)) (mAndV (mChain fLe fLt (mr (.int 0)) (m2 fIx (mV 0) (mr (.int 1))) (mV 1)) (m2 fNe (m2 fIx (mV 0) (mr (.int 0))) (m2 fIx (mV 0) (mr (.int 1)))))))))
def m__law_split : MS :=
    (sSeq (sFor 4 (mSeq (mV 0))
    (sIf (mAnd (mB (m2 (fIn false) (mV 1) (mV 4))) (mAnd (mB (m2 (fIn false) (mV 3) (mV 4))) (mB (m2 (fIn true) (mV 2) (mV 4))))) (sRet (mRs (mr (.bool true)))) sNil))
    (sRet (mRs (mr (.bool false)))))
def m__law_bar (g__law_split : GF) : MS :=
    (sSeq (sIf (mB (m2 fEq (mV 1) (mTup (mCons (m2 fIx (mV 2) (mr (.int 1))) (mCons (m2 fIx (mV 2) (mr (.int 0))) mNil))))) (sRet (mRs (mr (.bool true)))) sNil)
    (sSeq (sIf (mAnd (mB (m2 fEq (m2 fIx (mV 1) (mr (.int 1))) (m2 fIx (mV 2) (mr (.int 0))))) (mB (m2 fNe (m2 fIx (mV 1) (mr (.int 0))) (m2 fIx (mV 2) (mr (.int 1)))))) (sRet (mCall g__law_split (mCons (mV 0) (mCons (m2 fIx (mV 1) (mr (.int 0))) (mCons (m2 fIx (mV 1) (mr (.int 1))) (mCons (m2 fIx (mV 2) (mr (.int 1))) mNil)))))) sNil)
    (sRet (mRs (mAndV (m2 fEq (m2 fIx (mV 1) (mr (.int 0))) (m2 fIx (mV 2) (mr (.int 1)))) (mAndV (m2 fNe (m2 fIx (mV 1) (mr (.int 1))) (m2 fIx (mV 2) (mr (.int 0)))) (mDat (mCall g__law_split (mCons (mV 0) (mCons (m2 fIx (mV 2) (mr (.int 0))) (mCons (m2 fIx (mV 1) (mr (.int 0))) (mCons (m2 fIx (mV 1) (mr (.int 1))) mNil))))))))))))
def m__law_is_ring (g__law_is_turn : GF) (g__law_bar : GF) : MS :=
    (sSeq (sIf (mOr (mNot (mB (mIsi "list" (mV 0)))) (mOr (mB (m2 fLt (mDat (mC fLen (mCons (mV 0) mNil))) (mr (.int 3)))) (mB (m2 fEq (m2 fMod (mDat (mC fLen (mCons (mV 0) mNil))) (mr (.int 2))) (mr (.int 0)))))) (sRet (mRs (mr (.bool false)))) sNil)
    (sSeq (sFor 3 (mSeq (mV 0))
    (sIf (mNot (mB (mDat (mCall g__law_is_turn (mCons (mV 3) (mCons (mV 1) mNil)))))) (sRet (mRs (mr (.bool false)))) sNil))
    (sSeq (sFor 4 (mRng asRng1 (mCons (mDat (mC fLen (mCons (mV 0) mNil))) mNil))
    (sIf (mNot (mB (mDat (mCall g__law_bar (mCons (mV 2) (mCons (m2 fIx (mV 0) (m2 fSub (mV 4) (mr (.int 1)))) (mCons (m2 fIx (mV 0) (mV 4)) mNil))))))) (sRet (mRs (mr (.bool false)))) sNil))
    (sRet (mRs (mr (.bool true)))))))
def m__law_tells (g_Shelf_told : GF) (g_first : GF) (g_clash : GF) (g_Shelf_worst : GF) (g__law_is_ring : GF) : MS :=
    (sSeq (sSet 3 (mRs (mDat (mMet g_Shelf_told (mV 0)))))
    (sSeq (sSet 4 (mRs (mDat (mCall g_first (mCons (mV 2) (mCons (mDat (mLc 5 (mSeq (mV 1)) (mr true) (mDat (mC fList (mCons (mV 5) mNil))))) mNil))))))
    (sSeq (sIf (mOr (mB (m2 fNe (m2 fIx (mV 3) (mr (.int 0))) (m2 fIx (mDat (mLst (mCons (mr (.str "order")) (mCons (mr (.str "ring")) mNil)))) (mDat (mC fInt (mCons (m2 (fIsN false) (mV 4) (mr .none)) mNil)))))) (mAnd (mB (m2 (fIsN true) (mV 4) (mr .none))) (mB (m2 fNe (m2 fIx (mV 3) (mr (.int 1))) (mV 4))))) (sRet (mRs (mr (.bool false)))) sNil)
    (sSeq (sSet 6 (mRs (mDat (mCall g_clash (mCons (mV 2) (mCons (mDat (mLc 5 (mSeq (mV 1)) (mr true) (mDat (mC fList (mCons (mV 5) mNil))))) mNil))))))
    (sSeq (sFor 7 (mRng asRng1 (mCons (mr (.int 2)) mNil))
    (sSeq (sSet 8 (mMet g_Shelf_worst (mV 0)))
    (sSeq (sSet 9 (mMet g_Shelf_told (mV 0)))
    (sSeq (sIf (mPk 8 (mPk 9 (mOr (mB (m2 fNe (mV 8) (mV 6))) (mOr (mB (m2 fNe (m2 fIx (mV 9) (mr (.int 0))) (m2 fIx (mV 3) (mr (.int 0))))) (mAnd (mB (m2 (fIsN true) (mV 4) (mr .none))) (mB (m2 fNe (m2 fIx (mV 9) (mr (.int 1))) (mV 4)))))))) (sRet (mRs (mr (.bool false)))) sNil)
    (sSeq (sIf (mPk 9 (mAnd (mB (m2 (fIsN false) (mV 4) (mr .none))) (mNot (mB (mDat (mCall g__law_is_ring (mCons (m2 fIx (mV 9) (mr (.int 1))) (mCons (mV 2) (mCons (mV 1) mNil))))))))) (sRet (mRs (mr (.bool false)))) sNil)
    (sSeq (sClrB 9)
    (sIf (mPk 8 (mB (m2 (fIsN true) (mV 8) (mr .none)))) (sApp 8 (mr (.int 0))) sNil)))))))
    (sRet (mRs (mr (.bool true)))))))))
def m__law_deed (g__law_set : GF) (g_Shelf_put2 : GFW) (g__law_whole : GF) (g__law_refused : GFW) (g_Shelf_take : GFW) (g__law_tells : GF) : MW :=
    (wSeq (wLift (sSet 4 (mRs (m2 fMod (mV 2) (mr (.int 8))))))
    (wSeq (wLift (sSet 5 (mRs (mDat (mCall g__law_set (mCons (m2 fDiv (mV 2) (mr (.int 8))) (mCons (mV 3) mNil)))))))
    (wSeq (wIf (mPk 1 (mAnd (mB (m2 fLt (mV 4) (mr (.int 4)))) (mB (m2 fLt (mDat (mC fLen (mCons (mV 1) mNil))) (mr (.int 12)))))) (wSeq (wLift (sSet 6 (mC fList (mCons (mV 5) mNil))))
    (wSeq (wLift (sIf (mB (m2 fEq (mV 4) (mr (.int 3)))) (sSet 6 (mAddL (mDat (mRev (mV 5))) (mV 5))) sNil))
    (wSeq (wAppP 1 (mV 5))
    (wSeq (wLift (sSet 7 (mRs (mDat (mPkI 6 (mC fList (mCons (mV 6) mNil)))))))
    (wSeq (wSetV 8 (vMet2 g_Shelf_put2 (plN 0) (plN 6)))
    (wSeq (wIf (mPk 6 (mB (m2 fNe (mV 6) (mV 7)))) (wRet (mr (.bool false))) wNil)
    (wSeq (wLift (sApp 6 (mr (.int 0))))
    (wRet (mPk 1 (mFl (mAndV (mDat (mCall g__law_whole (mCons (mV 8) mNil))) (m2 fEq (mV 8) (mDat (mC fLen (mCons (mV 1) mNil))))))))))))))) wNil)
    (wSeq (wIf (mB (m2 fEq (mV 4) (mr (.int 4)))) (wSeq (wLift (sSet 9 (mRs (m2 fIx (mDat (mLst (mCons (m1 fNeg (mr (.int 1))) (mCons (mV 3) (mCons (m2 fAdd (mV 3) (m2 fMod (m2 fDiv (mV 2) (mr (.int 64))) (m2 fPow (mr (.int 10)) (mr (.int 30))))) (mCons (m2 fSub (m1 fNeg (mr (.int 1))) (m2 fMod (m2 fDiv (mV 2) (mr (.int 64))) (m2 fPow (mr (.int 10)) (mr (.int 30))))) mNil)))))) (m2 fMod (m2 fDiv (mV 2) (mr (.int 8))) (mr (.int 4)))))))
    (wSeq (wLift (sSet 10 (mRs (m2 fMod (m2 fDiv (mV 2) (mr (.int 32))) (m2 fAdd (mDat (mC fLen (mCons (mV 5) mNil))) (mr (.int 1)))))))
    (wSeq (wLift (sSet 11 (mRs (mDat (mLst (mCons (mr (.bool true)) (mCons (mr (.bool false)) (mCons (mr (.bool false)) (mCons (mr (.bool false)) (mCons (mr (.bool false)) (mCons (mr (.bool false)) (mCons (mr (.bool true)) mNil))))))))))))
    (wRetV (v2 fEq (vCallW g__law_refused 0 (mCons (mr (.int 0)) (mCons (m2 fAdd (m2 fAdd (mDat (mSl (mV 5) (mr none) (mPart (mV 10)))) (mDat (mLst (mCons (mV 9) mNil)))) (mDat (mSl (mV 5) (mPart (mV 10)) (mr none)))) (mCons (mr (.int 0)) mNil)))) (mV 11)))))) wNil)
    (wSeq (wLift (sSet 12 (mRs (mPk 1 (mFl (m2 fSub (m2 fMod (m2 fDiv (mV 2) (mr (.int 8))) (m2 fAdd (mDat (mC fLen (mCons (mV 1) mNil))) (mr (.int 2)))) (mr (.int 1))))))))
    (wSeq (wLift (sIf (mAnd (mB (m2 fEq (mV 4) (mr (.int 5)))) (mB (m2 fEq (m2 fMod (m2 fDiv (mV 2) (mr (.int 8))) (mr (.int 7))) (mr (.int 6))))) (sSet 12 (mRs (mPk 1 (mFl (m2 fIx (mDat (mLst (mCons (m2 fSub (m1 fNeg (mr (.int 1))) (m2 fMod (m2 fDiv (mV 2) (mr (.int 64))) (m2 fPow (mr (.int 10)) (mr (.int 30))))) (mCons (m2 fAdd (mDat (mC fLen (mCons (mV 1) mNil))) (m2 fMod (m2 fDiv (mV 2) (mr (.int 64))) (m2 fPow (mr (.int 10)) (mr (.int 30))))) mNil)))) (m2 fMod (m2 fDiv (mV 2) (mr (.int 56))) (mr (.int 2)))))))) sNil))
    (wSeq (wIf (mOr (mB (m2 fEq (mV 4) (mr (.int 5)))) (mB (m2 fEq (mV 4) (mr (.int 6))))) (wSeq (wIf (mPk 1 (mOr (mB (m2 fLt (mV 12) (mr (.int 0)))) (mB (m2 fGe (mV 12) (mDat (mC fLen (mCons (mV 1) mNil))))))) (wRetV (v2 fEq (vCallW g__law_refused 0 (mCons (mr (.int 1)) (mCons (mDat (mLst mNil)) (mCons (mV 12) mNil)))) (mDat (mLst (mCons (mr (.bool false)) (mCons (mr (.bool true)) (mCons (mr (.bool false)) (mCons (mr (.bool false)) (mCons (mr (.bool false)) (mCons (mr (.bool false)) (mCons (mr (.bool true)) mNil))))))))))) wNil)
    (wSeq (wSetV 13 (vPopP 1 (mV 12)))
    (wSeq (wSetV 8 (vMet g_Shelf_take 0 (mCons (mV 12) mNil)))
    (wRet (mAndV (mIsi "list" (mV 8)) (m2 fEq (mV 8) (mV 13))))))) wNil)
    (wRet (mPk 1 (mFl (mPk 0 (mFl (mDat (mCall g__law_tells (mCons (mV 0) (mCons (mV 1) (mCons (mV 3) mNil)))))))))))))))))
def m_Shelf_wishes : MS :=
    (sRet (mLcO 1 (mSeq (m1 fHeld (mV 0))) (mC fList (mCons (mV 1) mNil))))
def m_law (g__law_wishes : GF) (g__law_cell_at : GF) (g_Shelf_put : GFW) (g__law_deed : GFW) (g_Shelf_wishes : GF) (g__law_whole : GF) (g__law_tells : GF) : MW :=
    (wSeq (wLift (sSet 1 (mRs (mDat (mCall g__law_wishes (mCons (mV 0) (mCons (mr (.int 36)) (mCons (mr (.int 5)) (mCons (mr (.int 11)) mNil)))))))))
    (wSeq (wLift (sIf (mB (m2 fEq (m2 fMod (mDat (mCall g__law_cell_at (mCons (mV 0) (mCons (mr (.int 0)) mNil)))) (mr (.int 6))) (mr (.int 5)))) (sSet 1 (mRs (mDat (mCall g__law_wishes (mCons (mV 0) (mCons (mr (.int 36)) (mCons (mr (.int 6)) (mCons (mr (.int 11)) mNil)))))))) sNil))
    (wSeq (wLift (sSet 2 (mRs (m2 fIx (mV 1) (mr (.int 0))))))
    (wSeq (wLift (sSet 3 (mArr2 (mMake (mV 2)) (mMake (mV 2)))))
    (wSeq (wLift (sSet 4 (mArr2 (mLst mNil) (mLst mNil))))
    (wSeq (wLift (sIf (mB (m2 fEq (m2 fMod (m2 fDiv (mDat (mCall g__law_cell_at (mCons (mV 0) (mCons (mr (.int 0)) mNil)))) (mr (.int 6))) (mr (.int 3))) (mr (.int 1)))) (sPutA 4 (mLc 5 (mSeq (m2 fIx (mV 1) (mr (.int 1)))) (mr true) (mDat (mS1 fSoS (mV 5)))) (mr (.int 0))) sNil))
    (wSeq (wForPut 5 (plIx 4 (mr (.int 0))) (plIx 3 (mr (.int 0))) (vMetP g_Shelf_put (plIx 3 (mr (.int 0))) (mCons (mDat (mC fList (mCons (mV 5) mNil))) mNil)))
    (wSeq (wFor 6 (mRng asRng1 (mCons (m2 fMod (mDat (mCall g__law_cell_at (mCons (mV 0) (mCons (mr (.int 1)) mNil)))) (mr (.int 16))) mNil))
    (wSeq (wLift (sSet 7 (mRs (m2 fMod (m2 fMod (mDat (mCall g__law_cell_at (mCons (mV 0) (mCons (m2 fAdd (mr (.int 20)) (mV 6)) mNil)))) (mr (.int 3))) (mr (.int 2))))))
    (wSeq (wIfV (vNot (vB (vCall2 g__law_deed (plIx 3 (mV 7)) (plIx 4 (mV 7)) (mCons (mDat (mCall g__law_cell_at (mCons (mV 0) (mCons (m2 fAdd (mr (.int 2)) (mV 6)) mNil)))) (mCons (mV 2) mNil))))) (wRet (mr (.bool false))) wNil)
    (wFor 8 (mRng asRng1 (mCons (mr (.int 2)) mNil))
    (wSeq (wLift (sSet 9 (mPkA 3 (mMet g_Shelf_wishes (m2 fIx (mV 3) (mV 8))))))
    (wSeq (wIf (mPk 4 (mPk 9 (mOr (mNot (mB (mIsi "list" (mV 9)))) (mB (m2 fNe (mV 9) (m2 fIx (mV 4) (mV 8))))))) (wRet (mr (.bool false))) wNil)
    (wSeq (wLift (sFor 10 (mRng asRng1 (mCons (mPk 9 (mFl (mDat (mC fLen (mCons (mV 9) mNil))))) mNil))
    (sAppN 9 false (mV 10) (m2 fAdd (mr (.int 50)) (mV 10)))))
    (wSeq (wIf (mPk 4 (mPk 9 (mB (m2 fNe (mV 9) (mDat (mLc 10 (mRng asRng1 (mCons (mPk 9 (mFl (mDat (mC fLen (mCons (mV 9) mNil))))) mNil)) (mr true) (m2 fAdd (m2 fIx (m2 fIx (mV 4) (mV 8)) (mV 10)) (mDat (mLst (mCons (m2 fAdd (mr (.int 50)) (mV 10)) mNil)))))))))) (wRet (mr (.bool false))) wNil)
    (wLift (sClrN 9 false))))))))))
    (wSeq (wIf (mPk 3 (mOr (mNot (mB (mDat (mCall g__law_whole (mCons (m1 fMany (m2 fIx (mV 3) (mr (.int 0)))) mNil))))) (mB (m2 fNe (m1 fMany (m2 fIx (mV 3) (mr (.int 0)))) (mV 2))))) (wRet (mr (.bool false))) wNil)
    (wRet (mPk 4 (mFl (mPk 3 (mFl (mAndV (mDat (mCall g__law_tells (mCons (m2 fIx (mV 3) (mr (.int 0))) (mCons (m2 fIx (mV 4) (mr (.int 0))) (mCons (mV 2) mNil))))) (mDat (mCall g__law_tells (mCons (m2 fIx (mV 3) (mr (.int 1))) (mCons (m2 fIx (mV 4) (mr (.int 1))) (mCons (mV 2) mNil))))))))))))))))))))
section
variable {P : Program} {w : World} {K : PySem.W.Frag} {mg : Str → Option Value} {base : Heap}
abbrev s__law_cell_at : Stmt := top 28
theorem sc__law_cell_at : FnScope ["script", "k"] ["script", "k"] (defScope s__law_cell_at) := ⟨rfl, rfl, rfl, by decide +kernel, rfl, by decide +kernel, by decide +kernel⟩
theorem fn__law_cell_at {f : Addr} {fd : FuncData} (F : Fun K "_law_cell_at" "_law_cell_at" s__law_cell_at f fd) (B : Blt mg) : FnOk P w K mg base (L2.CX P w) 1 f fd ["script", "k"] (spD K (defD 2 2 (m__law_cell_at))) :=
  def_fn F sc__law_cell_at rfl rfl fun cdv A outer s H E c hp => by
    unfold m__law_cell_at
    exact (dss_cons (ds_if (dt_lt (dv 1) ((dr_len B.len (da_cons (dv 0) da_nil))).e) (dss_one (ds_ret ((de_ix (dv 0) (dv 1))).r)) dss_nil)
    (dss_one (ds_ret (de_int).r)))
abbrev s__law_order : Stmt := top 31
theorem sc__law_order : FnScope ["script", "at", "many", "left", "order", "k"] ["script", "at", "many"] (defScope s__law_order) := ⟨rfl, rfl, rfl, by decide +kernel, rfl, by decide +kernel, by decide +kernel⟩
theorem fn__law_order {f : Addr} {fd : FuncData} {g__law_cell_at : GF} (F : Fun K "_law_order" "_law_order" s__law_order f fd) (B : Blt mg) (h__law_cell_at : DefOk P w K mg base "_law_cell_at" 1 g__law_cell_at) : FnOk P w K mg base (L2.CX P w) 2 f fd ["script", "at", "many"] (spD K (defD 3 6 (m__law_order g__law_cell_at))) :=
  def_fn F sc__law_order rfl rfl fun cdv A outer s H E c hp => by
    unfold m__law_order
    exact (dss_cons (ds_set (i := 3) c.nd (dr_listRg c B.list B.range (dv 2)))
    (dss_cons (ds_set (i := 4) c.nd (dr_lst da_nil))
    (dss_cons (ds_for (i := 5) c hp (di_range1 B.range (da_cons (dv 2) da_nil))
    (dss_one (ds_appPop 4 3 (de_pk 3 (de_mod ((dr_call c h__law_cell_at (by decide) (da_cons (dv 0) (da_cons (de_add (dv 1) (dv 5)) da_nil)))).e ((dr_len B.len (da_cons (dv 3) da_nil))).e)))))
    (dss_one (ds_retV 4)))))
abbrev s__law_set : Stmt := top 30
theorem sc__law_set : FnScope ["cell", "many", "some", "book"] ["cell", "many"] (defScope s__law_set) := ⟨rfl, rfl, rfl, by decide +kernel, rfl, by decide +kernel, by decide +kernel⟩
theorem fn__law_set {f : Addr} {fd : FuncData} (F : Fun K "_law_set" "_law_set" s__law_set f fd) (B : Blt mg) : FnOk P w K mg base (L2.CX P w) 1 f fd ["cell", "many"] (spD K (defD 2 4 (m__law_set))) :=
  def_fn F sc__law_set rfl rfl fun cdv A outer s H E c hp => by
    unfold m__law_set
    exact (dss_cons (ds_set (i := 2) c.nd (dr_lst da_nil))
    (dss_cons (ds_for (i := 3) c hp (di_range1 B.range (da_cons (dv 1) da_nil))
    (dss_cons (ds_if (dt_eq c (de_mod (dv 0) de_int) de_int) (dss_one (ds_app 2 (dv 3))) dss_nil)
    (dss_one (ds_set (i := 0) c.nd ((de_fdiv (dv 0) de_int)).r))))
    (dss_one (ds_retV 2))))
abbrev s__law_wish : Stmt := top 32
theorem sc__law_wish : FnScope ["cell", "many", "order", "low", "size", "wish"] ["cell", "many", "order"] (defScope s__law_wish) := ⟨rfl, rfl, rfl, by decide +kernel, rfl, by decide +kernel, by decide +kernel⟩
theorem fn__law_wish {f : Addr} {fd : FuncData} (F : Fun K "_law_wish" "_law_wish" s__law_wish f fd) (B : Blt mg) : FnOk P w K mg base (L2.CX P w) 1 f fd ["cell", "many", "order"] (spD K (defD 3 6 (m__law_wish))) :=
  def_fn F sc__law_wish rfl rfl fun cdv A outer s H E c hp => by
    unfold m__law_wish
    exact (dss_cons (ds_set (i := 3) c.nd ((de_mod (dv 0) (dv 1))).r)
    (dss_cons (ds_set (i := 4) c.nd ((de_add de_int (de_mod (de_fdiv (dv 0) (dv 1)) (de_sub (dv 1) (dv 3))))).r)
    (dss_cons (ds_set (i := 5) c.nd (((dr_sl (dv 2) (do_some (dv 3)) (do_some (de_add (dv 3) (dv 4))))).e).r)
    (dss_cons (ds_if (dt_eq c (de_mod (de_fdiv (dv 0) de_int) de_int) de_int) (dss_one (ds_set (i := 5) c.nd ((de_add ((dr_lstRev c B.list B.reversed (dv 5))).e ((dr_sl (dv 5) do_none (do_some de_int))).e)).r)) dss_nil)
    (dss_one (ds_retV 5))))))
abbrev s__law_wishes : Stmt := top 33
theorem sc__law_wishes : FnScope ["script", "at", "most", "few", "cell", "many", "count", "order", "wishes", "k", "one", "other"] ["script", "at", "most", "few"] (defScope s__law_wishes) := ⟨rfl, rfl, rfl, by decide +kernel, rfl, by decide +kernel, by decide +kernel⟩
theorem fn__law_wishes {f : Addr} {fd : FuncData} {g__law_cell_at : GF} {g__law_order : GF} {g__law_set : GF} {g__law_wish : GF} (F : Fun K "_law_wishes" "_law_wishes" s__law_wishes f fd) (B : Blt mg) (h__law_cell_at : DefOk P w K mg base "_law_cell_at" 1 g__law_cell_at) (h__law_order : DefOk P w K mg base "_law_order" 2 g__law_order) (h__law_set : DefOk P w K mg base "_law_set" 1 g__law_set) (h__law_wish : DefOk P w K mg base "_law_wish" 1 g__law_wish) : FnOk P w K mg base (L2.CX P w) 3 f fd ["script", "at", "most", "few"] (spD K (defD 4 12 (m__law_wishes g__law_cell_at g__law_order g__law_set g__law_wish))) :=
  def_fn F sc__law_wishes rfl rfl fun cdv A outer s H E c hp => by
    unfold m__law_wishes
    exact (dss_cons (ds_set (i := 4) c.nd (((dr_call c h__law_cell_at (by decide) (da_cons (dv 0) (da_cons (dv 1) da_nil)))).e).r)
    (dss_cons (ds_set (i := 5) c.nd ((de_add de_int (de_mod (de_fdiv (dv 4) de_int) (dv 2)))).r)
    (dss_cons (ds_set (i := 6) c.nd ((de_mod (de_fdiv (dv 4) de_int) (de_add (dv 3) de_int))).r)
    (dss_cons (ds_set (i := 7) c.nd (((dr_call c h__law_order (by decide) (da_cons (dv 0) (da_cons (de_add (dv 1) de_int) (da_cons (dv 5) da_nil))))).e).r)
    (dss_cons (ds_set (i := 8) c.nd (dr_lst da_nil))
    (dss_cons (ds_for (i := 9) c hp (di_range1 B.range (da_cons (dv 6) da_nil))
    (dss_cons (ds_set (i := 10) c.nd (((dr_call c h__law_cell_at (by decide) (da_cons (dv 0) (da_cons (de_add (de_add (dv 1) de_int) (dv 9)) da_nil)))).e).r)
    (dss_one (ds_if (dt_eq c (de_mod (dv 4) de_int) de_int) (dss_one (ds_app 8 ((dr_call c h__law_set (by decide) (da_cons (dv 10) (da_cons (dv 5) da_nil)))).e)) (dss_one (ds_app 8 ((dr_call c h__law_wish (by decide) (da_cons (dv 10) (da_cons (dv 5) (da_cons (dv 7) da_nil))))).e))))))
    (dss_cons (ds_if ((dw_and (dt_gt (de_mod (dv 4) de_int) de_int) (dw_and1 (dt_gt (dv 6) de_int)))).t (dss_cons (ds_set (i := 11) c.nd (((dr_call c h__law_cell_at (by decide) (da_cons (dv 0) (da_cons (de_add (dv 1) de_int) da_nil)))).e).r)
    (dss_one (ds_put 8 ((dr_call c h__law_set (by decide) (da_cons (de_fdiv (dv 11) (dv 6)) (da_cons (dv 5) da_nil)))).e (de_mod (dv 11) (dv 6))))) dss_nil)
    (dss_fix 8 (dss_one (ds_ret ((de_tup (da_cons (dv 5) (da_cons (dv 8) da_nil)))).r))))))))))
abbrev s_ask : Stmt := top 9
theorem sc_ask : FnScope ["many", "wishes", "wish", "book"] ["many", "wishes"] (defScope s_ask) := ⟨rfl, rfl, rfl, by decide +kernel, rfl, by decide +kernel, by decide +kernel⟩
theorem fn_ask {f : Addr} {fd : FuncData} (F : Fun K "ask" "ask" s_ask f fd) (B : Blt mg) {C_NoBook : Addr} (x_NoBook : ExT K mg "NoBook" C_NoBook) : FnOk P w K mg base (L2.CX P w) 1 f fd ["many", "wishes"] (spD K (defD 2 4 (m_ask C_NoBook))) :=
  def_fn F sc_ask rfl rfl fun cdv A outer s H E c hp => by
    unfold m_ask
    exact (dss_one (ds_for (i := 2) c hp (di_any (dv 1))
    (dss_one (ds_for (i := 3) c hp (di_any (dv 2))
    (dss_one (ds_if ((dw_or (dt_lt (dv 3) de_int) (dw_or1 (dt_ge (dv 3) (dv 0))))).t (dss_one (ds_raise c PySem.F.excBase_ValueError x_NoBook.x x_NoBook.g x_NoBook.k x_NoBook.b x_NoBook.t)) dss_nil))))))
abbrev s_Shelf_put : Stmt := inClass (top 26) 1
theorem sc_Shelf_put : FnScope ["self", "wish"] ["self", "wish"] (defScope s_Shelf_put) := ⟨rfl, rfl, rfl, by decide +kernel, rfl, by decide +kernel, by decide +kernel⟩
theorem fn_Shelf_put {f : Addr} {fd : FuncData} {g_ask : GF} {C_Shelf : Addr} (F : Fun K "put" "Shelf.put" s_Shelf_put f fd) (B : Blt mg) (h_ask : DefOk P w K mg base "ask" 1 g_ask) (T : ShT K mg C_Shelf) (k_ROOM : CstI mg "ROOM" 12) {C_FullShelf : Addr} (x_FullShelf : ExT K mg "FullShelf" C_FullShelf) : FnOk P w K mg base (L2.CX P w) 2 f fd ["self", "wish"] (spW K (defW 1 2 2 (m_Shelf_put g_ask C_FullShelf))) :=
  def_fnW F sc_Shelf_put rfl rfl fun cdv A outer s H E c hp => by
    unfold m_Shelf_put
    exact (vss_cons (vs_exp ((de_pk 1 (de_pk 0 ((dr_call c h_ask (by decide) (da_cons (de_many T (dv 0)) (da_cons ((dr_lst (da_cons (dv 1) da_nil))).e da_nil)))).e))).r)
    (vss_cons (vs_if (dt_pk 0 (dt_ge ((dr_len B.len (da_cons (de_held T (dv 0)) da_nil))).e (de_cstI k_ROOM))) (vss_one (vs_raise c PySem.F.excBase_ValueError x_FullShelf.x x_FullShelf.g x_FullShelf.k x_FullShelf.b x_FullShelf.t)) vss_nil)
    (vss_cons (vs_happ 0 T ((dr_pkI 1 (dr_sortedSet c B.sorted B.set (dv 1)))).e)
    (vss_one (vs_ret (de_pk 0 ((dr_len B.len (da_cons (de_held T (dv 0)) da_nil))).e))))))
abbrev s_Shelf_put2 : Stmt := inClass (top 26) 1
theorem sc_Shelf_put2 : FnScope ["self", "wish"] ["self", "wish"] (defScope s_Shelf_put2) := ⟨rfl, rfl, rfl, by decide +kernel, rfl, by decide +kernel, by decide +kernel⟩
theorem fn_Shelf_put2 {f : Addr} {fd : FuncData} {g_ask : GF} {C_Shelf : Addr} (F : Fun K "put" "Shelf.put" s_Shelf_put2 f fd) (B : Blt mg) (h_ask : DefOk P w K mg base "ask" 1 g_ask) (T : ShT K mg C_Shelf) (k_ROOM : CstI mg "ROOM" 12) {C_FullShelf : Addr} (x_FullShelf : ExT K mg "FullShelf" C_FullShelf) : FnOk P w K mg base (L2.CX P w) 2 f fd ["self", "wish"] (spW K (defW 2 2 2 (m_Shelf_put2 g_ask C_FullShelf))) :=
  def_fnW F sc_Shelf_put2 rfl rfl fun cdv A outer s H E c hp => by
    unfold m_Shelf_put2
    exact (vss_cons (vs_exp ((de_pk 1 (de_pk 0 ((dr_call c h_ask (by decide) (da_cons (de_many T (dv 0)) (da_cons ((dr_lst (da_cons (dv 1) da_nil))).e da_nil)))).e))).r)
    (vss_cons (vs_if (dt_pk 0 (dt_ge ((dr_len B.len (da_cons (de_held T (dv 0)) da_nil))).e (de_cstI k_ROOM))) (vss_one (vs_raise c PySem.F.excBase_ValueError x_FullShelf.x x_FullShelf.g x_FullShelf.k x_FullShelf.b x_FullShelf.t)) vss_nil)
    (vss_cons (vs_happ 0 T ((dr_pkI 1 (dr_sortedSet c B.sorted B.set (dv 1)))).e)
    (vss_one (vs_ret (de_pk 0 ((dr_len B.len (da_cons (de_held T (dv 0)) da_nil))).e))))))
abbrev s__law_whole : Stmt := top 29
theorem sc__law_whole : FnScope ["found"] ["found"] (defScope s__law_whole) := ⟨rfl, rfl, rfl, by decide +kernel, rfl, by decide +kernel, by decide +kernel⟩
theorem fn__law_whole {f : Addr} {fd : FuncData} (F : Fun K "_law_whole" "_law_whole" s__law_whole f fd) (B : Blt mg) : FnOk P w K mg base (L2.CX P w) 1 f fd ["found"] (spD K (defD 1 1 (m__law_whole))) :=
  def_fn F sc__law_whole rfl rfl fun cdv A outer s H E c hp => by
    unfold m__law_whole
    exact (dss_one (ds_ret ((de_and (de_isi (T := "int") B.isinstance B.int (by decide +kernel) (dv 0)) (de_one (de_not (de_isi (T := "bool") B.isinstance B.bool (by decide +kernel) (dv 0)))))).r))
abbrev s_Shelf_take : Stmt := inClass (top 26) 2
theorem sc_Shelf_take : FnScope ["self", "number"] ["self", "number"] (defScope s_Shelf_take) := ⟨rfl, rfl, rfl, by decide +kernel, rfl, by decide +kernel, by decide +kernel⟩
theorem fn_Shelf_take {f : Addr} {fd : FuncData} {C_Shelf : Addr} (F : Fun K "take" "Shelf.take" s_Shelf_take f fd) (B : Blt mg) (T : ShT K mg C_Shelf) {C_NoWish : Addr} (x_NoWish : ExT K mg "NoWish" C_NoWish) : FnOk P w K mg base (L2.CX P w) 1 f fd ["self", "number"] (spW K (defW 1 2 2 (m_Shelf_take C_NoWish))) :=
  def_fnW F sc_Shelf_take rfl rfl fun cdv A outer s H E c hp => by
    unfold m_Shelf_take
    exact (vss_cons (vs_if (dt_pk 0 ((dw_or (dt_lt (dv 1) de_int) (dw_or1 (dt_ge (dv 1) ((dr_len B.len (da_cons (de_held T (dv 0)) da_nil))).e)))).t) (vss_one (vs_raise c PySem.F.excBase_ValueError x_NoWish.x x_NoWish.g x_NoWish.k x_NoWish.b x_NoWish.t)) vss_nil)
    (vss_one (vs_retV (ve_hpop 0 T (dv 1)))))
abbrev s__law_which : Stmt := top 38
theorem sc__law_which : FnScope ["e", "some"] ["e"] (defScope s__law_which) := ⟨rfl, rfl, rfl, by decide +kernel, rfl, by decide +kernel, by decide +kernel⟩
def w__law_which (C_NoBook : Addr) (C_NoTurn : Addr) (C_NoOrder : Addr) (C_NoWish : Addr) (C_FullShelf : Addr) (C_BadLine : Addr) : Addr → List Bool := fun cc => [decide (cc = C_NoBook), decide (cc = C_NoWish), decide (cc = C_NoTurn), decide (cc = C_NoOrder), decide (cc = C_FullShelf), decide (cc = C_BadLine), true]
theorem run__law_which (C_NoBook : Addr) (C_NoTurn : Addr) (C_NoOrder : Addr) (C_NoWish : Addr) (C_FullShelf : Addr) (C_BadLine : Addr) (cc a : Addr) : m__law_which C_NoBook C_NoWish C_FullShelf C_NoOrder C_NoTurn C_BadLine cc a [.e a, .no] = some (.rt (.d (.list ((w__law_which C_NoBook C_NoTurn C_NoOrder C_NoWish C_FullShelf C_BadLine cc).map .bool)))) := by
  have b4 : 4 ≤ big := by decide
  have b3 : 3 ≤ big := by decide
  have b7 : 7 ≤ big := by decide
  unfold m__law_which w__law_which
  simp [b4, b3, b7]
theorem fn__law_which {f : Addr} {fd : FuncData} (F : Fun K "_law_which" "_law_which" s__law_which f fd) (B : Blt mg) {C_NoBook : Addr} {C_NoWish : Addr} {C_FullShelf : Addr} {C_NoOrder : Addr} (y_NoOrder : ClT K mg "NoOrder" C_NoOrder) {C_NoTurn : Addr} (y_NoTurn : ClT K mg "NoTurn" C_NoTurn) (y_NoWish : ClT K mg "NoWish" C_NoWish) (y_NoBook : ClT K mg "NoBook" C_NoBook) {C_BadLine : Addr} (y_BadLine : ClT K mg "BadLine" C_BadLine) (y_FullShelf : ClT K mg "FullShelf" C_FullShelf) (Z : ∀ c ∈ [C_NoBook, C_NoWish, C_FullShelf], ExcC K c) (kt_NoOrder : ∀ c ∈ [C_NoBook, C_NoWish, C_FullShelf], PySem.W.kitOne K (.ref c) (.ref C_NoOrder) = some (decide (c = C_NoOrder))) (kt_NoTurn : ∀ c ∈ [C_NoBook, C_NoWish, C_FullShelf], PySem.W.kitOne K (.ref c) (.ref C_NoTurn) = some (decide (c = C_NoTurn))) (kt_NoWish : ∀ c ∈ [C_NoBook, C_NoWish, C_FullShelf], PySem.W.kitOne K (.ref c) (.ref C_NoWish) = some (decide (c = C_NoWish))) (kt_NoBook : ∀ c ∈ [C_NoBook, C_NoWish, C_FullShelf], PySem.W.kitOne K (.ref c) (.ref C_NoBook) = some (decide (c = C_NoBook))) (kt_BadLine : ∀ c ∈ [C_NoBook, C_NoWish, C_FullShelf], PySem.W.kitOne K (.ref c) (.ref C_BadLine) = some (decide (c = C_BadLine))) (kt_FullShelf : ∀ c ∈ [C_NoBook, C_NoWish, C_FullShelf], PySem.W.kitOne K (.ref c) (.ref C_FullShelf) = some (decide (c = C_FullShelf))) (kb_ValueError : ∀ c ∈ [C_NoBook, C_NoWish, C_FullShelf], PySem.W.kitOne K (.ref c) (.type "ValueError") = some true) : FnE P w K mg base 1 f fd ["e"] [C_NoBook, C_NoWish, C_FullShelf] (w__law_which C_NoBook C_NoTurn C_NoOrder C_NoWish C_FullShelf C_BadLine) := by
  refine def_fnE (m := m__law_which C_NoBook C_NoWish C_FullShelf C_NoOrder C_NoTurn C_BadLine) F sc__law_which (fun cdv A outer s H E p cc hcc hz hf hp => ?_) fun cc _ a => run__law_which C_NoBook C_NoTurn C_NoOrder C_NoWish C_FullShelf C_BadLine cc a
  unfold m__law_which
  exact (dss_cons (ds_set (i := 1) sc__law_which.nd (((dr_lst (da_cons (de_isP 0 hp (Z cc hcc) hz hf B.isinstance y_NoBook.g (kt_NoBook cc hcc)) (da_cons (de_isP 0 hp (Z cc hcc) hz hf B.isinstance y_NoWish.g (kt_NoWish cc hcc)) (da_cons (de_isP 0 hp (Z cc hcc) hz hf B.isinstance y_NoTurn.g (kt_NoTurn cc hcc)) (da_cons (de_isP 0 hp (Z cc hcc) hz hf B.isinstance y_NoOrder.g (kt_NoOrder cc hcc)) da_nil)))))).e).r)
    (dss_one (ds_ret ((de_add (dv 1) ((dr_lst (da_cons (de_isP 0 hp (Z cc hcc) hz hf B.isinstance y_FullShelf.g (kt_FullShelf cc hcc)) (da_cons (de_isP 0 hp (Z cc hcc) hz hf B.isinstance y_BadLine.g (kt_BadLine cc hcc)) (da_cons (de_isPb 0 hp (Z cc hcc) hz hf B.isinstance B.ValueError (by decide +kernel) (kb_ValueError cc hcc)) da_nil))))).e)).r)))
abbrev s__law_refused : Stmt := top 39
theorem sc__law_refused : FnScope ["shelf", "way", "wish", "number", "told", "e"] ["shelf", "way", "wish", "number"] (defScope s__law_refused) := ⟨rfl, rfl, rfl, by decide +kernel, rfl, by decide +kernel, by decide +kernel⟩
theorem fn__law_refused {f : Addr} {fd : FuncData} {g_Shelf_put : GFW} {g_Shelf_take : GFW} {g__law_which : Addr → List Bool} {C_Shelf : Addr} {C_NoBook : Addr} {C_NoWish : Addr} {C_FullShelf : Addr} (F : Fun K "_law_refused" "_law_refused" s__law_refused f fd) (B : Blt mg) (h_Shelf_put : MetW P w K mg base C_Shelf "put" 2 g_Shelf_put) (h_Shelf_take : MetW P w K mg base C_Shelf "take" 1 g_Shelf_take) (h__law_which : DefOkE P w K mg base "_law_which" 1 [C_NoBook, C_NoWish, C_FullShelf] g__law_which) (T : ShT K mg C_Shelf) {C_ShelfError : Addr} (y_ShelfError : ClT K mg "ShelfError" C_ShelfError) (Z : ∀ c ∈ [C_NoBook, C_NoWish, C_FullShelf], ExcC K c) (me_ShelfError : ∀ c ∈ [C_NoBook, C_NoWish, C_FullShelf], PySem.W.exmOne K (.ref c) (.ref C_ShelfError) = some true) : FnOk P w K mg base (L2.CX P w) 3 f fd ["shelf", "way", "wish", "number"] (spW K (defW 1 4 6 (m__law_refused g_Shelf_put g_Shelf_take g__law_which C_NoBook C_NoWish C_FullShelf))) :=
  def_fnW F sc__law_refused rfl rfl fun cdv A outer s H E c hp => by
    unfold m__law_refused
    exact (vss_cons (vs_lift (ds_set (i := 4) c.nd (((dr_lst da_nil)).e).r))
    (vss_cons (vs_try 5 c rfl rfl y_ShelfError.g me_ShelfError (tb_if c (fun _ _ c => (dt_eq c (dv 1) de_int)) (tb_met 0 c T h_Shelf_put (by decide) (fun _ _ c => (da_cons (dv 2) da_nil))) (tb_met 0 c T h_Shelf_take (by decide) (fun _ _ c => (da_cons (dv 3) da_nil)))) (fun cc hcc a oe pn hz hf => (dss_one (ds_set (i := 4) c.nd ((de_which 5 c hcc hz hf h__law_which (by decide))).r))))
    (vss_one (vs_ret (dv 4)))))
abbrev s_turns : Stmt := top 13
theorem sc_turns : FnScope ["many", "found", "a", "b"] ["many"] (defScope s_turns) := ⟨rfl, rfl, rfl, by decide +kernel, rfl, by decide +kernel, by decide +kernel⟩
theorem fn_turns {f : Addr} {fd : FuncData} (F : Fun K "turns" "turns" s_turns f fd) (B : Blt mg) : FnOk P w K mg base (L2.CX P w) 1 f fd ["many"] (spD K (defD 1 4 (m_turns))) :=
  def_fn F sc_turns rfl rfl fun cdv A outer s H E c hp => by
    unfold m_turns
    exact (dss_cons (ds_set (i := 1) c.nd (((dr_lst da_nil)).e).r)
    (dss_cons (ds_for (i := 2) c hp (di_range1 B.range (da_cons (dv 0) da_nil))
    (dss_one (ds_set (i := 1) c.nd ((de_add (dv 1) ((dr_lc (i := 3) c (di_range1 B.range (da_cons (dv 0) da_nil)) (fun _ _ _ _ _ => pg_own c.nd) (fun _ _ _ _ _ c => (dts_one (dt_ne c (dv 2) (dv 3)))) (fun _ _ _ _ _ c => (de_tup (da_cons (dv 2) (da_cons (dv 3) da_nil)))) (N := ["many", "found", "a", "b"]) (sc := defScope s_turns))).e)).r)))
    (dss_one (ds_retV 1))))
abbrev s_split : Stmt := top 11
theorem sc_split : FnScope ["wishes", "a", "b", "c", "wish"] ["wishes", "a", "b", "c"] (defScope s_split) := ⟨rfl, rfl, rfl, by decide +kernel, rfl, by decide +kernel, by decide +kernel⟩
theorem fn_split {f : Addr} {fd : FuncData} (F : Fun K "split" "split" s_split f fd) (B : Blt mg) : FnOk P w K mg base (L2.CX P w) 1 f fd ["wishes", "a", "b", "c"] (spD K (defD 4 5 (m_split))) :=
  def_fn F sc_split rfl rfl fun cdv A outer s H E c hp => by
    unfold m_split
    exact (dss_cons (ds_for (i := 4) c hp (di_any (dv 0))
    (dss_one (ds_if ((dw_and (dt_in c (dv 1) (dv 4)) (dw_and (dt_in c (dv 3) (dv 4)) (dw_and1 (dt_nin c (dv 2) (dv 4)))))).t (dss_one (ds_ret (de_bl).r)) dss_nil)))
    (dss_one (ds_ret (de_bl).r)))
abbrev s_barred : Stmt := top 12
theorem sc_barred : FnScope ["wishes", "one", "other"] ["wishes", "one", "other"] (defScope s_barred) := ⟨rfl, rfl, rfl, by decide +kernel, rfl, by decide +kernel, by decide +kernel⟩
theorem fn_barred {f : Addr} {fd : FuncData} {g_split : GF} (F : Fun K "barred" "barred" s_barred f fd) (B : Blt mg) (h_split : DefOk P w K mg base "split" 1 g_split) : FnOk P w K mg base (L2.CX P w) 2 f fd ["wishes", "one", "other"] (spD K (defD 3 3 (m_barred g_split))) :=
  def_fn F sc_barred rfl rfl fun cdv A outer s H E c hp => by
    unfold m_barred
    exact (dss_cons (ds_if ((dw_and (dt_eq c (de_ix (dv 1) de_int) (de_ix (dv 2) de_int)) (dw_and1 (dt_eq c (de_ix (dv 1) de_int) (de_ix (dv 2) de_int))))).t (dss_one (ds_ret (de_bl).r)) dss_nil)
    (dss_cons (ds_if ((dw_and (dt_eq c (de_ix (dv 1) de_int) (de_ix (dv 2) de_int)) (dw_and1 (dt_ne c (de_ix (dv 1) de_int) (de_ix (dv 2) de_int))))).t (dss_one (ds_ret (dr_call c h_split (by decide) (da_cons (dv 0) (da_cons (de_ix (dv 1) de_int) (da_cons (de_ix (dv 1) de_int) (da_cons (de_ix (dv 2) de_int) da_nil))))))) dss_nil)
    (dss_cons (ds_if ((dw_and (dt_eq c (de_ix (dv 2) de_int) (de_ix (dv 1) de_int)) (dw_and1 (dt_ne c (de_ix (dv 2) de_int) (de_ix (dv 1) de_int))))).t (dss_one (ds_ret (dr_call c h_split (by decide) (da_cons (dv 0) (da_cons (de_ix (dv 2) de_int) (da_cons (de_ix (dv 2) de_int) (da_cons (de_ix (dv 1) de_int) da_nil))))))) dss_nil)
    (dss_one (ds_ret (de_bl).r)))))
abbrev s_leads_from : Stmt := top 14
theorem sc_leads_from : FnScope ["many", "wishes", "start", "found", "row", "at", "turn"] ["many", "wishes", "start"] (defScope s_leads_from) := ⟨rfl, rfl, rfl, by decide +kernel, rfl, by decide +kernel, by decide +kernel⟩
theorem fn_leads_from {f : Addr} {fd : FuncData} {g_turns : GF} {g_barred : GF} (F : Fun K "leads_from" "leads_from" s_leads_from f fd) (B : Blt mg) (h_turns : DefOk P w K mg base "turns" 1 g_turns) (h_barred : DefOk P w K mg base "barred" 2 g_barred) : FnOk P w K mg base (L2.CX P w) 3 f fd ["many", "wishes", "start"] (spD K (defD 3 7 (m_leads_from g_turns g_barred))) :=
  def_fn F sc_leads_from rfl rfl fun cdv A outer s H E c hp => by
    unfold m_leads_from
    exact (dss_cons (ds_set (i := 3) c.nd (dr_disp 2 c))
    (dss_cons (ds_set (i := 4) c.nd (dr_lst (da_cons (dv 2) da_nil)))
    (dss_cons (ds_set (i := 5) c.nd (de_int).r)
    (dss_cons (ds_while 1000 hp (dt_pk 4 (dt_lt (dv 5) ((dr_len B.len (da_cons (dv 4) da_nil))).e))
    (dss_cons (ds_for (i := 6) c hp (di_any ((dr_call c h_turns (by decide) (da_cons (dv 0) da_nil))).e)
    (dss_one (ds_if (dt_pk 4 ((dw_and (dt_dninO 3 c (dv 6)) (dw_and1 (dt_val ((dr_call c h_barred (by decide) (da_cons (dv 1) (da_cons (de_ix (dv 4) (dv 5)) (da_cons (dv 6) da_nil))))).e)))).t) (dss_cons (ds_dput 3 c (de_ixO 4 (dv 5)) (dv 6))
    (dss_one (ds_app 4 (dv 6)))) dss_nil)))
    (dss_one (ds_set (i := 5) c.nd ((de_add (dv 5) de_int)).r))))
    (dss_frz 3 (dss_one (ds_retV 3)))))))
abbrev s_trail : Stmt := top 15
theorem sc_trail : FnScope ["leads", "turn", "found"] ["leads", "turn"] (defScope s_trail) := ⟨rfl, rfl, rfl, by decide +kernel, rfl, by decide +kernel, by decide +kernel⟩
theorem fn_trail {f : Addr} {fd : FuncData} (F : Fun K "trail" "trail" s_trail f fd) (B : Blt mg) : FnOk P w K mg base (L2.CX P w) 1 f fd ["leads", "turn"] (spD K (defD 2 3 (m_trail))) :=
  def_fn F sc_trail rfl rfl fun cdv A outer s H E c hp => by
    unfold m_trail
    exact (dss_cons (ds_set (i := 2) c.nd (dr_lst (da_cons (dv 1) da_nil)))
    (dss_cons (ds_while 1000 hp (dt_pk 2 (dt_nis (de_dget c (dv 0) (de_ix (dv 2) (de_neg de_int))) de_non))
    (dss_one (ds_app 2 (de_dget c (dv 0) (de_ixO 2 (de_neg de_int))))))
    (dss_one (ds_retV 2))))
abbrev s_joined : Stmt := top 16
theorem sc_joined : FnScope ["first", "second"] ["first", "second"] (defScope s_joined) := ⟨rfl, rfl, rfl, by decide +kernel, rfl, by decide +kernel, by decide +kernel⟩
theorem fn_joined {f : Addr} {fd : FuncData} (F : Fun K "joined" "joined" s_joined f fd) (B : Blt mg) : FnOk P w K mg base (L2.CX P w) 1 f fd ["first", "second"] (spD K (defD 2 2 (m_joined))) :=
  def_fn F sc_joined rfl rfl fun cdv A outer s H E c hp => by
    unfold m_joined
    exact (dss_cons (ds_while 1000 hp ((dw_and (dt_gt ((dr_len B.len (da_cons (dv 0) da_nil))).e de_int) (dw_and (dt_gt ((dr_len B.len (da_cons (dv 1) da_nil))).e de_int) (dw_and1 (dt_eq c (de_ix (dv 0) (de_neg de_int)) (de_ix (dv 1) (de_neg de_int))))))).t
    (dss_cons (ds_set (i := 0) c.nd (((dr_sl (dv 0) do_none (do_some (de_neg de_int)))).e).r)
    (dss_one (ds_set (i := 1) c.nd (((dr_sl (dv 1) do_none (do_some (de_neg de_int)))).e).r))))
    (dss_one (ds_ret (dr_addL (dv 0) ((dr_lstRev c B.list B.reversed ((dr_sl (dv 1) do_none (do_some (de_neg de_int)))).e)).e))))
abbrev s_odd_ring : Stmt := top 17
theorem sc_odd_ring : FnScope ["many", "wishes", "met", "start", "leads", "one", "other", "first", "second"] ["many", "wishes"] (defScope s_odd_ring) := ⟨rfl, rfl, rfl, by decide +kernel, rfl, by decide +kernel, by decide +kernel⟩
theorem fn_odd_ring {f : Addr} {fd : FuncData} {g_ask : GF} {g_turns : GF} {g_leads_from : GF} {g_barred : GF} {g_trail : GF} {g_joined : GF} (F : Fun K "odd_ring" "odd_ring" s_odd_ring f fd) (B : Blt mg) (h_ask : DefOk P w K mg base "ask" 1 g_ask) (h_turns : DefOk P w K mg base "turns" 1 g_turns) (h_leads_from : DefOk P w K mg base "leads_from" 3 g_leads_from) (h_barred : DefOk P w K mg base "barred" 2 g_barred) (h_trail : DefOk P w K mg base "trail" 1 g_trail) (h_joined : DefOk P w K mg base "joined" 1 g_joined) : FnOk P w K mg base (L2.CX P w) 4 f fd ["many", "wishes"] (spD K (defD 2 9 (m_odd_ring g_ask g_turns g_leads_from g_barred g_trail g_joined))) :=
  def_fn F sc_odd_ring rfl rfl fun cdv A outer s H E c hp => by
    unfold m_odd_ring
    exact (dss_cons (ds_exp (dr_call c h_ask (by decide) (da_cons (dv 0) (da_cons (dv 1) da_nil))))
    (dss_cons (ds_set (i := 2) c.nd dr_dnew)
    (dss_cons (ds_for (i := 3) c hp (di_any ((dr_call c h_turns (by decide) (da_cons (dv 0) da_nil))).e)
    (dss_one (ds_if (dt_dninO 2 c (dv 3)) (dss_cons (ds_set (i := 4) c.nd (((dr_call c h_leads_from (by decide) (da_cons (dv 0) (da_cons (dv 1) (da_cons (dv 3) da_nil))))).e).r)
    (dss_cons (ds_dupd 2 c (dv 4))
    (dss_one (ds_forD (i := 5) c hp (dv 4)
    (dss_one (ds_forD (i := 6) c hp (dv 4)
    (dss_one (ds_if (dt_val ((dr_call c h_barred (by decide) (da_cons (dv 1) (da_cons (dv 5) (da_cons (dv 6) da_nil))))).e) (dss_cons (ds_set (i := 7) c.nd (((dr_call c h_trail (by decide) (da_cons (dv 4) (da_cons (dv 5) da_nil)))).e).r)
    (dss_cons (ds_set (i := 8) c.nd (((dr_call c h_trail (by decide) (da_cons (dv 4) (da_cons (dv 6) da_nil)))).e).r)
    (dss_one (ds_if (dt_eq c (de_mod ((dr_len B.len (da_cons (dv 7) da_nil))).e de_int) (de_mod ((dr_len B.len (da_cons (dv 8) da_nil))).e de_int)) (dss_one (ds_ret (dr_call c h_joined (by decide) (da_cons (dv 7) (da_cons (dv 8) da_nil))))) dss_nil)))) dss_nil)))))))) dss_nil)))
    (dss_one (ds_ret (de_non).r)))))
abbrev s_may_follow : Stmt := top 19
theorem sc_may_follow : FnScope ["order", "wishes", "book", "wish", "begun", "one"] ["order", "wishes", "book"] (defScope s_may_follow) := ⟨rfl, rfl, rfl, by decide +kernel, rfl, by decide +kernel, by decide +kernel⟩
theorem fn_may_follow {f : Addr} {fd : FuncData} (F : Fun K "may_follow" "may_follow" s_may_follow f fd) (B : Blt mg) : FnOk P w K mg base (L2.CX P w) 1 f fd ["order", "wishes", "book"] (spD K (defD 3 6 (m_may_follow))) :=
  def_fn F sc_may_follow rfl rfl fun cdv A outer s H E c hp => by
    unfold m_may_follow
    exact (dss_cons (ds_for (i := 3) c hp (di_any (dv 1))
    (dss_cons (ds_fixA 4 (ds_setLc (j := 4) (i := 5) c (di_any (dv 0)) (fun _ _ _ _ _ => pg_own c.nd) (fun _ _ _ _ _ c => (dts_one (dt_in c (dv 5) (dv 3)))) (fun _ _ _ _ _ c => (dv 5)) (sw_true rfl rfl rfl (by decide +kernel)) (N := ["order", "wishes", "book", "wish", "begun", "one"]) (sc := defScope s_may_follow)))
    (dss_one (ds_if ((dw_and (dt_gt ((dr_len B.len (da_cons (dv 4) da_nil))).e de_int) (dw_and (dt_lt ((dr_len B.len (da_cons (dv 4) da_nil))).e ((dr_lenSet c B.len B.set (dv 3))).e) (dw_and1 (dt_nin c (dv 2) (dv 3)))))).t (dss_one (ds_ret (de_bl).r)) dss_nil))))
    (dss_one (ds_ret (de_bl).r)))
abbrev s_grown : Stmt := top 20
theorem sc_grown : FnScope ["many", "wishes", "order", "book", "found"] ["many", "wishes", "order"] (defScope s_grown) := ⟨rfl, rfl, rfl, by decide +kernel, rfl, by decide +kernel, by decide +kernel⟩
theorem fn_grown {f : Addr} {fd : FuncData} {j : Nat} (hj : 1 ≤ j) {g_may_follow : GF} {g_grown : GFO} (F : Fun K "grown" "grown" s_grown f fd) (B : Blt mg) (h_may_follow : DefOk P w K mg base "may_follow" 1 g_may_follow) (h_grown : DefOkO P w K mg base "grown" j g_grown) : FnOk P w K mg base (L2.CX P w) (j + 1) f fd ["many", "wishes", "order"] (spO K (defO 3 5 (m_grown g_may_follow g_grown))) :=
  def_fnO F sc_grown rfl rfl fun cdv A outer s H E c hp => by
    unfold m_grown
    exact (dss_cons (ds_if (dt_pk 2 (dt_eq c ((dr_len B.len (da_cons (dv 2) da_nil))).e (dv 0))) (dss_one (ds_retV 2)) dss_nil)
    (dss_cons (ds_for (i := 3) c hp (di_range1 B.range (da_cons (dv 0) da_nil))
    (dss_one (ds_if (dt_pk 2 ((dw_and (dt_nin c (dv 3) (dv 2)) (dw_and1 (dt_val ((dr_call c h_may_follow (by omega) (da_cons (dv 2) (da_cons (dv 1) (da_cons (dv 3) da_nil))))).e)))).t) (dss_cons (ds_set (i := 4) c.nd (dr_callO c h_grown (by omega) (dv 0) (dv 1) (dr_pkI 2 (dr_addL (dv 2) ((dr_lst (da_cons (dv 3) da_nil))).e))))
    (dss_one (ds_if (dt_pk 4 (dt_nis (dv 4) de_non)) (dss_one (ds_retV 4)) dss_nil))) dss_nil)))
    (dss_one (ds_ret (de_non).r))))
abbrev s_judged : Stmt := top 22
theorem sc_judged : FnScope ["many", "wishes", "ring"] ["many", "wishes"] (defScope s_judged) := ⟨rfl, rfl, rfl, by decide +kernel, rfl, by decide +kernel, by decide +kernel⟩
theorem fn_judged {f : Addr} {fd : FuncData} {g_odd_ring : GF} {g_grown : GFO} (F : Fun K "judged" "judged" s_judged f fd) (B : Blt mg) (h_odd_ring : DefOk P w K mg base "odd_ring" 4 g_odd_ring) (h_grown : DefOkO P w K mg base "grown" 11 g_grown) : FnOk P w K mg base (L2.CX P w) 12 f fd ["many", "wishes"] (spD K (defD 2 3 (m_judged g_odd_ring g_grown))) :=
  def_fn F sc_judged rfl rfl fun cdv A outer s H E c hp => by
    unfold m_judged
    exact (dss_cons (ds_set (i := 2) c.nd (dr_call c h_odd_ring (by decide) (da_cons (dv 0) (da_cons (dv 1) da_nil))))
    (dss_cons (ds_if (dt_pk 2 (dt_nis (dv 2) de_non)) (dss_one (ds_retBox (z := "ring") 2)) dss_nil)
    (dss_one (ds_ret (dr_box (dr_callO c h_grown (by decide) (dv 0) (dv 1) (dr_lst da_nil)))))))
abbrev s_Shelf_told : Stmt := inClass (top 26) 4
theorem sc_Shelf_told : FnScope ["self"] ["self"] (defScope s_Shelf_told) := ⟨rfl, rfl, rfl, by decide +kernel, rfl, by decide +kernel, by decide +kernel⟩
theorem fn_Shelf_told {f : Addr} {fd : FuncData} {g_judged : GF} {C_Shelf : Addr} (F : Fun K "told" "Shelf.told" s_Shelf_told f fd) (B : Blt mg) (h_judged : DefOk P w K mg base "judged" 12 g_judged) (T : ShT K mg C_Shelf) : FnOk P w K mg base (L2.CX P w) 13 f fd ["self"] (spD K (defD 1 1 (m_Shelf_told g_judged))) :=
  def_fn F sc_Shelf_told rfl rfl fun cdv A outer s H E c hp => by
    unfold m_Shelf_told
    exact (dss_one (ds_ret (dr_call c h_judged (by decide) (da_cons (de_many T (dv 0)) (da_cons (de_held T (dv 0)) da_nil)))))
abbrev s_first : Stmt := top 21
theorem sc_first : FnScope ["many", "wishes"] ["many", "wishes"] (defScope s_first) := ⟨rfl, rfl, rfl, by decide +kernel, rfl, by decide +kernel, by decide +kernel⟩
theorem fn_first {f : Addr} {fd : FuncData} {g_odd_ring : GF} {g_grown : GFO} (F : Fun K "first" "first" s_first f fd) (B : Blt mg) (h_odd_ring : DefOk P w K mg base "odd_ring" 4 g_odd_ring) (h_grown : DefOkO P w K mg base "grown" 11 g_grown) : FnOk P w K mg base (L2.CX P w) 12 f fd ["many", "wishes"] (spD K (defD 2 2 (m_first g_odd_ring g_grown))) :=
  def_fn F sc_first rfl rfl fun cdv A outer s H E c hp => by
    unfold m_first
    exact (dss_cons (ds_if (dt_nis ((dr_call c h_odd_ring (by decide) (da_cons (dv 0) (da_cons (dv 1) da_nil)))).e de_non) (dss_one (ds_ret (de_non).r)) dss_nil)
    (dss_one (ds_ret (dr_callO c h_grown (by decide) (dv 0) (dv 1) (dr_lst da_nil)))))
abbrev s_clash : Stmt := top 23
theorem sc_clash : FnScope ["many", "wishes", "left", "k", "rest", "one"] ["many", "wishes"] (defScope s_clash) := ⟨rfl, rfl, rfl, by decide +kernel, rfl, by decide +kernel, by decide +kernel⟩
theorem fn_clash {f : Addr} {fd : FuncData} {g_odd_ring : GF} (F : Fun K "clash" "clash" s_clash f fd) (B : Blt mg) (h_odd_ring : DefOk P w K mg base "odd_ring" 4 g_odd_ring) : FnOk P w K mg base (L2.CX P w) 5 f fd ["many", "wishes"] (spD K (defD 2 6 (m_clash g_odd_ring))) :=
  def_fn F sc_clash rfl rfl fun cdv A outer s H E c hp => by
    unfold m_clash
    exact (dss_cons (ds_if (dt_is ((dr_call c h_odd_ring (by decide) (da_cons (dv 0) (da_cons (dv 1) da_nil)))).e de_non) (dss_one (ds_ret (de_non).r)) dss_nil)
    (dss_cons (ds_set (i := 2) c.nd (dr_listRg c B.list B.range ((dr_len B.len (da_cons (dv 1) da_nil))).e))
    (dss_cons (ds_for (i := 3) c hp (di_range1 B.range (da_cons ((dr_len B.len (da_cons (dv 1) da_nil))).e da_nil))
    (dss_cons (ds_setLcP 2 (j := 4) (i := 5) c (di_any (dv 2)) (fun _ _ _ _ _ => pg_own c.nd) (fun _ _ _ _ _ c => (dts_one (dt_ne c (dv 5) (dv 3)))) (fun _ _ _ _ _ c => (dv 5)) (sw_true rfl rfl rfl (by decide +kernel)) (N := ["many", "wishes", "left", "k", "rest", "one"]) (sc := defScope s_clash))
    (dss_one (ds_if (dt_pk 4 (dt_nis ((dr_call c h_odd_ring (by decide) (da_cons (dv 0) (da_cons ((dr_lc (i := 5) c (di_any (dv 4)) (fun _ _ _ _ _ => pg_own c.nd) (fun _ _ _ _ _ c => dts_nil) (fun _ _ _ _ _ c => (de_ix (dv 1) (dv 5))) (N := ["many", "wishes", "left", "k", "rest", "one"]) (sc := defScope s_clash))).e da_nil)))).e de_non)) (dss_one (ds_mv (i := 2) (j := 4) c.nd)) dss_nil))))
    (dss_one (ds_retV 2)))))
abbrev s_Shelf_worst : Stmt := inClass (top 26) 5
theorem sc_Shelf_worst : FnScope ["self"] ["self"] (defScope s_Shelf_worst) := ⟨rfl, rfl, rfl, by decide +kernel, rfl, by decide +kernel, by decide +kernel⟩
theorem fn_Shelf_worst {f : Addr} {fd : FuncData} {g_clash : GF} {C_Shelf : Addr} (F : Fun K "worst" "Shelf.worst" s_Shelf_worst f fd) (B : Blt mg) (h_clash : DefOk P w K mg base "clash" 5 g_clash) (T : ShT K mg C_Shelf) : FnOk P w K mg base (L2.CX P w) 6 f fd ["self"] (spD K (defD 1 1 (m_Shelf_worst g_clash))) :=
  def_fn F sc_Shelf_worst rfl rfl fun cdv A outer s H E c hp => by
    unfold m_Shelf_worst
    exact (dss_one (ds_ret (dr_call c h_clash (by decide) (da_cons (de_many T (dv 0)) (da_cons (de_held T (dv 0)) da_nil)))))
abbrev s__law_is_turn : Stmt := top 36
theorem sc__law_is_turn : FnScope ["found", "many"] ["found", "many"] (defScope s__law_is_turn) := ⟨rfl, rfl, rfl, by decide +kernel, rfl, by decide +kernel, by decide +kernel⟩
theorem fn__law_is_turn {f : Addr} {fd : FuncData} {g__law_whole : GF} (F : Fun K "_law_is_turn" "_law_is_turn" s__law_is_turn f fd) (B : Blt mg) (h__law_whole : DefOk P w K mg base "_law_whole" 1 g__law_whole) : FnOk P w K mg base (L2.CX P w) 2 f fd ["found", "many"] (spD K (defD 2 2 (m__law_is_turn g__law_whole))) :=
  def_fn F sc__law_is_turn rfl rfl fun cdv A outer s H E c hp => by
    unfold m__law_is_turn
    exact (dss_cons (ds_if ((dw_or (dt_not (dt_val (de_isi (T := "tuple") B.isinstance B.tuple (by decide +kernel) (dv 0)))) (dw_or (dt_ne c ((dr_len B.len (da_cons (dv 0) da_nil))).e de_int) (dw_or (dt_not (dt_val ((dr_call c h__law_whole (by decide) (da_cons (de_ix (dv 0) de_int) da_nil))).e)) (dw_or1 (dt_not (dt_val ((dr_call c h__law_whole (by decide) (da_cons (de_ix (dv 0) de_int) da_nil))).e))))))).t (dss_one (ds_ret (de_bl).r)) dss_nil)
    (dss_one (ds_ret ((de_and (de_chain op_le op_lt snd_B snd_B de_int (de_ix (dv 0) de_int) (dv 1)) (de_and (de_chain op_le op_lt snd_B snd_B de_int (de_ix (dv 0) de_int) (dv 1)) (de_one (de_ne c (de_ix (dv 0) de_int) (de_ix (dv 0) de_int)))))).r)))
abbrev s__law_split : Stmt := top 34
theorem sc__law_split : FnScope ["wishes", "a", "b", "c", "wish"] ["wishes", "a", "b", "c"] (defScope s__law_split) := ⟨rfl, rfl, rfl, by decide +kernel, rfl, by decide +kernel, by decide +kernel⟩
theorem fn__law_split {f : Addr} {fd : FuncData} (F : Fun K "_law_split" "_law_split" s__law_split f fd) (B : Blt mg) : FnOk P w K mg base (L2.CX P w) 1 f fd ["wishes", "a", "b", "c"] (spD K (defD 4 5 (m__law_split))) :=
  def_fn F sc__law_split rfl rfl fun cdv A outer s H E c hp => by
    unfold m__law_split
    exact (dss_cons (ds_for (i := 4) c hp (di_any (dv 0))
    (dss_one (ds_if ((dw_and (dt_in c (dv 1) (dv 4)) (dw_and (dt_in c (dv 3) (dv 4)) (dw_and1 (dt_nin c (dv 2) (dv 4)))))).t (dss_one (ds_ret (de_bl).r)) dss_nil)))
    (dss_one (ds_ret (de_bl).r)))
abbrev s__law_bar : Stmt := top 35
theorem sc__law_bar : FnScope ["wishes", "one", "other"] ["wishes", "one", "other"] (defScope s__law_bar) := ⟨rfl, rfl, rfl, by decide +kernel, rfl, by decide +kernel, by decide +kernel⟩
theorem fn__law_bar {f : Addr} {fd : FuncData} {g__law_split : GF} (F : Fun K "_law_bar" "_law_bar" s__law_bar f fd) (B : Blt mg) (h__law_split : DefOk P w K mg base "_law_split" 1 g__law_split) : FnOk P w K mg base (L2.CX P w) 2 f fd ["wishes", "one", "other"] (spD K (defD 3 3 (m__law_bar g__law_split))) :=
  def_fn F sc__law_bar rfl rfl fun cdv A outer s H E c hp => by
    unfold m__law_bar
    exact (dss_cons (ds_if (dt_eq c (dv 1) (de_tup (da_cons (de_ix (dv 2) de_int) (da_cons (de_ix (dv 2) de_int) da_nil)))) (dss_one (ds_ret (de_bl).r)) dss_nil)
    (dss_cons (ds_if ((dw_and (dt_eq c (de_ix (dv 1) de_int) (de_ix (dv 2) de_int)) (dw_and1 (dt_ne c (de_ix (dv 1) de_int) (de_ix (dv 2) de_int))))).t (dss_one (ds_ret (dr_call c h__law_split (by decide) (da_cons (dv 0) (da_cons (de_ix (dv 1) de_int) (da_cons (de_ix (dv 1) de_int) (da_cons (de_ix (dv 2) de_int) da_nil))))))) dss_nil)
    (dss_one (ds_ret ((de_and (de_eq c (de_ix (dv 1) de_int) (de_ix (dv 2) de_int)) (de_and (de_ne c (de_ix (dv 1) de_int) (de_ix (dv 2) de_int)) (de_one ((dr_call c h__law_split (by decide) (da_cons (dv 0) (da_cons (de_ix (dv 2) de_int) (da_cons (de_ix (dv 1) de_int) (da_cons (de_ix (dv 1) de_int) da_nil)))))).e)))).r))))
abbrev s__law_is_ring : Stmt := top 37
theorem sc__law_is_ring : FnScope ["found", "many", "wishes", "turn", "k"] ["found", "many", "wishes"] (defScope s__law_is_ring) := ⟨rfl, rfl, rfl, by decide +kernel, rfl, by decide +kernel, by decide +kernel⟩
theorem fn__law_is_ring {f : Addr} {fd : FuncData} {g__law_is_turn : GF} {g__law_bar : GF} (F : Fun K "_law_is_ring" "_law_is_ring" s__law_is_ring f fd) (B : Blt mg) (h__law_is_turn : DefOk P w K mg base "_law_is_turn" 2 g__law_is_turn) (h__law_bar : DefOk P w K mg base "_law_bar" 2 g__law_bar) : FnOk P w K mg base (L2.CX P w) 3 f fd ["found", "many", "wishes"] (spD K (defD 3 5 (m__law_is_ring g__law_is_turn g__law_bar))) :=
  def_fn F sc__law_is_ring rfl rfl fun cdv A outer s H E c hp => by
    unfold m__law_is_ring
    exact (dss_cons (ds_if ((dw_or (dt_not (dt_val (de_isi (T := "list") B.isinstance B.list (by decide +kernel) (dv 0)))) (dw_or (dt_lt ((dr_len B.len (da_cons (dv 0) da_nil))).e de_int) (dw_or1 (dt_eq c (de_mod ((dr_len B.len (da_cons (dv 0) da_nil))).e de_int) de_int))))).t (dss_one (ds_ret (de_bl).r)) dss_nil)
    (dss_cons (ds_for (i := 3) c hp (di_any (dv 0))
    (dss_one (ds_if (dt_not (dt_val ((dr_call c h__law_is_turn (by decide) (da_cons (dv 3) (da_cons (dv 1) da_nil)))).e)) (dss_one (ds_ret (de_bl).r)) dss_nil)))
    (dss_cons (ds_for (i := 4) c hp (di_range1 B.range (da_cons ((dr_len B.len (da_cons (dv 0) da_nil))).e da_nil))
    (dss_one (ds_if (dt_not (dt_val ((dr_call c h__law_bar (by decide) (da_cons (dv 2) (da_cons (de_ix (dv 0) (de_sub (dv 4) de_int)) (da_cons (de_ix (dv 0) (dv 4)) da_nil))))).e)) (dss_one (ds_ret (de_bl).r)) dss_nil)))
    (dss_one (ds_ret (de_bl).r)))))
abbrev s__law_tells : Stmt := top 40
theorem sc__law_tells : FnScope ["shelf", "wishes", "many", "found", "order", "wish", "due", "turn", "worst", "again"] ["shelf", "wishes", "many"] (defScope s__law_tells) := ⟨rfl, rfl, rfl, by decide +kernel, rfl, by decide +kernel, by decide +kernel⟩
theorem fn__law_tells {f : Addr} {fd : FuncData} {g_Shelf_told : GF} {g_first : GF} {g_clash : GF} {g_Shelf_worst : GF} {g__law_is_ring : GF} {C_Shelf : Addr} (F : Fun K "_law_tells" "_law_tells" s__law_tells f fd) (B : Blt mg) (h_Shelf_told : MetOk P w K mg base C_Shelf "told" 13 g_Shelf_told) (h_first : DefOk P w K mg base "first" 12 g_first) (h_clash : DefOk P w K mg base "clash" 5 g_clash) (h_Shelf_worst : MetOk P w K mg base C_Shelf "worst" 6 g_Shelf_worst) (h__law_is_ring : DefOk P w K mg base "_law_is_ring" 3 g__law_is_ring) (T : ShT K mg C_Shelf) : FnOk P w K mg base (L2.CX P w) 14 f fd ["shelf", "wishes", "many"] (spD K (defD 3 10 (m__law_tells g_Shelf_told g_first g_clash g_Shelf_worst g__law_is_ring))) :=
  def_fn F sc__law_tells rfl rfl fun cdv A outer s H E c hp => by
    unfold m__law_tells
    exact (dss_cons (ds_set (i := 3) c.nd (((dr_met0 c T h_Shelf_told (by decide) (dv 0))).e).r)
    (dss_cons (ds_set (i := 4) c.nd (((dr_call c h_first (by decide) (da_cons (dv 2) (da_cons ((dr_lc (i := 5) c (di_any (dv 1)) (fun _ _ _ _ _ => pg_own c.nd) (fun _ _ _ _ _ c => dts_nil) (fun _ _ _ _ _ c => ((dr_list B.list (da_cons (dv 5) da_nil))).e) (N := ["shelf", "wishes", "many", "found", "order", "wish", "due", "turn", "worst", "again"]) (sc := defScope s__law_tells))).e da_nil)))).e).r)
    (dss_cons (ds_if ((dw_or (dt_ne c (de_ix (dv 3) de_int) (de_ix ((dr_lst (da_cons de_str (da_cons de_str da_nil)))).e ((dr_int B.int (da_cons (de_is (dv 4) de_non) da_nil))).e)) (dw_or1 ((dw_and (dt_nis (dv 4) de_non) (dw_and1 (dt_ne c (de_ix (dv 3) de_int) (dv 4))))).t))).t (dss_one (ds_ret (de_bl).r)) dss_nil)
    (dss_cons (ds_set (i := 6) c.nd (((dr_call c h_clash (by decide) (da_cons (dv 2) (da_cons ((dr_lc (i := 5) c (di_any (dv 1)) (fun _ _ _ _ _ => pg_own c.nd) (fun _ _ _ _ _ c => dts_nil) (fun _ _ _ _ _ c => ((dr_list B.list (da_cons (dv 5) da_nil))).e) (N := ["shelf", "wishes", "many", "found", "order", "wish", "due", "turn", "worst", "again"]) (sc := defScope s__law_tells))).e da_nil)))).e).r)
    (dss_cons (ds_for (i := 7) c hp (di_range1 B.range (da_cons de_int da_nil))
    (dss_cons (ds_set (i := 8) c.nd (dr_met0 c T h_Shelf_worst (by decide) (dv 0)))
    (dss_cons (ds_set (i := 9) c.nd (dr_met0 c T h_Shelf_told (by decide) (dv 0)))
    (dss_cons (ds_if (dt_pk 8 (dt_pk 9 ((dw_or (dt_ne c (dv 8) (dv 6)) (dw_or (dt_ne c (de_ix (dv 9) de_int) (de_ix (dv 3) de_int)) (dw_or1 ((dw_and (dt_nis (dv 4) de_non) (dw_and1 (dt_ne c (de_ix (dv 9) de_int) (dv 4))))).t)))).t)) (dss_one (ds_ret (de_bl).r)) dss_nil)
    (dss_cons (ds_if (dt_pk 9 ((dw_and (dt_is (dv 4) de_non) (dw_and1 (dt_not (dt_val ((dr_call c h__law_is_ring (by decide) (da_cons (de_ix (dv 9) de_int) (da_cons (dv 2) (da_cons (dv 1) da_nil))))).e))))).t) (dss_one (ds_ret (de_bl).r)) dss_nil)
    (dss_cons (ds_clrB 9)
    (dss_one (ds_if (dt_pk 8 (dt_nis (dv 8) de_non)) (dss_one (ds_app 8 de_int)) dss_nil))))))))
    (dss_one (ds_ret (de_bl).r)))))))
abbrev s__law_deed : Stmt := top 41
theorem sc__law_deed : FnScope ["shelf", "wishes", "cell", "many", "way", "some", "handed", "before", "found", "gone", "at", "ill", "number", "due"] ["shelf", "wishes", "cell", "many"] (defScope s__law_deed) := ⟨rfl, rfl, rfl, by decide +kernel, rfl, by decide +kernel, by decide +kernel⟩
theorem fn__law_deed {f : Addr} {fd : FuncData} {g__law_set : GF} {g_Shelf_put2 : GFW} {g__law_whole : GF} {g__law_refused : GFW} {g_Shelf_take : GFW} {g__law_tells : GF} {C_Shelf : Addr} (F : Fun K "_law_deed" "_law_deed" s__law_deed f fd) (B : Blt mg) (h__law_set : DefOk P w K mg base "_law_set" 1 g__law_set) (h_Shelf_put2 : MetW P w K mg base C_Shelf "put" 2 g_Shelf_put2) (h__law_whole : DefOk P w K mg base "_law_whole" 1 g__law_whole) (h__law_refused : DefOkW P w K mg base "_law_refused" 3 g__law_refused) (h_Shelf_take : MetW P w K mg base C_Shelf "take" 1 g_Shelf_take) (h__law_tells : DefOk P w K mg base "_law_tells" 14 g__law_tells) (T : ShT K mg C_Shelf) : FnOk P w K mg base (L2.CX P w) 15 f fd ["shelf", "wishes", "cell", "many"] (spW K (defW 2 4 14 (m__law_deed g__law_set g_Shelf_put2 g__law_whole g__law_refused g_Shelf_take g__law_tells))) :=
  def_fnW F sc__law_deed rfl rfl fun cdv A outer s H E c hp => by
    unfold m__law_deed
    exact (vss_cons (vs_lift (ds_set (i := 4) c.nd ((de_mod (dv 2) de_int)).r))
    (vss_cons (vs_lift (ds_set (i := 5) c.nd (((dr_call c h__law_set (by decide) (da_cons (de_fdiv (dv 2) de_int) (da_cons (dv 3) da_nil)))).e).r))
    (vss_cons (vs_if (dt_pk 1 ((dw_and (dt_lt (dv 4) de_int) (dw_and1 (dt_lt ((dr_len B.len (da_cons (dv 1) da_nil))).e de_int)))).t) (vss_cons (vs_lift (ds_set (i := 6) c.nd (dr_list B.list (da_cons (dv 5) da_nil))))
    (vss_cons (vs_lift (ds_if (dt_eq c (dv 4) de_int) (dss_one (ds_set (i := 6) c.nd (dr_addL ((dr_lstRev c B.list B.reversed (dv 5))).e (dv 5)))) dss_nil))
    (vss_cons (vs_appP 1 (dv 5))
    (vss_cons (vs_lift (ds_set (i := 7) c.nd (((dr_pkI 6 (dr_list B.list (da_cons (dv 6) da_nil)))).e).r))
    (vss_cons (vs_setV (i := 8) c.nd (ve_met2 c T h_Shelf_put2 (by decide) (le_name 0) (le_name 6)))
    (vss_cons (vs_if (dt_pk 6 (dt_ne c (dv 6) (dv 7))) (vss_one (vs_ret de_bl)) vss_nil)
    (vss_cons (vs_lift (ds_app 6 de_int))
    (vss_one (vs_ret (de_pk 1 (de_and ((dr_call c h__law_whole (by decide) (da_cons (dv 8) da_nil))).e (de_one (de_eq c (dv 8) ((dr_len B.len (da_cons (dv 1) da_nil))).e))))))))))))) vss_nil)
    (vss_cons (vs_if (dt_eq c (dv 4) de_int) (vss_cons (vs_lift (ds_set (i := 9) c.nd ((de_ix ((dr_lst (da_cons (de_neg de_int) (da_cons (dv 3) (da_cons (de_add (dv 3) (de_mod (de_fdiv (dv 2) de_int) (de_pow de_int de_int))) (da_cons (de_sub (de_neg de_int) (de_mod (de_fdiv (dv 2) de_int) (de_pow de_int de_int))) da_nil)))))).e (de_mod (de_fdiv (dv 2) de_int) de_int))).r))
    (vss_cons (vs_lift (ds_set (i := 10) c.nd ((de_mod (de_fdiv (dv 2) de_int) (de_add ((dr_len B.len (da_cons (dv 5) da_nil))).e de_int))).r))
    (vss_cons (vs_lift (ds_set (i := 11) c.nd (((dr_lst (da_cons de_bl (da_cons de_bl (da_cons de_bl (da_cons de_bl (da_cons de_bl (da_cons de_bl (da_cons de_bl da_nil))))))))).e).r))
    (vss_one (vs_retV (ve_eq c (ve_callW 0 c h__law_refused (by decide) (da_cons de_int (da_cons (de_add (de_add ((dr_sl (dv 5) do_none (do_some (dv 10)))).e ((dr_lst (da_cons (dv 9) da_nil))).e) ((dr_sl (dv 5) (do_some (dv 10)) do_none)).e) (da_cons de_int da_nil)))) (dv 11))))))) vss_nil)
    (vss_cons (vs_lift (ds_set (i := 12) c.nd ((de_pk 1 (de_sub (de_mod (de_fdiv (dv 2) de_int) (de_add ((dr_len B.len (da_cons (dv 1) da_nil))).e de_int)) de_int))).r))
    (vss_cons (vs_lift (ds_if ((dw_and (dt_eq c (dv 4) de_int) (dw_and1 (dt_eq c (de_mod (de_fdiv (dv 2) de_int) de_int) de_int)))).t (dss_one (ds_set (i := 12) c.nd ((de_pk 1 (de_ix ((dr_lst (da_cons (de_sub (de_neg de_int) (de_mod (de_fdiv (dv 2) de_int) (de_pow de_int de_int))) (da_cons (de_add ((dr_len B.len (da_cons (dv 1) da_nil))).e (de_mod (de_fdiv (dv 2) de_int) (de_pow de_int de_int))) da_nil)))).e (de_mod (de_fdiv (dv 2) de_int) de_int)))).r)) dss_nil))
    (vss_cons (vs_if ((dw_or (dt_eq c (dv 4) de_int) (dw_or1 (dt_eq c (dv 4) de_int)))).t (vss_cons (vs_if (dt_pk 1 ((dw_or (dt_lt (dv 12) de_int) (dw_or1 (dt_ge (dv 12) ((dr_len B.len (da_cons (dv 1) da_nil))).e)))).t) (vss_one (vs_retV (ve_eq c (ve_callW 0 c h__law_refused (by decide) (da_cons de_int (da_cons ((dr_lst da_nil)).e (da_cons (dv 12) da_nil)))) ((dr_lst (da_cons de_bl (da_cons de_bl (da_cons de_bl (da_cons de_bl (da_cons de_bl (da_cons de_bl (da_cons de_bl da_nil))))))))).e))) vss_nil)
    (vss_cons (vs_setV (i := 13) c.nd (ve_popP 1 (dv 12)))
    (vss_cons (vs_setV (i := 8) c.nd (ve_met 0 c T h_Shelf_take (by decide) (da_cons (dv 12) da_nil)))
    (vss_one (vs_ret (de_and (de_isi (T := "list") B.isinstance B.list (by decide +kernel) (dv 8)) (de_one (de_eq c (dv 8) (dv 13))))))))) vss_nil)
    (vss_one (vs_ret (de_pk 1 (de_pk 0 ((dr_call c h__law_tells (by decide) (da_cons (dv 0) (da_cons (dv 1) (da_cons (dv 3) da_nil))))).e)))))))))))
abbrev s_Shelf_wishes : Stmt := inClass (top 26) 3
theorem sc_Shelf_wishes : FnScope ["self", "wish"] ["self"] (defScope s_Shelf_wishes) := ⟨rfl, rfl, rfl, by decide +kernel, rfl, by decide +kernel, by decide +kernel⟩
theorem fn_Shelf_wishes {f : Addr} {fd : FuncData} {C_Shelf : Addr} (F : Fun K "wishes" "Shelf.wishes" s_Shelf_wishes f fd) (B : Blt mg) (T : ShT K mg C_Shelf) : FnOk P w K mg base (L2.CX P w) 1 f fd ["self"] (spD K (defD 1 2 (m_Shelf_wishes))) :=
  def_fn F sc_Shelf_wishes rfl rfl fun cdv A outer s H E c hp => by
    unfold m_Shelf_wishes
    exact (dss_one (ds_ret (dr_lcO (i := 1) c (di_any (de_held T (dv 0))) (fun _ _ _ _ _ => pg_own c.nd) (fun _ _ _ _ _ _ _ c => (dr_list B.list (da_cons (dv 1) da_nil))) (N := ["self", "wish"]) (sc := defScope s_Shelf_wishes))))
abbrev s_law : Stmt := top 42
theorem sc_law : FnScope ["script", "drawn", "many", "shelves", "wishes", "wish", "k", "who", "one", "found", "place"] ["script"] (defScope s_law) := ⟨rfl, rfl, rfl, by decide +kernel, rfl, by decide +kernel, by decide +kernel⟩
theorem fn_law {f : Addr} {fd : FuncData} {g__law_wishes : GF} {g__law_cell_at : GF} {g_Shelf_put : GFW} {g__law_deed : GFW} {g_Shelf_wishes : GF} {g__law_whole : GF} {g__law_tells : GF} {C_Shelf : Addr} (F : Fun K "law" "law" s_law f fd) (B : Blt mg) (h__law_wishes : DefOk P w K mg base "_law_wishes" 3 g__law_wishes) (h__law_cell_at : DefOk P w K mg base "_law_cell_at" 1 g__law_cell_at) (h_Shelf_put : MetW P w K mg base C_Shelf "put" 2 g_Shelf_put) (h__law_deed : DefOkW P w K mg base "_law_deed" 15 g__law_deed) (h_Shelf_wishes : MetOk P w K mg base C_Shelf "wishes" 1 g_Shelf_wishes) (h__law_whole : DefOk P w K mg base "_law_whole" 1 g__law_whole) (h__law_tells : DefOk P w K mg base "_law_tells" 14 g__law_tells) (T : ShT K mg C_Shelf) {fI : Addr} {fdI : FuncData} (MkI : L2.Mk K C_Shelf fI) (FI : FnOk P w K mg base (L2.CX P w) 1 fI fdI ["self", "many"] (spInit K C_Shelf)) (bI : Binds K fdI ["self", "many"] []) : FnOk P w K mg base (L2.CX P w) 16 f fd ["script"] (spD K (defV 1 11 (m_law g__law_wishes g__law_cell_at g_Shelf_put g__law_deed g_Shelf_wishes g__law_whole g__law_tells))) :=
  def_fnV F sc_law rfl rfl fun cdv A outer s H E c hp => by
    unfold m_law
    exact (vss_cons (vs_lift (ds_set (i := 1) c.nd (((dr_call c h__law_wishes (by decide) (da_cons (dv 0) (da_cons de_int (da_cons de_int (da_cons de_int da_nil)))))).e).r))
    (vss_cons (vs_lift (ds_if (dt_eq c (de_mod ((dr_call c h__law_cell_at (by decide) (da_cons (dv 0) (da_cons de_int da_nil)))).e de_int) de_int) (dss_one (ds_set (i := 1) c.nd (((dr_call c h__law_wishes (by decide) (da_cons (dv 0) (da_cons de_int (da_cons de_int (da_cons de_int da_nil)))))).e).r)) dss_nil))
    (vss_cons (vs_lift (ds_set (i := 2) c.nd ((de_ix (dv 1) de_int)).r))
    (vss_cons (vs_lift (ds_set (i := 3) c.nd (dr_arr2 (dr_make c T MkI FI bI (by decide) (dv 2)) (dr_make c T MkI FI bI (by decide) (dv 2)))))
    (vss_cons (vs_lift (ds_set (i := 4) c.nd (dr_arr2 (dr_lst da_nil) (dr_lst da_nil))))
    (vss_cons (vs_lift (ds_if (dt_eq c (de_mod (de_fdiv ((dr_call c h__law_cell_at (by decide) (da_cons (dv 0) (da_cons de_int da_nil)))).e de_int) de_int) de_int) (dss_one (ds_putA 4 (dr_lc (i := 5) c (di_any (de_ix (dv 1) de_int)) (fun _ _ _ _ _ => pg_own c.nd) (fun _ _ _ _ _ c => dts_nil) (fun _ _ _ _ _ c => ((dr_sortedSet c B.sorted B.set (dv 5))).e) (N := ["script", "drawn", "many", "shelves", "wishes", "wish", "k", "who", "one", "found", "place"]) (sc := defScope s_law)) de_int)) dss_nil))
    (vss_cons (vs_forPut (i := 5) c hp (le_ix 4 de_int) T h_Shelf_put (by decide) (le_ix 3 de_int) (da_cons ((dr_list B.list (da_cons (dv 5) da_nil))).e da_nil))
    (vss_cons (vs_for (i := 6) c hp (di_range1 B.range (da_cons (de_mod ((dr_call c h__law_cell_at (by decide) (da_cons (dv 0) (da_cons de_int da_nil)))).e de_int) da_nil))
    (vss_cons (vs_lift (ds_set (i := 7) c.nd ((de_mod (de_mod ((dr_call c h__law_cell_at (by decide) (da_cons (dv 0) (da_cons (de_add de_int (dv 6)) da_nil)))).e de_int) de_int)).r))
    (vss_cons (vs_ifV (vt_not (vt_val (ve_call2 c h__law_deed (by decide) (le_ix 3 (dv 7)) (le_ix 4 (dv 7)) (da_cons ((dr_call c h__law_cell_at (by decide) (da_cons (dv 0) (da_cons (de_add de_int (dv 6)) da_nil)))).e (da_cons (dv 2) da_nil))))) (vss_one (vs_ret de_bl)) vss_nil)
    (vss_one (vs_for (i := 8) c hp (di_range1 B.range (da_cons de_int da_nil))
    (vss_cons (vs_lift (ds_set (i := 9) c.nd (dr_pkA 3 (dr_met0 c T h_Shelf_wishes (by decide) (de_ix (dv 3) (dv 8))))))
    (vss_cons (vs_if (dt_pk 4 (dt_pk 9 ((dw_or (dt_not (dt_val (de_isi (T := "list") B.isinstance B.list (by decide +kernel) (dv 9)))) (dw_or1 (dt_ne c (dv 9) (de_ix (dv 4) (dv 8)))))).t)) (vss_one (vs_ret de_bl)) vss_nil)
    (vss_cons (vs_lift (ds_for (i := 10) c hp (di_range1 B.range (da_cons (de_pk 9 ((dr_len B.len (da_cons (dv 9) da_nil))).e) da_nil))
    (dss_one (ds_appN 9 (dv 10) (de_add de_int (dv 10))))))
    (vss_cons (vs_if (dt_pk 4 (dt_pk 9 (dt_ne c (dv 9) ((dr_lc (i := 10) c (di_range1 B.range (da_cons (de_pk 9 ((dr_len B.len (da_cons (dv 9) da_nil))).e) da_nil)) (fun _ _ _ _ _ => pg_own c.nd) (fun _ _ _ _ _ c => dts_nil) (fun _ _ _ _ _ c => (de_add (de_ix (de_ix (dv 4) (dv 8)) (dv 10)) ((dr_lst (da_cons (de_add de_int (dv 10)) da_nil))).e)) (N := ["script", "drawn", "many", "shelves", "wishes", "wish", "k", "who", "one", "found", "place"]) (sc := defScope s_law))).e))) (vss_one (vs_ret de_bl)) vss_nil)
    (vss_one (vs_lift (ds_clrN 9))))))))))))
    (vss_cons (vs_if (dt_pk 3 ((dw_or (dt_not (dt_val ((dr_call c h__law_whole (by decide) (da_cons (de_many T (de_ix (dv 3) de_int)) da_nil))).e)) (dw_or1 (dt_ne c (de_many T (de_ix (dv 3) de_int)) (dv 2))))).t) (vss_one (vs_ret de_bl)) vss_nil)
    (vss_one (vs_ret (de_pk 4 (de_pk 3 (de_and ((dr_call c h__law_tells (by decide) (da_cons (de_ix (dv 3) de_int) (da_cons (de_ix (dv 4) de_int) (da_cons (dv 2) da_nil))))).e (de_one ((dr_call c h__law_tells (by decide) (da_cons (de_ix (dv 3) de_int) (da_cons (de_ix (dv 4) de_int) (da_cons (dv 2) da_nil))))).e)))))))))))))))
abbrev s_init : Stmt := inClass (top 26) 0
theorem sc_init : FnScope ["self", "many"] ["self", "many"] (defScope s_init) := ⟨rfl, rfl, rfl, by decide +kernel, rfl, by decide +kernel, by decide +kernel⟩
end
section
/-- one def of the top, by what k_is finds -/
theorem at_def {K : PySem.W.Frag} {h : Heap} {mg : Str → Option Value} {x : Str} {st : Stmt} {f : Addr} {od an : Option Addr} {sl : Array (Option Value)} {oc kV dc pm cd ct : Value} (X : K.In h) (G : h.Ns mainGlobals mg)
    (a : PySem.W.nsIn K mainGlobals x = some (some (.ref f))) (l : K.lookup f = some ⟨oc, od, .func (PySem.W.fnOf x x (defArgs st) (defBody st) (defScope st) .none kV dc pm an cd ct), sl⟩) (c : PySem.W.codeIn K cd x = true) (k : PySem.W.keepIn K (.ref f) = true) :
    mg x = some (.ref f) ∧ Fun K x x st f (PySem.W.fnOf x x (defArgs st) (defBody st) (defScope st) .none kV dc pm an cd ct) := ⟨PySem.W.mg_of X G a, fun_mk l c k⟩
def w__law_cell_at : GF := defD 2 2 (m__law_cell_at)
def w__law_set : GF := defD 2 4 (m__law_set)
def w__law_wish : GF := defD 3 6 (m__law_wish)
def w_ask (C_NoBook : Addr) : GF := defD 2 4 (m_ask C_NoBook)
def w__law_whole : GF := defD 1 1 (m__law_whole)
noncomputable def w_Shelf_take (C_NoWish : Addr) : GFW := defW 1 2 2 (m_Shelf_take C_NoWish)
def w_turns : GF := defD 1 4 (m_turns)
def w_split : GF := defD 4 5 (m_split)
def w_trail : GF := defD 2 3 (m_trail)
def w_joined : GF := defD 2 2 (m_joined)
def w_may_follow : GF := defD 3 6 (m_may_follow)
def w__law_split : GF := defD 4 5 (m__law_split)
def w_Shelf_wishes : GF := defD 1 2 (m_Shelf_wishes)
def w__law_order : GF := defD 3 6 (m__law_order w__law_cell_at)
noncomputable def w_Shelf_put (C_NoBook : Addr) (C_FullShelf : Addr) : GFW := defW 1 2 2 (m_Shelf_put (w_ask C_NoBook) C_FullShelf)
noncomputable def w_Shelf_put2 (C_NoBook : Addr) (C_FullShelf : Addr) : GFW := defW 2 2 2 (m_Shelf_put2 (w_ask C_NoBook) C_FullShelf)
def w_barred : GF := defD 3 3 (m_barred w_split)
def w__law_is_turn : GF := defD 2 2 (m__law_is_turn w__law_whole)
def w__law_bar : GF := defD 3 3 (m__law_bar w__law_split)
def w__law_wishes : GF := defD 4 12 (m__law_wishes w__law_cell_at w__law_order w__law_set w__law_wish)
noncomputable def w__law_refused (C_NoBook : Addr) (C_NoTurn : Addr) (C_NoOrder : Addr) (C_NoWish : Addr) (C_FullShelf : Addr) (C_BadLine : Addr) : GFW := defW 1 4 6 (m__law_refused (w_Shelf_put C_NoBook C_FullShelf) (w_Shelf_take C_NoWish) (w__law_which C_NoBook C_NoTurn C_NoOrder C_NoWish C_FullShelf C_BadLine) C_NoBook C_NoWish C_FullShelf)
def w_leads_from : GF := defD 3 7 (m_leads_from w_turns w_barred)
def w__law_is_ring : GF := defD 3 5 (m__law_is_ring w__law_is_turn w__law_bar)
def w_odd_ring (C_NoBook : Addr) : GF := defD 2 9 (m_odd_ring (w_ask C_NoBook) w_turns w_leads_from w_barred w_trail w_joined)
def w_clash (C_NoBook : Addr) : GF := defD 2 6 (m_clash (w_odd_ring C_NoBook))
def w_Shelf_worst (C_NoBook : Addr) : GF := defD 1 1 (m_Shelf_worst (w_clash C_NoBook))
def w_grown : Nat → GFO
  | 0 => fun _ _ => none
  | j + 1 => defO 3 5 (m_grown w_may_follow (w_grown j))
def w_judged (C_NoBook : Addr) : GF := defD 2 3 (m_judged (w_odd_ring C_NoBook) (w_grown 10))
def w_first (C_NoBook : Addr) : GF := defD 2 2 (m_first (w_odd_ring C_NoBook) (w_grown 10))
def w_Shelf_told (C_NoBook : Addr) : GF := defD 1 1 (m_Shelf_told (w_judged C_NoBook))
def w__law_tells (C_NoBook : Addr) : GF := defD 3 10 (m__law_tells (w_Shelf_told C_NoBook) (w_first C_NoBook) (w_clash C_NoBook) (w_Shelf_worst C_NoBook) w__law_is_ring)
noncomputable def w__law_deed (C_NoBook : Addr) (C_NoTurn : Addr) (C_NoOrder : Addr) (C_NoWish : Addr) (C_FullShelf : Addr) (C_BadLine : Addr) : GFW := defW 2 4 14 (m__law_deed w__law_set (w_Shelf_put2 C_NoBook C_FullShelf) w__law_whole (w__law_refused C_NoBook C_NoTurn C_NoOrder C_NoWish C_FullShelf C_BadLine) (w_Shelf_take C_NoWish) (w__law_tells C_NoBook))
noncomputable def w_law (C_NoBook : Addr) (C_NoTurn : Addr) (C_NoOrder : Addr) (C_NoWish : Addr) (C_FullShelf : Addr) (C_BadLine : Addr) : GF := defV 1 11 (m_law w__law_wishes w__law_cell_at (w_Shelf_put C_NoBook C_FullShelf) (w__law_deed C_NoBook C_NoTurn C_NoOrder C_NoWish C_FullShelf C_BadLine) w_Shelf_wishes w__law_whole (w__law_tells C_NoBook))
theorem all_mk {P : Program} {w : World} {K : PySem.W.Frag} {h : Heap} {mg : Str → Option Value} {fa : Addr} (X : K.In h) (G : h.Ns mainGlobals mg) (hfa : mg "law" = some (.ref fa))
    {f0 : Addr} {od0 an0 : Option Addr} {sl0 : Array (Option Value)} {oc0 kV0 dc0 pm0 cd0 ct0 : Value}
    {f1 : Addr} {od1 an1 : Option Addr} {sl1 : Array (Option Value)} {oc1 kV1 dc1 pm1 cd1 ct1 : Value}
    {f2 : Addr} {od2 an2 : Option Addr} {sl2 : Array (Option Value)} {oc2 kV2 dc2 pm2 cd2 ct2 : Value}
    {f3 : Addr} {od3 an3 : Option Addr} {sl3 : Array (Option Value)} {oc3 kV3 dc3 pm3 cd3 ct3 : Value}
    {f4 : Addr} {od4 an4 : Option Addr} {sl4 : Array (Option Value)} {oc4 kV4 dc4 pm4 cd4 ct4 : Value}
    {f5 : Addr} {od5 an5 : Option Addr} {sl5 : Array (Option Value)} {oc5 kV5 dc5 pm5 cd5 ct5 : Value}
    {f6 : Addr} {od6 an6 : Option Addr} {sl6 : Array (Option Value)} {oc6 kV6 dc6 pm6 cd6 ct6 : Value}
    {f7 : Addr} {od7 an7 : Option Addr} {sl7 : Array (Option Value)} {oc7 kV7 dc7 pm7 cd7 ct7 : Value}
    {f8 : Addr} {od8 an8 : Option Addr} {sl8 : Array (Option Value)} {oc8 kV8 dc8 pm8 cd8 ct8 : Value}
    {f9 : Addr} {od9 an9 : Option Addr} {sl9 : Array (Option Value)} {oc9 kV9 dc9 pm9 cd9 ct9 : Value}
    {f10 : Addr} {od10 an10 : Option Addr} {sl10 : Array (Option Value)} {oc10 kV10 dc10 pm10 cd10 ct10 : Value}
    {f11 : Addr} {od11 an11 : Option Addr} {sl11 : Array (Option Value)} {oc11 kV11 dc11 pm11 cd11 ct11 : Value}
    {f12 : Addr} {od12 an12 : Option Addr} {sl12 : Array (Option Value)} {oc12 kV12 dc12 pm12 cd12 ct12 : Value}
    {f13 : Addr} {od13 an13 : Option Addr} {sl13 : Array (Option Value)} {oc13 kV13 dc13 pm13 cd13 ct13 : Value}
    {f14 : Addr} {od14 an14 : Option Addr} {sl14 : Array (Option Value)} {oc14 kV14 dc14 pm14 cd14 ct14 : Value}
    {f15 : Addr} {od15 an15 : Option Addr} {sl15 : Array (Option Value)} {oc15 kV15 dc15 pm15 cd15 ct15 : Value}
    {f16 : Addr} {od16 an16 : Option Addr} {sl16 : Array (Option Value)} {oc16 kV16 dc16 pm16 cd16 ct16 : Value}
    {f17 : Addr} {od17 an17 : Option Addr} {sl17 : Array (Option Value)} {oc17 kV17 dc17 pm17 cd17 ct17 : Value}
    {f18 : Addr} {od18 an18 : Option Addr} {sl18 : Array (Option Value)} {oc18 kV18 dc18 pm18 cd18 ct18 : Value}
    {f19 : Addr} {od19 an19 : Option Addr} {sl19 : Array (Option Value)} {oc19 kV19 dc19 pm19 cd19 ct19 : Value}
    {f20 : Addr} {od20 an20 : Option Addr} {sl20 : Array (Option Value)} {oc20 kV20 dc20 pm20 cd20 ct20 : Value}
    {f21 : Addr} {od21 an21 : Option Addr} {sl21 : Array (Option Value)} {oc21 kV21 dc21 pm21 cd21 ct21 : Value}
    {f22 : Addr} {od22 an22 : Option Addr} {sl22 : Array (Option Value)} {oc22 kV22 dc22 pm22 cd22 ct22 : Value}
    {f23 : Addr} {od23 an23 : Option Addr} {sl23 : Array (Option Value)} {oc23 kV23 dc23 pm23 cd23 ct23 : Value}
    {f24 : Addr} {od24 an24 : Option Addr} {sl24 : Array (Option Value)} {oc24 kV24 dc24 pm24 cd24 ct24 : Value}
    {f25 : Addr} {od25 an25 : Option Addr} {sl25 : Array (Option Value)} {oc25 kV25 dc25 pm25 cd25 ct25 : Value}
    {f26 : Addr} {od26 an26 : Option Addr} {sl26 : Array (Option Value)} {oc26 kV26 dc26 pm26 cd26 ct26 : Value}
    {f27 : Addr} {od27 an27 : Option Addr} {sl27 : Array (Option Value)} {oc27 kV27 dc27 pm27 cd27 ct27 : Value}
    {f28 : Addr} {od28 an28 : Option Addr} {sl28 : Array (Option Value)} {oc28 kV28 dc28 pm28 cd28 ct28 : Value}
    {f29 : Addr} {od29 an29 : Option Addr} {sl29 : Array (Option Value)} {oc29 kV29 dc29 pm29 cd29 ct29 : Value}
    {f30 : Addr} {od30 an30 : Option Addr} {sl30 : Array (Option Value)} {oc30 kV30 dc30 pm30 cd30 ct30 : Value}
    {f31 : Addr} {od31 an31 : Option Addr} {sl31 : Array (Option Value)} {oc31 kV31 dc31 pm31 cd31 ct31 : Value}
    {f32 : Addr} {od32 an32 : Option Addr} {sl32 : Array (Option Value)} {oc32 kV32 dc32 pm32 cd32 ct32 : Value}
    {f33 : Addr} {od33 an33 : Option Addr} {sl33 : Array (Option Value)} {oc33 kV33 dc33 pm33 cd33 ct33 : Value}
    {C_ShelfError : Addr}
    {C_NoBook : Addr}
    {C_NoTurn : Addr}
    {C_NoOrder : Addr}
    {C_NoWish : Addr}
    {C_FullShelf : Addr}
    {C_BadLine : Addr}
    {C_Shelf : Addr}
    {f00 : Addr} {od00 an00 : Option Addr} {sl00 : Array (Option Value)} {oc00 kV00 dc00 pm00 cd00 ct00 : Value}
    {v_ROOM : Value}
    (a0 : PySem.W.nsIn K mainGlobals "_law_cell_at" = some (some (.ref f0)))
    (l0 : K.lookup f0 = some ⟨oc0, od0, .func (PySem.W.fnOf "_law_cell_at" "_law_cell_at" (defArgs s__law_cell_at) (defBody s__law_cell_at) (defScope s__law_cell_at) .none kV0 dc0 pm0 an0 cd0 ct0), sl0⟩)
    (c0 : PySem.W.codeIn K cd0 "_law_cell_at" = true)
    (k0 : PySem.W.keepIn K (.ref f0) = true)
    (a1 : PySem.W.nsIn K mainGlobals "_law_order" = some (some (.ref f1)))
    (l1 : K.lookup f1 = some ⟨oc1, od1, .func (PySem.W.fnOf "_law_order" "_law_order" (defArgs s__law_order) (defBody s__law_order) (defScope s__law_order) .none kV1 dc1 pm1 an1 cd1 ct1), sl1⟩)
    (c1 : PySem.W.codeIn K cd1 "_law_order" = true)
    (k1 : PySem.W.keepIn K (.ref f1) = true)
    (a2 : PySem.W.nsIn K mainGlobals "_law_set" = some (some (.ref f2)))
    (l2 : K.lookup f2 = some ⟨oc2, od2, .func (PySem.W.fnOf "_law_set" "_law_set" (defArgs s__law_set) (defBody s__law_set) (defScope s__law_set) .none kV2 dc2 pm2 an2 cd2 ct2), sl2⟩)
    (c2 : PySem.W.codeIn K cd2 "_law_set" = true)
    (k2 : PySem.W.keepIn K (.ref f2) = true)
    (a3 : PySem.W.nsIn K mainGlobals "_law_wish" = some (some (.ref f3)))
    (l3 : K.lookup f3 = some ⟨oc3, od3, .func (PySem.W.fnOf "_law_wish" "_law_wish" (defArgs s__law_wish) (defBody s__law_wish) (defScope s__law_wish) .none kV3 dc3 pm3 an3 cd3 ct3), sl3⟩)
    (c3 : PySem.W.codeIn K cd3 "_law_wish" = true)
    (k3 : PySem.W.keepIn K (.ref f3) = true)
    (a4 : PySem.W.nsIn K mainGlobals "_law_wishes" = some (some (.ref f4)))
    (l4 : K.lookup f4 = some ⟨oc4, od4, .func (PySem.W.fnOf "_law_wishes" "_law_wishes" (defArgs s__law_wishes) (defBody s__law_wishes) (defScope s__law_wishes) .none kV4 dc4 pm4 an4 cd4 ct4), sl4⟩)
    (c4 : PySem.W.codeIn K cd4 "_law_wishes" = true)
    (k4 : PySem.W.keepIn K (.ref f4) = true)
    (a5 : PySem.W.nsIn K mainGlobals "ask" = some (some (.ref f5)))
    (l5 : K.lookup f5 = some ⟨oc5, od5, .func (PySem.W.fnOf "ask" "ask" (defArgs s_ask) (defBody s_ask) (defScope s_ask) .none kV5 dc5 pm5 an5 cd5 ct5), sl5⟩)
    (c5 : PySem.W.codeIn K cd5 "ask" = true)
    (k5 : PySem.W.keepIn K (.ref f5) = true)
    (a6 : PySem.W.findIn K (.ref C_Shelf) "put" = some (some (.ref f6)))
    (i6 : PySem.W.isFn K (.ref f6) = true)
    (l6 : K.lookup f6 = some ⟨oc6, od6, .func (PySem.W.fnOf "put" "Shelf.put" (defArgs s_Shelf_put) (defBody s_Shelf_put) (defScope s_Shelf_put) .none kV6 dc6 pm6 an6 cd6 ct6), sl6⟩)
    (c6 : PySem.W.codeIn K cd6 "Shelf.put" = true)
    (k6 : PySem.W.keepIn K (.ref f6) = true)
    (a7 : PySem.W.findIn K (.ref C_Shelf) "put" = some (some (.ref f7)))
    (i7 : PySem.W.isFn K (.ref f7) = true)
    (l7 : K.lookup f7 = some ⟨oc7, od7, .func (PySem.W.fnOf "put" "Shelf.put" (defArgs s_Shelf_put2) (defBody s_Shelf_put2) (defScope s_Shelf_put2) .none kV7 dc7 pm7 an7 cd7 ct7), sl7⟩)
    (c7 : PySem.W.codeIn K cd7 "Shelf.put" = true)
    (k7 : PySem.W.keepIn K (.ref f7) = true)
    (a8 : PySem.W.nsIn K mainGlobals "_law_whole" = some (some (.ref f8)))
    (l8 : K.lookup f8 = some ⟨oc8, od8, .func (PySem.W.fnOf "_law_whole" "_law_whole" (defArgs s__law_whole) (defBody s__law_whole) (defScope s__law_whole) .none kV8 dc8 pm8 an8 cd8 ct8), sl8⟩)
    (c8 : PySem.W.codeIn K cd8 "_law_whole" = true)
    (k8 : PySem.W.keepIn K (.ref f8) = true)
    (a9 : PySem.W.findIn K (.ref C_Shelf) "take" = some (some (.ref f9)))
    (i9 : PySem.W.isFn K (.ref f9) = true)
    (l9 : K.lookup f9 = some ⟨oc9, od9, .func (PySem.W.fnOf "take" "Shelf.take" (defArgs s_Shelf_take) (defBody s_Shelf_take) (defScope s_Shelf_take) .none kV9 dc9 pm9 an9 cd9 ct9), sl9⟩)
    (c9 : PySem.W.codeIn K cd9 "Shelf.take" = true)
    (k9 : PySem.W.keepIn K (.ref f9) = true)
    (a10 : PySem.W.nsIn K mainGlobals "_law_which" = some (some (.ref f10)))
    (l10 : K.lookup f10 = some ⟨oc10, od10, .func (PySem.W.fnOf "_law_which" "_law_which" (defArgs s__law_which) (defBody s__law_which) (defScope s__law_which) .none kV10 dc10 pm10 an10 cd10 ct10), sl10⟩)
    (c10 : PySem.W.codeIn K cd10 "_law_which" = true)
    (k10 : PySem.W.keepIn K (.ref f10) = true)
    (a11 : PySem.W.nsIn K mainGlobals "_law_refused" = some (some (.ref f11)))
    (l11 : K.lookup f11 = some ⟨oc11, od11, .func (PySem.W.fnOf "_law_refused" "_law_refused" (defArgs s__law_refused) (defBody s__law_refused) (defScope s__law_refused) .none kV11 dc11 pm11 an11 cd11 ct11), sl11⟩)
    (c11 : PySem.W.codeIn K cd11 "_law_refused" = true)
    (k11 : PySem.W.keepIn K (.ref f11) = true)
    (a12 : PySem.W.nsIn K mainGlobals "turns" = some (some (.ref f12)))
    (l12 : K.lookup f12 = some ⟨oc12, od12, .func (PySem.W.fnOf "turns" "turns" (defArgs s_turns) (defBody s_turns) (defScope s_turns) .none kV12 dc12 pm12 an12 cd12 ct12), sl12⟩)
    (c12 : PySem.W.codeIn K cd12 "turns" = true)
    (k12 : PySem.W.keepIn K (.ref f12) = true)
    (a13 : PySem.W.nsIn K mainGlobals "split" = some (some (.ref f13)))
    (l13 : K.lookup f13 = some ⟨oc13, od13, .func (PySem.W.fnOf "split" "split" (defArgs s_split) (defBody s_split) (defScope s_split) .none kV13 dc13 pm13 an13 cd13 ct13), sl13⟩)
    (c13 : PySem.W.codeIn K cd13 "split" = true)
    (k13 : PySem.W.keepIn K (.ref f13) = true)
    (a14 : PySem.W.nsIn K mainGlobals "barred" = some (some (.ref f14)))
    (l14 : K.lookup f14 = some ⟨oc14, od14, .func (PySem.W.fnOf "barred" "barred" (defArgs s_barred) (defBody s_barred) (defScope s_barred) .none kV14 dc14 pm14 an14 cd14 ct14), sl14⟩)
    (c14 : PySem.W.codeIn K cd14 "barred" = true)
    (k14 : PySem.W.keepIn K (.ref f14) = true)
    (a15 : PySem.W.nsIn K mainGlobals "leads_from" = some (some (.ref f15)))
    (l15 : K.lookup f15 = some ⟨oc15, od15, .func (PySem.W.fnOf "leads_from" "leads_from" (defArgs s_leads_from) (defBody s_leads_from) (defScope s_leads_from) .none kV15 dc15 pm15 an15 cd15 ct15), sl15⟩)
    (c15 : PySem.W.codeIn K cd15 "leads_from" = true)
    (k15 : PySem.W.keepIn K (.ref f15) = true)
    (a16 : PySem.W.nsIn K mainGlobals "trail" = some (some (.ref f16)))
    (l16 : K.lookup f16 = some ⟨oc16, od16, .func (PySem.W.fnOf "trail" "trail" (defArgs s_trail) (defBody s_trail) (defScope s_trail) .none kV16 dc16 pm16 an16 cd16 ct16), sl16⟩)
    (c16 : PySem.W.codeIn K cd16 "trail" = true)
    (k16 : PySem.W.keepIn K (.ref f16) = true)
    (a17 : PySem.W.nsIn K mainGlobals "joined" = some (some (.ref f17)))
    (l17 : K.lookup f17 = some ⟨oc17, od17, .func (PySem.W.fnOf "joined" "joined" (defArgs s_joined) (defBody s_joined) (defScope s_joined) .none kV17 dc17 pm17 an17 cd17 ct17), sl17⟩)
    (c17 : PySem.W.codeIn K cd17 "joined" = true)
    (k17 : PySem.W.keepIn K (.ref f17) = true)
    (a18 : PySem.W.nsIn K mainGlobals "odd_ring" = some (some (.ref f18)))
    (l18 : K.lookup f18 = some ⟨oc18, od18, .func (PySem.W.fnOf "odd_ring" "odd_ring" (defArgs s_odd_ring) (defBody s_odd_ring) (defScope s_odd_ring) .none kV18 dc18 pm18 an18 cd18 ct18), sl18⟩)
    (c18 : PySem.W.codeIn K cd18 "odd_ring" = true)
    (k18 : PySem.W.keepIn K (.ref f18) = true)
    (a19 : PySem.W.nsIn K mainGlobals "may_follow" = some (some (.ref f19)))
    (l19 : K.lookup f19 = some ⟨oc19, od19, .func (PySem.W.fnOf "may_follow" "may_follow" (defArgs s_may_follow) (defBody s_may_follow) (defScope s_may_follow) .none kV19 dc19 pm19 an19 cd19 ct19), sl19⟩)
    (c19 : PySem.W.codeIn K cd19 "may_follow" = true)
    (k19 : PySem.W.keepIn K (.ref f19) = true)
    (a20 : PySem.W.nsIn K mainGlobals "grown" = some (some (.ref f20)))
    (l20 : K.lookup f20 = some ⟨oc20, od20, .func (PySem.W.fnOf "grown" "grown" (defArgs s_grown) (defBody s_grown) (defScope s_grown) .none kV20 dc20 pm20 an20 cd20 ct20), sl20⟩)
    (c20 : PySem.W.codeIn K cd20 "grown" = true)
    (k20 : PySem.W.keepIn K (.ref f20) = true)
    (a21 : PySem.W.nsIn K mainGlobals "judged" = some (some (.ref f21)))
    (l21 : K.lookup f21 = some ⟨oc21, od21, .func (PySem.W.fnOf "judged" "judged" (defArgs s_judged) (defBody s_judged) (defScope s_judged) .none kV21 dc21 pm21 an21 cd21 ct21), sl21⟩)
    (c21 : PySem.W.codeIn K cd21 "judged" = true)
    (k21 : PySem.W.keepIn K (.ref f21) = true)
    (a22 : PySem.W.findIn K (.ref C_Shelf) "told" = some (some (.ref f22)))
    (i22 : PySem.W.isFn K (.ref f22) = true)
    (l22 : K.lookup f22 = some ⟨oc22, od22, .func (PySem.W.fnOf "told" "Shelf.told" (defArgs s_Shelf_told) (defBody s_Shelf_told) (defScope s_Shelf_told) .none kV22 dc22 pm22 an22 cd22 ct22), sl22⟩)
    (c22 : PySem.W.codeIn K cd22 "Shelf.told" = true)
    (k22 : PySem.W.keepIn K (.ref f22) = true)
    (a23 : PySem.W.nsIn K mainGlobals "first" = some (some (.ref f23)))
    (l23 : K.lookup f23 = some ⟨oc23, od23, .func (PySem.W.fnOf "first" "first" (defArgs s_first) (defBody s_first) (defScope s_first) .none kV23 dc23 pm23 an23 cd23 ct23), sl23⟩)
    (c23 : PySem.W.codeIn K cd23 "first" = true)
    (k23 : PySem.W.keepIn K (.ref f23) = true)
    (a24 : PySem.W.nsIn K mainGlobals "clash" = some (some (.ref f24)))
    (l24 : K.lookup f24 = some ⟨oc24, od24, .func (PySem.W.fnOf "clash" "clash" (defArgs s_clash) (defBody s_clash) (defScope s_clash) .none kV24 dc24 pm24 an24 cd24 ct24), sl24⟩)
    (c24 : PySem.W.codeIn K cd24 "clash" = true)
    (k24 : PySem.W.keepIn K (.ref f24) = true)
    (a25 : PySem.W.findIn K (.ref C_Shelf) "worst" = some (some (.ref f25)))
    (i25 : PySem.W.isFn K (.ref f25) = true)
    (l25 : K.lookup f25 = some ⟨oc25, od25, .func (PySem.W.fnOf "worst" "Shelf.worst" (defArgs s_Shelf_worst) (defBody s_Shelf_worst) (defScope s_Shelf_worst) .none kV25 dc25 pm25 an25 cd25 ct25), sl25⟩)
    (c25 : PySem.W.codeIn K cd25 "Shelf.worst" = true)
    (k25 : PySem.W.keepIn K (.ref f25) = true)
    (a26 : PySem.W.nsIn K mainGlobals "_law_is_turn" = some (some (.ref f26)))
    (l26 : K.lookup f26 = some ⟨oc26, od26, .func (PySem.W.fnOf "_law_is_turn" "_law_is_turn" (defArgs s__law_is_turn) (defBody s__law_is_turn) (defScope s__law_is_turn) .none kV26 dc26 pm26 an26 cd26 ct26), sl26⟩)
    (c26 : PySem.W.codeIn K cd26 "_law_is_turn" = true)
    (k26 : PySem.W.keepIn K (.ref f26) = true)
    (a27 : PySem.W.nsIn K mainGlobals "_law_split" = some (some (.ref f27)))
    (l27 : K.lookup f27 = some ⟨oc27, od27, .func (PySem.W.fnOf "_law_split" "_law_split" (defArgs s__law_split) (defBody s__law_split) (defScope s__law_split) .none kV27 dc27 pm27 an27 cd27 ct27), sl27⟩)
    (c27 : PySem.W.codeIn K cd27 "_law_split" = true)
    (k27 : PySem.W.keepIn K (.ref f27) = true)
    (a28 : PySem.W.nsIn K mainGlobals "_law_bar" = some (some (.ref f28)))
    (l28 : K.lookup f28 = some ⟨oc28, od28, .func (PySem.W.fnOf "_law_bar" "_law_bar" (defArgs s__law_bar) (defBody s__law_bar) (defScope s__law_bar) .none kV28 dc28 pm28 an28 cd28 ct28), sl28⟩)
    (c28 : PySem.W.codeIn K cd28 "_law_bar" = true)
    (k28 : PySem.W.keepIn K (.ref f28) = true)
    (a29 : PySem.W.nsIn K mainGlobals "_law_is_ring" = some (some (.ref f29)))
    (l29 : K.lookup f29 = some ⟨oc29, od29, .func (PySem.W.fnOf "_law_is_ring" "_law_is_ring" (defArgs s__law_is_ring) (defBody s__law_is_ring) (defScope s__law_is_ring) .none kV29 dc29 pm29 an29 cd29 ct29), sl29⟩)
    (c29 : PySem.W.codeIn K cd29 "_law_is_ring" = true)
    (k29 : PySem.W.keepIn K (.ref f29) = true)
    (a30 : PySem.W.nsIn K mainGlobals "_law_tells" = some (some (.ref f30)))
    (l30 : K.lookup f30 = some ⟨oc30, od30, .func (PySem.W.fnOf "_law_tells" "_law_tells" (defArgs s__law_tells) (defBody s__law_tells) (defScope s__law_tells) .none kV30 dc30 pm30 an30 cd30 ct30), sl30⟩)
    (c30 : PySem.W.codeIn K cd30 "_law_tells" = true)
    (k30 : PySem.W.keepIn K (.ref f30) = true)
    (a31 : PySem.W.nsIn K mainGlobals "_law_deed" = some (some (.ref f31)))
    (l31 : K.lookup f31 = some ⟨oc31, od31, .func (PySem.W.fnOf "_law_deed" "_law_deed" (defArgs s__law_deed) (defBody s__law_deed) (defScope s__law_deed) .none kV31 dc31 pm31 an31 cd31 ct31), sl31⟩)
    (c31 : PySem.W.codeIn K cd31 "_law_deed" = true)
    (k31 : PySem.W.keepIn K (.ref f31) = true)
    (a32 : PySem.W.findIn K (.ref C_Shelf) "wishes" = some (some (.ref f32)))
    (i32 : PySem.W.isFn K (.ref f32) = true)
    (l32 : K.lookup f32 = some ⟨oc32, od32, .func (PySem.W.fnOf "wishes" "Shelf.wishes" (defArgs s_Shelf_wishes) (defBody s_Shelf_wishes) (defScope s_Shelf_wishes) .none kV32 dc32 pm32 an32 cd32 ct32), sl32⟩)
    (c32 : PySem.W.codeIn K cd32 "Shelf.wishes" = true)
    (k32 : PySem.W.keepIn K (.ref f32) = true)
    (a33 : PySem.W.nsIn K mainGlobals "law" = some (some (.ref f33)))
    (l33 : K.lookup f33 = some ⟨oc33, od33, .func (PySem.W.fnOf "law" "law" (defArgs s_law) (defBody s_law) (defScope s_law) .none kV33 dc33 pm33 an33 cd33 ct33), sl33⟩)
    (c33 : PySem.W.codeIn K cd33 "law" = true)
    (k33 : PySem.W.keepIn K (.ref f33) = true)
    (e_Shelf : PySem.W.nsIn K mainGlobals "Shelf" = some (some (.ref C_Shelf)))
    (pg_ : PySem.W.plainGet K C_Shelf Str.empty = true)
    (hd_ : PySem.W.hasDictIn K C_Shelf = true)
    (po_ : PySem.W.plainOver K C_Shelf = true)
    (sa_ : PySem.W.findIn K (.ref C_Shelf) "__setattr__" = some (some (.builtin "object.__setattr__")))
    (nm_ : PySem.W.findIn K (.ref C_Shelf) "many" = some none)
    (nh_ : PySem.W.findIn K (.ref C_Shelf) "held" = some none)
    (a00 : PySem.W.findIn K (.ref C_Shelf) "__init__" = some (some (.ref f00)))
    (i00 : PySem.W.isFn K (.ref f00) = true)
    (l00 : K.lookup f00 = some ⟨oc00, od00, .func (PySem.W.fnOf "__init__" "Shelf.__init__" (defArgs s_init) (defBody s_init) (defScope s_init) .none kV00 dc00 pm00 an00 cd00 ct00), sl00⟩)
    (c00 : PySem.W.codeIn K cd00 "Shelf.__init__" = true)
    (k00 : PySem.W.keepIn K (.ref f00) = true)
    (mk_ : PySem.W.makesIn K C_Shelf = true)
    (kc_ : PySem.W.keepIn K (.ref C_Shelf) = true)
    (q_ROOM : PySem.W.nsIn K mainGlobals "ROOM" = some (some v_ROOM))
    (u_ROOM : RelV (.int 12) v_ROOM)
    (e_ShelfError : PySem.W.nsIn K mainGlobals "ShelfError" = some (some (.ref C_ShelfError)))
    (e_NoBook : PySem.W.nsIn K mainGlobals "NoBook" = some (some (.ref C_NoBook)))
    (e_NoTurn : PySem.W.nsIn K mainGlobals "NoTurn" = some (some (.ref C_NoTurn)))
    (e_NoOrder : PySem.W.nsIn K mainGlobals "NoOrder" = some (some (.ref C_NoOrder)))
    (e_NoWish : PySem.W.nsIn K mainGlobals "NoWish" = some (some (.ref C_NoWish)))
    (e_FullShelf : PySem.W.nsIn K mainGlobals "FullShelf" = some (some (.ref C_FullShelf)))
    (e_BadLine : PySem.W.nsIn K mainGlobals "BadLine" = some (some (.ref C_BadLine)))
    (ex_NoBook : PySem.W.excIn K C_NoBook [.type "ValueError", .type "Exception", .type "BaseException", .type "object"] "ValueError.__new__" = true)
    (ek_NoBook : PySem.W.keepIn K (.ref C_NoBook) = true)
    (ex_NoWish : PySem.W.excIn K C_NoWish [.type "ValueError", .type "Exception", .type "BaseException", .type "object"] "ValueError.__new__" = true)
    (ek_NoWish : PySem.W.keepIn K (.ref C_NoWish) = true)
    (ex_FullShelf : PySem.W.excIn K C_FullShelf [.type "ValueError", .type "Exception", .type "BaseException", .type "object"] "ValueError.__new__" = true)
    (ek_FullShelf : PySem.W.keepIn K (.ref C_FullShelf) = true)
    (eb_ShelfError : PySem.W.subIn K (.ref C_ShelfError) (.type "BaseException") = some true)
    (et_ShelfError : PySem.W.typeIn K (.ref C_ShelfError) = some (.type "type"))
    (eb_NoBook : PySem.W.subIn K (.ref C_NoBook) (.type "BaseException") = some true)
    (et_NoBook : PySem.W.typeIn K (.ref C_NoBook) = some (.type "type"))
    (eb_NoTurn : PySem.W.subIn K (.ref C_NoTurn) (.type "BaseException") = some true)
    (et_NoTurn : PySem.W.typeIn K (.ref C_NoTurn) = some (.type "type"))
    (eb_NoOrder : PySem.W.subIn K (.ref C_NoOrder) (.type "BaseException") = some true)
    (et_NoOrder : PySem.W.typeIn K (.ref C_NoOrder) = some (.type "type"))
    (eb_NoWish : PySem.W.subIn K (.ref C_NoWish) (.type "BaseException") = some true)
    (et_NoWish : PySem.W.typeIn K (.ref C_NoWish) = some (.type "type"))
    (eb_FullShelf : PySem.W.subIn K (.ref C_FullShelf) (.type "BaseException") = some true)
    (et_FullShelf : PySem.W.typeIn K (.ref C_FullShelf) = some (.type "type"))
    (eb_BadLine : PySem.W.subIn K (.ref C_BadLine) (.type "BaseException") = some true)
    (et_BadLine : PySem.W.typeIn K (.ref C_BadLine) = some (.type "type"))
    (hd_ShelfError : PySem.W.hasDictIn K C_ShelfError = true)
    (hd_NoBook : PySem.W.hasDictIn K C_NoBook = true)
    (hd_NoTurn : PySem.W.hasDictIn K C_NoTurn = true)
    (hd_NoOrder : PySem.W.hasDictIn K C_NoOrder = true)
    (hd_NoWish : PySem.W.hasDictIn K C_NoWish = true)
    (hd_FullShelf : PySem.W.hasDictIn K C_FullShelf = true)
    (hd_BadLine : PySem.W.hasDictIn K C_BadLine = true)
    (sp_ : PySem.W.specialIn K (.builtin "object.__class__") "__get__" = some (some (.builtin "getset_descriptor.__get__")))
    (tk_ : PySem.W.takesIn K (.builtin "object.__class__") = some true)
    (ga_NoBook : PySem.W.findIn K (.ref C_NoBook) "__getattribute__" = some (some (.builtin "BaseException.__getattribute__")))
    (gt_NoBook : PySem.W.findIn K (.ref C_NoBook) "__getattr__" = some none)
    (gc_NoBook : PySem.W.findIn K (.ref C_NoBook) "__class__" = some (some (.builtin "object.__class__")))
    (mo_NoBook : PySem.W.mroIn K C_NoBook (.type "object") = some true)
    (sv_NoBook_ValueError : PySem.W.subIn K (.ref C_NoBook) (.type "ValueError") = some true)
    (ga_NoWish : PySem.W.findIn K (.ref C_NoWish) "__getattribute__" = some (some (.builtin "BaseException.__getattribute__")))
    (gt_NoWish : PySem.W.findIn K (.ref C_NoWish) "__getattr__" = some none)
    (gc_NoWish : PySem.W.findIn K (.ref C_NoWish) "__class__" = some (some (.builtin "object.__class__")))
    (mo_NoWish : PySem.W.mroIn K C_NoWish (.type "object") = some true)
    (sv_NoWish_ValueError : PySem.W.subIn K (.ref C_NoWish) (.type "ValueError") = some true)
    (ga_FullShelf : PySem.W.findIn K (.ref C_FullShelf) "__getattribute__" = some (some (.builtin "BaseException.__getattribute__")))
    (gt_FullShelf : PySem.W.findIn K (.ref C_FullShelf) "__getattr__" = some none)
    (gc_FullShelf : PySem.W.findIn K (.ref C_FullShelf) "__class__" = some (some (.builtin "object.__class__")))
    (mo_FullShelf : PySem.W.mroIn K C_FullShelf (.type "object") = some true)
    (sv_FullShelf_ValueError : PySem.W.subIn K (.ref C_FullShelf) (.type "ValueError") = some true)
    (su_NoBook_NoBook : PySem.W.subIn K (.ref C_NoBook) (.ref C_NoBook) = some true)
    (su_NoBook_NoTurn : PySem.W.subIn K (.ref C_NoBook) (.ref C_NoTurn) = some false)
    (su_NoBook_NoOrder : PySem.W.subIn K (.ref C_NoBook) (.ref C_NoOrder) = some false)
    (su_NoBook_NoWish : PySem.W.subIn K (.ref C_NoBook) (.ref C_NoWish) = some false)
    (su_NoBook_FullShelf : PySem.W.subIn K (.ref C_NoBook) (.ref C_FullShelf) = some false)
    (su_NoBook_BadLine : PySem.W.subIn K (.ref C_NoBook) (.ref C_BadLine) = some false)
    (su_NoTurn_NoTurn : PySem.W.subIn K (.ref C_NoTurn) (.ref C_NoTurn) = some true)
    (su_NoTurn_NoOrder : PySem.W.subIn K (.ref C_NoTurn) (.ref C_NoOrder) = some false)
    (su_NoTurn_NoWish : PySem.W.subIn K (.ref C_NoTurn) (.ref C_NoWish) = some false)
    (su_NoTurn_FullShelf : PySem.W.subIn K (.ref C_NoTurn) (.ref C_FullShelf) = some false)
    (su_NoTurn_BadLine : PySem.W.subIn K (.ref C_NoTurn) (.ref C_BadLine) = some false)
    (su_NoOrder_NoOrder : PySem.W.subIn K (.ref C_NoOrder) (.ref C_NoOrder) = some true)
    (su_NoOrder_NoWish : PySem.W.subIn K (.ref C_NoOrder) (.ref C_NoWish) = some false)
    (su_NoOrder_FullShelf : PySem.W.subIn K (.ref C_NoOrder) (.ref C_FullShelf) = some false)
    (su_NoOrder_BadLine : PySem.W.subIn K (.ref C_NoOrder) (.ref C_BadLine) = some false)
    (su_NoWish_NoBook : PySem.W.subIn K (.ref C_NoWish) (.ref C_NoBook) = some false)
    (su_NoWish_NoTurn : PySem.W.subIn K (.ref C_NoWish) (.ref C_NoTurn) = some false)
    (su_NoWish_NoOrder : PySem.W.subIn K (.ref C_NoWish) (.ref C_NoOrder) = some false)
    (su_NoWish_NoWish : PySem.W.subIn K (.ref C_NoWish) (.ref C_NoWish) = some true)
    (su_NoWish_FullShelf : PySem.W.subIn K (.ref C_NoWish) (.ref C_FullShelf) = some false)
    (su_NoWish_BadLine : PySem.W.subIn K (.ref C_NoWish) (.ref C_BadLine) = some false)
    (su_FullShelf_NoBook : PySem.W.subIn K (.ref C_FullShelf) (.ref C_NoBook) = some false)
    (su_FullShelf_NoTurn : PySem.W.subIn K (.ref C_FullShelf) (.ref C_NoTurn) = some false)
    (su_FullShelf_NoOrder : PySem.W.subIn K (.ref C_FullShelf) (.ref C_NoOrder) = some false)
    (su_FullShelf_NoWish : PySem.W.subIn K (.ref C_FullShelf) (.ref C_NoWish) = some false)
    (su_FullShelf_FullShelf : PySem.W.subIn K (.ref C_FullShelf) (.ref C_FullShelf) = some true)
    (su_FullShelf_BadLine : PySem.W.subIn K (.ref C_FullShelf) (.ref C_BadLine) = some false)
    (su_BadLine_BadLine : PySem.W.subIn K (.ref C_BadLine) (.ref C_BadLine) = some true)
    (su_NoBook_ShelfError : PySem.W.subIn K (.ref C_NoBook) (.ref C_ShelfError) = some true)
    (su_NoWish_ShelfError : PySem.W.subIn K (.ref C_NoWish) (.ref C_ShelfError) = some true)
    (su_FullShelf_ShelfError : PySem.W.subIn K (.ref C_FullShelf) (.ref C_ShelfError) = some true)
    (z_ValueError : PySem.W.nsIn K mainGlobals "ValueError" = some none)
    (z_bool : PySem.W.nsIn K mainGlobals "bool" = some none)
    (z_int : PySem.W.nsIn K mainGlobals "int" = some none)
    (z_isinstance : PySem.W.nsIn K mainGlobals "isinstance" = some none)
    (z_len : PySem.W.nsIn K mainGlobals "len" = some none)
    (z_list : PySem.W.nsIn K mainGlobals "list" = some none)
    (z_range : PySem.W.nsIn K mainGlobals "range" = some none)
    (z_reversed : PySem.W.nsIn K mainGlobals "reversed" = some none)
    (z_set : PySem.W.nsIn K mainGlobals "set" = some none)
    (z_sorted : PySem.W.nsIn K mainGlobals "sorted" = some none)
    (z_tuple : PySem.W.nsIn K mainGlobals "tuple" = some none)
    (true_ : [C_NoBook, C_NoTurn, C_NoOrder, C_NoWish, C_FullShelf, C_BadLine].Nodup → ∀ ns : List Int, ns.length ≤ 63 → (w_law C_NoBook C_NoTurn C_NoOrder C_NoWish C_FullShelf C_BadLine) [scrD ns] = some (.ok (.d (.bool true)))) :
    ∃ fd : FuncData, (∀ (s : Shared) (v : Value), BindsTo s fd ⟨[v], []⟩ [("script", v)]) ∧ ∀ base : Heap, K.In base → base.Ns mainGlobals mg → FnOk P w K mg base (L2.CX P w) 16 fa fd ["script"] (spLaw K) := by
  have e := hfa.symm.trans (PySem.W.mg_of X G a33)
  cases e
  have B : Blt mg := ⟨PySem.W.mg_none_of X G z_ValueError, PySem.W.mg_none_of X G z_bool, PySem.W.mg_none_of X G z_int, PySem.W.mg_none_of X G z_isinstance, PySem.W.mg_none_of X G z_len, PySem.W.mg_none_of X G z_list, PySem.W.mg_none_of X G z_range, PySem.W.mg_none_of X G z_reversed, PySem.W.mg_none_of X G z_set, PySem.W.mg_none_of X G z_sorted, PySem.W.mg_none_of X G z_tuple⟩
  have k_ROOM : CstI mg "ROOM" 12 := ⟨v_ROOM, PySem.W.mg_of X G q_ROOM, u_ROOM⟩
  have T : ShT K mg C_Shelf := ⟨PySem.W.mg_of X G e_Shelf, e_Shelf, ⟨pg_, hd_, po_, sa_⟩, nm_, nh_⟩
  have x_NoBook : ExT K mg "NoBook" C_NoBook := ⟨PySem.W.mg_of X G e_NoBook, ex_NoBook, ek_NoBook, eb_NoBook, et_NoBook⟩
  have x_NoWish : ExT K mg "NoWish" C_NoWish := ⟨PySem.W.mg_of X G e_NoWish, ex_NoWish, ek_NoWish, eb_NoWish, et_NoWish⟩
  have x_FullShelf : ExT K mg "FullShelf" C_FullShelf := ⟨PySem.W.mg_of X G e_FullShelf, ex_FullShelf, ek_FullShelf, eb_FullShelf, et_FullShelf⟩
  have y_ShelfError : ClT K mg "ShelfError" C_ShelfError := ⟨PySem.W.mg_of X G e_ShelfError, et_ShelfError, hd_ShelfError, eb_ShelfError⟩
  have y_NoBook : ClT K mg "NoBook" C_NoBook := ⟨PySem.W.mg_of X G e_NoBook, et_NoBook, hd_NoBook, eb_NoBook⟩
  have y_NoTurn : ClT K mg "NoTurn" C_NoTurn := ⟨PySem.W.mg_of X G e_NoTurn, et_NoTurn, hd_NoTurn, eb_NoTurn⟩
  have y_NoOrder : ClT K mg "NoOrder" C_NoOrder := ⟨PySem.W.mg_of X G e_NoOrder, et_NoOrder, hd_NoOrder, eb_NoOrder⟩
  have y_NoWish : ClT K mg "NoWish" C_NoWish := ⟨PySem.W.mg_of X G e_NoWish, et_NoWish, hd_NoWish, eb_NoWish⟩
  have y_FullShelf : ClT K mg "FullShelf" C_FullShelf := ⟨PySem.W.mg_of X G e_FullShelf, et_FullShelf, hd_FullShelf, eb_FullShelf⟩
  have y_BadLine : ClT K mg "BadLine" C_BadLine := ⟨PySem.W.mg_of X G e_BadLine, et_BadLine, hd_BadLine, eb_BadLine⟩
  have zc_NoBook : ExcC K C_NoBook := ⟨ga_NoBook, gt_NoBook, eb_NoBook, hd_NoBook, gc_NoBook, sp_, tk_, mo_NoBook⟩
  have zc_NoWish : ExcC K C_NoWish := ⟨ga_NoWish, gt_NoWish, eb_NoWish, hd_NoWish, gc_NoWish, sp_, tk_, mo_NoWish⟩
  have zc_FullShelf : ExcC K C_FullShelf := ⟨ga_FullShelf, gt_FullShelf, eb_FullShelf, hd_FullShelf, gc_FullShelf, sp_, tk_, mo_FullShelf⟩
  have ne_NoBook_NoTurn : ¬ C_NoBook = C_NoTurn := fun e => by rw [e, su_NoTurn_NoTurn] at su_NoBook_NoTurn; cases su_NoBook_NoTurn
  have ne_NoBook_NoOrder : ¬ C_NoBook = C_NoOrder := fun e => by rw [e, su_NoOrder_NoOrder] at su_NoBook_NoOrder; cases su_NoBook_NoOrder
  have ne_NoBook_NoWish : ¬ C_NoBook = C_NoWish := fun e => by rw [e, su_NoWish_NoWish] at su_NoBook_NoWish; cases su_NoBook_NoWish
  have ne_NoBook_FullShelf : ¬ C_NoBook = C_FullShelf := fun e => by rw [e, su_FullShelf_FullShelf] at su_NoBook_FullShelf; cases su_NoBook_FullShelf
  have ne_NoBook_BadLine : ¬ C_NoBook = C_BadLine := fun e => by rw [e, su_BadLine_BadLine] at su_NoBook_BadLine; cases su_NoBook_BadLine
  have ne_NoTurn_NoOrder : ¬ C_NoTurn = C_NoOrder := fun e => by rw [e, su_NoOrder_NoOrder] at su_NoTurn_NoOrder; cases su_NoTurn_NoOrder
  have ne_NoTurn_NoWish : ¬ C_NoTurn = C_NoWish := fun e => by rw [e, su_NoWish_NoWish] at su_NoTurn_NoWish; cases su_NoTurn_NoWish
  have ne_NoTurn_FullShelf : ¬ C_NoTurn = C_FullShelf := fun e => by rw [e, su_FullShelf_FullShelf] at su_NoTurn_FullShelf; cases su_NoTurn_FullShelf
  have ne_NoTurn_BadLine : ¬ C_NoTurn = C_BadLine := fun e => by rw [e, su_BadLine_BadLine] at su_NoTurn_BadLine; cases su_NoTurn_BadLine
  have ne_NoOrder_NoWish : ¬ C_NoOrder = C_NoWish := fun e => by rw [e, su_NoWish_NoWish] at su_NoOrder_NoWish; cases su_NoOrder_NoWish
  have ne_NoOrder_FullShelf : ¬ C_NoOrder = C_FullShelf := fun e => by rw [e, su_FullShelf_FullShelf] at su_NoOrder_FullShelf; cases su_NoOrder_FullShelf
  have ne_NoOrder_BadLine : ¬ C_NoOrder = C_BadLine := fun e => by rw [e, su_BadLine_BadLine] at su_NoOrder_BadLine; cases su_NoOrder_BadLine
  have ne_NoWish_NoBook : ¬ C_NoWish = C_NoBook := fun e => by rw [e, su_NoBook_NoBook] at su_NoWish_NoBook; cases su_NoWish_NoBook
  have ne_NoWish_NoTurn : ¬ C_NoWish = C_NoTurn := fun e => by rw [e, su_NoTurn_NoTurn] at su_NoWish_NoTurn; cases su_NoWish_NoTurn
  have ne_NoWish_NoOrder : ¬ C_NoWish = C_NoOrder := fun e => by rw [e, su_NoOrder_NoOrder] at su_NoWish_NoOrder; cases su_NoWish_NoOrder
  have ne_NoWish_FullShelf : ¬ C_NoWish = C_FullShelf := fun e => by rw [e, su_FullShelf_FullShelf] at su_NoWish_FullShelf; cases su_NoWish_FullShelf
  have ne_NoWish_BadLine : ¬ C_NoWish = C_BadLine := fun e => by rw [e, su_BadLine_BadLine] at su_NoWish_BadLine; cases su_NoWish_BadLine
  have ne_FullShelf_NoBook : ¬ C_FullShelf = C_NoBook := fun e => by rw [e, su_NoBook_NoBook] at su_FullShelf_NoBook; cases su_FullShelf_NoBook
  have ne_FullShelf_NoTurn : ¬ C_FullShelf = C_NoTurn := fun e => by rw [e, su_NoTurn_NoTurn] at su_FullShelf_NoTurn; cases su_FullShelf_NoTurn
  have ne_FullShelf_NoOrder : ¬ C_FullShelf = C_NoOrder := fun e => by rw [e, su_NoOrder_NoOrder] at su_FullShelf_NoOrder; cases su_FullShelf_NoOrder
  have ne_FullShelf_NoWish : ¬ C_FullShelf = C_NoWish := fun e => by rw [e, su_NoWish_NoWish] at su_FullShelf_NoWish; cases su_FullShelf_NoWish
  have ne_FullShelf_BadLine : ¬ C_FullShelf = C_BadLine := fun e => by rw [e, su_BadLine_BadLine] at su_FullShelf_BadLine; cases su_FullShelf_BadLine
  have Z__law_which : ∀ c ∈ [C_NoBook, C_NoWish, C_FullShelf], ExcC K c := fun c hc => by
    simp only [List.mem_cons, List.not_mem_nil, or_false] at hc
    rcases hc with rfl | rfl | rfl
    · exact zc_NoBook
    · exact zc_NoWish
    · exact zc_FullShelf
  have kt_NoOrder__law_which : ∀ c ∈ [C_NoBook, C_NoWish, C_FullShelf], PySem.W.kitOne K (.ref c) (.ref C_NoOrder) = some (decide (c = C_NoOrder)) := fun c hc => by
    simp only [List.mem_cons, List.not_mem_nil, or_false] at hc
    rcases hc with rfl | rfl | rfl
    · exact by rw [decide_eq_false ne_NoBook_NoOrder]; exact y_NoOrder.kit su_NoBook_NoOrder (fun e => (ne_NoBook_NoOrder e).elim)
    · exact by rw [decide_eq_false ne_NoWish_NoOrder]; exact y_NoOrder.kit su_NoWish_NoOrder (fun e => (ne_NoWish_NoOrder e).elim)
    · exact by rw [decide_eq_false ne_FullShelf_NoOrder]; exact y_NoOrder.kit su_FullShelf_NoOrder (fun e => (ne_FullShelf_NoOrder e).elim)
  have kt_NoTurn__law_which : ∀ c ∈ [C_NoBook, C_NoWish, C_FullShelf], PySem.W.kitOne K (.ref c) (.ref C_NoTurn) = some (decide (c = C_NoTurn)) := fun c hc => by
    simp only [List.mem_cons, List.not_mem_nil, or_false] at hc
    rcases hc with rfl | rfl | rfl
    · exact by rw [decide_eq_false ne_NoBook_NoTurn]; exact y_NoTurn.kit su_NoBook_NoTurn (fun e => (ne_NoBook_NoTurn e).elim)
    · exact by rw [decide_eq_false ne_NoWish_NoTurn]; exact y_NoTurn.kit su_NoWish_NoTurn (fun e => (ne_NoWish_NoTurn e).elim)
    · exact by rw [decide_eq_false ne_FullShelf_NoTurn]; exact y_NoTurn.kit su_FullShelf_NoTurn (fun e => (ne_FullShelf_NoTurn e).elim)
  have kt_NoWish__law_which : ∀ c ∈ [C_NoBook, C_NoWish, C_FullShelf], PySem.W.kitOne K (.ref c) (.ref C_NoWish) = some (decide (c = C_NoWish)) := fun c hc => by
    simp only [List.mem_cons, List.not_mem_nil, or_false] at hc
    rcases hc with rfl | rfl | rfl
    · exact by rw [decide_eq_false ne_NoBook_NoWish]; exact y_NoWish.kit su_NoBook_NoWish (fun e => (ne_NoBook_NoWish e).elim)
    · exact by rw [decide_eq_true rfl]; exact y_NoWish.kit su_NoWish_NoWish (fun _ => rfl)
    · exact by rw [decide_eq_false ne_FullShelf_NoWish]; exact y_NoWish.kit su_FullShelf_NoWish (fun e => (ne_FullShelf_NoWish e).elim)
  have kt_NoBook__law_which : ∀ c ∈ [C_NoBook, C_NoWish, C_FullShelf], PySem.W.kitOne K (.ref c) (.ref C_NoBook) = some (decide (c = C_NoBook)) := fun c hc => by
    simp only [List.mem_cons, List.not_mem_nil, or_false] at hc
    rcases hc with rfl | rfl | rfl
    · exact by rw [decide_eq_true rfl]; exact y_NoBook.kit su_NoBook_NoBook (fun _ => rfl)
    · exact by rw [decide_eq_false ne_NoWish_NoBook]; exact y_NoBook.kit su_NoWish_NoBook (fun e => (ne_NoWish_NoBook e).elim)
    · exact by rw [decide_eq_false ne_FullShelf_NoBook]; exact y_NoBook.kit su_FullShelf_NoBook (fun e => (ne_FullShelf_NoBook e).elim)
  have kt_BadLine__law_which : ∀ c ∈ [C_NoBook, C_NoWish, C_FullShelf], PySem.W.kitOne K (.ref c) (.ref C_BadLine) = some (decide (c = C_BadLine)) := fun c hc => by
    simp only [List.mem_cons, List.not_mem_nil, or_false] at hc
    rcases hc with rfl | rfl | rfl
    · exact by rw [decide_eq_false ne_NoBook_BadLine]; exact y_BadLine.kit su_NoBook_BadLine (fun e => (ne_NoBook_BadLine e).elim)
    · exact by rw [decide_eq_false ne_NoWish_BadLine]; exact y_BadLine.kit su_NoWish_BadLine (fun e => (ne_NoWish_BadLine e).elim)
    · exact by rw [decide_eq_false ne_FullShelf_BadLine]; exact y_BadLine.kit su_FullShelf_BadLine (fun e => (ne_FullShelf_BadLine e).elim)
  have kt_FullShelf__law_which : ∀ c ∈ [C_NoBook, C_NoWish, C_FullShelf], PySem.W.kitOne K (.ref c) (.ref C_FullShelf) = some (decide (c = C_FullShelf)) := fun c hc => by
    simp only [List.mem_cons, List.not_mem_nil, or_false] at hc
    rcases hc with rfl | rfl | rfl
    · exact by rw [decide_eq_false ne_NoBook_FullShelf]; exact y_FullShelf.kit su_NoBook_FullShelf (fun e => (ne_NoBook_FullShelf e).elim)
    · exact by rw [decide_eq_false ne_NoWish_FullShelf]; exact y_FullShelf.kit su_NoWish_FullShelf (fun e => (ne_NoWish_FullShelf e).elim)
    · exact by rw [decide_eq_true rfl]; exact y_FullShelf.kit su_FullShelf_FullShelf (fun _ => rfl)
  have kb_ValueError__law_which : ∀ c ∈ [C_NoBook, C_NoWish, C_FullShelf], PySem.W.kitOne K (.ref c) (.type "ValueError") = some true := fun c hc => by
    simp only [List.mem_cons, List.not_mem_nil, or_false] at hc
    rcases hc with rfl | rfl | rfl
    · exact kit_bt (by decide +kernel) sv_NoBook_ValueError
    · exact kit_bt (by decide +kernel) sv_NoWish_ValueError
    · exact kit_bt (by decide +kernel) sv_FullShelf_ValueError
  have Z__law_refused : ∀ c ∈ [C_NoBook, C_NoWish, C_FullShelf], ExcC K c := fun c hc => by
    simp only [List.mem_cons, List.not_mem_nil, or_false] at hc
    rcases hc with rfl | rfl | rfl
    · exact zc_NoBook
    · exact zc_NoWish
    · exact zc_FullShelf
  have me__law_refused : ∀ c ∈ [C_NoBook, C_NoWish, C_FullShelf], PySem.W.exmOne K (.ref c) (.ref C_ShelfError) = some true := fun c hc => by
    simp only [List.mem_cons, List.not_mem_nil, or_false] at hc
    rcases hc with rfl | rfl | rfl
    · exact y_ShelfError.exm su_NoBook_ShelfError
    · exact y_ShelfError.exm su_NoWish_ShelfError
    · exact y_ShelfError.exm su_FullShelf_ShelfError
  obtain ⟨r0, F0⟩ := at_def (st := s__law_cell_at) X G a0 l0 c0 k0
  have b0 := F0.binds (ps := ["script", "k"]) fun _ _ _ _ _ _ us hl => match us, hl with | [_, _], _ => rfl
  obtain ⟨r1, F1⟩ := at_def (st := s__law_order) X G a1 l1 c1 k1
  have b1 := F1.binds (ps := ["script", "at", "many"]) fun _ _ _ _ _ _ us hl => match us, hl with | [_, _, _], _ => rfl
  obtain ⟨r2, F2⟩ := at_def (st := s__law_set) X G a2 l2 c2 k2
  have b2 := F2.binds (ps := ["cell", "many"]) fun _ _ _ _ _ _ us hl => match us, hl with | [_, _], _ => rfl
  obtain ⟨r3, F3⟩ := at_def (st := s__law_wish) X G a3 l3 c3 k3
  have b3 := F3.binds (ps := ["cell", "many", "order"]) fun _ _ _ _ _ _ us hl => match us, hl with | [_, _, _], _ => rfl
  obtain ⟨r4, F4⟩ := at_def (st := s__law_wishes) X G a4 l4 c4 k4
  have b4 := F4.binds (ps := ["script", "at", "most", "few"]) fun _ _ _ _ _ _ us hl => match us, hl with | [_, _, _, _], _ => rfl
  obtain ⟨r5, F5⟩ := at_def (st := s_ask) X G a5 l5 c5 k5
  have b5 := F5.binds (ps := ["many", "wishes"]) fun _ _ _ _ _ _ us hl => match us, hl with | [_, _], _ => rfl
  have r6 : Meth K C_Shelf "put" f6 := ⟨a6, i6, k6⟩
  have F6 := fun_mk (st := s_Shelf_put) l6 c6 k6
  have b6 := F6.binds (ps := ["self", "wish"]) fun _ _ _ _ _ _ us hl => match us, hl with | [_, _], _ => rfl
  have r7 : Meth K C_Shelf "put" f7 := ⟨a7, i7, k7⟩
  have F7 := fun_mk (st := s_Shelf_put2) l7 c7 k7
  have b7 := F7.binds (ps := ["self", "wish"]) fun _ _ _ _ _ _ us hl => match us, hl with | [_, _], _ => rfl
  obtain ⟨r8, F8⟩ := at_def (st := s__law_whole) X G a8 l8 c8 k8
  have b8 := F8.binds (ps := ["found"]) fun _ _ _ _ _ _ us hl => match us, hl with | [_], _ => rfl
  have r9 : Meth K C_Shelf "take" f9 := ⟨a9, i9, k9⟩
  have F9 := fun_mk (st := s_Shelf_take) l9 c9 k9
  have b9 := F9.binds (ps := ["self", "number"]) fun _ _ _ _ _ _ us hl => match us, hl with | [_, _], _ => rfl
  obtain ⟨r10, F10⟩ := at_def (st := s__law_which) X G a10 l10 c10 k10
  have b10 := F10.binds (ps := ["e"]) fun _ _ _ _ _ _ us hl => match us, hl with | [_], _ => rfl
  obtain ⟨r11, F11⟩ := at_def (st := s__law_refused) X G a11 l11 c11 k11
  have b11 := F11.binds (ps := ["shelf", "way", "wish", "number"]) fun _ _ _ _ _ _ us hl => match us, hl with | [_, _, _, _], _ => rfl
  obtain ⟨r12, F12⟩ := at_def (st := s_turns) X G a12 l12 c12 k12
  have b12 := F12.binds (ps := ["many"]) fun _ _ _ _ _ _ us hl => match us, hl with | [_], _ => rfl
  obtain ⟨r13, F13⟩ := at_def (st := s_split) X G a13 l13 c13 k13
  have b13 := F13.binds (ps := ["wishes", "a", "b", "c"]) fun _ _ _ _ _ _ us hl => match us, hl with | [_, _, _, _], _ => rfl
  obtain ⟨r14, F14⟩ := at_def (st := s_barred) X G a14 l14 c14 k14
  have b14 := F14.binds (ps := ["wishes", "one", "other"]) fun _ _ _ _ _ _ us hl => match us, hl with | [_, _, _], _ => rfl
  obtain ⟨r15, F15⟩ := at_def (st := s_leads_from) X G a15 l15 c15 k15
  have b15 := F15.binds (ps := ["many", "wishes", "start"]) fun _ _ _ _ _ _ us hl => match us, hl with | [_, _, _], _ => rfl
  obtain ⟨r16, F16⟩ := at_def (st := s_trail) X G a16 l16 c16 k16
  have b16 := F16.binds (ps := ["leads", "turn"]) fun _ _ _ _ _ _ us hl => match us, hl with | [_, _], _ => rfl
  obtain ⟨r17, F17⟩ := at_def (st := s_joined) X G a17 l17 c17 k17
  have b17 := F17.binds (ps := ["first", "second"]) fun _ _ _ _ _ _ us hl => match us, hl with | [_, _], _ => rfl
  obtain ⟨r18, F18⟩ := at_def (st := s_odd_ring) X G a18 l18 c18 k18
  have b18 := F18.binds (ps := ["many", "wishes"]) fun _ _ _ _ _ _ us hl => match us, hl with | [_, _], _ => rfl
  obtain ⟨r19, F19⟩ := at_def (st := s_may_follow) X G a19 l19 c19 k19
  have b19 := F19.binds (ps := ["order", "wishes", "book"]) fun _ _ _ _ _ _ us hl => match us, hl with | [_, _, _], _ => rfl
  obtain ⟨r20, F20⟩ := at_def (st := s_grown) X G a20 l20 c20 k20
  have b20 := F20.binds (ps := ["many", "wishes", "order"]) fun _ _ _ _ _ _ us hl => match us, hl with | [_, _, _], _ => rfl
  obtain ⟨r21, F21⟩ := at_def (st := s_judged) X G a21 l21 c21 k21
  have b21 := F21.binds (ps := ["many", "wishes"]) fun _ _ _ _ _ _ us hl => match us, hl with | [_, _], _ => rfl
  have r22 : Meth K C_Shelf "told" f22 := ⟨a22, i22, k22⟩
  have F22 := fun_mk (st := s_Shelf_told) l22 c22 k22
  have b22 := F22.binds (ps := ["self"]) fun _ _ _ _ _ _ us hl => match us, hl with | [_], _ => rfl
  obtain ⟨r23, F23⟩ := at_def (st := s_first) X G a23 l23 c23 k23
  have b23 := F23.binds (ps := ["many", "wishes"]) fun _ _ _ _ _ _ us hl => match us, hl with | [_, _], _ => rfl
  obtain ⟨r24, F24⟩ := at_def (st := s_clash) X G a24 l24 c24 k24
  have b24 := F24.binds (ps := ["many", "wishes"]) fun _ _ _ _ _ _ us hl => match us, hl with | [_, _], _ => rfl
  have r25 : Meth K C_Shelf "worst" f25 := ⟨a25, i25, k25⟩
  have F25 := fun_mk (st := s_Shelf_worst) l25 c25 k25
  have b25 := F25.binds (ps := ["self"]) fun _ _ _ _ _ _ us hl => match us, hl with | [_], _ => rfl
  obtain ⟨r26, F26⟩ := at_def (st := s__law_is_turn) X G a26 l26 c26 k26
  have b26 := F26.binds (ps := ["found", "many"]) fun _ _ _ _ _ _ us hl => match us, hl with | [_, _], _ => rfl
  obtain ⟨r27, F27⟩ := at_def (st := s__law_split) X G a27 l27 c27 k27
  have b27 := F27.binds (ps := ["wishes", "a", "b", "c"]) fun _ _ _ _ _ _ us hl => match us, hl with | [_, _, _, _], _ => rfl
  obtain ⟨r28, F28⟩ := at_def (st := s__law_bar) X G a28 l28 c28 k28
  have b28 := F28.binds (ps := ["wishes", "one", "other"]) fun _ _ _ _ _ _ us hl => match us, hl with | [_, _, _], _ => rfl
  obtain ⟨r29, F29⟩ := at_def (st := s__law_is_ring) X G a29 l29 c29 k29
  have b29 := F29.binds (ps := ["found", "many", "wishes"]) fun _ _ _ _ _ _ us hl => match us, hl with | [_, _, _], _ => rfl
  obtain ⟨r30, F30⟩ := at_def (st := s__law_tells) X G a30 l30 c30 k30
  have b30 := F30.binds (ps := ["shelf", "wishes", "many"]) fun _ _ _ _ _ _ us hl => match us, hl with | [_, _, _], _ => rfl
  obtain ⟨r31, F31⟩ := at_def (st := s__law_deed) X G a31 l31 c31 k31
  have b31 := F31.binds (ps := ["shelf", "wishes", "cell", "many"]) fun _ _ _ _ _ _ us hl => match us, hl with | [_, _, _, _], _ => rfl
  have r32 : Meth K C_Shelf "wishes" f32 := ⟨a32, i32, k32⟩
  have F32 := fun_mk (st := s_Shelf_wishes) l32 c32 k32
  have b32 := F32.binds (ps := ["self"]) fun _ _ _ _ _ _ us hl => match us, hl with | [_], _ => rfl
  obtain ⟨r33, F33⟩ := at_def (st := s_law) X G a33 l33 c33 k33
  have r00 : L2.Mk K C_Shelf f00 := ⟨mk_, a00, i00, kc_⟩
  have F00 := fun_mk (st := s_init) l00 c00 k00
  have b00 := F00.binds (ps := ["self", "many"]) fun _ _ _ _ _ _ us hl => match us, hl with | [_, _], _ => rfl
  refine ⟨PySem.W.fnOf "law" "law" (defArgs s_law) (defBody s_law) (defScope s_law) .none kV33 dc33 pm33 an33 cd33 ct33, fun s v => .of_eq rfl, fun base _ _ => ?_⟩
  have FI := ok_init (q2 := ⟨0, 0, 0, 0⟩) (q3 := ⟨0, 0, 0, 0⟩) (P := P) (w := w) (K := K) (mg := mg) (base := base) F00 sc_init T rfl (.inl rfl) (.inl rfl)
  have h__law_cell_at : DefOk P w K mg base "_law_cell_at" 1 w__law_cell_at := DefOk.of F0 (fn__law_cell_at F0 B) r0 b0
  have h__law_set : DefOk P w K mg base "_law_set" 1 w__law_set := DefOk.of F2 (fn__law_set F2 B) r2 b2
  have h__law_wish : DefOk P w K mg base "_law_wish" 1 w__law_wish := DefOk.of F3 (fn__law_wish F3 B) r3 b3
  have h_ask : DefOk P w K mg base "ask" 1 (w_ask C_NoBook) := DefOk.of F5 (fn_ask F5 B x_NoBook) r5 b5
  have h__law_whole : DefOk P w K mg base "_law_whole" 1 w__law_whole := DefOk.of F8 (fn__law_whole F8 B) r8 b8
  have h_Shelf_take : MetW P w K mg base C_Shelf "take" 1 (w_Shelf_take C_NoWish) := ⟨_, _, _, (fn_Shelf_take F9 B T x_NoWish), r9, b9⟩
  have h__law_which : DefOkE P w K mg base "_law_which" 1 [C_NoBook, C_NoWish, C_FullShelf] (w__law_which C_NoBook C_NoTurn C_NoOrder C_NoWish C_FullShelf C_BadLine) := ⟨_, _, _, (fn__law_which F10 B y_NoOrder y_NoTurn y_NoWish y_NoBook y_BadLine y_FullShelf Z__law_which kt_NoOrder__law_which kt_NoTurn__law_which kt_NoWish__law_which kt_NoBook__law_which kt_BadLine__law_which kt_FullShelf__law_which kb_ValueError__law_which), r10, k10, b10⟩
  have h_turns : DefOk P w K mg base "turns" 1 w_turns := DefOk.of F12 (fn_turns F12 B) r12 b12
  have h_split : DefOk P w K mg base "split" 1 w_split := DefOk.of F13 (fn_split F13 B) r13 b13
  have h_trail : DefOk P w K mg base "trail" 1 w_trail := DefOk.of F16 (fn_trail F16 B) r16 b16
  have h_joined : DefOk P w K mg base "joined" 1 w_joined := DefOk.of F17 (fn_joined F17 B) r17 b17
  have h_may_follow : DefOk P w K mg base "may_follow" 1 w_may_follow := DefOk.of F19 (fn_may_follow F19 B) r19 b19
  have h__law_split : DefOk P w K mg base "_law_split" 1 w__law_split := DefOk.of F27 (fn__law_split F27 B) r27 b27
  have h_Shelf_wishes : MetOk P w K mg base C_Shelf "wishes" 1 w_Shelf_wishes := ⟨_, _, _, (fn_Shelf_wishes F32 B T), r32, b32⟩
  have h__law_order : DefOk P w K mg base "_law_order" 2 w__law_order := DefOk.of F1 (fn__law_order F1 B h__law_cell_at) r1 b1
  have h_Shelf_put : MetW P w K mg base C_Shelf "put" 2 (w_Shelf_put C_NoBook C_FullShelf) := ⟨_, _, _, (fn_Shelf_put F6 B h_ask T k_ROOM x_FullShelf), r6, b6⟩
  have h_Shelf_put2 : MetW P w K mg base C_Shelf "put" 2 (w_Shelf_put2 C_NoBook C_FullShelf) := ⟨_, _, _, (fn_Shelf_put2 F7 B h_ask T k_ROOM x_FullShelf), r7, b7⟩
  have h_barred : DefOk P w K mg base "barred" 2 w_barred := DefOk.of F14 (fn_barred F14 B h_split) r14 b14
  have h__law_is_turn : DefOk P w K mg base "_law_is_turn" 2 w__law_is_turn := DefOk.of F26 (fn__law_is_turn F26 B h__law_whole) r26 b26
  have h__law_bar : DefOk P w K mg base "_law_bar" 2 w__law_bar := DefOk.of F28 (fn__law_bar F28 B h__law_split) r28 b28
  have h__law_wishes : DefOk P w K mg base "_law_wishes" 3 w__law_wishes := DefOk.of F4 (fn__law_wishes F4 B h__law_cell_at h__law_order h__law_set h__law_wish) r4 b4
  have h__law_refused : DefOkW P w K mg base "_law_refused" 3 (w__law_refused C_NoBook C_NoTurn C_NoOrder C_NoWish C_FullShelf C_BadLine) := ⟨_, _, _, (fn__law_refused F11 B h_Shelf_put h_Shelf_take h__law_which T y_ShelfError Z__law_refused me__law_refused), r11, k11, b11⟩
  have h_leads_from : DefOk P w K mg base "leads_from" 3 w_leads_from := DefOk.of F15 (fn_leads_from F15 B h_turns h_barred) r15 b15
  have h__law_is_ring : DefOk P w K mg base "_law_is_ring" 3 w__law_is_ring := DefOk.of F29 (fn__law_is_ring F29 B h__law_is_turn h__law_bar) r29 b29
  have h_odd_ring : DefOk P w K mg base "odd_ring" 4 (w_odd_ring C_NoBook) := DefOk.of F18 (fn_odd_ring F18 B h_ask h_turns h_leads_from h_barred h_trail h_joined) r18 b18
  have h_clash : DefOk P w K mg base "clash" 5 (w_clash C_NoBook) := DefOk.of F24 (fn_clash F24 B h_odd_ring) r24 b24
  have h_Shelf_worst : MetOk P w K mg base C_Shelf "worst" 6 (w_Shelf_worst C_NoBook) := ⟨_, _, _, (fn_Shelf_worst F25 B h_clash T), r25, b25⟩
  have hr_grown : ∀ j : Nat, DefOkO P w K mg base "grown" (1 + j) (w_grown j) := fun j => by
    induction j with
    | zero => exact DefOkO.of F20 fn_zeroO r20 b20
    | succ j ih => exact DefOkO.of F20 (fn_grown (j := 1 + j) (by omega) F20 B h_may_follow ih) r20 b20
  have h_grown := hr_grown 10
  have h_judged : DefOk P w K mg base "judged" 12 (w_judged C_NoBook) := DefOk.of F21 (fn_judged F21 B h_odd_ring h_grown) r21 b21
  have h_first : DefOk P w K mg base "first" 12 (w_first C_NoBook) := DefOk.of F23 (fn_first F23 B h_odd_ring h_grown) r23 b23
  have h_Shelf_told : MetOk P w K mg base C_Shelf "told" 13 (w_Shelf_told C_NoBook) := ⟨_, _, _, (fn_Shelf_told F22 B h_judged T), r22, b22⟩
  have h__law_tells : DefOk P w K mg base "_law_tells" 14 (w__law_tells C_NoBook) := DefOk.of F30 (fn__law_tells F30 B h_Shelf_told h_first h_clash h_Shelf_worst h__law_is_ring T) r30 b30
  have h__law_deed : DefOkW P w K mg base "_law_deed" 15 (w__law_deed C_NoBook C_NoTurn C_NoOrder C_NoWish C_FullShelf C_BadLine) := ⟨_, _, _, (fn__law_deed F31 B h__law_set h_Shelf_put2 h__law_whole h__law_refused h_Shelf_take h__law_tells T), r31, k31, b31⟩
  exact law_imp (fn_law F33 B h__law_wishes h__law_cell_at h_Shelf_put h__law_deed h_Shelf_wishes h__law_whole h__law_tells T r00 FI b00) (true_ (by simp [ne_NoBook_NoTurn, ne_NoBook_NoOrder, ne_NoBook_NoWish, ne_NoBook_FullShelf, ne_NoBook_BadLine, ne_NoTurn_NoOrder, ne_NoTurn_NoWish, ne_NoTurn_FullShelf, ne_NoTurn_BadLine, ne_NoOrder_NoWish, ne_NoOrder_FullShelf, ne_NoOrder_BadLine, ne_NoWish_NoBook, ne_NoWish_NoTurn, ne_NoWish_NoOrder, ne_NoWish_FullShelf, ne_NoWish_BadLine, ne_FullShelf_NoBook, ne_FullShelf_NoTurn, ne_FullShelf_NoOrder, ne_FullShelf_NoWish, ne_FullShelf_BadLine]))
end
end G

/-! ### which wishes can all be kept: no odd ring of turns, no trouble (after McConnell) -/
namespace MC
abbrev Ws := List (List Int)
/-- some wish has a and c, but not b -/
def Sp (ws : Ws) (a b c : Nat) : Prop := ∃ w ∈ ws, (a : Int) ∈ w ∧ (c : Int) ∈ w ∧ (b : Int) ∉ w
/-- the closure of one turn under what the wishes force -/
inductive Cl (ws : Ws) (p : Nat × Nat) : Nat × Nat → Prop
  | base : Cl ws p p
  | left {a b c : Nat} : Cl ws p (a, b) → Sp ws a b c → Cl ws p (c, b)
  | right {a b c : Nat} : Cl ws p (b, a) → Sp ws a b c → Cl ws p (b, c)
section
variable {ws : Ws}
theorem Sp.symm {a b c : Nat} (h : Sp ws a b c) : Sp ws c b a := by
  obtain ⟨w, h1, h2, h3, h4⟩ := h
  exact ⟨w, h1, h3, h2, h4⟩
theorem Cl.trans {p q r : Nat × Nat} (h : Cl ws p q) (g : Cl ws q r) : Cl ws p r := by
  induction g with
  | base => exact h
  | left _ t ih => exact ih.left t
  | right _ t ih => exact ih.right t
theorem Cl.symm {p q : Nat × Nat} (h : Cl ws p q) : Cl ws q p := by
  induction h with
  | base => exact .base
  | left _ t ih => exact ((Cl.base (ws := ws)).left t.symm).trans ih
  | right _ t ih => exact ((Cl.base (ws := ws)).right t.symm).trans ih
theorem Cl.inv' {p q : Nat × Nat} (h : Cl ws p q) : Cl ws (p.2, p.1) (q.2, q.1) := by
  induction h with
  | base => exact .base
  | left _ t ih => exact ih.right t
  | right _ t ih => exact ih.left t
theorem Cl.inv {a b c d : Nat} (h : Cl ws (a, b) (c, d)) : Cl ws (b, a) (d, c) := h.inv'
/-- the triangle: what is forced on one side goes along with the corner across -/
theorem Cl.tri' {a b c : Nat} (h1 : ¬ Cl ws (b, c) (a, c)) (h2 : ¬ Cl ws (a, b) (c, b)) {q : Nat × Nat} (h : Cl ws (b, c) q) : Cl ws (a, b) (a, q.1) ∧ Cl ws (a, c) (a, q.2) := by
  induction h with
  | base => exact ⟨.base, .base⟩
  | @left x y z hx t ih =>
    refine ⟨?_, ih.2⟩
    obtain ⟨w, k1, k2, k3, k4⟩ := t
    by_cases ha : (a : Int) ∈ w
    · refine absurd ?_ h1
      have e1 : Cl ws (b, c) (a, y) := hx.left ⟨w, k1, k2, ha, k4⟩
      exact e1.trans ih.2.symm
    · exact ih.1.right ⟨w, k1, k2, k3, ha⟩
  | @right x y z hx t ih =>
    refine ⟨ih.1, ?_⟩
    obtain ⟨w, k1, k2, k3, k4⟩ := t
    by_cases ha : (a : Int) ∈ w
    · refine absurd ?_ h2
      have e1 : Cl ws (c, b) (x, y) := hx.inv
      have e2 : Cl ws (c, b) (a, y) := e1.left ⟨w, k1, k2, ha, k4⟩
      exact (e2.trans ih.1.symm).symm
    · exact ih.2.right ⟨w, k1, k2, k3, ha⟩
theorem Cl.tri {a b c x y : Nat} (h1 : ¬ Cl ws (b, c) (a, c)) (h2 : ¬ Cl ws (a, b) (c, b)) (h : Cl ws (b, c) (x, y)) : Cl ws (a, b) (a, x) ∧ Cl ws (a, c) (a, y) := Cl.tri' h1 h2 h
theorem least {P : Nat → Prop} {n : Nat} (h : P n) : ∃ m, P m ∧ ∀ k, P k → m ≤ k := by
  induction n using Nat.strongRecOn with
  | ind n ih =>
    by_cases z : ∃ k, k < n ∧ P k
    · obtain ⟨k, hk, pk⟩ := z
      exact ih k hk pk
    · exact ⟨n, h, fun k pk => by
        by_cases hk : k < n
        · exact absurd ⟨k, hk, pk⟩ z
        · omega⟩
/-- a turn of the class, or the other way about -/
def Sm (ws : Ws) (p : Nat × Nat) (a b : Nat) : Prop := Cl ws p (a, b) ∨ Cl ws p (b, a)
def Fst (ws : Ws) (p : Nat × Nat) (m y : Nat) : Prop := Sm ws p m y ∧ (∀ a b, Sm ws p a b → m ≤ a) ∧ ∀ b, Sm ws p m b → y ≤ b
theorem fst_some (p : Nat × Nat) : ∃ m y, Fst ws p m y := by
  obtain ⟨m, ⟨y, hy⟩, hm⟩ := least (P := fun m => ∃ y, Sm ws p m y) (n := p.1) ⟨p.2, .inl .base⟩
  obtain ⟨z, hz, hl⟩ := least (P := fun y => Sm ws p m y) hy
  exact ⟨m, z, hz, fun a b h => hm a ⟨b, h⟩, hl⟩
theorem Fst.uniq {p : Nat × Nat} {m y m' y' : Nat} (h : Fst ws p m y) (g : Fst ws p m' y') : m = m' ∧ y = y' := by
  have e : m = m' := Nat.le_antisymm (h.2.1 _ _ g.1) (g.2.1 _ _ h.1)
  subst e
  exact ⟨rfl, Nat.le_antisymm (h.2.2 _ g.1) (g.2.2 _ h.1)⟩
theorem Sm.cl {p q : Nat × Nat} {a b : Nat} (e : Cl ws p q) (h : Sm ws p a b) : Sm ws q a b := by
  rcases h with h | h
  · exact .inl (e.symm.trans h)
  · exact .inr (e.symm.trans h)
theorem Sm.inv {u v a b : Nat} (h : Sm ws (u, v) a b) : Sm ws (v, u) a b := by
  rcases h with h | h
  · exact .inr h.inv
  · exact .inl h.inv
theorem Fst.cl {p q : Nat × Nat} {m y : Nat} (e : Cl ws p q) (h : Fst ws p m y) : Fst ws q m y := ⟨h.1.cl e, fun a b g => h.2.1 a b (g.cl e.symm), fun b g => h.2.2 b (g.cl e.symm)⟩
theorem Fst.inv {u v m y : Nat} (h : Fst ws (u, v) m y) : Fst ws (v, u) m y := ⟨h.1.inv, fun a b g => h.2.1 a b g.inv, fun b g => h.2.2 b g.inv⟩
/-- the turn is chosen: of its class, not of the other way about, is the first turn of the least book -/
def Ch (ws : Ws) (p : Nat × Nat) : Prop := ∃ m y, Fst ws p m y ∧ Cl ws p (m, y)
theorem Ch.cl {p q : Nat × Nat} (h : Ch ws p) (e : Cl ws p q) : Ch ws q := by
  obtain ⟨m, y, h1, h2⟩ := h
  exact ⟨m, y, h1.cl e, e.symm.trans h2⟩
variable (hB : ∀ a b : Nat, a ≠ b → ¬ Cl ws (a, b) (b, a))
theorem Cl.ne {p q : Nat × Nat} (h : Cl ws p q) (n : p.1 ≠ p.2) : q.1 ≠ q.2 := by
  induction h with
  | base => exact n
  | left _ t ih =>
    obtain ⟨w, _, k2, k3, k4⟩ := t
    intro e
    cases e
    exact k4 k3
  | right _ t ih =>
    obtain ⟨w, _, k2, k3, k4⟩ := t
    intro e
    cases e
    exact k4 k3
include hB in
theorem Ch.not {a b : Nat} (h : Ch ws (a, b)) (n : a ≠ b) : ¬ Ch ws (b, a) := by
  rintro ⟨m', y', g1, g2⟩
  obtain ⟨m, y, h1, h2⟩ := h
  obtain ⟨rfl, rfl⟩ := h1.uniq g1.inv
  have e1 : Cl ws (a, b) (y, m) := g2.inv
  exact hB m y (h2.ne n) (h2.symm.trans e1)
theorem ch_or (a b : Nat) : Ch ws (a, b) ∨ Ch ws (b, a) := by
  obtain ⟨m, y, h⟩ := fst_some (ws := ws) (a, b)
  rcases h.1 with k | k
  · exact .inl ⟨m, y, h, k⟩
  · exact .inr ⟨m, y, h.inv, k.inv⟩
include hB in
/-- a class and the other way about: not both are chosen -/
theorem Ch.apart {a b c d : Nat} (h : Ch ws (a, b)) (g : Ch ws (c, d)) (n : c ≠ d) : ¬ Cl ws (a, b) (d, c) := fun e => g.not hB n (h.cl e)
include hB in
theorem cyc0 {a b c ma mb mc ya yb yc : Nat} (hab : Ch ws (a, b)) (hbc : Ch ws (b, c)) (hca : Ch ws (c, a)) (n1 : a ≠ b) (n2 : b ≠ c) (n3 : c ≠ a)
    (fa : Fst ws (b, c) ma ya) (fc : Fst ws (a, b) mc yc) (le : ma ≤ mc) : False := by
  have h1 : ¬ Cl ws (b, c) (a, c) := hbc.apart hB hca n3
  have h2 : ¬ Cl ws (a, b) (c, b) := hab.apart hB hbc n2
  obtain ⟨m, y, q1, q2⟩ := hbc
  obtain ⟨rfl, rfl⟩ := fa.uniq q1
  obtain ⟨r1, r2⟩ := Cl.tri h1 h2 q2
  obtain ⟨m, z, s1, s2⟩ := id hab
  obtain ⟨rfl, rfl⟩ := fc.uniq s1
  have e : ma = mc := Nat.le_antisymm le (s1.2.1 ma a (.inr r1))
  subst e
  have hbc : Ch ws (b, c) := ⟨_, _, q1, q2⟩
  have k1 : ¬ Cl ws (a, ma) (ya, ma) := fun e => hab.apart hB hbc n2 (r1.trans (e.trans q2.inv.symm))
  have k2 : ¬ Cl ws (ya, a) (ma, a) := fun e => hca.apart hB hab n1 (r2.inv.trans (e.trans r1.inv.symm))
  have k3 := (Cl.tri k1 k2 (r1.symm.trans s2)).1
  exact hca.apart hB hbc n2 (r2.inv.trans (k3.trans q2.inv.symm))
include hB in
theorem no_cyc {a b c : Nat} (hab : Ch ws (a, b)) (hbc : Ch ws (b, c)) (hca : Ch ws (c, a)) (n1 : a ≠ b) (n2 : b ≠ c) (n3 : c ≠ a) : False := by
  obtain ⟨ma, ya, fa⟩ := fst_some (ws := ws) (b, c)
  obtain ⟨mb, yb, fb⟩ := fst_some (ws := ws) (c, a)
  obtain ⟨mc, yc, fc⟩ := fst_some (ws := ws) (a, b)
  by_cases h1 : ma ≤ mc
  · exact cyc0 hB hab hbc hca n1 n2 n3 fa fc h1 (mb := mb) (yb := yb)
  · by_cases h2 : mc ≤ mb
    · exact cyc0 hB hca hab hbc n3 n1 n2 fc fb h2 (mb := mb) (yb := yb)
    · exact cyc0 hB hbc hca hab n2 n3 n1 fb fa (by omega) (mb := mb) (yb := yb)
/-- a stands ahead of b -/
def Lt (ws : Ws) (a b : Nat) : Prop := a ≠ b ∧ Ch ws (a, b)
include hB in
theorem lt_trans {a b c : Nat} (h : Lt ws a b) (g : Lt ws b c) : Lt ws a c := by
  have n : c ≠ a := by
    intro e
    subst e
    exact h.2.not hB h.1 g.2
  rcases ch_or (ws := ws) a c with k | k
  · exact ⟨n.symm, k⟩
  · exact (no_cyc hB h.2 g.2 k h.1 g.1 n).elim
/-- every list without repetition may be laid in such an order -/
theorem insert_at {R : Nat → Nat → Prop} (ht : ∀ a b c, R a b → R b c → R a c) (htot : ∀ a b, a ≠ b → R a b ∨ R b a) (x : Nat) : ∀ l : List Nat, l.Pairwise R → x ∉ l → ∃ m : List Nat, m.Perm (x :: l) ∧ m.Pairwise R
  | [], _, _ => ⟨[x], .refl _, List.pairwise_singleton _ _⟩
  | y :: l, h, hx => by
    have hc := List.pairwise_cons.mp h
    rw [List.mem_cons, not_or] at hx
    rcases htot x y hx.1 with k | k
    · refine ⟨x :: y :: l, .refl _, List.pairwise_cons.mpr ⟨fun z hz => ?_, h⟩⟩
      rcases List.mem_cons.mp hz with e | hz
      · rw [e]; exact k
      · exact ht _ _ _ k (hc.1 z hz)
    · obtain ⟨m, h1, h2⟩ := insert_at ht htot x l hc.2 hx.2
      refine ⟨y :: m, (h1.cons y).trans (List.Perm.swap x y l), List.pairwise_cons.mpr ⟨fun z hz => ?_, h2⟩⟩
      rcases List.mem_cons.mp (h1.mem_iff.mp hz) with e | hz
      · rw [e]; exact k
      · exact hc.1 z hz
theorem sorts {R : Nat → Nat → Prop} (ht : ∀ a b c, R a b → R b c → R a c) (htot : ∀ a b, a ≠ b → R a b ∨ R b a) : ∀ l : List Nat, l.Nodup → ∃ m : List Nat, m.Perm l ∧ m.Pairwise R
  | [], _ => ⟨[], .refl _, .nil⟩
  | x :: l, h => by
    have hc := List.nodup_cons.mp h
    obtain ⟨m, h1, h2⟩ := sorts ht htot l hc.2
    obtain ⟨m2, h3, h4⟩ := insert_at ht htot x m h2 (fun z => hc.1 (h1.mem_iff.mp z))
    exact ⟨m2, h3.trans (h1.cons x), h4⟩
/-- nothing stands between two books of w but books of w -/
def Conv (o w : List Int) : Prop := ∀ a b c : Int, [a, b, c].Sublist o → a ∈ w → c ∈ w → b ∈ w
include hB in
/-- no turn forces itself the other way about: then some order keeps all wishes -/
theorem order_some (n : Nat) : ∃ o : List Nat, o.Perm (List.range n) ∧ ∀ w ∈ ws, Conv (o.map fun (i : Nat) => (i : Int)) w := by
  obtain ⟨o, h1, h2⟩ := sorts (R := Lt ws) (fun a b c h g => lt_trans hB h g) (fun a b h => by
    rcases ch_or (ws := ws) a b with k | k
    · exact .inl ⟨h, k⟩
    · exact .inr ⟨h.symm, k⟩) (List.range n) List.nodup_range
  refine ⟨o, h1, fun w hw a b c hsub ha hc => ?_⟩
  obtain ⟨l, hl, e⟩ := List.sublist_map_iff.mp hsub
  match l, e with
  | [x, y, z], e =>
    simp only [List.map_cons, List.map_nil, List.cons.injEq, and_true] at e
    obtain ⟨rfl, rfl, rfl⟩ := e
    have hp := h2.sublist hl
    simp only [List.pairwise_cons, List.mem_cons, List.not_mem_nil, or_false, false_implies, implies_true, and_true, forall_eq_or_imp, forall_eq, List.Pairwise.nil] at hp
    obtain ⟨⟨hxy, _⟩, hyz⟩ := hp
    by_cases hb : (y : Int) ∈ w
    · exact hb
    · exfalso
      have e2 : Cl ws (x, y) (z, y) := Cl.base.left ⟨w, hw, ha, hc, hb⟩
      exact hyz.2.not hB hyz.1 (hxy.2.cl e2)
end
end MC

/-! ### a search in the breadth: each thing once, its distance, the thing ahead of it -/
namespace MB
theorem nodup_le {α : Type} [DecidableEq α] : ∀ {l m : List α}, l.Nodup → (∀ x ∈ l, x ∈ m) → l.length ≤ m.length
  | [], _, _, _ => Nat.zero_le _
  | x :: l, m, h, hs => by
    have hc := List.nodup_cons.mp h
    have hx : x ∈ m := hs x List.mem_cons_self
    have ih := nodup_le (l := l) (m := m.erase x) hc.2 fun y hy => (List.mem_erase_of_ne (fun e => hc.1 (by rw [← e]; exact hy))).mpr (hs y (List.mem_cons_of_mem _ hy))
    rw [List.length_erase_of_mem hx] at ih
    have : 0 < m.length := List.length_pos_of_mem hx
    rw [List.length_cons]
    omega
structure En (α : Type) where
  t : α
  p : Option α
  d : Nat
section
variable {α : Type} [DecidableEq α] (bar : α → α → Bool) (start : α) (all : List α)
/-- what a search that has done the first `at` things holds -/
structure BI (L : List (En α)) (n : Nat) : Prop where
  hd : ∃ rest, L = ⟨start, none, 1⟩ :: rest
  nd : (L.map (·.t)).Nodup
  sub : ∀ e ∈ L, e.t ∈ all
  mono : L.Pairwise fun a b => a.d ≤ b.d
  top : ∀ c, L[n]? = some c → ∀ e ∈ L, e.d ≤ c.d + 1
  pre : ∀ e ∈ L, (e.p = none ∧ e.t = start ∧ e.d = 1) ∨ ∃ q ∈ L, e.p = some q.t ∧ bar q.t e.t = true ∧ e.d = q.d + 1
  lip : ∀ r ∈ L, ∀ e ∈ L, bar r.t e.t = true → e.d ≤ r.d + 1
  dle : ∀ e ∈ L, e.d ≤ L.length
  clo : ∀ i, i < n → ∀ r, L[i]? = some r → ∀ u ∈ all, bar r.t u = true → u ∈ L.map (·.t)
/-- one thing more, if it is new and barred by c -/
def stp (c : En α) (L : List (En α)) (u : α) : List (En α) := if u ∉ L.map (·.t) ∧ bar c.t u = true then L ++ [⟨u, some c.t, c.d + 1⟩] else L
variable {bar start all}
theorem BI.first (h : start ∈ all) (hb : bar start start = false) : BI bar start all [⟨start, none, 1⟩] 0 where
  hd := ⟨[], rfl⟩
  nd := by simp
  sub := fun e he => by rw [List.mem_singleton.mp he]; exact h
  mono := List.pairwise_singleton _ _
  top := fun c hc e he => by rw [List.mem_singleton.mp he]; show 1 ≤ _; omega
  pre := fun e he => by rw [List.mem_singleton.mp he]; exact .inl ⟨rfl, rfl, rfl⟩
  lip := fun r hr e he _ => by rw [List.mem_singleton.mp he]; show 1 ≤ _; omega
  dle := fun e he => by rw [List.mem_singleton.mp he]; exact Nat.le_refl _
  clo := fun i hi => by omega
theorem BI.len {L : List (En α)} {n : Nat} (h : BI bar start all L n) : L.length ≤ all.length := by
  have := nodup_le h.nd (m := all) fun x hx => by
    obtain ⟨e, he, rfl⟩ := List.mem_map.mp hx
    exact h.sub e he
  rwa [List.length_map] at this
theorem BI.stp {L : List (En α)} {n : Nat} (h : BI bar start all L n) {c : En α} (hc : L[n]? = some c) {u : α} (hu : u ∈ all) (sym : ∀ a b, bar a b = bar b a) :
    BI bar start all (stp bar c L u) n ∧ (stp bar c L u)[n]? = some c ∧ (∀ x ∈ L.map (·.t), x ∈ (stp bar c L u).map (·.t)) ∧ (bar c.t u = true → u ∈ (stp bar c L u).map (·.t)) := by
  unfold MB.stp
  split
  · rename_i hq
    obtain ⟨hq1, hq2⟩ := hq
    have hcm : c ∈ L := List.mem_of_getElem? hc
    have hn : n < L.length := (List.getElem?_eq_some_iff.mp hc).1
    have htop := h.top c hc
    refine ⟨⟨?_, ?_, ?_, ?_, ?_, ?_, ?_, ?_, ?_⟩, ?_, ?_, ?_⟩
    · obtain ⟨rest, e⟩ := h.hd
      exact ⟨rest ++ [⟨u, some c.t, c.d + 1⟩], by rw [e]; rfl⟩
    · rw [List.map_append, List.nodup_append]
      refine ⟨h.nd, by simp, fun a ha b hb => ?_⟩
      have : b = u := by simpa using hb
      subst this
      exact fun e => hq1 (e ▸ ha)
    · intro e he
      rcases List.mem_append.mp he with he | he
      · exact h.sub e he
      · rw [List.mem_singleton.mp he]; exact hu
    · rw [List.pairwise_append]
      refine ⟨h.mono, List.pairwise_singleton _ _, fun a ha b hb => ?_⟩
      rw [List.mem_singleton.mp hb]
      exact htop a ha
    · intro c' hc' e he
      rw [List.getElem?_append_left hn, hc] at hc'
      cases hc'
      rcases List.mem_append.mp he with he | he
      · exact htop e he
      · rw [List.mem_singleton.mp he]; exact Nat.le_refl _
    · intro e he
      rcases List.mem_append.mp he with he | he
      · rcases h.pre e he with k | ⟨q, hq, k⟩
        · exact .inl k
        · exact .inr ⟨q, List.mem_append_left _ hq, k⟩
      · rw [List.mem_singleton.mp he]
        exact .inr ⟨c, List.mem_append_left _ hcm, rfl, hq2, rfl⟩
    · intro r hr e he hb
      rcases List.mem_append.mp hr with hr | hr
      · rcases List.mem_append.mp he with he | he
        · exact h.lip r hr e he hb
        · rw [List.mem_singleton.mp he] at hb ⊢
          show c.d + 1 ≤ r.d + 1
          obtain ⟨i, hi, hri⟩ := List.mem_iff_getElem.mp hr
          by_cases hin : i < n
          · exact (hq1 (h.clo i hin r (by rw [List.getElem?_eq_getElem hi, hri]) u hu hb)).elim
          · by_cases hne : i = n
            · subst hne
              rw [List.getElem?_eq_getElem hi, hri] at hc
              cases hc
              exact Nat.le_refl _
            · have hcn : L[n] = c := by
                have := hc
                rw [List.getElem?_eq_getElem hn] at this
                exact Option.some.inj this
              have := List.pairwise_iff_getElem.mp h.mono n i hn hi (by omega)
              rw [hcn, hri] at this
              omega
      · rw [List.mem_singleton.mp hr] at hb ⊢
        show e.d ≤ c.d + 1 + 1
        rcases List.mem_append.mp he with he | he
        · have := htop e he; omega
        · rw [List.mem_singleton.mp he]
          show c.d + 1 ≤ _
          omega
    · intro e he
      rw [List.length_append, List.length_singleton]
      rcases List.mem_append.mp he with he | he
      · have := h.dle e he; omega
      · rw [List.mem_singleton.mp he]
        have := h.dle c hcm
        show c.d + 1 ≤ _
        omega
    · intro i hi r hr v hv hb
      rw [List.getElem?_append_left (by omega)] at hr
      rw [List.map_append]
      exact List.mem_append_left _ (h.clo i hi r hr v hv hb)
    · rw [List.getElem?_append_left hn]; exact hc
    · intro x hx
      rw [List.map_append]
      exact List.mem_append_left _ hx
    · intro _
      rw [List.map_append]
      exact List.mem_append_right _ (by simp)
  · rename_i hq
    refine ⟨h, hc, fun x hx => hx, fun hb => ?_⟩
    by_cases z : u ∈ L.map (·.t)
    · exact z
    · exact (hq ⟨z, hb⟩).elim
theorem BI.next {L : List (En α)} {n : Nat} (h : BI bar start all L n) {c : En α} (hc : L[n]? = some c) (hcl : ∀ u ∈ all, bar c.t u = true → u ∈ L.map (·.t)) : BI bar start all L (n + 1) where
  hd := h.hd
  nd := h.nd
  sub := h.sub
  mono := h.mono
  top := fun c' hc' e he => by
    have h1 := h.top c hc e he
    have hn := (List.getElem?_eq_some_iff.mp hc)
    have hn' := (List.getElem?_eq_some_iff.mp hc')
    obtain ⟨a1, a2⟩ := hn
    obtain ⟨b1, b2⟩ := hn'
    have := List.pairwise_iff_getElem.mp h.mono n (n + 1) a1 b1 (by omega)
    rw [a2, b2] at this
    omega
  pre := h.pre
  lip := h.lip
  dle := h.dle
  clo := fun i hi r hr u hu hb => by
    by_cases z : i < n
    · exact h.clo i z r hr u hu hb
    · have : i = n := by omega
      subst this
      rw [hc] at hr
      cases hr
      exact hcl u hu hb
/-- n things one barring the next, from the first one to t -/
inductive Rch (bar : α → α → Bool) (start : α) (all : List α) : Nat → α → Prop
  | one : Rch bar start all 1 start
  | step {n : Nat} {s u : α} : Rch bar start all n s → u ∈ all → bar s u = true → Rch bar start all (n + 1) u
theorem Rch.pos {n : Nat} {t : α} (h : Rch bar start all n t) : 1 ≤ n := by cases h <;> omega
/-- the search is at its end -/
structure BE (bar : α → α → Bool) (start : α) (all : List α) (L : List (En α)) : Prop where
  bi : ∃ n, BI bar start all L n
  clo : ∀ r ∈ L, ∀ u ∈ all, bar r.t u = true → u ∈ L.map (·.t)
theorem BI.done {L : List (En α)} {n : Nat} (h : BI bar start all L n) (hn : L.length ≤ n) : BE bar start all L := ⟨⟨n, h⟩, fun r hr u hu hb => by
  obtain ⟨i, hi, e⟩ := List.mem_iff_getElem.mp hr
  exact h.clo i (by omega) r (by rw [List.getElem?_eq_getElem hi, e]) u hu hb⟩
theorem BE.reach {L : List (En α)} (h : BE bar start all L) {n : Nat} {t : α} (r : Rch bar start all n t) : ∃ e ∈ L, e.t = t ∧ e.d ≤ n := by
  obtain ⟨m, b⟩ := h.bi
  induction r with
  | one =>
    obtain ⟨rest, e⟩ := b.hd
    exact ⟨⟨start, none, 1⟩, by rw [e]; exact List.mem_cons_self, rfl, Nat.le_refl _⟩
  | @step n s u _ hu hb ih =>
    obtain ⟨e, he, rfl, hd⟩ := ih
    obtain ⟨f, hf, e2⟩ := List.mem_map.mp (h.clo e he u hu hb)
    refine ⟨f, hf, e2, ?_⟩
    have := b.lip e he f hf (by rw [e2]; exact hb)
    omega
/-- the way back from t to the first -/
inductive Trl (L : List (En α)) : α → List α → Prop
  | one {t : α} {e : En α} : e ∈ L → e.t = t → e.p = none → Trl L t [t]
  | step {t : α} {e : En α} {q : α} {l : List α} : e ∈ L → e.t = t → e.p = some q → Trl L q l → Trl L t (t :: l)
theorem BE.trl {L : List (En α)} (h : BE bar start all L) : ∀ (d : Nat) (e : En α), e ∈ L → e.d = d → ∃ l, Trl L e.t l ∧ l.length = d ∧ Rch bar start all d e.t ∧ l.getLast? = some start ∧ (∀ i a b, l[i]? = some a → l[i + 1]? = some b → bar b a = true) ∧ (∀ x ∈ l, x ∈ all) := by
  obtain ⟨m, b⟩ := h.bi
  intro d
  induction d using Nat.strongRecOn with
  | ind d ih =>
    intro e he hd
    rcases b.pre e he with ⟨k1, k2, k3⟩ | ⟨q, hq, k1, k2, k3⟩
    · have : d = 1 := by omega
      subst this
      refine ⟨[e.t], .one he rfl k1, rfl, by rw [k2]; exact .one, by rw [k2]; rfl, fun i x y h1 h2 => ?_, fun x hx => by rw [List.mem_singleton.mp hx]; exact b.sub e he⟩
      simp at h2
    · obtain ⟨l, i1, i2, i3, i4, i5, i6⟩ := ih q.d (by omega) q hq rfl
      have hl : ∃ r, l = q.t :: r := by
        cases i1 with
        | one _ _ _ => exact ⟨_, rfl⟩
        | step _ _ _ _ => exact ⟨_, rfl⟩
      obtain ⟨r, rfl⟩ := hl
      refine ⟨e.t :: q.t :: r, .step he rfl k1 i1, by rw [List.length_cons, i2]; omega, ?_, ?_, fun i x y h1 h2 => ?_, fun x hx => ?_⟩
      · have z : d = q.d + 1 := by omega
        rw [z]
        exact i3.step (b.sub e he) k2
      · rw [List.getLast?_cons_cons]; exact i4
      · cases i with
        | zero =>
          simp at h1 h2
          subst h1 h2
          exact k2
        | succ i => exact i5 i x y (by simpa using h1) (by simpa using h2)
      · rcases List.mem_cons.mp hx with hx | hx
        · rw [hx]; exact b.sub e he
        · exact i6 x hx
theorem en_uniq {L : List (En α)} (hn : (L.map (·.t)).Nodup) {e f : En α} (he : e ∈ L) (hf : f ∈ L) (q : e.t = f.t) : e = f := by
  have key : ∀ {L : List (En α)}, (L.map (·.t)).Nodup → e ∈ L → f ∈ L → e = f := by
    intro L
    induction L with
    | nil => intro _ he; cases he
    | cons x L ih =>
      intro hn he hf
      rw [List.map_cons, List.nodup_cons] at hn
      rcases List.mem_cons.mp he with ha | ha
      · rcases List.mem_cons.mp hf with hb | hb
        · rw [ha, hb]
        · exact (hn.1 (by rw [← ha, q]; exact List.mem_map.mpr ⟨f, hb, rfl⟩)).elim
      · rcases List.mem_cons.mp hf with hb | hb
        · exact (hn.1 (by rw [← hb, ← q]; exact List.mem_map.mpr ⟨e, ha, rfl⟩)).elim
        · exact ih hn.2 ha hb
  exact key hn he hf
theorem Trl.uniq {L : List (En α)} (hn : (L.map (·.t)).Nodup) {t : α} {l m : List α} (h : Trl L t l) (g : Trl L t m) : l = m := by
  have same : ∀ {e f : En α}, e ∈ L → f ∈ L → e.t = f.t → e = f := fun he hf q => en_uniq hn he hf q
  induction h generalizing m with
  | @one t e he ht hp =>
    cases g with
    | @one _ f hf ht2 hp2 => rfl
    | @step _ f q l2 hf ht2 hp2 g2 =>
      have := same he hf (ht.trans ht2.symm)
      subst this
      rw [hp] at hp2
      cases hp2
  | @step t e q l he ht hp h1 ih =>
    cases g with
    | @one _ f hf ht2 hp2 =>
      have := same he hf (ht.trans ht2.symm)
      subst this
      rw [hp] at hp2
      cases hp2
    | @step _ f q2 l2 hf ht2 hp2 g2 =>
      have := same he hf (ht.trans ht2.symm)
      subst this
      rw [hp] at hp2
      cases hp2
      rw [ih g2]
end
end MB

namespace G
open PySem L2 DL DX
/-! ### how a law draws its input -/
local macro_rules | `(tactic| walk_at "run") => `(tactic| simp [*])
def cellAt (ns : List Int) (k : Nat) : Int := ns.getD k 0
theorem e_cell (ns : List Int) (k : Nat) : w__law_cell_at [scrD ns, .int k] = some (.ok (.d (.int (cellAt ns k)))) := by
  unfold w__law_cell_at defD m__law_cell_at cellAt
  by_cases h : k < ns.length
  · walk_at "run"
    simp [h, fIx_scr h]
  · walk_at "run"
theorem x_cell (ns : List Int) (z : Int) (h : 0 ≤ z) : w__law_cell_at [scrD ns, .int z] = some (.ok (.d (.int (cellAt ns z.toNat)))) := by
  have e := e_cell ns z.toNat
  rwa [Int.toNat_of_nonneg h] at e
theorem range_at {many k : Nat} {x : PD} (hx : ((List.range many).map fun (i : Nat) => (PyData.int (i : Int) : PD))[k]? = some x) : k < many ∧ x = .int (k : Int) := by
  rw [List.getElem?_map] at hx
  obtain ⟨i, hi, rfl⟩ := Option.map_eq_some_iff.mp hx
  obtain ⟨h1, h2⟩ := List.getElem?_eq_some_iff.mp hi
  simp at h1 h2
  subst h2
  exact ⟨h1, rfl⟩
/-- the numbers 0, 1, .. below many -/
def rgI (many : Nat) : List Int := (List.range many).map fun (i : Nat) => (i : Int)
theorem mem_rgI {many : Nat} {b : Int} : b ∈ rgI many ↔ 0 ≤ b ∧ b < many := by
  unfold rgI
  rw [List.mem_map]
  constructor
  · rintro ⟨i, hi, rfl⟩
    have := List.mem_range.mp hi
    omega
  · rintro ⟨h1, h2⟩
    exact ⟨b.toNat, List.mem_range.mpr (by omega), by omega⟩
theorem rgI_len (many : Nat) : (rgI many).length = many := by unfold rgI; simp
/-- which books a cell tells -/
theorem x_set (cell : Int) (many : Nat) (hm : many ≤ 1000) : ∃ s : List Int, w__law_set [.int cell, .int many] = some (.ok (.o (.lst (s.map .int)))) ∧ s.Pairwise (· < ·) ∧ (∀ b ∈ s, 0 ≤ b ∧ b < many) ∧ s.length ≤ many := by
  unfold w__law_set defD m__law_set
  walk_at "run"
  generalize hf : forL _ _ _ _ = o
  obtain ⟨ρ', rfl, c', s, x, rfl, h1, h2, h3⟩ := forL_at hf (fun k ρ => ∃ (c' : Int) (s : List Int) (x : Sl), ρ = [.d (.int c'), .d (.int many), .o (.lst (s.map .int)), x] ∧ s.Pairwise (· < ·) ∧ (∀ b ∈ s, 0 ≤ b ∧ b < (k : Int)) ∧ s.length ≤ k)
    ⟨cell, [], .no, rfl, .nil, by simp, by simp⟩ (by
      rintro k x ρ hx ⟨c', s, y, rfl, h1, h2, h3⟩
      obtain ⟨hk, rfl⟩ := range_at hx
      have b1 : s.length < big := by unfold big; omega
      rcases Int.emod_two_eq c' with e | e
      · refine ⟨_, by walk_at "run"; simp [fMod_pos, fDiv_pos, e], c' / 2, s, .d (.int k), rfl, h1, fun b hb => ?_, by omega⟩
        have := h2 b hb
        omega
      · refine ⟨_, by walk_at "run"; simp [fMod_pos, fDiv_pos, e, b1]; rfl, c' / 2, s ++ [(k : Int)], .d (.int k), by simp, ?_, fun b hb => ?_, by simp; omega⟩
        · rw [List.pairwise_append]
          exact ⟨h1, List.pairwise_singleton _ _, fun a ha b hb => by rw [List.mem_singleton.mp hb]; exact (h2 a ha).2⟩
        · rcases List.mem_append.mp hb with hb | hb
          · have := h2 b hb; omega
          · rw [List.mem_singleton.mp hb]; omega)
  simp only [List.length_map, List.length_range] at h2 h3
  exact ⟨s, by simp, h1, h2, h3⟩
theorem erase_map {α β : Type} (f : α → β) : ∀ (l : List α) (n : Nat), (l.map f).eraseIdx n = (l.eraseIdx n).map f
  | [], _ => by simp
  | _ :: _, 0 => by simp
  | _ :: l, n + 1 => by simp [erase_map f l n]
theorem erase_perm {α : Type} : ∀ (l : List α) (n : Nat) (h : n < l.length), (l[n] :: l.eraseIdx n).Perm l
  | _ :: _, 0, _ => by simp
  | a :: l, n + 1, h => by
    rw [List.eraseIdx_cons_succ, List.getElem_cons_succ]
    exact (List.Perm.swap a _ _).trans ((erase_perm l n (by simpa using h)).cons a)
theorem lc_copy {ws : List (List Int)} {ρ : List Sl} {i : Nat} (hi : i < ρ.length) (hw : ws.length ≤ 1000) : lcL i (mr true) (mDat (mC fList (mCons (mV i) mNil))) ρ (ws.map dL) [] = some (ws.map dL) := by
  rw [lcL_map dL (fun _ => true) dL]
  · rw [List.filter_eq_self.mpr (fun _ _ => rfl)]
    rfl
  · intro w hw
    rfl
  · intro w hw _
    simp [hi]
  · unfold big; simp; omega
theorem cutL_map (l : List Int) (lo hi : Option Int) : ∃ a b : Nat, cutL (l.map .int) lo hi = ((l.drop a).take b).map .int :=
  ⟨HT.sIx (l.map PyData.int).length 0 lo, HT.sIx (l.map PyData.int).length (l.map PyData.int).length hi - HT.sIx (l.map PyData.int).length 0 lo, by unfold cutL; simp⟩
/-- sets, each by a cell -/
theorem x_sets (ns : List Int) (at_ : Nat) (many : Nat) (hm : many ≤ 1000) : ∃ sf : Nat → List Int, ∀ i, w__law_set [.int (cellAt ns (at_ + i)), .int many] = some (.ok (.o (.lst ((sf i).map .int)))) ∧ (sf i).Pairwise (· < ·) ∧ (∀ b ∈ sf i, 0 ≤ b ∧ b < many) ∧ (sf i).length ≤ many :=
  ⟨fun i => (x_set (cellAt ns (at_ + i)) many hm).choose, fun i => (x_set (cellAt ns (at_ + i)) many hm).choose_spec⟩
theorem ixN_in {n : Nat} {z : Int} (h0 : 0 ≤ z) (h1 : z < n) : ixN n z = some z.toNat := by unfold ixN; rw [if_pos h0, if_pos h1]
theorem x_c (ns : List Int) (z : Int) (h : 0 ≤ z) : ∃ y, w__law_cell_at [scrD ns, .int z] = some (.ok (.d (.int y))) := ⟨_, x_cell ns z h⟩

end G

namespace G
open PySem L2 DL DX
/-! ### sorted orders -/
theorem rgI_sorted (n : Nat) : (rgI n).Pairwise (· ≤ ·) := by
  unfold rgI
  rw [List.pairwise_map]
  exact List.Pairwise.imp (fun h => by omega) List.pairwise_lt_range
theorem sort_perm {o : List Int} {many : Nat} (h : o.Perm (rgI many)) : sortI o = rgI many := sorted_uniq ((sortI_perm o).trans h) (sortI_sorted o) (rgI_sorted many)

end G

namespace G
open PySem L2 DL DX
local macro_rules | `(tactic| walk_at "run") => `(tactic| simp [*])
/-- an order of many books -/
theorem x_order (ns : List Int) (at_ : Int) (many : Nat) (h0 : 0 ≤ at_) (hm : many ≤ 1000) : ∃ o : List Int, w__law_order [scrD ns, .int at_, .int many] = some (.ok (.o (.lst (o.map .int)))) ∧ o.Perm (rgI many) := by
  unfold w__law_order defD m__law_order
  walk_at "run"
  have b0 : many < big := by unfold big; omega
  generalize hf : forL _ _ _ _ = o
  obtain ⟨ρ', rfl, left, ord, x, rfl, h1, h2⟩ := forL_at hf (fun k ρ => ∃ (left ord : List Int) (x : Sl), ρ = [.d (scrD ns), .d (.int at_), .d (.int many), .o (.lst (left.map .int)), .o (.lst (ord.map .int)), x] ∧ (left ++ ord).Perm (rgI many) ∧ left.length + k = many)
    ⟨rgI many, [], .no, by simp [rgI], by simp, by simp [rgI_len]⟩ (by
      rintro k x ρ hx ⟨left, ord, y, rfl, h1, h2⟩
      obtain ⟨hk, rfl⟩ := range_at hx
      have hl : (0 : Int) < left.length := by omega
      have c1 := x_cell ns (at_ + k) (by omega)
      have c2 : 0 ≤ cellAt ns (at_ + k).toNat % (left.length : Int) := Int.emod_nonneg _ (by omega)
      have c3 : cellAt ns (at_ + k).toNat % (left.length : Int) < left.length := Int.emod_lt_of_pos _ hl
      generalize cellAt ns (at_ + k).toNat = cell at c1 c2 c3
      have c4 : (cell % (left.length : Int)).toNat < left.length := by omega
      have hp := h1.length_eq
      rw [List.length_append, rgI_len] at hp
      have c5 : left.length < big := by omega
      have c6 : ord.length < big := by omega
      refine ⟨_, by walk_at "run"; simp [fMod_pos hl, c2, List.getElem?_eq_getElem c4, c5, c6]; rfl, left.eraseIdx (cell % (left.length : Int)).toNat, ord ++ [left[(cell % (left.length : Int)).toNat]], .d (.int k), ?_, ?_, ?_⟩
      · simp [erase_map]
      · refine List.Perm.trans ?_ h1
        have e := erase_perm left _ c4
        rw [← List.append_assoc]
        refine (List.perm_append_comm).trans ?_
        exact (List.Perm.append_right ord e)
      · rw [List.length_eraseIdx, if_pos c4]
        omega)
  simp only [List.length_map, List.length_range] at h2
  have : left = [] := List.eq_nil_of_length_eq_zero (by omega)
  subst this
  exact ⟨ord, by simp, by simpa using h1⟩
/-- a stretch of an order, perhaps told backwards -/
theorem x_wish (cell : Int) (many : Nat) (o : List Int) (h0 : 0 < many) (hm : many ≤ 1000) (ho : o.length ≤ 1000) : ∃ s : List Int, w__law_wish [.int cell, .int many, dL o] = some (.ok (.d (dL s))) ∧ (∀ b ∈ s, b ∈ o) ∧ s.length ≤ 2 * o.length := by
  unfold w__law_wish defD m__law_wish
  have p1 : (0 : Int) < many := by omega
  have p2 : (many : Int) < 1073741824 := by omega
  have p3 : (0 : Int) < (many : Int) - cell % many := by have := Int.emod_lt_of_pos cell p1; omega
  walk_at "run"
  simp [fMod_pos p1, fDiv_pos p1 p2, fMod_pos p3, fDiv_pos, fMod_pos, fSl]
  obtain ⟨a, b, e⟩ := cutL_map o (some (cell % many)) (some (cell % (many : Int) + (1 + cell / many % (many - cell % many))))
  rw [e]
  obtain ⟨c, d, e2⟩ := cutL_map ((o.drop a).take b) none (some 1)
  rw [e2]
  have l1 : ((o.drop a).take b).length ≤ o.length := by simp; omega
  have l2 : (((o.drop a).take b).drop c |>.take d).length ≤ o.length := by simp; omega
  have m1 : ∀ x ∈ (o.drop a).take b, x ∈ o := fun x hx => List.mem_of_mem_drop (List.mem_of_mem_take hx)
  generalize hs : (o.drop a).take b = s at l1 m1 l2
  have m2 : ∀ x ∈ (s.drop c).take d, x ∈ o := fun x hx => m1 x (List.mem_of_mem_drop (List.mem_of_mem_take hx))
  generalize (s.drop c).take d = t at l2 m2
  have hb : s.length + t.length ≤ big := by unfold big; omega
  by_cases h : cell / 1000 % 4 = 1
  · refine ⟨s.reverse ++ t, by simp [h, hb], fun x hx => ?_, by simp; omega⟩
    rcases List.mem_append.mp hx with hx | hx
    · exact m1 x (List.mem_reverse.mp hx)
    · exact m2 x hx
  · exact ⟨s, by simp [h], m1, by omega⟩
/-- wishes drawn: books that are there -/
def WOk (many : Nat) (ws : List (List Int)) : Prop := ∀ w ∈ ws, (∀ b ∈ w, 0 ≤ b ∧ b < many) ∧ w.length ≤ 2 * many
theorem WOk.snoc {many : Nat} {ws : List (List Int)} {w : List Int} (h : WOk many ws) (hw : ∀ b ∈ w, 0 ≤ b ∧ b < many) (hl : w.length ≤ 2 * many) : WOk many (ws ++ [w]) := by
  intro v hv
  rcases List.mem_append.mp hv with hv | hv
  · exact h v hv
  · rw [List.mem_singleton.mp hv]; exact ⟨hw, hl⟩
theorem x_wishes (ns : List Int) (at_ : Int) (most few : Nat) (h0 : 0 ≤ at_) (hm0 : 0 < most) (hm : most ≤ 100) (hf : few ≤ 100) : ∃ (many : Nat) (ws : List (List Int)), w__law_wishes [scrD ns, .int at_, .int most, .int few] = some (.ok (.d (.tuple [.int many, dW ws]))) ∧ 0 < many ∧ many ≤ most ∧ ws.length ≤ few ∧ WOk many ws := by
  unfold w__law_wishes defD m__law_wishes
  have c1 := x_cell ns at_ h0
  generalize cellAt ns at_.toNat = cell at c1
  have p1 : (0 : Int) < most := by omega
  have p2 : (0 : Int) < (few : Int) + 1 := by omega
  have q1 : 0 ≤ cell / 4 % (most : Int) := Int.emod_nonneg _ (by omega)
  have q2 := Int.emod_lt_of_pos (cell / 4) p1
  have q3 : 0 ≤ cell / 40 % ((few : Int) + 1) := Int.emod_nonneg _ (by omega)
  have q4 := Int.emod_lt_of_pos (cell / 40) p2
  obtain ⟨many, em⟩ : ∃ many : Nat, 1 + cell / 4 % (most : Int) = (many : Int) := ⟨(1 + cell / 4 % (most : Int)).toNat, by omega⟩
  obtain ⟨cnt, ec⟩ : ∃ cnt : Nat, cell / 40 % ((few : Int) + 1) = (cnt : Int) := ⟨(cell / 40 % ((few : Int) + 1)).toNat, by omega⟩
  have m1 : 0 < many := by omega
  have m2 : many ≤ most := by omega
  have m3 : cnt ≤ few := by omega
  obtain ⟨o, c2, o2⟩ := x_order ns (at_ + 1) many (by omega) (by omega)
  have o3 : o.length = many := by rw [o2.length_eq, rgI_len]
  have r1 : cnt ≤ 1000 := by omega
  walk_at "run"
  simp [fMod_pos p1, fMod_pos p2, fDiv_pos, fMod_pos, em, ec, c2, r1]
  generalize hf : forL _ _ _ _ = O
  obtain ⟨ρ', rfl, ws, x, y, z, rfl, h1, h2⟩ := forL_at hf (fun k ρ => ∃ (ws : List (List Int)) (x y z : Sl), ρ = [.d (scrD ns), .d (.int at_), .d (.int most), .d (.int few), .d (.int cell), .d (.int many), .d (.int cnt), .d (dL o), .o (.lst (ws.map dL)), x, y, z] ∧ ws.length = k ∧ WOk many ws)
    ⟨[], .no, .no, .no, by simp, rfl, by simp [WOk]⟩ (by
      rintro k x ρ hx ⟨ws, x', y, z, rfl, h1, h2⟩
      obtain ⟨hk, rfl⟩ := range_at hx
      have c3 := x_cell ns (at_ + 10 + k) (by omega)
      generalize cellAt ns (at_ + 10 + k).toNat = one at c3
      obtain ⟨s, d1, d2, d3, d4⟩ := x_set one many (by omega)
      obtain ⟨t, e1, e2, e3⟩ := x_wish one many o m1 (by omega) (by omega)
      have b : ws.length < big := by unfold big; omega
      have b' : k < big := by unfold big; omega
      by_cases h : cell % 4 = 0
      · exact ⟨_, by walk_at "run"; simp [fMod_pos, h, c3, d1, b, b']; rfl, ws ++ [s], .d (.int k), .d (.int one), z, by simp, by simp [h1], h2.snoc d3 (by omega)⟩
      · exact ⟨_, by walk_at "run"; simp [fMod_pos, h, c3, e1, b, b']; rfl, ws ++ [t], .d (.int k), .d (.int one), z, by simp, by simp [h1], h2.snoc (fun b hb => mem_rgI.mp (o2.mem_iff.mp (e2 b hb))) (by omega)⟩)
  simp only [List.length_map, List.length_range] at h1
  clear hf
  by_cases hc : 1 < cell % 4 ∧ 0 < cnt
  · have c4 := x_cell ns (at_ + 9) (by omega)
    generalize cellAt ns (at_ + 9).toNat = other at c4
    obtain ⟨s, d1, d2, d3, d4⟩ := x_set (other / cnt) many (by omega)
    have g0 : (0 : Int) < cnt := by omega
    have g1 := Int.emod_nonneg other (show (cnt : Int) ≠ 0 by omega)
    have g2 := Int.emod_lt_of_pos other g0
    have g3 : ixN cnt (other % (cnt : Int)) = some (other % (cnt : Int)).toNat := by unfold ixN; rw [if_pos g1, if_pos g2]
    have g4 : (cnt : Int) < 1073741824 := by omega
    obtain ⟨k1, k2⟩ := hc
    refine ⟨many, ws.set (other % (cnt : Int)).toNat s, ?_, m1, m2, by simp; omega, fun v hv => ?_⟩
    · simp [fMod_pos, k1, k2, c4, fMod_pos g0, fDiv_pos g0 g4, d1, h1, g3]
      simp [big, List.map_set]
    · rcases List.mem_or_eq_of_mem_set hv with hv | hv
      · exact h2 v hv
      · subst hv
        exact ⟨d3, by omega⟩
  · refine ⟨many, ws, ?_, m1, m2, by omega, h2⟩
    by_cases k1 : 1 < cell % 4
    · have k2 : ¬ 0 < cnt := fun z => hc ⟨k1, z⟩
      simp [fMod_pos, k1, k2, big]
    · simp [fMod_pos, k1, big]

end G

namespace G
open PySem L2 DL DX
local macro_rules | `(tactic| walk_at "run") => `(tactic| simp [*])
/-- a book that isn't there -/
def offB (many : Int) (b : Int) : Bool := decide (b < 0) || decide (many ≤ b)
def offW (many : Int) (w : List Int) : Bool := w.any (offB many)
def offWs (many : Int) (ws : List (List Int)) : Bool := ws.any (offW many)
theorem x_askG (C : Addr) (many : Int) {α : Type} (f : α → PD) (g : α → List Int) (h : ∀ a, asSeq (f a) = some ((g a).map .int)) (l : List α) : w_ask C [.int many, .list (l.map f)] = if l.any (fun a => offW many (g a)) = true then some (.ex C) else some (.ok (.d .none)) := by
  unfold w_ask defD m_ask
  generalize hB : (l.any fun a => offW many (g a)) = B
  walk_at "run"
  generalize hf : forL _ _ _ _ = O
  rcases forL_firstAt hf l f rfl (X := .ex C) trivial (fun a => offW many (g a)) (fun ρ => ∃ x y, ρ = [.d (.int many), .d (.list (l.map f)), x, y]) ⟨_, _, rfl⟩ (by
      rintro w hw ρ ⟨x, y, rfl⟩
      have hw' := h w
      walk_at "run"
      generalize hg : forL _ _ _ _ = O2
      rcases forL_firstAt hg (g w) PyData.int rfl (X := .ex C) trivial (offB many) (fun ρ => ∃ x y, ρ = [.d (.int many), .d (.list (l.map f)), x, y]) ⟨_, _, rfl⟩ (by
          rintro b hb ρ ⟨x, y, rfl⟩
          unfold offB
          by_cases h1 : b < 0
          · walk_at "run"
          · by_cases h2 : many ≤ b
            · walk_at "run"
            · walk_at "run") with ⟨e1, e2⟩ | ⟨e1, ρ', e2, x, y, e3⟩
      · have : offW many (g w) = true := e1
        simp [this, e2]
      · have : offW many (g w) = false := e1
        subst e3
        simp [this, e2]) with ⟨e1, e2⟩ | ⟨e1, ρ', e2, x, y, e3⟩
  · cases hB.symm.trans e1
    rw [e2]
    rfl
  · cases hB.symm.trans e1
    rw [e2]
    rfl
theorem x_ask (C : Addr) (many : Int) (ws : List (List Int)) : w_ask C [.int many, dW ws] = if offWs many ws = true then some (.ex C) else some (.ok (.d .none)) := x_askG C many dL id (fun _ => rfl) ws
theorem offWs_ok {many : Nat} {ws : List (List Int)} (h : ∀ w ∈ ws, ∀ b ∈ w, 0 ≤ b ∧ b < many) : offWs many ws = false := by
  unfold offWs
  rw [List.any_eq_false]
  intro w hw e
  unfold offW at e
  obtain ⟨b, hb, e⟩ := List.any_eq_true.mp e
  have := h w hw b hb
  unfold offB at e
  simp at e
  omega
theorem x_ask_ok (C : Addr) {many : Nat} {ws : List (List Int)} (h : ∀ w ∈ ws, ∀ b ∈ w, 0 ≤ b ∧ b < many) : w_ask C [.int many, dW ws] = some (.ok (.d .none)) := by
  rw [x_ask, offWs_ok h]
  rfl

end G

namespace G
open PySem L2 DL DX
/-! ### turns, and how they bar one another -/
local macro_rules | `(tactic| walk_at "run") => `(tactic| simp [*])
abbrev tD (t : Int × Int) : PD := .tuple [.int t.1, .int t.2]
/-- some wish has a and c, but not b -/
def spB (ws : List (List Int)) (a b c : Int) : Bool := ws.any fun w => decide (a ∈ w) && (decide (c ∈ w) && !decide (b ∈ w))
def barB (ws : List (List Int)) (s t : Int × Int) : Bool :=
  if s.1 = t.2 ∧ s.2 = t.1 then true else if s.2 = t.1 ∧ ¬ s.1 = t.2 then spB ws s.1 s.2 t.2 else if t.2 = s.1 ∧ ¬ t.1 = s.2 then spB ws t.1 t.2 s.2 else false
theorem x_split (ws : List (List Int)) (a b c : Int) : w_split [dW ws, .int a, .int b, .int c] = some (.ok (.d (.bool (spB ws a b c)))) := by
  unfold w_split defD m_split
  walk_at "run"
  generalize hf : forL _ _ _ _ = O
  rcases forL_firstAt hf ws dL rfl (X := .rt (.d (.bool true))) trivial (fun w => decide (a ∈ w) && (decide (c ∈ w) && !decide (b ∈ w))) (fun ρ => ∃ x, ρ = [.d (dW ws), .d (.int a), .d (.int b), .d (.int c), x]) ⟨_, rfl⟩ (by
      rintro w hw ρ ⟨x, rfl⟩
      have e1 := Enc.int.fIn false w a
      have e2 := Enc.int.fIn false w c
      have e3 := Enc.int.fIn true w b
      by_cases h1 : a ∈ w
      · by_cases h2 : c ∈ w
        · by_cases h3 : b ∈ w
          · walk_at "run"
          · walk_at "run"
        · walk_at "run"
      · walk_at "run") with ⟨e1, e2⟩ | ⟨e1, ρ', e2, _⟩
  · have : spB ws a b c = true := e1
    rw [e2, this]; rfl
  · have : spB ws a b c = false := e1
    rw [e2, this]; rfl
theorem x_barred (ws : List (List Int)) (s t : Int × Int) : w_barred [dW ws, tD s, tD t] = some (.ok (.d (.bool (barB ws s t)))) := by
  obtain ⟨a, b⟩ := s
  obtain ⟨c, d⟩ := t
  unfold w_barred defD m_barred barB
  have e := x_split ws
  by_cases h1 : a = d
  · by_cases h2 : b = c
    · walk_at "run"
    · have h3 : ¬ c = b := fun z => h2 z.symm
      walk_at "run"
  · have h3 : ¬ d = a := fun z => h1 z.symm
    by_cases h2 : b = c
    · walk_at "run"
    · walk_at "run"
theorem bar_comm (ws : List (List Int)) (s t : Int × Int) : barB ws s t = barB ws t s := by
  obtain ⟨a, b⟩ := s
  obtain ⟨c, d⟩ := t
  unfold barB
  by_cases h1 : a = d
  · by_cases h2 : b = c
    · simp [h1, h2]
    · have h3 : ¬ c = b := fun z => h2 z.symm
      simp [h1, h2, h3]
  · have h3 : ¬ d = a := fun z => h1 z.symm
    by_cases h2 : b = c
    · simp [h1, h2, h3]
    · have h4 : ¬ c = b := fun z => h2 z.symm
      simp [h1, h2, h3, h4]
/-- a turn of books that are there -/
def TOk (many : Nat) (t : Int × Int) : Prop := (0 ≤ t.1 ∧ t.1 < many) ∧ (0 ≤ t.2 ∧ t.2 < many) ∧ t.1 ≠ t.2

end G

namespace G
open PySem L2 DL DX
local macro_rules | `(tactic| walk_at "run") => `(tactic| simp [*])
theorem x_lsplit (ws : List (List Int)) (a b c : Int) : w__law_split [dW ws, .int a, .int b, .int c] = some (.ok (.d (.bool (spB ws a b c)))) := x_split ws a b c
theorem x_lbar (ws : List (List Int)) (s t : Int × Int) : w__law_bar [dW ws, tD s, tD t] = some (.ok (.d (.bool (barB ws s t)))) := by
  obtain ⟨a, b⟩ := s
  obtain ⟨c, d⟩ := t
  unfold w__law_bar defD m__law_bar barB
  have e := x_lsplit ws
  have e3 : 2 ≤ big := by decide
  by_cases h1 : a = d
  · by_cases h2 : b = c
    · walk_at "run"
    · have h3 : ¬ c = b := fun z => h2 z.symm
      walk_at "run"
  · have h3 : ¬ d = a := fun z => h1 z.symm
    by_cases h2 : b = c
    · walk_at "run"
    · walk_at "run"

end G

namespace G
open PySem L2 DL DX
/-! ### all turns, and the search from one of them -/
local macro_rules | `(tactic| walk_at "run") => `(tactic| simp [*])
open MB
abbrev Tn := Int × Int
def turnsL (many : Nat) : List Tn := (rgI many).flatMap fun a => ((rgI many).filter fun b => !decide (a = b)).map fun b => (a, b)
theorem mem_turnsL {many : Nat} {t : Tn} : t ∈ turnsL many ↔ TOk many t := by
  unfold turnsL TOk
  obtain ⟨a, b⟩ := t
  simp only [List.mem_flatMap, List.mem_map, List.mem_filter, mem_rgI, Bool.not_eq_true', decide_eq_false_iff_not, Prod.mk.injEq]
  constructor
  · rintro ⟨a', h1, b', ⟨h2, h3⟩, rfl, rfl⟩
    exact ⟨h1, h2, h3⟩
  · rintro ⟨h1, h2, h3⟩
    exact ⟨a, h1, b, ⟨h2, h3⟩, rfl, rfl⟩
theorem rgI_take (many k : Nat) (h : k ≤ many) : (rgI many).take k = rgI k := by
  unfold rgI
  rw [← List.map_take, List.take_range, Nat.min_eq_left h]
theorem rgI_succ (k : Nat) : rgI (k + 1) = rgI k ++ [(k : Int)] := by
  unfold rgI
  rw [List.range_succ, List.map_append]
  rfl
def rowL (many : Nat) (a : Int) : List Tn := ((rgI many).filter fun b => !decide (a = b)).map fun b => (a, b)
theorem rowL_len (many : Nat) (a : Int) : (rowL many a).length ≤ many := by
  unfold rowL
  rw [List.length_map]
  exact Nat.le_trans (List.length_filter_le _ _) (by rw [rgI_len]; exact Nat.le_refl _)
theorem x_turns {many : Nat} (hm : many ≤ 8) : w_turns [.int many] = some (.ok (.d (.list ((turnsL many).map tD)))) ∧ (turnsL many).length ≤ 64 := by
  unfold w_turns defD m_turns
  have r1 := rng1_nat (n := many) (by omega)
  walk_at "run"
  generalize hf : forL _ _ _ _ = O
  obtain ⟨ρ', rfl, acc, x, rfl, h0, h1⟩ := forL_at hf (fun k ρ => ∃ (acc : List Tn) (x : Sl), ρ = [.d (.int many), .d (.list (acc.map tD)), x, .no] ∧ acc = (rgI k).flatMap (rowL many) ∧ acc.length ≤ k * 8)
    ⟨[], .no, by simp, by simp [rgI], by simp⟩ (by
      rintro k x ρ hx ⟨acc, x', rfl, h0, h1⟩
      obtain ⟨hk, rfl⟩ := range_at hx
      have lc : lcL 3 (mB (m2 fNe (mV 2) (mV 3))) (mTup (mCons (mV 2) (mCons (mV 3) mNil))) [.d (.int many), .d (.list (acc.map tD)), .d (.int (k : Int)), .no] ((List.range many).map fun (i : Nat) => PyData.int (i : Int)) [] = some ((rowL many k).map tD) := by
        have b2 : 2 ≤ big := by decide
        rw [lcL_map (fun (i : Nat) => PyData.int (i : Int)) (fun (i : Nat) => !decide ((k : Int) = (i : Int))) (fun (i : Nat) => tD ((k : Int), (i : Int)))]
        · unfold rowL rgI
          rw [List.filter_map, List.map_map, List.map_map]
          rfl
        · intro i hi
          walk_at "run"
        · intro i hi _
          walk_at "run"
        · unfold big; simp; omega
      have h2 := rowL_len many k
      have h3 : acc.length + (rowL many k).length ≤ big := by unfold big; omega
      have e : acc ++ rowL many k = (rgI (k + 1)).flatMap (rowL many) := by
        rw [rgI_succ, List.flatMap_append, h0]
        simp
      clear h0
      refine ⟨[.d (.int many), .d (.list ((acc ++ rowL many k).map tD)), .d (.int k), .no], ?_, acc ++ rowL many k, .d (.int k), rfl, e, by rw [List.length_append]; omega⟩
      clear e
      walk_at "run")
  simp only [List.length_map, List.length_range] at h0 h1
  have e : (rgI many).flatMap (rowL many) = turnsL many := rfl
  rw [e] at h0
  subst h0
  exact ⟨by simp, by omega⟩
/-- an entry, as the dict holds it -/
def encP : Option Tn → PD
  | none => .none
  | some q => tD q
def encE (e : En Tn) : List Int × PD := ([e.t.1, e.t.2], encP e.p)
theorem key_eq {a b : Tn} : ([a.1, a.2] : List Int) = [b.1, b.2] ↔ a = b := by
  obtain ⟨a1, a2⟩ := a
  obtain ⟨b1, b2⟩ := b
  simp
theorem valP_some {L : List (En Tn)} (hn : (L.map (·.t)).Nodup) {e : En Tn} (he : e ∈ L) : valP (L.map encE) [e.t.1, e.t.2] = some (encP e.p) := by
  induction L with
  | nil => cases he
  | cons f L ih =>
    rw [List.map_cons, List.nodup_cons] at hn
    unfold valP
    rw [List.map_cons]
    rcases List.mem_cons.mp he with h | h
    · subst h
      rw [List.find?_cons_of_pos (by simp [encE])]
      rfl
    · have ne : ¬ f.t = e.t := fun z => hn.1 (by rw [z]; exact List.mem_map.mpr ⟨e, h, rfl⟩)
      rw [List.find?_cons_of_neg (by
        show ¬ decide ([f.t.1, f.t.2] = [e.t.1, e.t.2]) = true
        rw [decide_eq_true_eq, key_eq]
        exact ne)]
      exact ih hn.2 h
theorem valP_has (L : List (En Tn)) (u : Tn) : (valP (L.map encE) [u.1, u.2]).isSome = decide (u ∈ L.map (·.t)) := by
  rw [← valP_any, List.any_map, Bool.eq_iff_iff, List.any_eq_true, decide_eq_true_eq, List.mem_map]
  constructor
  · rintro ⟨e, he, q⟩
    have q' : ([e.t.1, e.t.2] : List Int) = [u.1, u.2] := by simpa [encE] using q
    exact ⟨e, he, key_eq.mp q'⟩
  · rintro ⟨e, he, rfl⟩
    exact ⟨e, he, by simp [encE]⟩
theorem bar_irr {many : Nat} {ws : List (List Int)} {t : Tn} (h : TOk many t) : barB ws t t = false := by
  obtain ⟨_, _, h3⟩ := h
  unfold barB
  have h4 : ¬ t.2 = t.1 := fun e => h3 e.symm
  simp [h3, h4]
/-- the search from a turn -/
theorem x_leads {many : Nat} {ws : List (List Int)} {s : Tn} (hm : many ≤ 8) (hs : TOk many s) :
    ∃ L : List (En Tn), w_leads_from [.int many, dW ws, tD s] = some (.ok (.d (dctD (L.map encE)))) ∧ BE (barB ws) s (turnsL many) L := by
  obtain ⟨xt, lt⟩ := x_turns hm
  have xb := x_barred ws
  unfold w_leads_from defD m_leads_from
  have h0 : BI (barB ws) s (turnsL many) [⟨s, none, 1⟩] 0 := BI.first (mem_turnsL.mpr hs) (bar_irr hs)
  have b1 : 1 ≤ big := by decide
  walk_at "run"
  generalize hf : whlF _ _ _ _ = O
  obtain ⟨ρ', rfl, L, n, x, rfl, hB, hn⟩ := whl_at hf (fun ρ => ∃ (L : List (En Tn)) (n : Nat) (x : Sl), ρ = [.d (.int many), .d (dW ws), .d (tD s), .o (.dic (L.map encE)), .o (.lst (L.map fun e => tD e.t)), .d (.int n), x] ∧ BI (barB ws) s (turnsL many) L n)
    (fun ρ => 65 - slN 5 ρ)
    (fun ρ => ∃ (L : List (En Tn)) (n : Nat) (x : Sl), ρ = [.d (.int many), .d (dW ws), .d (tD s), .o (.dic (L.map encE)), .o (.lst (L.map fun e => tD e.t)), .d (.int n), x] ∧ BI (barB ws) s (turnsL many) L n ∧ L.length ≤ n)
    ⟨_, 0, .no, by simp [encE, encP], h0⟩ (by simp [slN]) (by
      rintro ρ ⟨L, n, x, rfl, hB⟩
      have hl := hB.len
      by_cases hn : n < L.length
      · right
        refine ⟨by walk_at "run", ?_⟩
        obtain ⟨c, hc⟩ : ∃ c, L[n]? = some c := ⟨L[n], List.getElem?_eq_getElem hn⟩
        walk_at "run"
        generalize hg : forL _ _ _ _ = O2
        obtain ⟨ρ', rfl, L', x', rfl, k1, k2, k3⟩ := forL_at hg (fun k ρ => ∃ (L' : List (En Tn)) (x : Sl), ρ = [.d (.int many), .d (dW ws), .d (tD s), .o (.dic (L'.map encE)), .o (.lst (L'.map fun e => tD e.t)), .d (.int n), x] ∧ BI (barB ws) s (turnsL many) L' n ∧ L'[n]? = some c ∧ ∀ u ∈ (turnsL many).take k, barB ws c.t u = true → u ∈ L'.map (·.t))
          ⟨L, x, rfl, hB, hc, fun u hu => by simp at hu⟩ (by
            rintro k y ρ hy ⟨L', x', rfl, k1, k2, k3⟩
            rw [List.getElem?_map] at hy
            obtain ⟨u, eu, rfl⟩ := Option.map_eq_some_iff.mp hy
            have hum : u ∈ turnsL many := List.mem_of_getElem? eu
            obtain ⟨s1, s2, s3, s4⟩ := k1.stp k2 hum (bar_comm ws)
            refine ⟨[.d (.int many), .d (dW ws), .d (tD s), .o (.dic ((stp (barB ws) c L' u).map encE)), .o (.lst ((stp (barB ws) c L' u).map fun e => tD e.t)), .d (.int n), .d (tD u)], ?_, _, _, rfl, s1, s2, fun v hv hb => ?_⟩
            · have hat : atI (L'.map fun e => tD e.t) (n : Int) = some (tD c.t) := atI_nat (by rw [List.getElem?_map, k2]; rfl)
              have hv := valP_has L' u
              have hl' := k1.len
              have hb : L'.length < big := by unfold big; omega
              have xb1 := xb c.t u
              clear s1 s2 s3 s4 k3
              unfold stp
              by_cases q1 : u ∈ L'.map (·.t)
              · obtain ⟨y0, hv'⟩ := Option.isSome_iff_exists.mp (hv.trans (decide_eq_true q1))
                clear hv
                rw [if_neg (fun z => z.1 q1)]
                clear q1
                walk_at "run"
              · have hv' : valP (L'.map encE) [u.1, u.2] = none := Option.isNone_iff_eq_none.mp (by rw [← Option.not_isSome, hv, decide_eq_false q1]; rfl)
                clear hv
                by_cases q2 : barB ws c.t u = true
                · rw [if_pos ⟨q1, q2⟩]
                  have hp : putP (L'.map encE) [u.1, u.2] (tD c.t) = L'.map encE ++ [([u.1, u.2], tD c.t)] := by
                    unfold putP
                    rw [if_neg (by rw [valP_any, hv']; exact Bool.false_ne_true)]
                  clear q1
                  walk_at "run"
                  rfl
                · rw [if_neg (fun z => q2 z.2)]
                  have q3 : barB ws c.t u = false := by simpa using q2
                  clear q1 q2
                  walk_at "run"
            · rw [List.take_add_one, eu] at hv
              rcases List.mem_append.mp hv with hv | hv
              · exact s3 v (k3 v hv hb)
              · have : v = u := by simpa using hv
                subst this
                exact s4 hb)
        rw [List.length_map, List.take_length] at k3
        have k4 := k1.next k2 k3
        refine ⟨[.d (.int many), .d (dW ws), .d (tD s), .o (.dic (L'.map encE)), .o (.lst (L'.map fun e => tD e.t)), .d (.int ((n + 1 : Nat) : Int)), x'], by simp, ⟨L', n + 1, ⟨x', rfl⟩, k4⟩, ?_⟩
        have l1 : n < 65 := by omega
        simp [slN]
        omega
      · left
        exact ⟨by walk_at "run", L, n, x, rfl, hB, by omega⟩)
  exact ⟨L, by simp, hB.done hn⟩
/-- the way back -/
theorem x_trail {L : List (En Tn)} (hn : (L.map (·.t)).Nodup) {t : Tn} {l : List Tn} (h : Trl L t l) (hl : l.length ≤ 500) : w_trail [dctD (L.map encE), tD t] = some (.ok (.o (.lst (l.map tD)))) := by
  unfold w_trail defD m_trail
  have b1 : 1 ≤ big := by decide
  walk_at "run"
  generalize hf : whlF _ _ _ _ = O
  obtain ⟨ρ', rfl, rfl⟩ := whl_at hf (fun ρ => ∃ (pre rest : List Tn) (x : Tn), ρ = [.d (dctD (L.map encE)), .d (tD t), .o (.lst ((pre ++ [x]).map tD))] ∧ l = pre ++ x :: rest ∧ Trl L x (x :: rest))
    (fun ρ => l.length - slLen 2 ρ)
    (fun ρ => ρ = [.d (dctD (L.map encE)), .d (tD t), .o (.lst (l.map tD))])
    (by
      cases h with
      | one h1 h2 h3 => exact ⟨[], [], t, rfl, rfl, .one h1 h2 h3⟩
      | step h1 h2 h3 h4 => exact ⟨[], _, t, rfl, rfl, .step h1 h2 h3 h4⟩) (by simp [slLen]; omega) (by
      rintro ρ ⟨pre, rest, x, rfl, el, hT⟩
      have hat : atI (pre.map tD ++ [tD x]) (-1) = some (tD x) := atI_last _ _
      have hb : pre.length + 1 < big := by
        have := congrArg List.length el
        simp at this
        unfold big
        omega
      cases hT with
      | @one _ e h1 h2 h3 =>
        left
        have hv := valP_some hn h1
        rw [h3, h2] at hv
        have hv' : valP (L.map encE) [x.1, x.2] = some .none := hv
        refine ⟨?_, ?_⟩
        · clear el hv
          walk_at "run"
        · rw [el]
      | @step _ e q l2 h1 h2 h3 h4 =>
        right
        have hv := valP_some hn h1
        rw [h3, h2] at hv
        have hv' : valP (L.map encE) [x.1, x.2] = some (tD q) := hv
        have hq : ∃ r, rest = q :: r := by
          cases h4 with
          | one _ _ _ => exact ⟨_, rfl⟩
          | step _ _ _ _ => exact ⟨_, rfl⟩
        obtain ⟨r, rfl⟩ := hq
        refine ⟨?_, [.d (dctD (L.map encE)), .d (tD t), .o (.lst (((pre ++ [x]) ++ [q]).map tD))], ?_, ⟨pre ++ [x], r, q, rfl, by simp [el], h4⟩, ?_⟩
        · clear el hv
          walk_at "run"
        · clear el hv
          walk_at "run"
        · rw [el]
          simp [slLen]
          omega)
  simp

end G

namespace G
open PySem L2 DL DX
local macro_rules | `(tactic| walk_at "run") => `(tactic| simp [*])
theorem x_whole_i (z : Int) : w__law_whole [.int z] = some (.ok (.d (.bool true))) := by
  unfold w__law_whole defD m__law_whole
  walk_at "run"
theorem x_is_turn {many : Nat} {t : Tn} (h : TOk many t) : w__law_is_turn [tD t, .int many] = some (.ok (.d (.bool true))) := by
  obtain ⟨a, b⟩ := t
  obtain ⟨⟨h1, h2⟩, ⟨h3, h4⟩, h5⟩ := h
  have e := x_whole_i
  unfold w__law_is_turn defD m__law_is_turn
  simp only at h1 h2 h3 h4 h5
  walk_at "run"

end G

namespace G
open PySem L2 DL DX
/-- side by side, looked at book by book -/
def togL : Bool → Bool → List Int → List Int → Bool
  | _, _, [], _ => true
  | b, v, x :: o, w => if x ∈ w then (if v = true then false else togL true v o w) else togL b (v || b) o w
/-- the places of a wish's books -/
def plN (o w : List Int) : List Nat := (List.range o.length).filter fun i => decide (o.getD i 0 ∈ w)
def contig : List Nat → Bool
  | p :: q :: r => decide (q = p + 1) && contig (q :: r)
  | _ => true
theorem contig_add : ∀ l : List Nat, contig (l.map (· + 1)) = contig l
  | [] => rfl
  | [_] => rfl
  | p :: q :: r => by
    have := contig_add (q :: r)
    simp only [List.map_cons, contig] at this ⊢
    rw [this]
    simp
theorem plN_cons (x : Int) (o w : List Int) : plN (x :: o) w = (if x ∈ w then [0] else []) ++ (plN o w).map (· + 1) := by
  unfold plN
  rw [List.length_cons, List.range_succ_eq_map, List.filter_cons, List.filter_map]
  have : ((fun i => decide ((x :: o).getD i 0 ∈ w)) ∘ Nat.succ) = fun i => decide (o.getD i 0 ∈ w) := by
    funext i
    simp
  rw [this]
  by_cases h : x ∈ w
  · simp [h]
  · simp [h]
theorem togL_tt : ∀ o w : List Int, togL true true o w = (plN o w).isEmpty
  | [], w => rfl
  | x :: o, w => by
    rw [plN_cons, togL]
    by_cases h : x ∈ w
    · simp [h]
    · simp [h, togL_tt o w]
theorem togL_tf : ∀ o w : List Int, togL true false o w = contig (0 :: (plN o w).map (· + 1))
  | [], w => rfl
  | x :: o, w => by
    rw [plN_cons, togL]
    by_cases h : x ∈ w
    · have e := contig_add (0 :: (plN o w).map (· + 1))
      simp [h, contig, togL_tf o w]
      rw [← e]
      simp
    · simp [h, togL_tt]
      cases plN o w with
      | nil => rfl
      | cons a l => simp [contig]
theorem togL_ff : ∀ o w : List Int, togL false false o w = contig (plN o w)
  | [], w => rfl
  | x :: o, w => by
    rw [plN_cons, togL]
    by_cases h : x ∈ w
    · simp [h, togL_tf]
    · simp [h, contig_add, togL_ff o w]
theorem contig_last : ∀ (p : Nat) (l : List Nat), (p :: l).Pairwise (· < ·) → p + l.length ≤ (p :: l).getLast (by simp) ∧ ((p :: l).getLast (by simp) = p + l.length ↔ contig (p :: l) = true)
  | p, [], _ => by simp [contig]
  | p, q :: l, h => by
    have hc := List.pairwise_cons.mp h
    have hpq := hc.1 q List.mem_cons_self
    obtain ⟨h1, h2⟩ := contig_last q l hc.2
    rw [List.getLast_cons (by simp)]
    simp only [contig, List.length_cons, Bool.and_eq_true, decide_eq_true_eq]
    refine ⟨by omega, fun e => ?_, fun ⟨e1, e2⟩ => ?_⟩
    · have : q = p + 1 := by omega
      exact ⟨this, h2.mp (by omega)⟩
    · have := h2.mpr e2
      omega
theorem plN_sorted (o w : List Int) : (plN o w).Pairwise (· < ·) := List.Pairwise.filter _ List.pairwise_lt_range

end G

namespace G
open PySem L2 DL DX
/-! ### what is grown, as data -/
/-- the wish is parted by the book -/
def parts (o w : List Int) (b : Int) : Bool := decide (0 < (o.filter fun x => decide (x ∈ w)).length) && (decide ((o.filter fun x => decide (x ∈ w)).length < (usort w).length) && !decide (b ∈ w))
def mayF (o : List Int) (ws : List (List Int)) (b : Int) : Bool := !ws.any fun w => parts o w b
theorem lc_in (i : Nat) (o w : List Int) (ρ : List Sl) (hi : i < ρ.length) (ho : o.length ≤ 1000) {m : M Bool} (h : ∀ x, m (ρ.set i (.d (.int x))) = some (.ok (decide (x ∈ w)))) : lcL i m (mV i) ρ (o.map .int) [] = some ((o.filter fun x => decide (x ∈ w)).map .int) := by
  rw [lcL_map PyData.int (fun x => decide (x ∈ w)) PyData.int]
  · rfl
  · intro x _; exact h x
  · intro x _ _; simp [hi]
  · unfold big; simp; omega
def gro (many : Nat) (ws : List (List Int)) : Nat → List Int → Option (List Int)
  | 0, _ => none
  | n + 1, o => if o.length = many then some o else (rgI many).findSome? fun b => if b ∉ o ∧ mayF o ws b = true then gro many ws n (o ++ [b]) else none
def groR : Option (List Int) → Rs
  | none => .d .none
  | some r => .o (.lst (r.map .int))

end G

namespace G
open PySem L2 DL DX
/-! ### orders grown place by place -/
local macro_rules | `(tactic| walk_at "run") => `(tactic| simp [*])
theorem x_may_follow {o : List Int} {ws : List (List Int)} {b : Int} (ho : o.length ≤ 1000) (hw : ∀ w ∈ ws, w.length < 64) : w_may_follow [dL o, dW ws, .int b] = some (.ok (.d (.bool (mayF o ws b)))) := by
  unfold w_may_follow defD m_may_follow
  generalize hB : mayF o ws b = B
  walk_at "run"
  generalize hf : forL _ _ _ _ = O
  rcases forL_firstAt hf ws dL rfl (X := .rt (.d (.bool false))) trivial (fun w => parts o w b) (fun ρ => ∃ x y z, ρ = [.d (dL o), .d (dW ws), .d (.int b), x, y, z]) ⟨_, _, _, rfl⟩ (by
      rintro w hwm ρ ⟨x, y, z, rfl⟩
      have e1 := fLeS_i (hw w hwm)
      have e2 := Enc.int.fIn true w b
      have lc := lc_in 5 o w [.d (dL o), .d (dW ws), .d (.int b), .d (dL w), y, z] (by simp) ho (m := mB (m2 (fIn false) (mV 5) (mV 3))) (by
        intro x
        have e := Enc.int.fIn false w x
        walk_at "run")
      unfold parts
      generalize (o.filter fun x => decide (x ∈ w)) = fl at lc
      clear hf hB hw
      by_cases h1 : 0 < fl.length
      · have h1' : ¬ fl = [] := fun z => by rw [z] at h1; simp at h1
        by_cases h2 : fl.length < (usort w).length
        · by_cases h3 : b ∈ w
          · walk_at "run"
          · walk_at "run"
        · walk_at "run"
      · have h1' : fl = [] := List.eq_nil_of_length_eq_zero (by omega)
        subst h1'
        walk_at "run") with ⟨e1, e2⟩ | ⟨e1, ρ', e2, _⟩
  · have : mayF o ws b = false := by unfold mayF; rw [e1]; rfl
    cases hB.symm.trans this
    rw [e2]; rfl
  · have : mayF o ws b = true := by unfold mayF; rw [e1]; rfl
    cases hB.symm.trans this
    rw [e2]; rfl
theorem x_grown {many : Nat} {ws : List (List Int)} (hm : many ≤ 8) (hw : ∀ w ∈ ws, w.length < 64) : ∀ (n : Nat) (o : List Int), o.length ≤ many → many < n + o.length → w_grown n [.int many, dW ws] (o.map .int) = some (.ok (groR (gro many ws n o)))
  | 0, o, h1, h2 => by omega
  | n + 1, o, h1, h2 => by
    rw [w_grown, gro]
    unfold defO m_grown
    have r1 := rng1_nat (n := many) (by omega)
    have r1' : ((List.range many).map fun (i : Nat) => PyData.int (i : Int)) = (rgI many).map .int := by
      unfold rgI; rw [List.map_map]; rfl
    rw [r1'] at r1
    by_cases hl : o.length = many
    · have hl' : (o.length : Int) = (many : Int) := by omega
      rw [if_pos hl]
      unfold groR
      clear hl h2
      walk_at "run"
    · have hl' : ¬ (o.length : Int) = (many : Int) := by omega
      rw [if_neg hl]
      generalize hG : ((rgI many).findSome? fun b => if b ∉ o ∧ mayF o ws b = true then gro many ws n (o ++ [b]) else none) = G
      have ih := x_grown (many := many) (ws := ws) hm hw n
      have b1 : 1 ≤ big := by decide
      have b2 : o.length + 1 ≤ big := by unfold big; omega
      have b3 : o.length + 1 ≤ many := by omega
      have b4 : many < n + (o.length + 1) := by omega
      have xm : ∀ b, w_may_follow [dL o, dW ws, .int b] = some (.ok (.d (.bool (mayF o ws b)))) := fun b => x_may_follow (by omega) hw
      clear hl
      simp [hl', r1]
      generalize hf : forL _ _ _ _ = O
      rcases forL_someAt hf (rgI many) PyData.int rfl (fun b => if b ∉ o ∧ mayF o ws b = true then gro many ws n (o ++ [b]) else none) (fun r => .o (.lst (r.map .int))) (fun ρ => ∃ x y, ρ = [.d (.int many), .d (dW ws), .o (.lst (o.map .int)), x, y]) ⟨_, _, rfl⟩ (by
          rintro b hb ρ ⟨x, y, rfl⟩
          have e1 := Enc.int.fIn true o b
          have xm1 := xm b
          have ih1 : w_grown n [.int many, dW ws] (o.map .int ++ [.int b]) = some (.ok (groR (gro many ws n (o ++ [b])))) := by
            have t := ih (o ++ [b]) (by simp; omega) (by simp; omega)
            rw [List.map_append] at t
            exact t
          clear ih xm hf hG
          by_cases q1 : b ∈ o
          · refine ⟨fun y hy => ?_, fun _ => ⟨[.d (.int many), .d (dW ws), .o (.lst (o.map .int)), .d (.int b), y], ?_, _, _, rfl⟩⟩
            · rw [if_neg (fun z => z.1 q1)] at hy; cases hy
            · walk_at "run"
          · by_cases q2 : mayF o ws b = true
            · rw [if_pos ⟨q1, q2⟩]
              have int1 : [PyData.int b].all intP = true := rfl
              cases hg : gro many ws n (o ++ [b]) with
              | none =>
                rw [hg] at ih1
                simp only [groR] at ih1
                refine ⟨fun y hy => (by cases hy), fun _ => ⟨[.d (.int many), .d (dW ws), .o (.lst (o.map .int)), .d (.int b), .d .none], ?_, _, _, rfl⟩⟩
                walk_at "run"
                done
              | some r =>
                rw [hg] at ih1
                simp only [groR] at ih1
                refine ⟨fun y hy => ?_, fun z => by cases z⟩
                cases hy
                walk_at "run"
                done
            · rw [if_neg (fun z => q2 z.2)]
              have q3 : mayF o ws b = false := by simpa using q2
              clear q2
              refine ⟨fun y hy => (by cases hy), fun _ => ⟨[.d (.int many), .d (dW ws), .o (.lst (o.map .int)), .d (.int b), y], ?_, _, _, rfl⟩⟩
              walk_at "run") with ⟨y, e1, e2⟩ | ⟨e1, ρ', e2, _⟩
      · cases hG.symm.trans e1
        rw [e2]; rfl
      · cases hG.symm.trans e1
        rw [e2]; rfl

end G

namespace G
open PySem L2 DL DX
/-! ### all orders, and the first of them that parts no wish -/
open MC (Conv)
def ext (many : Nat) : Nat → List Int → List (List Int)
  | 0, o => [o]
  | n + 1, o => ((rgI many).filter fun b => decide (b ∉ o)).flatMap fun b => ext many n (o ++ [b])
def okB (ws : List (List Int)) (k : Nat) (r : List Int) : Bool := (List.range r.length).all fun j => decide (j < k) || mayF (r.take j) ws (r.getD j 0)
theorem ext_pre {many : Nat} : ∀ {n : Nat} {o r : List Int}, r ∈ ext many n o → ∃ s, r = o ++ s ∧ s.length = n
  | 0, o, r, h => ⟨[], by rw [List.mem_singleton.mp h]; simp, rfl⟩
  | n + 1, o, r, h => by
    unfold ext at h
    obtain ⟨b, hb, h⟩ := List.mem_flatMap.mp h
    obtain ⟨s, e, l⟩ := ext_pre h
    exact ⟨b :: s, by rw [e]; simp, by simp [l]⟩
theorem ext_nd {many : Nat} : ∀ {n : Nat} {o r : List Int}, r ∈ ext many n o → o.Nodup → (∀ b ∈ o, b ∈ rgI many) → r.Nodup ∧ ∀ b ∈ r, b ∈ rgI many
  | 0, o, r, h, h1, h2 => by rw [List.mem_singleton.mp h]; exact ⟨h1, h2⟩
  | n + 1, o, r, h, h1, h2 => by
    unfold ext at h
    obtain ⟨b, hb, h⟩ := List.mem_flatMap.mp h
    obtain ⟨hb1, hb2⟩ := List.mem_filter.mp hb
    have hb2' : b ∉ o := by simpa using hb2
    refine ext_nd h ?_ ?_
    · rw [List.nodup_append]
      refine ⟨h1, by simp, fun x hx y hy => ?_⟩
      have : y = b := by simpa using hy
      subst this
      exact fun e => hb2' (e ▸ hx)
    · intro x hx
      rcases List.mem_append.mp hx with hx | hx
      · exact h2 x hx
      · have : x = b := by simpa using hx
        rw [this]; exact hb1
theorem rgI_nodup (many : Nat) : (rgI many).Nodup := by
  unfold rgI
  unfold List.Nodup
  rw [List.pairwise_map]
  exact List.Pairwise.imp (fun {a b} h e => by omega) List.pairwise_lt_range
theorem perm_of {l m : List Int} (h1 : l.Nodup) (h2 : m.Nodup) (h3 : ∀ x ∈ l, x ∈ m) (h4 : l.length = m.length) : l.Perm m := by
  refine (List.perm_ext_iff_of_nodup h1 h2).mpr fun x => ⟨h3 x, fun hx => ?_⟩
  by_cases z : x ∈ l
  · exact z
  · exfalso
    have : (x :: l).length ≤ m.length := MB.nodup_le (List.nodup_cons.mpr ⟨z, h1⟩) fun y hy => by
      rcases List.mem_cons.mp hy with e | hy
      · rw [e]; exact hx
      · exact h3 y hy
    rw [List.length_cons] at this
    omega
theorem ext_perm {many : Nat} {r : List Int} (h : r ∈ ext many many []) : r.Perm (rgI many) := by
  obtain ⟨s, e, l⟩ := ext_pre h
  obtain ⟨h1, h2⟩ := ext_nd h (by simp) (by simp)
  exact perm_of h1 (rgI_nodup many) h2 (by rw [e, rgI_len]; simpa using l)
/-- every order is gone through -/
theorem perm_ext {many : Nat} : ∀ (n : Nat) (o s : List Int), (o ++ s).Perm (rgI many) → s.length = n → (o ++ s) ∈ ext many n o
  | 0, o, s, h, hl => by
    have : s = [] := List.eq_nil_of_length_eq_zero hl
    subst this
    simp [ext]
  | n + 1, o, b :: s, h, hl => by
    unfold ext
    have hn : (o ++ b :: s).Nodup := h.nodup_iff.mpr (rgI_nodup many)
    refine List.mem_flatMap.mpr ⟨b, List.mem_filter.mpr ⟨h.mem_iff.mp (by simp), ?_⟩, ?_⟩
    · rw [List.nodup_append] at hn
      have : b ∉ o := fun z => hn.2.2 b z b (by simp) rfl
      simpa using this
    · have e : o ++ b :: s = (o ++ [b]) ++ s := by simp
      rw [e]
      exact perm_ext n (o ++ [b]) s (by rw [← e]; exact h) (by simpa using hl)
theorem getD_at {o s : List Int} {b : Int} : (o ++ b :: s).getD o.length 0 = b := by
  rw [List.getD_eq_getElem?_getD, List.getElem?_append_right (Nat.le_refl _)]
  simp
theorem okB_step {ws : List (List Int)} {o s : List Int} {b : Int} : okB ws o.length (o ++ b :: s) = (mayF o ws b && okB ws (o.length + 1) (o ++ b :: s)) := by
  rw [Bool.eq_iff_iff, Bool.and_eq_true]
  unfold okB
  simp only [List.all_eq_true, List.mem_range, Bool.or_eq_true, decide_eq_true_eq]
  constructor
  · intro h
    refine ⟨?_, fun j hj => ?_⟩
    · have z := h o.length (by simp)
      rw [getD_at, List.take_left' rfl] at z
      rcases z with z | z
      · omega
      · exact z
    · rcases h j hj with z | z
      · exact .inl (by omega)
      · exact .inr z
  · rintro ⟨h1, h2⟩ j hj
    by_cases e : j = o.length
    · subst e
      right
      rw [getD_at, List.take_left' rfl]
      exact h1
    · rcases h2 j hj with z | z
      · exact .inl (by omega)
      · exact .inr z
theorem findSome_filter {α β : Type} (q : α → Bool) (g : α → Option β) : ∀ l : List α, (l.filter q).findSome? g = l.findSome? fun a => if q a = true then g a else none
  | [] => rfl
  | a :: l => by
    rw [List.filter_cons, List.findSome?_cons]
    by_cases h : q a = true
    · rw [if_pos h, List.findSome?_cons, findSome_filter q g l, if_pos h]
    · rw [if_neg h, findSome_filter q g l, if_neg h]
theorem findSome_congr {α β : Type} {f g : α → Option β} : ∀ {l : List α}, (∀ a ∈ l, f a = g a) → l.findSome? f = l.findSome? g
  | [], _ => rfl
  | a :: l, h => by rw [List.findSome?_cons, List.findSome?_cons, h a List.mem_cons_self, findSome_congr fun b hb => h b (List.mem_cons_of_mem _ hb)]
theorem find_congr {α : Type} {f g : α → Bool} : ∀ {l : List α}, (∀ a ∈ l, f a = g a) → l.find? f = l.find? g
  | [], _ => rfl
  | a :: l, h => by rw [List.find?_cons, List.find?_cons, h a List.mem_cons_self, find_congr fun b hb => h b (List.mem_cons_of_mem _ hb)]
/-- what is grown is the first of all that go on without parting a wish -/
theorem gro_ext {many : Nat} {ws : List (List Int)} : ∀ (n : Nat) (o : List Int), o.length + n = many → ∀ k, n < k → gro many ws k o = (ext many n o).find? (okB ws o.length)
  | _, _, _, 0, h => by omega
  | 0, o, hl, k + 1, _ => by
    rw [gro, if_pos (by omega)]
    have : okB ws o.length o = true := by
      unfold okB
      rw [List.all_eq_true]
      intro j hj
      rw [Bool.or_eq_true]
      exact .inl (decide_eq_true (List.mem_range.mp hj))
    unfold ext
    rw [List.find?_cons_of_pos this]
  | n + 1, o, hl, k + 1, hk => by
    rw [gro, if_neg (by omega)]
    unfold ext
    rw [List.find?_flatMap, findSome_filter]
    refine findSome_congr fun b hb => ?_
    by_cases q1 : b ∈ o
    · have d1 : ¬ (decide (b ∉ o) = true) := by simpa using q1
      have l1 : (if b ∉ o ∧ mayF o ws b = true then gro many ws k (o ++ [b]) else none) = none := if_neg (fun z => z.1 q1)
      exact l1.trans (if_neg d1).symm
    · have d1 : decide (b ∉ o) = true := by simpa using q1
      have ih := gro_ext (many := many) (ws := ws) n (o ++ [b]) (by simp; omega) k (by omega)
      have key : ∀ r ∈ ext many n (o ++ [b]), okB ws o.length r = (mayF o ws b && okB ws (o ++ [b]).length r) := by
        intro r hr
        obtain ⟨s, e, _⟩ := ext_pre hr
        have e2 : r = o ++ b :: s := by rw [e]; simp
        rw [e2, okB_step]
        simp
      by_cases q2 : mayF o ws b = true
      · have l1 : (if b ∉ o ∧ mayF o ws b = true then gro many ws k (o ++ [b]) else none) = gro many ws k (o ++ [b]) := if_pos ⟨q1, q2⟩
        refine l1.trans (Eq.trans ?_ (if_pos d1).symm)
        rw [ih]
        refine find_congr fun r hr => ?_
        rw [key r hr, q2, Bool.true_and]
      · have l1 : (if b ∉ o ∧ mayF o ws b = true then gro many ws k (o ++ [b]) else none) = none := if_neg (fun z => q2 z.2)
        refine l1.trans (Eq.trans ?_ (if_pos d1).symm)
        symm
        rw [List.find?_eq_none]
        intro r hr
        rw [key r hr]
        simp [q2]
/-- one wish, book by book -/
def okW (w : List Int) (S : Nat) : Nat → List Int → Bool
  | _, [] => true
  | c, x :: r => if x ∈ w then okW w S (c + 1) r else !(decide (0 < c) && decide (c < S)) && okW w S c r
theorem okW_off (w : List Int) (S : Nat) : ∀ (c : Nat) (r : List Int), S ≤ c → okW w S c r = true
  | _, [], _ => rfl
  | c, x :: r, h => by
    unfold okW
    have : ¬ c < S := by omega
    split
    · exact okW_off w S (c + 1) r (by omega)
    · simp [this, okW_off w S c r h]
def cntW (w r : List Int) : Nat := (r.filter fun x => decide (x ∈ w)).length
theorem cntW_cons (w : List Int) (x : Int) (r : List Int) : cntW w (x :: r) = (if x ∈ w then 1 else 0) + cntW w r := by
  unfold cntW
  rw [List.filter_cons]
  by_cases h : x ∈ w
  · simp [h]; omega
  · simp [h]
theorem togL_tt' : ∀ (r w : List Int), togL true true r w = decide (cntW w r = 0)
  | [], w => rfl
  | x :: r, w => by
    rw [cntW_cons, togL]
    by_cases h : x ∈ w
    · simp [h]
    · simp [h, togL_tt' r w]
theorem okW_tog (w : List Int) : ∀ (r : List Int) (c : Nat), okW w (c + cntW w r) c r = togL (decide (0 < c)) false r w
  | [], c => rfl
  | x :: r, c => by
    rw [togL, okW, cntW_cons]
    by_cases h : x ∈ w
    · rw [if_pos h, if_pos h, if_pos h]
      have := okW_tog w r (c + 1)
      rw [show c + (1 + cntW w r) = c + 1 + cntW w r by omega, this]
      simp
    · rw [if_neg h, if_neg h, if_neg h, Nat.zero_add]
      by_cases hc : 0 < c
      · simp only [hc, decide_true, Bool.true_and, Bool.false_or]
        rw [togL_tt']
        by_cases hz : cntW w r = 0
        · rw [hz]
          simp [okW_off w c c r (Nat.le_refl _)]
        · have : c < c + cntW w r := by omega
          simp [this, hz]
      · have hc0 : c = 0 := by omega
        subst hc0
        have := okW_tog w r 0
        simp only [Nat.zero_add] at this ⊢
        simp [this]
theorem okW_take (w : List Int) (S : Nat) : ∀ (r p : List Int), okW w S (cntW w p) r = (List.range r.length).all fun j => !(decide (0 < cntW w (p ++ r.take j)) && (decide (cntW w (p ++ r.take j) < S) && !decide (r.getD j 0 ∈ w)))
  | [], p => rfl
  | x :: r, p => by
    rw [List.length_cons, List.range_succ_eq_map, List.all_cons, List.all_map]
    have ih := okW_take w S r (p ++ [x])
    have e : ((fun j => !(decide (0 < cntW w (p ++ (x :: r).take j)) && (decide (cntW w (p ++ (x :: r).take j) < S) && !decide ((x :: r).getD j 0 ∈ w)))) ∘ Nat.succ) = fun j => !(decide (0 < cntW w (p ++ [x] ++ r.take j)) && (decide (cntW w (p ++ [x] ++ r.take j) < S) && !decide (r.getD j 0 ∈ w))) := by
      funext j
      have q : p ++ (x :: r).take (j + 1) = p ++ [x] ++ r.take j := by rw [List.take_succ_cons, List.append_cons]
      simp only [Function.comp, Nat.succ_eq_add_one]
      rw [q]
      rfl
    rw [e, ← ih, okW]
    have ec : cntW w (p ++ [x]) = cntW w p + (if x ∈ w then 1 else 0) := by
      unfold cntW
      rw [List.filter_append, List.length_append]
      by_cases h : x ∈ w
      · simp [h]
      · simp [h]
    rw [ec]
    by_cases h : x ∈ w
    · simp [h]
    · simp [h]
theorem all_swap {α β : Type} (f : α → β → Bool) (l : List α) (m : List β) : (l.all fun a => m.all fun b => f a b) = m.all fun b => l.all fun a => f a b := by
  rw [Bool.eq_iff_iff]
  simp only [List.all_eq_true]
  exact ⟨fun h b hb a ha => h a ha b hb, fun h a ha b hb => h b hb a ha⟩
theorem not_any {α : Type} (f : α → Bool) : ∀ l : List α, (!l.any f) = l.all fun a => !f a
  | [] => rfl
  | a :: l => by rw [List.any_cons, List.all_cons, Bool.not_or, not_any f l]
/-- the wishes are kept -/
def keepsB (ws : List (List Int)) (r : List Int) : Bool := ws.all fun w => togL false false r w
theorem usort_nodup (l : List Int) : (usort l).Nodup := List.Pairwise.imp (fun {a b} h => by omega) (usort_lt l)
theorem okB_keeps {many : Nat} {ws : List (List Int)} {r : List Int} (hr : r.Perm (rgI many)) (hb : ∀ w ∈ ws, ∀ b ∈ w, 0 ≤ b ∧ b < (many : Int)) : okB ws 0 r = keepsB ws r := by
  have e1 : okB ws 0 r = (List.range r.length).all fun j => ws.all fun w => !parts (r.take j) w (r.getD j 0) := by
    unfold okB mayF
    congr 1
    funext j
    rw [not_any]
    simp
  rw [e1, all_swap]
  unfold keepsB
  rw [Bool.eq_iff_iff]
  simp only [List.all_eq_true]
  have hn : r.Nodup := hr.nodup_iff.mpr (rgI_nodup many)
  have key : ∀ w ∈ ws, ((List.range r.length).all fun j => !parts (r.take j) w (r.getD j 0)) = togL false false r w := by
    intro w hw
    have hS : (usort w).length = cntW w r := by
      unfold cntW
      refine List.Perm.length_eq ((List.perm_ext_iff_of_nodup (usort_nodup w) (hn.filter _)).mpr fun x => ?_)
      rw [mem_usort, List.mem_filter, decide_eq_true_eq]
      exact ⟨fun h => ⟨hr.mem_iff.mpr (mem_rgI.mpr (hb w hw x h)), h⟩, fun h => h.2⟩
    have t := okW_tog w r 0
    rw [Nat.zero_add] at t
    have t2 := okW_take w (cntW w r) r []
    have e0 : cntW w [] = 0 := rfl
    rw [e0, t] at t2
    rw [show (decide (0 < 0)) = false from rfl] at t2
    rw [t2]
    congr 1
    funext j
    unfold parts
    rw [hS]
    rfl
  constructor
  · intro h w hw
    rw [← key w hw, List.all_eq_true]
    exact fun j hj => h w hw j hj
  · intro h w hw j hj
    have := h w hw
    rw [← key w hw, List.all_eq_true] at this
    exact this j hj
/-- the first order that keeps the wishes -/
theorem gro_first {many : Nat} {ws : List (List Int)} (hb : ∀ w ∈ ws, ∀ b ∈ w, 0 ≤ b ∧ b < (many : Int)) {k : Nat} (hk : many < k) : gro many ws k [] = (ext many many []).find? (keepsB ws) := by
  rw [gro_ext many [] (by simp) k hk]
  exact find_congr fun r hr => okB_keeps (ext_perm hr) hb
theorem gro_keeps {many : Nat} {ws : List (List Int)} (hb : ∀ w ∈ ws, ∀ b ∈ w, 0 ≤ b ∧ b < (many : Int)) {k : Nat} (hk : many < k) {r : List Int} (h : gro many ws k [] = some r) : r.Perm (rgI many) ∧ keepsB ws r = true := by
  rw [gro_first hb hk] at h
  exact ⟨ext_perm (List.mem_of_find?_eq_some h), List.find?_some h⟩
theorem gro_none {many : Nat} {ws : List (List Int)} (hb : ∀ w ∈ ws, ∀ b ∈ w, 0 ≤ b ∧ b < (many : Int)) {k : Nat} (hk : many < k) (h : gro many ws k [] = none) {r : List Int} (hr : r.Perm (rgI many)) : keepsB ws r = false := by
  rw [gro_first hb hk, List.find?_eq_none] at h
  have := h r (by simpa using perm_ext many [] r (by simpa using hr) (by rw [hr.length_eq, rgI_len]))
  simpa using this

end G

namespace G
open PySem L2 DL DX
/-! ### odd rings -/
local macro_rules | `(tactic| walk_at "run") => `(tactic| simp [*])
open MB
def Adj {α : Type} (R : α → α → Bool) (l : List α) : Prop := ∀ i a b, l[i]? = some a → l[i + 1]? = some b → R a b = true
theorem Adj.app {α : Type} {R : α → α → Bool} {l m : List α} (h : Adj R l) (g : Adj R m) (k : ∀ a b, l.getLast? = some a → m.head? = some b → R a b = true) : Adj R (l ++ m) := by
  intro i a b ha hb
  by_cases h1 : i + 1 < l.length
  · rw [List.getElem?_append_left (by omega)] at ha
    rw [List.getElem?_append_left h1] at hb
    exact h i a b ha hb
  · rw [List.getElem?_append_right (by omega)] at hb
    by_cases h2 : i < l.length
    · rw [List.getElem?_append_left h2] at ha
      refine k a b ?_ ?_
      · rw [List.getLast?_eq_getElem?, show l.length - 1 = i by omega]; exact ha
      · rw [List.head?_eq_getElem?]
        rw [show i + 1 - l.length = 0 by omega] at hb
        exact hb
    · rw [List.getElem?_append_right (by omega)] at ha
      rw [show i + 1 - l.length = i - l.length + 1 by omega] at hb
      exact g _ a b ha hb
theorem Adj.rev {α : Type} {R : α → α → Bool} {l : List α} (h : Adj R l) (hs : ∀ a b, R a b = R b a) : Adj R l.reverse := by
  intro i a b ha hb
  have q1 := (List.getElem?_eq_some_iff.mp hb).1
  rw [List.length_reverse] at q1
  rw [List.getElem?_reverse (by omega)] at ha hb
  rw [show l.length - 1 - i = l.length - 1 - (i + 1) + 1 by omega] at ha
  rw [hs]
  exact h _ b a hb ha
theorem Adj.left {α : Type} {R : α → α → Bool} {l m : List α} (h : Adj R (l ++ m)) : Adj R l := by
  intro i a b ha hb
  have q1 := (List.getElem?_eq_some_iff.mp hb).1
  exact h i a b (by rw [List.getElem?_append_left (by omega)]; exact ha) (by rw [List.getElem?_append_left q1]; exact hb)
structure Ring (many : Nat) (ws : List (List Int)) (r : List Tn) : Prop where
  len : 3 ≤ r.length
  odd : r.length % 2 = 1
  tok : ∀ x ∈ r, TOk many x
  adj : Adj (barB ws) r
  cyc : ∀ a b, r.getLast? = some a → r.head? = some b → barB ws a b = true
  few : r.length ≤ 200
/-- two trails to one turn -/
structure JP (many : Nat) (ws : List (List Int)) (s t : Tn) (f g : List Tn) : Prop where
  hf : f.head? = some s
  hg : g.head? = some t
  lst : f.getLast? = g.getLast?
  par : f.length % 2 = g.length % 2
  af : Adj (barB ws) f
  ag : Adj (barB ws) g
  tf : ∀ x ∈ f, TOk many x
  tg : ∀ x ∈ g, TOk many x
  lf : f.length ≤ 100
  lg : g.length ≤ 100
theorem two_last {α : Type} {l : List α} (h : 1 < l.length) : ∃ l0 x y, l = l0 ++ [x, y] := by
  obtain ⟨l1, y, rfl⟩ : ∃ l1 y, l = l1 ++ [y] := by
    rcases List.eq_nil_or_concat l with rfl | ⟨l1, y, e⟩
    · simp at h
    · exact ⟨l1, y, by simpa using e⟩
  rcases List.eq_nil_or_concat l1 with rfl | ⟨l0, x, e⟩
  · simp at h
  · refine ⟨l0, x, y, ?_⟩
    rw [e]; simp
theorem atI_m2 {α : Type} (l : List α) (x y : α) : atI (l ++ [x, y]) (-2) = some x := by
  have hl : (l ++ [x, y]).length = l.length + 2 := by simp
  have e : ixN (l ++ [x, y]).length (-2) = some l.length := by
    unfold ixN
    rw [hl, if_neg (by decide), if_pos (by omega)]
    congr 1
    omega
  unfold atI
  rw [e]
  simp
@[local simp] theorem fSl_ll {xs : List PD} {lo hi : Option Int} : fSl lo hi (.list xs) = some (.o (.lst (cutL xs lo hi))) := rfl
theorem cutL_m1 {α : Type} (f : α → PD) (l : List α) : cutL (l.map f) none (some (-1)) = l.dropLast.map f := by
  unfold cutL
  rw [HT.sIx_none, List.drop_zero, Nat.sub_zero, List.dropLast_eq_take, List.length_map, List.map_take]
  congr 1
  unfold HT.sIx
  dsimp only
  rw [if_pos (by decide)]
  omega
def slT (i : Nat) (ρ : List Sl) : Nat := match ρ[i]? with
  | some (.d (.list xs)) => xs.length
  | _ => 0
theorem JP.ring {many : Nat} {ws : List (List Int)} {s t : Tn} {f g : List Tn} (h : JP many ws s t f g) (hb : barB ws s t = true) : Ring many ws (f ++ g.dropLast.reverse) := by
  have lf : 1 ≤ f.length := by
    cases f with
    | nil => cases h.hf
    | cons _ _ => simp
  have lg : 1 ≤ g.length := by
    cases g with
    | nil => cases h.hg
    | cons _ _ => simp
  have hl : (f ++ g.dropLast.reverse).length = f.length + g.length - 1 := by simp; omega
  have par := h.par
  have h11 : ¬ (f.length = 1 ∧ g.length = 1) := by
    rintro ⟨a, b⟩
    obtain ⟨x, rfl⟩ := List.length_eq_one_iff.mp a
    obtain ⟨y, rfl⟩ := List.length_eq_one_iff.mp b
    have e1 := h.hf
    have e2 := h.hg
    have e3 := h.lst
    simp at e1 e2 e3
    subst e1 e2 e3
    rw [bar_irr (h.tf x (by simp))] at hb
    cases hb
  refine ⟨by omega, by omega, fun x hx => ?_, h.af.app ?_ ?_, fun a b ha hb' => ?_, ?_⟩
  · rcases List.mem_append.mp hx with hx | hx
    · exact h.tf x hx
    · exact h.tg x (List.dropLast_subset g (List.mem_reverse.mp hx))
  · refine Adj.rev ?_ (bar_comm ws)
    by_cases z : g = []
    · rw [z] at lg; simp at lg
    · have := h.ag
      rw [← List.dropLast_concat_getLast z] at this
      exact this.left
  · intro a b ha hb'
    rw [List.head?_reverse] at hb'
    by_cases z : 1 < g.length
    · obtain ⟨g0, x, y, rfl⟩ := two_last z
      have e1 := h.lst
      rw [ha] at e1
      have ea : a = y := by simpa using e1
      have eb : x = b := by
        have e : (g0 ++ [x, y]).dropLast = g0 ++ [x] := by
          rw [show g0 ++ [x, y] = (g0 ++ [x]) ++ [y] by simp, List.dropLast_concat]
        rw [e] at hb'
        simpa using hb'
      subst ea eb
      rw [bar_comm]
      refine h.ag g0.length x a ?_ ?_
      · simp
      · rw [List.getElem?_append_right (by omega)]
        simp
    · have : g.dropLast = [] := List.eq_nil_of_length_eq_zero (by simp; omega)
      rw [this] at hb'
      cases hb'
  · have e1 : (f ++ g.dropLast.reverse).head? = some s := by
      rw [List.head?_append, h.hf]; rfl
    rw [e1] at hb'
    cases hb'
    by_cases z : 1 < g.length
    · have e2 : g.dropLast.head? = some t := by
        cases g with
        | nil => simp at z
        | cons y g =>
          cases g with
          | nil => simp at z
          | cons y2 g =>
            have := h.hg
            simp at this ⊢
            exact this
      rw [List.getLast?_append, List.getLast?_reverse, e2] at ha
      cases ha
      rw [bar_comm]; exact hb
    · obtain ⟨y, rfl⟩ := List.length_eq_one_iff.mp (show g.length = 1 by omega)
      have e3 := h.hg
      simp at e3
      subst e3
      have e4 := h.lst
      simp at ha
      rw [ha] at e4
      simp at e4
      subst e4
      rw [bar_comm]; exact hb
  · have := h.lf
    have := h.lg
    omega
theorem x_joined {many : Nat} {ws : List (List Int)} {s t : Tn} {f g : List Tn} (h : JP many ws s t f g) (hb : barB ws s t = true) : ∃ r, w_joined [.list (f.map tD), .list (g.map tD)] = some (.ok (.o (.lst (r.map tD)))) ∧ Ring many ws r := by
  unfold w_joined defD m_joined
  have cl := fun l : List Tn => cutL_m1 tD l
  walk_at "run"
  generalize hf : whlF _ _ _ _ = O
  obtain ⟨ρ', rfl, f', g', rfl, h'⟩ := whl_at hf (fun ρ => ∃ f g, ρ = [.d (.list (f.map tD)), .d (.list (g.map tD))] ∧ JP many ws s t f g) (slT 0) (fun ρ => ∃ f g, ρ = [.d (.list (f.map tD)), .d (.list (g.map tD))] ∧ JP many ws s t f g)
    ⟨f, g, rfl, h⟩ (by have := h.lf; simp [slT]; omega) (by
      rintro ρ ⟨f, g, rfl, h⟩
      clear hf
      by_cases h1 : 1 < f.length
      · have i1 : (1 : Int) < (f.length : Int) := by omega
        by_cases h2 : 1 < g.length
        · have i2 : (1 : Int) < (g.length : Int) := by omega
          obtain ⟨f0, x, y, rfl⟩ := two_last h1
          obtain ⟨g0, x', y', rfl⟩ := two_last h2
          have a1 : atI (f0.map tD ++ [tD x, tD y]) (-2) = some (tD x) := atI_m2 _ _ _
          have a2 : atI (g0.map tD ++ [tD x', tD y']) (-2) = some (tD x') := atI_m2 _ _ _
          have hn : [.d (.list ((f0 ++ [x, y]).map tD)), .d (.list ((g0 ++ [x', y']).map tD))] = [Sl.d (.list (f0.map tD ++ [tD x, tD y])), .d (.list (g0.map tD ++ [tD x', tD y']))] := by simp
          have c1 : cutL (f0.map tD ++ [tD x, tD y]) none (some (-1)) = (f0 ++ [x]).map tD := by
            have := cl (f0 ++ [x, y])
            rw [show (f0 ++ [x, y]).dropLast = f0 ++ [x] by rw [show f0 ++ [x, y] = (f0 ++ [x]) ++ [y] by simp, List.dropLast_concat]] at this
            simpa using this
          have c2 : cutL (g0.map tD ++ [tD x', tD y']) none (some (-1)) = (g0 ++ [x']).map tD := by
            have := cl (g0 ++ [x', y'])
            rw [show (g0 ++ [x', y']).dropLast = g0 ++ [x'] by rw [show g0 ++ [x', y'] = (g0 ++ [x']) ++ [y'] by simp, List.dropLast_concat]] at this
            simpa using this
          clear cl
          rw [hn]
          have i1' : (1 : Int) < (f0.length : Int) + 2 := by simp at i1; omega
          have i2' : (1 : Int) < (g0.length : Int) + 2 := by simp at i2; omega
          clear h1 h2 i1 i2
          by_cases e : x = x'
          · right
            subst e
            refine ⟨by walk_at "run", [.d (.list ((f0 ++ [x]).map tD)), .d (.list ((g0 ++ [x]).map tD))], ?_, ⟨f0 ++ [x], g0 ++ [x], rfl, ?_⟩, ?_⟩
            · walk_at "run"
            · have hp := h.par
              have l1 := h.lf
              have l2 := h.lg
              simp at hp l1 l2
              refine ⟨?_, ?_, by simp, by simp; omega, ?_, ?_, fun z hz => h.tf z ?_, fun z hz => h.tg z ?_, by simp; omega, by simp; omega⟩
              · have := h.hf
                cases f0 <;> simpa using this
              · have := h.hg
                cases g0 <;> simpa using this
              · have := h.af
                rw [show f0 ++ [x, y] = (f0 ++ [x]) ++ [y] by simp] at this
                exact this.left
              · have := h.ag
                rw [show g0 ++ [x, y'] = (g0 ++ [x]) ++ [y'] by simp] at this
                exact this.left
              · rw [show f0 ++ [x, y] = (f0 ++ [x]) ++ [y] by simp]; exact List.mem_append_left _ hz
              · rw [show g0 ++ [x, y'] = (g0 ++ [x]) ++ [y'] by simp]; exact List.mem_append_left _ hz
            · simp [slT]
          · left
            have e' : ¬ (x.1 = x'.1 ∧ x.2 = x'.2) := fun z => e (Prod.ext z.1 z.2)
            refine ⟨?_, f0 ++ [x, y], g0 ++ [x', y'], hn.symm, h⟩
            clear e h
            walk_at "run"
        · left
          refine ⟨?_, f, g, rfl, h⟩
          have i2 : ¬ (1 : Int) < (g.length : Int) := by omega
          clear h h1 h2
          walk_at "run"
      · left
        refine ⟨?_, f, g, rfl, h⟩
        have i1 : ¬ (1 : Int) < (f.length : Int) := by omega
        clear h h1
        walk_at "run")
  have hr := h'.ring hb
  refine ⟨_, ?_, hr⟩
  have l1 := h'.lf
  have l2 := h'.lg
  have l3 : f'.length + (g'.length - 1) ≤ big := by unfold big; omega
  clear h' hr
  walk_at "run"
theorem putP_any (kvs : List (List Int × PD)) (k : List Int) (x : PD) (j : List Int) : ((putP kvs k x).any fun p => decide (p.1 = j)) = ((kvs.any fun p => decide (p.1 = j)) || decide (k = j)) := by
  unfold putP
  split
  · rename_i h
    rw [List.any_map]
    have e : ((fun p : List Int × PD => decide (p.1 = j)) ∘ fun p => if p.1 = k then (p.1, x) else p) = fun p => decide (p.1 = j) := by
      funext p
      simp only [Function.comp]
      split <;> rfl
    rw [e]
    by_cases q : k = j
    · subst q
      rw [h]; simp
    · simp [q]
  · rw [List.any_append]; simp
theorem putP_len (kvs : List (List Int × PD)) (k : List Int) (x : PD) : (putP kvs k x).length ≤ kvs.length + 1 := by
  unfold putP
  split
  · simp
  · simp
theorem mergeP_any (j : List Int) : ∀ (more kvs : List (List Int × PD)), ((mergeP kvs more).any fun p => decide (p.1 = j)) = ((kvs.any fun p => decide (p.1 = j)) || more.any fun p => decide (p.1 = j))
  | [], kvs => by simp [mergeP]
  | q :: more, kvs => by
    have ih := mergeP_any j more (putP kvs q.1 q.2)
    have e : mergeP kvs (q :: more) = mergeP (putP kvs q.1 q.2) more := rfl
    rw [e, ih, putP_any, List.any_cons, Bool.or_assoc]
theorem mergeP_len : ∀ (more kvs : List (List Int × PD)), (mergeP kvs more).length ≤ kvs.length + more.length
  | [], kvs => by simp [mergeP]
  | q :: more, kvs => by
    have ih := mergeP_len more (putP kvs q.1 q.2)
    have h := putP_len kvs q.1 q.2
    have e : mergeP kvs (q :: more) = mergeP (putP kvs q.1 q.2) more := rfl
    rw [e, List.length_cons]
    omega
/-- a colouring of the turns met so far -/
def Col (many : Nat) (ws : List (List Int)) (M : Tn → Bool) : Prop := ∃ c : Tn → Bool, ∀ s t, TOk many s → TOk many t → M s = true → M t = true → barB ws s t = true → c s ≠ c t
def metB (kvs : List (List Int × PD)) (t : Tn) : Bool := (valP kvs [t.1, t.2]).isSome
theorem metB_merge (kvs : List (List Int × PD)) (L : List (En Tn)) (t : Tn) : metB (mergeP kvs (L.map encE)) t = (metB kvs t || decide (t ∈ L.map (·.t))) := by
  unfold metB
  rw [← valP_any, ← valP_any, mergeP_any, valP_any (L.map encE), valP_has]
theorem Col.more {many : Nat} {ws : List (List Int)} {M : Tn → Bool} (h : Col many ws M) {s : Tn} {L : List (En Tn)} (hE : BE (barB ws) s (turnsL many) L) (hp : ∀ e ∈ L, ∀ f ∈ L, barB ws e.t f.t = true → ¬ e.d % 2 = f.d % 2) : Col many ws fun t => M t || decide (t ∈ L.map (·.t)) := by
  obtain ⟨c, hc⟩ := h
  obtain ⟨n, hB⟩ := id hE.bi
  refine ⟨fun t => match L.find? (fun e => decide (e.t = t)) with | some e => decide (e.d % 2 = 0) | none => c t, fun a b ha hb ma mb hab => ?_⟩
  have get : ∀ e ∈ L, L.find? (fun f => decide (f.t = e.t)) = some e := by
    intro e he
    cases hq : L.find? (fun f => decide (f.t = e.t)) with
    | none =>
      rw [List.find?_eq_none] at hq
      exact absurd (decide_eq_true rfl) (hq e he)
    | some f =>
      have h1 := List.find?_some hq
      have h2 := List.mem_of_find?_eq_some hq
      rw [decide_eq_true_eq] at h1
      rw [en_uniq hB.nd h2 he h1]
  have non : ∀ t, t ∉ L.map (·.t) → L.find? (fun f => decide (f.t = t)) = none := by
    intro t ht
    rw [List.find?_eq_none]
    intro f hf q
    rw [decide_eq_true_eq] at q
    exact ht (List.mem_map.mpr ⟨f, hf, q⟩)
  by_cases qa : a ∈ L.map (·.t)
  · obtain ⟨e, he, rfl⟩ := List.mem_map.mp qa
    have qb := hE.clo e he b (mem_turnsL.mpr hb) hab
    obtain ⟨f, hf, rfl⟩ := List.mem_map.mp qb
    have := hp e he f hf hab
    simp only [get e he, get f hf]
    intro z
    by_cases z1 : e.d % 2 = 0
    · rw [decide_eq_true z1] at z
      have z2 := of_decide_eq_true z.symm
      omega
    · rw [decide_eq_false z1] at z
      have z2 := of_decide_eq_false z.symm
      omega
  · by_cases qb : b ∈ L.map (·.t)
    · obtain ⟨f, hf, rfl⟩ := List.mem_map.mp qb
      exact (qa (hE.clo f hf a (mem_turnsL.mpr ha) (by rw [bar_comm]; exact hab))).elim
    · simp only [non a qa, non b qb]
      refine hc a b ha hb ?_ ?_ hab
      · have m' : (M a || decide (a ∈ L.map (·.t))) = true := ma
        rw [decide_eq_false qa, Bool.or_false] at m'
        exact m'
      · have m' : (M b || decide (b ∈ L.map (·.t))) = true := mb
        rw [decide_eq_false qb, Bool.or_false] at m'
        exact m'
/-- two trails from two turns of a search -/
theorem jp_of {many : Nat} {ws : List (List Int)} {s : Tn} {L : List (En Tn)} (hE : BE (barB ws) s (turnsL many) L) {e f : En Tn} (he : e ∈ L) (hf : f ∈ L) (hl : L.length ≤ 64) :
    ∃ l1 l2, Trl L e.t l1 ∧ Trl L f.t l2 ∧ l1.length = e.d ∧ l2.length = f.d ∧ e.d ≤ 64 ∧ f.d ≤ 64 ∧ (e.d % 2 = f.d % 2 → JP many ws e.t f.t l1 l2) := by
  obtain ⟨n, hB⟩ := id hE.bi
  obtain ⟨l1, a1, a2, a3, a4, a5, a6⟩ := hE.trl e.d e he rfl
  obtain ⟨l2, b1, b2, b3, b4, b5, b6⟩ := hE.trl f.d f hf rfl
  have d1 := hB.dle e he
  have d2 := hB.dle f hf
  have hd : ∀ {t : Tn} {l : List Tn}, Trl L t l → l.head? = some t := by
    intro t l h
    cases h with
    | one _ _ _ => rfl
    | step _ _ _ _ => rfl
  refine ⟨l1, l2, a1, b1, a2, b2, by omega, by omega, fun p => ⟨hd a1, hd b1, a4.trans b4.symm, by omega, fun i a b ha hb => ?_, fun i a b ha hb => ?_, fun x hx => mem_turnsL.mp (a6 x hx), fun x hx => mem_turnsL.mp (b6 x hx), by omega, by omega⟩⟩
  · rw [bar_comm]; exact a5 i a b ha hb
  · rw [bar_comm]; exact b5 i a b ha hb
theorem smallK_ok {many : Nat} (hm : many ≤ 8) {t : Tn} (h : TOk many t) : smallK [t.1, t.2] = true := by
  obtain ⟨⟨h1, h2⟩, ⟨h3, h4⟩, _⟩ := h
  unfold smallK
  simp only [Bool.and_eq_true, decide_eq_true_eq]
  omega
def bdy6 : MS := (sIf (mB (mDat (mCall w_barred (mCons (mV 1) (mCons (mV 5) (mCons (mV 6) mNil)))))) (sSeq (sSet 7 (mRs (mDat (mCall w_trail (mCons (mV 4) (mCons (mV 5) mNil))))))
    (sSeq (sSet 8 (mRs (mDat (mCall w_trail (mCons (mV 4) (mCons (mV 6) mNil))))))
    (sIf (mB (m2 fEq (m2 fMod (mDat (mC fLen (mCons (mV 7) mNil))) (mr (.int 2))) (m2 fMod (mDat (mC fLen (mCons (mV 8) mNil))) (mr (.int 2))))) (sRet (mCall w_joined (mCons (mV 7) (mCons (mV 8) mNil)))) sNil))) sNil)
def bdy5 : MS := sForD 6 (mV 4) bdy6
def bdy4 : MS := sForD 5 (mV 4) bdy5
theorem sForD_L {i j : Nat} {b : MS} {ρ : List Sl} {L : List (En Tn)} (h : ρ[j]? = some (.d (dctD (L.map encE)))) : sForD i (mV j) b ρ = forL i b (L.map fun e => tD e.t) ρ := by
  rw [sForD_ap]
  simp only [mV_ap, h, asDct_dct, Option.bind_some, List.map_map]
  rfl
abbrev isRing (many : Nat) (ws : List (List Int)) (r : Rs) : Prop := ∃ l : List Tn, r = .o (.lst (l.map tD)) ∧ Ring many ws l
theorem x_bdy6 {many : Nat} {ws : List (List Int)} {s : Tn} {L : List (En Tn)} (hE : BE (barB ws) s (turnsL many) L) (hl : L.length ≤ 64) {e f : En Tn} (he : e ∈ L) (hf : f ∈ L) {x0 x2 x3 x7 x8 : Sl} :
    ∃ o, bdy6 [x0, .d (dW ws), x2, x3, .d (dctD (L.map encE)), .d (tD e.t), .d (tD f.t), x7, x8] = some o ∧ OutOk (fun ρ => ∃ x7 x8, ρ = [x0, .d (dW ws), x2, x3, .d (dctD (L.map encE)), .d (tD e.t), .d (tD f.t), x7, x8] ∧ (barB ws e.t f.t = true → ¬ e.d % 2 = f.d % 2)) (isRing many ws) o := by
  obtain ⟨n, hB⟩ := id hE.bi
  have xb1 := x_barred ws e.t f.t
  unfold bdy6
  cases hbar : barB ws e.t f.t with
  | false =>
    rw [hbar] at xb1
    refine ⟨.nx [x0, .d (dW ws), x2, x3, .d (dctD (L.map encE)), .d (tD e.t), .d (tD f.t), x7, x8], ?_, _, _, rfl, fun z => by cases z⟩
    clear hE hB
    walk_at "run"
  | true =>
    rw [hbar] at xb1
    obtain ⟨l1, l2', t1, t2, n1, n2, d1, d2, hJ⟩ := jp_of hE he hf hl
    have y1 := x_trail hB.nd t1 (by omega)
    have y2 := x_trail hB.nd t2 (by omega)
    have p1 := fMod_pos (p := (e.d : Int)) (q := 2) (by decide)
    have p2 := fMod_pos (p := (f.d : Int)) (q := 2) (by decide)
    by_cases q : e.d % 2 = f.d % 2
    · obtain ⟨r, er, hr⟩ := x_joined (hJ q) hbar
      refine ⟨.rt (.o (.lst (r.map tD))), ?_, r, rfl, hr⟩
      have q' : ((e.d : Int) % 2 = (f.d : Int) % 2) := by omega
      clear q hE hB hJ t1 t2 hr hbar
      walk_at "run"
    · refine ⟨.nx [x0, .d (dW ws), x2, x3, .d (dctD (L.map encE)), .d (tD e.t), .d (tD f.t), .d (.list (l1.map tD)), .d (.list (l2'.map tD))], ?_, _, _, rfl, fun _ => q⟩
      have q' : ¬ ((e.d : Int) % 2 = (f.d : Int) % 2) := by omega
      clear q hE hB hJ t1 t2 hbar
      walk_at "run"
theorem x_bdy5 {many : Nat} {ws : List (List Int)} {s : Tn} {L : List (En Tn)} (hE : BE (barB ws) s (turnsL many) L) (hl : L.length ≤ 64) {e : En Tn} (he : e ∈ L) {x0 x2 x3 x6 x7 x8 : Sl} :
    ∃ o, bdy5 [x0, .d (dW ws), x2, x3, .d (dctD (L.map encE)), .d (tD e.t), x6, x7, x8] = some o ∧ OutOk (fun ρ => ∃ x6 x7 x8, ρ = [x0, .d (dW ws), x2, x3, .d (dctD (L.map encE)), .d (tD e.t), x6, x7, x8] ∧ ∀ f ∈ L, barB ws e.t f.t = true → ¬ e.d % 2 = f.d % 2) (isRing many ws) o := by
  unfold bdy5
  rw [sForD_L rfl]
  generalize hh : forL _ _ _ _ = O3
  rcases forL_ret hh (fun i ρ => ∃ x6 x7 x8, ρ = [x0, .d (dW ws), x2, x3, .d (dctD (L.map encE)), .d (tD e.t), x6, x7, x8] ∧ ∀ f ∈ L.take i, barB ws e.t f.t = true → ¬ e.d % 2 = f.d % 2) (isRing many ws)
    ⟨_, _, _, rfl, fun e he => by simp at he⟩ (by
      rintro i z ρ hz ⟨x6, x7, x8, rfl, hi⟩
      rw [List.getElem?_map] at hz
      obtain ⟨f, ef, rfl⟩ := Option.map_eq_some_iff.mp hz
      have hf := List.mem_of_getElem? ef
      obtain ⟨o, ho, hO⟩ := x_bdy6 hE hl he hf (x0 := x0) (x2 := x2) (x3 := x3) (x7 := x7) (x8 := x8)
      refine ⟨o, ho, ?_⟩
      cases o with
      | nx ρ' =>
        obtain ⟨x7', x8', rfl, q⟩ := hO
        refine ⟨_, _, _, rfl, fun g hgm hbg => ?_⟩
        rw [List.take_add_one, ef] at hgm
        rcases List.mem_append.mp hgm with hgm | hgm
        · exact hi g hgm hbg
        · have : g = f := by simpa using hgm
          subst this
          exact q hbg
      | rt r => exact hO
      | bk _ => exact hO.elim
      | ct _ => exact hO.elim
      | ex _ => exact hO.elim) with ⟨ρ', rfl, x6', x7', x8', rfl, h2⟩ | ⟨r, rfl, h2⟩
  · rw [List.length_map, List.take_length] at h2
    exact ⟨_, rfl, _, _, _, rfl, h2⟩
  · exact ⟨_, rfl, h2⟩
theorem x_bdy4 {many : Nat} {ws : List (List Int)} {s : Tn} {L : List (En Tn)} (hE : BE (barB ws) s (turnsL many) L) (hl : L.length ≤ 64) {x0 x2 x3 x5 x6 x7 x8 : Sl} :
    ∃ o, bdy4 [x0, .d (dW ws), x2, x3, .d (dctD (L.map encE)), x5, x6, x7, x8] = some o ∧ OutOk (fun ρ => ∃ x5 x6 x7 x8, ρ = [x0, .d (dW ws), x2, x3, .d (dctD (L.map encE)), x5, x6, x7, x8] ∧ ∀ e ∈ L, ∀ f ∈ L, barB ws e.t f.t = true → ¬ e.d % 2 = f.d % 2) (isRing many ws) o := by
  unfold bdy4
  rw [sForD_L rfl]
  generalize hh : forL _ _ _ _ = O3
  rcases forL_ret hh (fun i ρ => ∃ x5 x6 x7 x8, ρ = [x0, .d (dW ws), x2, x3, .d (dctD (L.map encE)), x5, x6, x7, x8] ∧ ∀ e ∈ L.take i, ∀ f ∈ L, barB ws e.t f.t = true → ¬ e.d % 2 = f.d % 2) (isRing many ws)
    ⟨_, _, _, _, rfl, fun e he => by simp at he⟩ (by
      rintro i z ρ hz ⟨x5, x6, x7, x8, rfl, hi⟩
      rw [List.getElem?_map] at hz
      obtain ⟨e, ee, rfl⟩ := Option.map_eq_some_iff.mp hz
      have he := List.mem_of_getElem? ee
      obtain ⟨o, ho, hO⟩ := x_bdy5 hE hl he (x0 := x0) (x2 := x2) (x3 := x3) (x6 := x6) (x7 := x7) (x8 := x8)
      refine ⟨o, ho, ?_⟩
      cases o with
      | nx ρ' =>
        obtain ⟨x6', x7', x8', rfl, q⟩ := hO
        refine ⟨_, _, _, _, rfl, fun g hgm => ?_⟩
        rw [List.take_add_one, ee] at hgm
        rcases List.mem_append.mp hgm with hgm | hgm
        · exact hi g hgm
        · have : g = e := by simpa using hgm
          subst this
          exact q
      | rt r => exact hO
      | bk _ => exact hO.elim
      | ct _ => exact hO.elim
      | ex _ => exact hO.elim) with ⟨ρ', rfl, x5', x6', x7', x8', rfl, h2⟩ | ⟨r, rfl, h2⟩
  · rw [List.length_map, List.take_length] at h2
    exact ⟨_, rfl, _, _, _, _, rfl, h2⟩
  · exact ⟨_, rfl, h2⟩
theorem x_odd (C : Addr) {many : Nat} {ws : List (List Int)} (hm : many ≤ 8) (hb : ∀ w ∈ ws, ∀ b ∈ w, 0 ≤ b ∧ b < (many : Int)) :
    (w_odd_ring C [.int many, dW ws] = some (.ok (.d .none)) ∧ ∃ c : Tn → Bool, ∀ s t, TOk many s → TOk many t → barB ws s t = true → c s ≠ c t) ∨ ∃ r, w_odd_ring C [.int many, dW ws] = some (.ok (.o (.lst (r.map tD)))) ∧ Ring many ws r := by
  have e1 := x_ask_ok C hb
  obtain ⟨e2, l2⟩ := x_turns hm
  have unf : w_odd_ring C = defD 2 9 (sSeq (sExp (mCall (w_ask C) (mCons (mV 0) (mCons (mV 1) mNil))))
    (sSeq (sSet 2 (fun _ => some (.ok (.o (.dic [])))))
    (sSeq (sFor 3 (mSeq (mDat (mCall w_turns (mCons (mV 0) mNil))))
    (sIf (mB (mDNinO 2 (mV 3))) (sSeq (sSet 4 (mRs (mDat (mCall w_leads_from (mCons (mV 0) (mCons (mV 1) (mCons (mV 3) mNil)))))))
    (sSeq (sDUpd 2 (mV 4)) bdy4)) sNil))
    (sRet (mRs (mr .none)))))) := rfl
  rw [unf]
  unfold defD
  walk_at "run"
  generalize hf : forL _ _ _ _ = O
  rcases forL_ret hf (fun k ρ => ∃ (M : List (List Int × PD)) (x3 x4 x5 x6 x7 x8 : Sl), ρ = [.d (.int many), .d (dW ws), .o (.dic M), x3, x4, x5, x6, x7, x8] ∧ M.length ≤ k * 64 ∧ Col many ws (metB M) ∧ ∀ u ∈ (turnsL many).take k, metB M u = true)
    (isRing many ws)
    ⟨[], .no, .no, .no, .no, .no, .no, rfl, by simp, ⟨fun _ => false, fun s t _ _ h => by simp [metB, valP] at h⟩, fun u hu => by simp at hu⟩ (by
      rintro k y ρ hy ⟨M, x3, x4, x5, x6, x7, x8, rfl, hM, hC, hk⟩
      rw [List.getElem?_map] at hy
      obtain ⟨s, es, rfl⟩ := Option.map_eq_some_iff.mp hy
      have hs := mem_turnsL.mp (List.mem_of_getElem? es)
      have kl : k < (turnsL many).length := (List.getElem?_eq_some_iff.mp es).1
      clear hf unf
      cases hm1 : metB M s with
      | true =>
        have hv : (valP M [s.1, s.2]).isSome = true := hm1
        refine ⟨.nx [.d (.int many), .d (dW ws), .o (.dic M), .d (tD s), x4, x5, x6, x7, x8], ?_, M, _, _, _, _, _, _, rfl, by omega, hC, fun u hu => ?_⟩
        · clear hC hk
          obtain ⟨y0, hv'⟩ := Option.isSome_iff_exists.mp hv
          clear hm1 hv
          walk_at "run"
        · rw [List.take_add_one, es] at hu
          rcases List.mem_append.mp hu with hu | hu
          · exact hk u hu
          · have : u = s := by simpa using hu
            rw [this]; exact hm1
      | false =>
        have hv' : valP M [s.1, s.2] = none := Option.not_isSome_iff_eq_none.mp (by rw [show (valP M [s.1, s.2]).isSome = false from hm1]; exact Bool.false_ne_true)
        obtain ⟨L, e3, hE⟩ := x_leads (ws := ws) hm hs
        obtain ⟨n, hB⟩ := id hE.bi
        have lL := hB.len
        have hd : M ≠ [] ∨ (((L.map encE).all fun p => smallK p.1) = true ∧ ((L.map encE).map (·.1)).Nodup) := by
          right
          constructor
          · rw [List.all_map, List.all_eq_true]
            intro e he
            exact smallK_ok hm (mem_turnsL.mp (hB.sub e he))
          · have hn := hB.nd
            unfold List.Nodup at hn ⊢
            rw [List.map_map]
            rw [List.pairwise_map] at hn ⊢
            exact hn.imp fun {a b} h z => h (key_eq.mp z)
        have lm := mergeP_len (L.map encE) M
        rw [List.length_map] at lm
        have hdd : M.length + (L.map encE).length ≤ big ∧ (M ≠ [] ∨ (((L.map encE).all fun p => smallK p.1) = true ∧ ((L.map encE).map (·.1)).Nodup)) := ⟨by rw [List.length_map]; unfold big; omega, hd⟩
        have upd : sDUpd 2 (mV 4) [.d (.int many), .d (dW ws), .o (.dic M), .d (tD s), .d (dctD (L.map encE)), x5, x6, x7, x8] = some (.nx [.d (.int many), .d (dW ws), .o (.dic (mergeP M (L.map encE))), .d (tD s), .d (dctD (L.map encE)), x5, x6, x7, x8]) := by
          rw [sDUpd_ap]
          simp only [mV_ap, List.getElem?_cons_succ, List.getElem?_cons_zero, asDct_dct, Option.bind_some]
          rw [if_pos hdd]
          rfl
        obtain ⟨o, ho, hO⟩ := x_bdy4 hE (by omega) (x0 := .d (.int many)) (x2 := .o (.dic (mergeP M (L.map encE)))) (x3 := .d (tD s)) (x5 := x5) (x6 := x6) (x7 := x7) (x8 := x8)
        have hmt := metB_merge M L
        have hms : metB (mergeP M (L.map encE)) s = true := by
          rw [hmt]
          obtain ⟨rest, el⟩ := hB.hd
          rw [el]
          simp
        refine ⟨o, ?_, ?_⟩
        · have st : sSeq (sSet 4 (mRs (mDat (mCall w_leads_from (mCons (mV 0) (mCons (mV 1) (mCons (mV 3) mNil))))))) (sSeq (sDUpd 2 (mV 4)) bdy4) [.d (.int many), .d (dW ws), .o (.dic M), .d (tD s), x4, x5, x6, x7, x8] = some o := by
            rw [sSeq_ap]
            have a1 : sSet 4 (mRs (mDat (mCall w_leads_from (mCons (mV 0) (mCons (mV 1) (mCons (mV 3) mNil)))))) [.d (.int many), .d (dW ws), .o (.dic M), .d (tD s), x4, x5, x6, x7, x8] = some (.nx [.d (.int many), .d (dW ws), .o (.dic M), .d (tD s), .d (dctD (L.map encE)), x5, x6, x7, x8]) := by
              clear ho hO hmt hms hdd hd hC hk upd lm
              walk_at "run"
            rw [a1, thenS_nx, sSeq_ap, upd, thenS_nx]
            exact ho
          have c1 : (mB (mDNinO 2 (mV 3))) [.d (.int many), .d (dW ws), .o (.dic M), .d (tD s), x4, x5, x6, x7, x8] = some (.ok true) := by
            clear ho hO hmt hms hdd hd hC hk upd lm hE hB e3 st
            walk_at "run"
          show sIf _ _ _ [.d (.int many), .d (dW ws), .o (.dic M), .d (tD s), x4, x5, x6, x7, x8] = _
          rw [sIf_ap, c1]
          exact st
        · cases o with
          | nx ρ' =>
            obtain ⟨x5', x6', x7', x8', rfl, q⟩ := hO
            refine ⟨_, _, _, _, _, _, _, rfl, by omega, ?_, fun u hu => ?_⟩
            · have := hC.more hE q
              rw [show metB (mergeP M (L.map encE)) = fun t => metB M t || decide (t ∈ L.map (·.t)) from funext hmt]
              exact this
            · rw [List.take_add_one, es] at hu
              rcases List.mem_append.mp hu with hu | hu
              · rw [hmt, hk u hu]; rfl
              · have : u = s := by simpa using hu
                rw [this]; exact hms
          | rt r => exact hO
          | bk _ => exact hO.elim
          | ct _ => exact hO.elim
          | ex _ => exact hO.elim) with ⟨ρ', rfl, M, x3, x4, x5, x6, x7, x8, rfl, hM, hC, hk⟩ | ⟨r, rfl, l, rfl, hr⟩
  · left
    refine ⟨by simp, ?_⟩
    rw [List.length_map, List.take_length] at hk
    obtain ⟨c, hc⟩ := hC
    refine ⟨c, ?_⟩
    intro a b c1 d1 h
    first
      | exact hc a b c1 d1 (hk a (mem_turnsL.mpr c1)) (hk b (mem_turnsL.mpr d1)) h
      | (intro e1 e2 e3; exact hc (a, b) (c1, d1) h e1 (hk _ (mem_turnsL.mpr h)) (hk _ (mem_turnsL.mpr e1)) e2 e3)
  · right
    exact ⟨l, by simp, hr⟩

end G

namespace G
open PySem L2 DL DX
/-! ### odd rings and orders: the one or the other -/
open MC (Conv)
theorem sub1 {α : Type} {a : α} {l : List α} : [a].Sublist l ↔ a ∈ l := List.singleton_sublist
theorem sub_cons {α : Type} {a x : α} {m l : List α} : (a :: m).Sublist (x :: l) ↔ (a :: m).Sublist l ∨ (a = x ∧ m.Sublist l) := by
  rw [List.sublist_cons_iff]
  constructor
  · rintro (h | ⟨r, e, h⟩)
    · exact .inl h
    · cases e
      exact .inr ⟨rfl, h⟩
  · rintro (h | ⟨rfl, h⟩)
    · exact .inl h
    · exact .inr ⟨m, rfl, h⟩
theorem sub_tot {a b : Int} (h : a ≠ b) : ∀ {r : List Int}, a ∈ r → b ∈ r → [a, b].Sublist r ∨ [b, a].Sublist r
  | x :: r, ha, hb => by
    rcases List.mem_cons.mp ha with e1 | ha'
    · rcases List.mem_cons.mp hb with e2 | hb'
      · exact (h (e1.trans e2.symm)).elim
      · exact .inl (sub_cons.mpr (.inr ⟨e1, sub1.mpr hb'⟩))
    · rcases List.mem_cons.mp hb with e2 | hb'
      · exact .inr (sub_cons.mpr (.inr ⟨e2, sub1.mpr ha'⟩))
      · rcases sub_tot h ha' hb' with z | z
        · exact .inl (sub_cons.mpr (.inl z))
        · exact .inr (sub_cons.mpr (.inl z))
theorem sub_mem {α : Type} {l r : List α} (h : l.Sublist r) {a : α} (ha : a ∈ l) : a ∈ r := h.subset ha
theorem sub_anti {a b : Int} : ∀ {r : List Int}, r.Nodup → [a, b].Sublist r → [b, a].Sublist r → False
  | [], _, h, _ => by cases h
  | x :: r, hn, h1, h2 => by
    have hc := List.nodup_cons.mp hn
    rcases sub_cons.mp h1 with k1 | ⟨e1, k1⟩
    · rcases sub_cons.mp h2 with k2 | ⟨e2, k2⟩
      · exact sub_anti hc.2 k1 k2
      · exact hc.1 (e2 ▸ sub_mem k1 (a := b) (by simp))
    · rcases sub_cons.mp h2 with k2 | ⟨e2, k2⟩
      · exact hc.1 (e1 ▸ sub_mem k2 (a := a) (by simp))
      · exact hc.1 (e2 ▸ sub1.mp k1)
theorem sub_three {a b c : Int} : ∀ {r : List Int}, r.Nodup → [a, b].Sublist r → [b, c].Sublist r → [a, b, c].Sublist r
  | [], _, h, _ => by cases h
  | x :: r, hn, h1, h2 => by
    have hc := List.nodup_cons.mp hn
    rcases sub_cons.mp h1 with k1 | ⟨e1, k1⟩
    · rcases sub_cons.mp h2 with k2 | ⟨e2, k2⟩
      · exact sub_cons.mpr (.inl (sub_three hc.2 k1 k2))
      · exact (hc.1 (e2 ▸ sub_mem k1 (a := b) (by simp))).elim
    · rcases sub_cons.mp h2 with k2 | ⟨e2, k2⟩
      · exact sub_cons.mpr (.inr ⟨e1, k2⟩)
      · exact (hc.1 (e2 ▸ sub1.mp k1)).elim
theorem tog_tt : ∀ {r w : List Int}, togL true true r w = true ↔ ∀ x ∈ r, x ∉ w
  | [], w => by simp [togL]
  | x :: r, w => by
    rw [togL]
    by_cases h : x ∈ w
    · simp [h]
    · simp [h, tog_tt (r := r)]
theorem tog_tf : ∀ {r w : List Int}, togL true false r w = true ↔ ∀ b c, [b, c].Sublist r → c ∈ w → b ∈ w
  | [], w => by simp [togL]
  | x :: r, w => by
    rw [togL]
    by_cases h : x ∈ w
    · simp only [h, if_true, Bool.false_eq_true, if_false]
      rw [tog_tf (r := r)]
      constructor
      · intro k b c hs hc
        rcases sub_cons.mp hs with hs' | ⟨e, hs'⟩
        · exact k b c hs' hc
        · exact e ▸ h
      · intro k b c hs hc
        exact k b c (sub_cons.mpr (.inl hs)) hc
    · simp only [h, if_false, Bool.or_true, Bool.false_or]
      rw [tog_tt]
      constructor
      · intro k b c hs hc
        rcases sub_cons.mp hs with hs' | ⟨e, hs'⟩
        · exact (k c (sub_mem hs' (by simp)) hc).elim
        · exact (k c (sub1.mp hs') hc).elim
      · intro k y hy hw
        exact h (k x y (sub_cons.mpr (.inr ⟨rfl, sub1.mpr hy⟩)) hw)
theorem tog_conv : ∀ {r w : List Int}, togL false false r w = true ↔ Conv r w
  | [], w => by
    constructor
    · intro _ a b c h
      cases h
    · intro _; rfl
  | x :: r, w => by
    rw [togL]
    by_cases h : x ∈ w
    · simp only [h, if_true, Bool.false_eq_true, if_false]
      rw [tog_tf]
      constructor
      · intro k a b c hs ha hc
        rcases sub_cons.mp hs with hs' | ⟨e, hs'⟩
        · exact k b c ((List.sublist_cons_self _ _).trans hs') hc
        · exact k b c hs' hc
      · intro k b c hs hc
        exact k x b c (sub_cons.mpr (.inr ⟨rfl, hs⟩)) h hc
    · simp only [h, if_false, Bool.or_false]
      rw [tog_conv (r := r)]
      constructor
      · intro k a b c hs ha hc
        rcases sub_cons.mp hs with hs' | ⟨e, hs'⟩
        · exact k a b c hs' ha hc
        · exact (h (e ▸ ha)).elim
      · intro k a b c hs ha hc
        exact k a b c (sub_cons.mpr (.inl hs)) ha hc
theorem spB_iff {ws : List (List Int)} {a b c : Int} : spB ws a b c = true ↔ ∃ w ∈ ws, a ∈ w ∧ c ∈ w ∧ b ∉ w := by
  unfold spB
  rw [List.any_eq_true]
  simp
/-- the colour of a turn in an order -/
def ahd (r : List Int) (t : Tn) : Prop := [t.1, t.2].Sublist r
theorem bar_step {many : Nat} {ws : List (List Int)} {r : List Int} (hr : r.Perm (rgI many)) (hk : keepsB ws r = true) {s t : Tn} (hs : TOk many s) (ht : TOk many t) (e1 : s.2 = t.1) (e2 : spB ws s.1 s.2 t.2 = true) : ahd r s ↔ ¬ ahd r t := by
  obtain ⟨a, b⟩ := s
  obtain ⟨b', c⟩ := t
  simp only at e1 e2
  subst e1
  obtain ⟨w, hw, q1, q2, q3⟩ := spB_iff.mp e2
  have hn : r.Nodup := hr.nodup_iff.mpr (rgI_nodup many)
  unfold keepsB at hk
  rw [List.all_eq_true] at hk
  have cv := tog_conv.mp (hk w hw)
  obtain ⟨s1, s2, s3⟩ := hs
  obtain ⟨t1, t2, t3⟩ := ht
  simp only at s1 s2 s3 t1 t2 t3
  have ma := hr.mem_iff.mpr (mem_rgI.mpr s1)
  have mb := hr.mem_iff.mpr (mem_rgI.mpr s2)
  have mc := hr.mem_iff.mpr (mem_rgI.mpr t2)
  unfold ahd
  constructor
  · intro k1 k2
    exact q3 (cv a b c (sub_three hn k1 k2) q1 q2)
  · intro k
    rcases sub_tot s3 ma mb with z | z
    · exact z
    · rcases sub_tot t3 mb mc with y | y
      · exact (k y).elim
      · exact (q3 (cv c b a (sub_three hn y z) q2 q1)).elim
theorem bar_col {many : Nat} {ws : List (List Int)} {r : List Int} (hr : r.Perm (rgI many)) (hk : keepsB ws r = true) {s t : Tn} (hs : TOk many s) (ht : TOk many t) (hb : barB ws s t = true) : ahd r s ↔ ¬ ahd r t := by
  unfold barB at hb
  split at hb
  · rename_i h
    obtain ⟨a, b⟩ := s
    obtain ⟨b', a'⟩ := t
    simp only at h
    obtain ⟨rfl, rfl⟩ := h
    have hn : r.Nodup := hr.nodup_iff.mpr (rgI_nodup many)
    obtain ⟨s1, s2, s3⟩ := hs
    have ma := hr.mem_iff.mpr (mem_rgI.mpr s1)
    have mb := hr.mem_iff.mpr (mem_rgI.mpr s2)
    unfold ahd
    exact ⟨fun k1 k2 => sub_anti hn k1 k2, fun k => (sub_tot s3 ma mb).resolve_right k⟩
  · split at hb
    · rename_i h
      exact bar_step hr hk hs ht h.1 hb
    · split at hb
      · rename_i h
        have := bar_step hr hk ht hs h.1 hb
        constructor
        · intro k1 k2
          exact this.mp k2 k1
        · intro k
          by_cases z : ahd r s
          · exact z
          · exact (k (this.mpr z)).elim
      · cases hb
/-- an odd ring: no order -/
theorem ring_none {many : Nat} {ws : List (List Int)} {l : List Tn} (h : Ring many ws l) {r : List Int} (hr : r.Perm (rgI many)) : keepsB ws r = false := by
  cases hk : keepsB ws r with
  | false => rfl
  | true =>
    exfalso
    have alt : ∀ i (hi : i < l.length), (ahd r l[i] ↔ (if i % 2 = 0 then ahd r (l[0]'(by omega)) else ¬ ahd r (l[0]'(by omega)))) := by
      intro i
      induction i with
      | zero => intro _; simp
      | succ i ih =>
        intro hi
        have h0 := ih (by omega)
        have a1 := h.adj i l[i] l[i + 1] (List.getElem?_eq_getElem _) (List.getElem?_eq_getElem _)
        have a2 := bar_col hr hk (h.tok _ (List.getElem_mem _)) (h.tok _ (List.getElem_mem _)) a1
        by_cases z : i % 2 = 0
        · have z' : ¬ (i + 1) % 2 = 0 := by omega
          rw [if_pos z] at h0
          rw [if_neg z', ← h0]
          constructor
          · intro k1 k2; exact a2.mp k2 k1
          · intro k; by_cases y : ahd r l[i + 1]
            · exact y
            · exact (k (a2.mpr y)).elim
        · have z' : (i + 1) % 2 = 0 := by omega
          rw [if_neg z] at h0
          rw [if_pos z']
          constructor
          · intro k; by_cases y : ahd r (l[0]'(by omega))
            · exact y
            · exact (a2.mp (h0.mpr y) k).elim
          · intro k; by_cases y : ahd r l[i + 1]
            · exact y
            · exact (h0.mp (a2.mpr y) k).elim
    have h3 := h.len
    have h4 := h.odd
    have e := alt (l.length - 1) (by omega)
    rw [if_pos (by omega)] at e
    have c1 := h.cyc (l[l.length - 1]'(by omega)) (l[0]'(by omega)) (by rw [List.getLast?_eq_getElem?]; exact List.getElem?_eq_getElem _) (by rw [List.head?_eq_getElem?]; exact List.getElem?_eq_getElem _)
    have c2 := bar_col hr hk (h.tok _ (List.getElem_mem _)) (h.tok _ (List.getElem_mem _)) c1
    rw [e] at c2
    by_cases y : ahd r (l[0]'(by omega))
    · exact c2.mp y y
    · exact y (c2.mpr y)
/-- a colouring: some order -/
theorem col_order {many : Nat} {ws : List (List Int)} (hb : ∀ w ∈ ws, ∀ b ∈ w, 0 ≤ b ∧ b < (many : Int)) {c : Tn → Bool} (hc : ∀ s t, TOk many s → TOk many t → barB ws s t = true → c s ≠ c t) : ∃ r : List Int, r.Perm (rgI many) ∧ keepsB ws r = true := by
  let c' : Nat × Nat → Bool := fun p => if p.1 < many ∧ p.2 < many then c ((p.1 : Int), (p.2 : Int)) else decide (p.1 < p.2)
  have inr : ∀ {x : Nat} {w : List Int}, w ∈ ws → (x : Int) ∈ w → x < many := fun {x w} hw hx => by
    have := (hb w hw _ hx).2
    omega
  have swp : ∀ {x y : Nat}, x < many → y < many → x ≠ y → c ((x : Int), (y : Int)) ≠ c ((y : Int), (x : Int)) := fun {x y} h1 h2 h3 => by
    refine hc _ _ ⟨⟨by simp, by simp; omega⟩, ⟨by simp, by simp; omega⟩, by simp; omega⟩ ⟨⟨by simp, by simp; omega⟩, ⟨by simp, by simp; omega⟩, by simp; omega⟩ ?_
    simp [barB]
  have stp : ∀ {x y z : Nat}, MC.Sp ws x y z → y < many → c ((x : Int), (y : Int)) = c ((z : Int), (y : Int)) := by
    intro x y z hs hy
    obtain ⟨w, hw, q1, q2, q3⟩ := hs
    have hx := inr hw q1
    have hz := inr hw q2
    by_cases e : x = z
    · rw [e]
    · have n1 : x ≠ y := fun k => q3 (k ▸ q1)
      have n2 : z ≠ y := fun k => q3 (k ▸ q2)
      have b1 := hc ((x : Int), (y : Int)) ((y : Int), (z : Int)) ⟨⟨by simp, by simp; omega⟩, ⟨by simp, by simp; omega⟩, by simp; omega⟩ ⟨⟨by simp, by simp; omega⟩, ⟨by simp, by simp; omega⟩, by simp; omega⟩ (by
        unfold barB
        have i1 : ¬ ((x : Int) = (z : Int) ∧ (y : Int) = (y : Int)) := by omega
        have i2 : (y : Int) = (y : Int) ∧ ¬ (x : Int) = (z : Int) := by omega
        rw [if_neg i1, if_pos i2]
        exact spB_iff.mpr ⟨w, hw, q1, q2, q3⟩)
      have b2 := swp hz hy n2
      revert b1 b2
      cases c ((x : Int), (y : Int)) <;> cases c ((z : Int), (y : Int)) <;> cases c ((y : Int), (z : Int)) <;> simp
  have stp' : ∀ {x y z : Nat}, MC.Sp ws x y z → y < many → c ((y : Int), (x : Int)) = c ((y : Int), (z : Int)) := by
    intro x y z hs hy
    have e := stp hs hy
    obtain ⟨w, hw, q1, q2, q3⟩ := hs
    have hx := inr hw q1
    have hz := inr hw q2
    have n1 : x ≠ y := fun k => q3 (k ▸ q1)
    have n2 : z ≠ y := fun k => q3 (k ▸ q2)
    have b1 := swp hx hy n1
    have b2 := swp hz hy n2
    revert b1 b2 e
    cases c ((x : Int), (y : Int)) <;> cases c ((z : Int), (y : Int)) <;> cases c ((y : Int), (z : Int)) <;> cases c ((y : Int), (x : Int)) <;> simp
  have cls : ∀ {p q : Nat × Nat}, MC.Cl ws p q → c' p = c' q := by
    intro p q h
    induction h with
    | base => rfl
    | @left x y z _ hs ih =>
      rw [ih]
      obtain ⟨w, hw, q1, q2, q3⟩ := id hs
      have hx := inr hw q1
      have hz := inr hw q2
      show (if x < many ∧ y < many then _ else _) = if z < many ∧ y < many then _ else _
      by_cases hy : y < many
      · rw [if_pos ⟨hx, hy⟩, if_pos ⟨hz, hy⟩]
        exact stp hs hy
      · rw [if_neg (fun k => hy k.2), if_neg (fun k => hy k.2)]
        show decide (x < y) = decide (z < y)
        rw [decide_eq_true (by omega), decide_eq_true (by omega)]
    | @right x y z _ hs ih =>
      rw [ih]
      obtain ⟨w, hw, q1, q2, q3⟩ := id hs
      have hx := inr hw q1
      have hz := inr hw q2
      show (if y < many ∧ x < many then _ else _) = if y < many ∧ z < many then _ else _
      by_cases hy : y < many
      · rw [if_pos ⟨hy, hx⟩, if_pos ⟨hy, hz⟩]
        exact stp' hs hy
      · rw [if_neg (fun k => hy k.1), if_neg (fun k => hy k.1)]
        show decide (y < x) = decide (y < z)
        rw [decide_eq_false (by omega), decide_eq_false (by omega)]
  have hB : ∀ a b : Nat, a ≠ b → ¬ MC.Cl ws (a, b) (b, a) := by
    intro a b n h
    have e : (if a < many ∧ b < many then c ((a : Int), (b : Int)) else decide (a < b)) = if b < many ∧ a < many then c ((b : Int), (a : Int)) else decide (b < a) := cls h
    by_cases q : a < many ∧ b < many
    · rw [if_pos q, if_pos ⟨q.2, q.1⟩] at e
      exact swp q.1 q.2 n e
    · rw [if_neg q, if_neg (fun k => q ⟨k.2, k.1⟩)] at e
      by_cases z : a < b
      · rw [decide_eq_true z] at e
        have := of_decide_eq_true e.symm
        omega
      · rw [decide_eq_false z] at e
        have := of_decide_eq_false e.symm
        omega
  obtain ⟨o, h1, h2⟩ := MC.order_some hB many
  refine ⟨o.map fun (i : Nat) => (i : Int), h1.map _, ?_⟩
  unfold keepsB
  rw [List.all_eq_true]
  exact fun w hw => tog_conv.mpr (h2 w hw)

end G

namespace G
open PySem L2 DL DX
/-! ### the first order of all -/
local macro_rules | `(tactic| walk_at "run") => `(tactic| simp [*])
theorem x_first (C : Addr) {many : Nat} {ws : List (List Int)} (hm : many ≤ 8) (hb : ∀ w ∈ ws, ∀ b ∈ w, 0 ≤ b ∧ b < (many : Int)) (hw : ∀ w ∈ ws, w.length < 64) : w_first C [.int many, dW ws] = some (.ok (groR (gro many ws 10 []))) := by
  have eg : w_grown 10 [.int many, dW ws] [] = some (.ok (groR (gro many ws 10 []))) := x_grown (ws := ws) hm hw 10 [] (by simp) (by simp; omega)
  unfold w_first defD m_first
  rcases x_odd C hm hb with ⟨e1, c, hc⟩ | ⟨l, e1, hl⟩
  · clear hb hw hc
    walk_at "run"
  · have hg : gro many ws 10 [] = none := by
      cases hq : gro many ws 10 [] with
      | none => rfl
      | some r =>
        obtain ⟨k1, k2⟩ := gro_keeps hb (by omega) hq
        rw [ring_none hl k1] at k2
        cases k2
    rw [hg]
    unfold groR
    clear hb hw eg hg hl
    walk_at "run"

end G

namespace G
open PySem L2 DL DX
/-! ### the law looks at an odd ring -/
local macro_rules | `(tactic| walk_at "run") => `(tactic| simp [*])
theorem x_is_ring {many : Nat} {ws : List (List Int)} {l : List Tn} (h : Ring many ws l) : w__law_is_ring [.list (l.map tD), .int many, dW ws] = some (.ok (.d (.bool true))) := by
  have xb := x_lbar ws
  have hlen := h.len
  have hodd := h.odd
  have hfew := h.few
  have n1 : ¬ (l.length : Int) < 3 := by omega
  have n2 : (l.length : Int) % 2 = 1 := by omega
  have p1 := fMod_pos (p := (l.length : Int)) (q := 2) (by decide)
  rw [n2] at p1
  unfold w__law_is_ring defD m__law_is_ring
  clear n2
  walk_at "run"
  generalize hf : forL _ _ _ _ = O
  obtain ⟨ρ', rfl, x, rfl⟩ := forL_at hf (fun k ρ => ∃ x, ρ = [.d (.list (l.map tD)), .d (.int many), .d (dW ws), x, .no]) ⟨.no, rfl⟩ (by
    rintro k y ρ hy ⟨x, rfl⟩
    rw [List.getElem?_map] at hy
    obtain ⟨u, eu, rfl⟩ := Option.map_eq_some_iff.mp hy
    have e := x_is_turn (h.tok u (List.mem_of_getElem? eu))
    refine ⟨[.d (.list (l.map tD)), .d (.int many), .d (dW ws), .d (tD u), .no], ?_, _, rfl⟩
    clear h hf
    walk_at "run")
  clear hf
  have r1 := rng1_nat (n := l.length) (by omega)
  simp [r1]
  generalize hf : forL _ _ _ _ = O
  obtain ⟨ρ', rfl, y, rfl⟩ := forL_at hf (fun k ρ => ∃ y, ρ = [.d (.list (l.map tD)), .d (.int many), .d (dW ws), x, y]) ⟨.no, rfl⟩ (by
    rintro k z ρ hz ⟨y, rfl⟩
    obtain ⟨hk, rfl⟩ := range_at hz
    refine ⟨[.d (.list (l.map tD)), .d (.int many), .d (dW ws), x, .d (.int k)], ?_, _, rfl⟩
    have i2 : atI (l.map tD) (k : Int) = some (tD l[k]) := atI_map_lt hk
    cases k with
    | zero =>
      have g := h.cyc (l[l.length - 1]'(by omega)) l[0] (by rw [List.getLast?_eq_getElem?]; exact List.getElem?_eq_getElem _) (by rw [List.head?_eq_getElem?]; exact List.getElem?_eq_getElem _)
      have i1 : atI (l.map tD) (-1) = some (tD (l[l.length - 1]'(by omega))) := by
        rw [atI_neg, List.getLast?_map, List.getLast?_eq_getElem?, List.getElem?_eq_getElem (by omega)]; rfl
      have xb1 := xb (l[l.length - 1]'(by omega)) l[0]
      rw [g] at xb1
      generalize (l[l.length - 1]'(by omega)) = a at i1 xb1
      generalize l[0] = b at i2 xb1
      clear hf xb h hlen hodd hfew g r1 p1
      simp at i2
      walk_at "run"
    | succ k =>
      have g := h.adj k l[k] l[k + 1] (List.getElem?_eq_getElem _) (List.getElem?_eq_getElem _)
      have i1 : atI (l.map tD) (k : Int) = some (tD l[k]) := atI_map_lt (by omega)
      have xb1 := xb l[k] l[k + 1]
      rw [g] at xb1
      generalize l[k] = a at i1 xb1
      generalize l[k + 1] = b at i2 xb1
      have e : ((k + 1 : Nat) : Int) - 1 = (k : Int) := by omega
      rw [← e] at i1
      generalize ((k + 1 : Nat) : Int) = K at i1 i2
      clear hf xb h hlen hodd hfew g r1 p1 e
      walk_at "run")
  clear hf
  walk_at "run"

end G

namespace G
open PySem L2 DL DX
/-! ### judged -/
local macro_rules | `(tactic| walk_at "run") => `(tactic| simp [*])
theorem x_verdict (C : Addr) {many : Nat} {ws : List (List Int)} (hm : many ≤ 8) (hb : ∀ w ∈ ws, ∀ b ∈ w, 0 ≤ b ∧ b < (many : Int)) :
    (w_odd_ring C [.int many, dW ws] = some (.ok (.d .none)) ∧ ∃ r, gro many ws 10 [] = some r ∧ r.Perm (rgI many) ∧ keepsB ws r = true) ∨
    (∃ l, w_odd_ring C [.int many, dW ws] = some (.ok (.o (.lst (l.map tD)))) ∧ Ring many ws l ∧ gro many ws 10 [] = none ∧ ∀ r : List Int, r.Perm (rgI many) → keepsB ws r = false) := by
  rcases x_odd C hm hb with ⟨e1, c, hc⟩ | ⟨l, e1, hl⟩
  · left
    refine ⟨e1, ?_⟩
    obtain ⟨r0, h1, h2⟩ := col_order hb hc
    cases hq : gro many ws 10 [] with
    | none =>
      rw [gro_none hb (by omega) hq h1] at h2
      cases h2
    | some r => exact ⟨r, rfl, gro_keeps hb (by omega) hq⟩
  · right
    refine ⟨l, e1, hl, ?_, fun r hr => ring_none hl hr⟩
    cases hq : gro many ws 10 [] with
    | none => rfl
    | some r =>
      obtain ⟨k1, k2⟩ := gro_keeps hb (by omega) hq
      rw [ring_none hl k1] at k2
      cases k2

end G

namespace G
open PySem L2 DL DX
local macro_rules | `(tactic| walk_at "run") => `(tactic| simp [*])
theorem x_judged (C : Addr) {many : Nat} {ws : List (List Int)} (hm : many ≤ 8) (hb : ∀ w ∈ ws, ∀ b ∈ w, 0 ≤ b ∧ b < (many : Int)) (hw : ∀ w ∈ ws, w.length < 64) :
    (∃ r, w_judged C [.int many, dW ws] = some (.ok (.o (.box (.str "order") (r.map .int)))) ∧ w_odd_ring C [.int many, dW ws] = some (.ok (.d .none)) ∧ gro many ws 10 [] = some r ∧ r.Perm (rgI many) ∧ keepsB ws r = true) ∨
    (∃ l, w_judged C [.int many, dW ws] = some (.ok (.o (.box (.str "ring") (l.map tD)))) ∧ w_odd_ring C [.int many, dW ws] = some (.ok (.o (.lst (l.map tD)))) ∧ Ring many ws l ∧ gro many ws 10 [] = none ∧ ∀ r : List Int, r.Perm (rgI many) → keepsB ws r = false) := by
  have eg : w_grown 10 [.int many, dW ws] [] = some (.ok (groR (gro many ws 10 []))) := x_grown (ws := ws) hm hw 10 [] (by simp) (by simp; omega)
  rcases x_verdict C hm hb with ⟨e1, r, hg, h1, h2⟩ | ⟨l, e1, hl, hg, hn⟩
  · left
    refine ⟨r, ?_, e1, hg, h1, h2⟩
    rw [hg] at eg
    unfold groR at eg
    unfold w_judged defD m_judged
    clear hg h1 h2 hb hw
    walk_at "run"
  · right
    refine ⟨l, ?_, e1, hl, hg, hn⟩
    unfold w_judged defD m_judged
    clear hg hn hb hw eg hl
    walk_at "run"

end G

namespace G
open PySem L2 DL DX
/-! ### clashes -/
local macro_rules | `(tactic| walk_at "run") => `(tactic| simp [*])
/-- no order keeps them -/
def bad (many : Nat) (ws : List (List Int)) : Bool := (gro many ws 10 []).isNone
theorem x_bad (C : Addr) {many : Nat} {ws : List (List Int)} (hm : many ≤ 8) (hb : ∀ w ∈ ws, ∀ b ∈ w, 0 ≤ b ∧ b < (many : Int)) :
    (bad many ws = false ∧ w_odd_ring C [.int many, dW ws] = some (.ok (.d .none))) ∨ (bad many ws = true ∧ ∃ l, w_odd_ring C [.int many, dW ws] = some (.ok (.o (.lst (l.map tD)))) ∧ Ring many ws l) := by
  unfold bad
  rcases x_verdict C hm hb with ⟨e1, r, hg, _⟩ | ⟨l, e1, hl, hg, _⟩
  · left
    rw [hg]
    exact ⟨rfl, e1⟩
  · right
    rw [hg]
    exact ⟨rfl, l, e1, hl⟩
def sel (ws : List (List Int)) (S : List Nat) : List (List Int) := S.map fun i => ws.getD i []
theorem sel_mem {ws : List (List Int)} {S : List Nat} (h : ∀ i ∈ S, i < ws.length) {w : List Int} (hw : w ∈ sel ws S) : w ∈ ws := by
  obtain ⟨i, hi, rfl⟩ := List.mem_map.mp hw
  rw [List.getD_eq_getElem?_getD, List.getElem?_eq_getElem (h i hi)]
  exact List.getElem_mem _
def clStep (many : Nat) (ws : List (List Int)) (S : List Nat) (k : Nat) : List Nat := if bad many (sel ws (S.filter fun i => decide (i ≠ k))) = true then S.filter fun i => decide (i ≠ k) else S
def clF (many : Nat) (ws : List (List Int)) (ks : List Nat) : List Nat := ks.foldl (clStep many ws) (List.range ws.length)
theorem clStep_sub {many : Nat} {ws : List (List Int)} {S : List Nat} {k : Nat} : (clStep many ws S k).Sublist S := by
  unfold clStep
  split
  · exact List.filter_sublist
  · exact List.Sublist.refl _
theorem clF_sub {many : Nat} {ws : List (List Int)} : ∀ (ks : List Nat) (S : List Nat), (ks.foldl (clStep many ws) S).Sublist S
  | [], S => List.Sublist.refl _
  | k :: ks, S => (clF_sub ks (clStep many ws S k)).trans clStep_sub
theorem clF_snoc {many : Nat} {ws : List (List Int)} {k n : Nat} (hk : k < n) : clF many ws ((List.range n).take (k + 1)) = clStep many ws (clF many ws ((List.range n).take k)) k := by
  unfold clF
  rw [List.take_add_one, List.getElem?_range hk, List.foldl_append]
  rfl
abbrev iD (S : List Nat) : List PD := S.map fun (i : Nat) => PyData.int (i : Int)
theorem iD_int (S : List Nat) : (iD S).all intP = true := by
  rw [List.all_map, List.all_eq_true]
  intro x _
  rfl
/-- the numbers but one -/
theorem lc_but (i : Nat) {k : Nat} {S : List Nat} {ρ : List Sl} (hi : i < ρ.length) (hl : S.length ≤ 1000) {m : M Bool} (h : ∀ x : Nat, m (ρ.set i (.d (.int (x : Int)))) = some (.ok (decide (x ≠ k)))) : lcL i m (mV i) ρ (iD S) [] = some (iD (S.filter fun j => decide (j ≠ k))) := by
  rw [lcL_map (fun (i : Nat) => PyData.int (i : Int)) (fun j => decide (j ≠ k)) (fun (i : Nat) => PyData.int (i : Int))]
  · rfl
  · intro x _; exact h x
  · intro x _ _; simp [hi]
  · unfold big; simp; omega
/-- the wishes by their numbers -/
theorem lc_sel (i : Nat) {S : List Nat} {ws : List (List Int)} {ρ : List Sl} (hl : S.length ≤ 1000) (hS : ∀ j ∈ S, j < ws.length) {m : M PD} (h : ∀ x : Nat, m (ρ.set i (.d (.int (x : Int)))) = (atI (ws.map dL) (x : Int)).map .ok) : lcL i (mr true) m ρ (iD S) [] = some ((sel ws S).map dL) := by
  rw [lcL_map (fun (i : Nat) => PyData.int (i : Int)) (fun _ => true) (fun i => dL (ws.getD i []))]
  · unfold sel
    rw [List.map_map, List.filter_eq_self.mpr (fun _ _ => rfl)]
    rfl
  · intro x _; rfl
  · intro x hx _
    have := hS x hx
    rw [h x, atI_map_lt this, List.getD_eq_getElem?_getD, List.getElem?_eq_getElem this]
    rfl
  · unfold big; simp; omega
theorem x_clash (C : Addr) {many : Nat} {ws : List (List Int)} (hm : many ≤ 8) (hl : ws.length ≤ 100) (hb : ∀ w ∈ ws, ∀ b ∈ w, 0 ≤ b ∧ b < (many : Int)) :
    w_clash C [.int many, dW ws] = if bad many ws = true then some (.ok (.o (.lst (iD (clF many ws (List.range ws.length)))))) else some (.ok (.d .none)) := by
  unfold w_clash defD m_clash
  rcases x_bad C hm hb with ⟨h1, h2⟩ | ⟨h1, l, h2, _⟩
  · rw [h1]
    show _ = some (Ro.ok (Rs.d PyData.none))
    clear hb
    walk_at "run"
  · rw [h1]
    show _ = some (Ro.ok (Rs.o (Ow.lst (iD (clF many ws (List.range ws.length))))))
    have r1 := rng1_nat (n := ws.length) (by omega)
    generalize hF : clF many ws (List.range ws.length) = FF
    clear h1
    simp [h2, r1]
    generalize hf : forL _ _ _ _ = O
    obtain ⟨ρ', rfl, x3, x4, x5, rfl⟩ := forL_at hf (fun k ρ => ∃ (x3 x4 x5 : Sl), ρ = [.d (.int many), .d (dW ws), .o (.lst (iD (clF many ws ((List.range ws.length).take k)))), x3, x4, x5]) ⟨_, _, _, rfl⟩ (by
      rintro k x ρ hx ⟨x3, x4, x5, rfl⟩
      obtain ⟨hk, rfl⟩ := range_at hx
      rw [clF_snoc hk]
      have hsub := clF_sub (many := many) (ws := ws) ((List.range ws.length).take k) (List.range ws.length)
      have hsub' : (clF many ws ((List.range ws.length).take k)).Sublist (List.range ws.length) := hsub
      generalize clF many ws ((List.range ws.length).take k) = S at hsub'
      have sl := hsub'.length_le
      rw [List.length_range] at sl
      have sm : ∀ j ∈ S.filter (fun j => decide (j ≠ k)), j < ws.length := fun j hj => List.mem_range.mp (hsub'.subset (List.mem_filter.mp hj).1)
      have c1 := lc_but 5 (k := k) (S := S) (ρ := [.d (.int many), .d (dW ws), .d (.list (iD S)), .d (.int k), x4, x5]) (by simp) (by omega) (m := mB (m2 fNe (mV 5) (mV 3))) (by
        intro x
        have e : (!decide ((x : Int) = (k : Int))) = decide (x ≠ k) := by
          by_cases q : x = k
          · subst q; simp
          · have : ¬ (x : Int) = (k : Int) := by omega
            simp [q, this]
        clear hf hsub hsub' sm hb hF
        walk_at "run")
      have hbad := x_bad C (ws := sel ws (S.filter fun j => decide (j ≠ k))) hm (fun w hw => hb w (sel_mem sm hw))
      have fl : (S.filter fun j => decide (j ≠ k)).length ≤ 1000 := Nat.le_trans (List.length_filter_le _ _) (by omega)
      unfold clStep
      generalize S.filter (fun j => decide (j ≠ k)) = R at c1 hbad sm fl
      have c2 := lc_sel 5 (S := R) (ws := ws) (ρ := [.d (.int many), .d (dW ws), .o (.lst (iD S)), .d (.int k), .d (.list (iD R)), x5]) fl sm (m := m2 fIx (mV 1) (mV 5)) (by
        intro x
        simp [ml_ap])
      have ai := iD_int R
      rcases hbad with ⟨g1, g2⟩ | ⟨g1, l2, g2, _⟩
      · rw [g1, if_neg (by decide)]
        refine ⟨[.d (.int many), .d (dW ws), .o (.lst (iD S)), .d (.int k), .o (.lst (iD R)), x5], ?_, _, _, _, rfl⟩
        clear g1 hf hsub hsub' sm hb hF hm h2 r1 hx fl sl
        walk_at "run"
      · rw [g1, if_pos rfl]
        refine ⟨[.d (.int many), .d (dW ws), .o (.lst (iD R)), .d (.int k), .no, x5], ?_, _, _, _, rfl⟩
        clear g1 hf hsub hsub' sm hb hF hm h2 r1 hx fl sl
        walk_at "run")
    rw [List.length_map, List.take_length, hF]
    rfl

end G

namespace G
open PySem L2 DL DX
/-! what a shelf does -/
local macro_rules | `(tactic| walk_at "run") => `(tactic| simp [*, asInts_map])
theorem usort_of {ns : List Int} (h : ns.Pairwise (· < ·)) : usort ns = ns := rising_uniq (usort_lt ns) h fun z => mem_usort
theorem lcLO_map {α : Type} {i : Nat} {me : M Rs} {ρ : List Sl} (f : α → PD) (g : α → List PD) : ∀ (l : List α) (acc : List (List PD)), (∀ a ∈ l, me (ρ.set i (.d (f a))) = some (.ok (.o (.lst (g a))))) → acc.length + l.length ≤ big →
    lcLO i me ρ (l.map f) acc = some (.ok (.o (.arr none ((acc ++ l.map g).map .lst))))
  | [], acc, _, _ => by simp [lcLO]
  | a :: l, acc, h, hl => by
    rw [List.length_cons] at hl
    rw [List.map_cons]
    unfold lcLO
    rw [h a List.mem_cons_self]
    show (if acc.length < big then _ else none) = _
    rw [if_pos (by omega), lcLO_map f g l (acc ++ [g a]) (fun b hb => h b (List.mem_cons_of_mem _ hb)) (by simp; omega)]
    simp
/-- a list's lists, each its own -/
abbrev oH (ss : List (List Int)) : List Ob := ss.map fun s : List Int => .lst (s.map PyData.int)
theorem oH_dat (ss : List (List Int)) : (oH ss).map Ob.dat = ss.map dL := by rw [List.map_map]; rfl
theorem x_held {m : Int} {held : List (List Int)} (hh : held.length ≤ 1000) : w_Shelf_wishes [shfD m held] = some (.ok (.o (.arr none (oH held)))) := by
  have L := lcLO_map (i := 1) (me := mC fList (mCons (mV 1) mNil)) (ρ := [.d (shfD m held), .no]) dL (fun s : List Int => s.map PyData.int) held [] (fun a _ => by simp) (by simp; unfold big; omega)
  rw [show w_Shelf_wishes = defD 1 2 m_Shelf_wishes from rfl]
  unfold defD m_Shelf_wishes
  simp [L]
section
variable (C1 C2 : Addr) {m : Int} {held : List (List Int)} {w : List Int}
theorem ask_off (h : offW m w = true) : w_ask C1 [.int m, .list [.list (w.map .int)]] = some (.ex C1) := by
  have e := x_ask C1 m [w]
  rw [if_pos (by unfold offWs; simpa using h)] at e
  exact e
theorem ask_in (h : offW m w = false) : w_ask C1 [.int m, .list [.list (w.map .int)]] = some (.ok (.d .none)) := by
  have e := x_ask C1 m [w]
  rw [if_neg (by unfold offWs; simp [h])] at e
  exact e
theorem put_off (h : offW m w = true) : w_Shelf_put C1 C2 [.shf m held] [dL w] = some (.ex C1, [.shf m held]) := by
  have e := ask_off C1 h
  have b1 : 1 ≤ big := by decide
  rw [show w_Shelf_put C1 C2 = defW 1 2 2 (m_Shelf_put (w_ask C1) C2) from rfl]
  refine defW1 rfl fun a f => ?_
  unfold m_Shelf_put
  walk_at "run"
theorem put_full (h : offW m w = false) (hh : 12 ≤ held.length) : w_Shelf_put C1 C2 [.shf m held] [dL w] = some (.ex C2, [.shf m held]) := by
  have e := ask_in C1 h
  have hz : (12 : Int) ≤ (held.length : Int) := by omega
  have b1 : 1 ≤ big := by decide
  rw [show w_Shelf_put C1 C2 = defW 1 2 2 (m_Shelf_put (w_ask C1) C2) from rfl]
  refine defW1 rfl fun a f => ?_
  unfold m_Shelf_put
  walk_at "run"
theorem put_in (h : offW m w = false) (hw : w.length < 64) (hh : held.length < 12) : w_Shelf_put C1 C2 [.shf m held] [dL w] = some (.ok (.int ((held.length : Int) + 1)), [.shf m (held ++ [usort w])]) := by
  have e := ask_in C1 h
  have so := fSoS_i hw
  have hz : ¬ (12 : Int) ≤ (held.length : Int) := by omega
  have hb : held.length < big := by unfold big; omega
  have b1 : 1 ≤ big := by decide
  rw [show w_Shelf_put C1 C2 = defW 1 2 2 (m_Shelf_put (w_ask C1) C2) from rfl]
  refine defW1 rfl fun a f => ?_
  unfold m_Shelf_put
  walk_at "run"
variable (C3 : Addr) {z : Int}
theorem take_off (h : z < 0 ∨ (held.length : Int) ≤ z) : w_Shelf_take C3 [.shf m held] [.int z] = some (.ex C3, [.shf m held]) := by
  rw [show w_Shelf_take C3 = defW 1 2 2 (m_Shelf_take C3) from rfl]
  refine defW1 rfl fun a f => ?_
  unfold m_Shelf_take
  by_cases h1 : z < 0
  · walk_at "run"
  · have h2 : (held.length : Int) ≤ z := h.resolve_left h1
    clear h
    walk_at "run"
theorem take_in {y : List Int} (h0 : 0 ≤ z) (hg : held[z.toNat]? = some y) (hh : held.length ≤ 1000) : w_Shelf_take C3 [.shf m held] [.int z] = some (.ok (dL y), [.shf m (held.eraseIdx z.toNat)]) := by
  rw [show w_Shelf_take C3 = defW 1 2 2 (m_Shelf_take C3) from rfl]
  refine defW1 rfl fun a f => ?_
  have h1 := (List.getElem?_eq_some_iff.mp hg).1
  have k0 : ¬ z < 0 := by omega
  have k1 : ¬ (held.length : Int) ≤ z := by omega
  have hb : held.length < big := by unfold big; omega
  unfold m_Shelf_take
  clear h1
  walk_at "run"
end

end G

namespace G
open PySem L2 DL DX
/-! what a shelf tells -/
theorem x_told (C : Addr) {m : Int} {ws : List (List Int)} {r : Rs} (e : w_judged C [.int m, dW ws] = some (.ok r)) : w_Shelf_told C [shfD m ws] = some (.ok r) := by
  have e' : w_judged C [.int m, .list (ws.map fun w => .list (w.map .int))] = some (.ok r) := e
  rw [show w_Shelf_told C = defD 1 1 (m_Shelf_told (w_judged C)) from rfl]
  unfold defD m_Shelf_told
  simp [e']
theorem x_worst (C : Addr) {m : Int} {ws : List (List Int)} {r : Rs} (e : w_clash C [.int m, dW ws] = some (.ok r)) : w_Shelf_worst C [shfD m ws] = some (.ok r) := by
  have e' : w_clash C [.int m, .list (ws.map fun w => .list (w.map .int))] = some (.ok r) := e
  rw [show w_Shelf_worst C = defD 1 1 (m_Shelf_worst (w_clash C)) from rfl]
  unfold defD m_Shelf_worst
  simp [e']
theorem fNe_oo : fNe (.str "order") (.str "order") = some (.bool false) := fNe_refl (n := 0) ⟨by decide +kernel, by decide +kernel⟩
theorem fNe_rr : fNe (.str "ring") (.str "ring") = some (.bool false) := fNe_refl (n := 0) ⟨by decide +kernel, by decide +kernel⟩
/-- what a clash is told as -/
inductive CR : Rs → PD → Prop
  | none : CR (.d .none) .none
  | some (ys : List PD) : ys.length < big → fNe (.list ys) (.list ys) = some (.bool false) → CR (.o (.lst ys)) (.list ys)
theorem x_tells (C : Addr) {many : Nat} {ws : List (List Int)} (hm : many ≤ 8) (hl : ws.length ≤ 100) (hb : ∀ w ∈ ws, ∀ b ∈ w, 0 ≤ b ∧ b < (many : Int)) (hw : ∀ w ∈ ws, w.length < 64) : w__law_tells C [shfD many ws, dW ws, .int many] = some (.ok (.d (.bool true))) := by
  have ef := x_first C hm hb hw
  have lc : ∀ (ρ : List Sl), 5 < ρ.length → lcL 5 (mr true) (mDat (mC fList (mCons (mV 5) mNil))) ρ (ws.map dL) [] = some (ws.map dL) := fun ρ h => lc_copy h (by omega)
  obtain ⟨rc, xc, ec, hc⟩ : ∃ rc xc, w_clash C [.int many, dW ws] = some (.ok rc) ∧ CR rc xc := by
    have e := x_clash C hm hl hb
    split at e
    · refine ⟨_, _, e, .some _ ?_ (fNe_refl (Enc.nat.list.shp _))⟩
      have h := (clF_sub (many := many) (ws := ws) (List.range ws.length) (List.range ws.length)).length_le
      have h2 : (clF many ws (List.range ws.length)).length ≤ ws.length := by
        show (List.foldl (clStep many ws) (List.range ws.length) (List.range ws.length)).length ≤ ws.length
        simpa using h
      simp
      unfold big
      omega
    · exact ⟨_, _, e, .none⟩
  have ew := x_worst C ec
  have s1 := fNe_oo
  have s2 := fNe_rr
  have b2 : 2 ≤ big := by decide
  have n0 : fNe .none .none = some (.bool false) := fNe_refl Shp.none
  rw [show w__law_tells C = defD 3 10 (m__law_tells (w_Shelf_told C) (w_first C) (w_clash C) (w_Shelf_worst C) w__law_is_ring) from rfl]
  unfold defD m__law_tells
  rcases x_judged C hm hb hw with ⟨r, e1, e2, e3, e4, e5⟩ | ⟨l, e1, e2, e3, e4, e5⟩
  · have et := x_told C e1
    rw [e3] at ef
    unfold groR at ef
    have f2 := fNe_refl (encL.shp r)
    clear hb hw e4 e5 e3 hm e1 e2
    cases hc with
    | none =>
      simp [*]
      generalize hf : forL _ _ _ _ = O
      obtain ⟨ρ', rfl, x5, x7, x8, x9, rfl⟩ := forL_at hf (fun k ρ => ∃ x5 x7 x8 x9 : Sl, ρ = [.d (shfD many ws), .d (dW ws), .d (.int many), .d (.tuple [.str "order", dL r]), .d (dL r), x5, .d .none, x7, x8, x9]) ⟨_, _, _, _, rfl⟩ (by
        rintro k y ρ hy ⟨x5, x7, x8, x9, rfl⟩
        refine ⟨[.d (shfD many ws), .d (dW ws), .d (.int many), .d (.tuple [.str "order", dL r]), .d (dL r), x5, .d .none, .d y, .d .none, .o (.box (.str "order") [])], ?_, _, _, _, _, rfl⟩
        clear hf hy
        simp [*])
      simp
    | some ys h1 h2 =>
      simp [*]
      generalize hf : forL _ _ _ _ = O
      obtain ⟨ρ', rfl, x5, x7, x8, x9, rfl⟩ := forL_at hf (fun k ρ => ∃ x5 x7 x8 x9 : Sl, ρ = [.d (shfD many ws), .d (dW ws), .d (.int many), .d (.tuple [.str "order", dL r]), .d (dL r), x5, .d (.list ys), x7, x8, x9]) ⟨_, _, _, _, rfl⟩ (by
        rintro k y ρ hy ⟨x5, x7, x8, x9, rfl⟩
        refine ⟨[.d (shfD many ws), .d (dW ws), .d (.int many), .d (.tuple [.str "order", dL r]), .d (dL r), x5, .d (.list ys), .d y, .o (.lst (ys ++ [.int 0])), .o (.box (.str "order") [])], ?_, _, _, _, _, rfl⟩
        clear hf hy
        simp [*])
      simp
  · have et := x_told C e1
    rw [e4] at ef
    unfold groR at ef
    have e6 := x_is_ring e3
    clear hb hw e4 e5 e3 hm e1 e2
    cases hc with
    | none =>
      simp [*]
      generalize hf : forL _ _ _ _ = O
      obtain ⟨ρ', rfl, x5, x7, x8, x9, rfl⟩ := forL_at hf (fun k ρ => ∃ x5 x7 x8 x9 : Sl, ρ = [.d (shfD many ws), .d (dW ws), .d (.int many), .d (.tuple [.str "ring", .list (l.map tD)]), .d .none, x5, .d .none, x7, x8, x9]) ⟨_, _, _, _, rfl⟩ (by
        rintro k y ρ hy ⟨x5, x7, x8, x9, rfl⟩
        refine ⟨[.d (shfD many ws), .d (dW ws), .d (.int many), .d (.tuple [.str "ring", .list (l.map tD)]), .d .none, x5, .d .none, .d y, .d .none, .o (.box (.str "ring") [])], ?_, _, _, _, _, rfl⟩
        clear hf hy
        simp [*])
      simp
    | some ys h1 h2 =>
      simp [*]
      generalize hf : forL _ _ _ _ = O
      obtain ⟨ρ', rfl, x5, x7, x8, x9, rfl⟩ := forL_at hf (fun k ρ => ∃ x5 x7 x8 x9 : Sl, ρ = [.d (shfD many ws), .d (dW ws), .d (.int many), .d (.tuple [.str "ring", .list (l.map tD)]), .d .none, x5, .d (.list ys), x7, x8, x9]) ⟨_, _, _, _, rfl⟩ (by
        rintro k y ρ hy ⟨x5, x7, x8, x9, rfl⟩
        refine ⟨[.d (shfD many ws), .d (dW ws), .d (.int many), .d (.tuple [.str "ring", .list (l.map tD)]), .d .none, x5, .d (.list ys), .d y, .o (.lst (ys ++ [.int 0])), .o (.box (.str "ring") [])], ?_, _, _, _, _, rfl⟩
        clear hf hy
        simp [*])
      simp

end G

namespace G
open PySem L2 DL DX
/-! what a shelf refuses -/
section
variable (C1 C2 C3 C4 C5 C6 : Addr) {m : Int} {held : List (List Int)} {w : List Int}
theorem ref_put (hd : [C1, C2, C3, C4, C5, C6].Nodup) (h : offW m w = true) (z : Int) :
    w__law_refused C1 C2 C3 C4 C5 C6 [.shf m held] [.int 0, dL w, .int z] = some (.ok (.list [.bool true, .bool false, .bool false, .bool false, .bool false, .bool false, .bool true]), [.shf m held]) := by
  have e := put_off C1 C5 (held := held) h
  simp only [List.nodup_cons, List.mem_cons, List.not_mem_nil, or_false, not_or] at hd
  obtain ⟨⟨d1, d2, d3, d4, d5⟩, ⟨d6, d7, d8, d9⟩, ⟨d10, d11, d12⟩, ⟨d13, d14⟩, d15, _⟩ := hd
  rw [show w__law_refused C1 C2 C3 C4 C5 C6 = defW 1 4 6 (m__law_refused (w_Shelf_put C1 C5) (w_Shelf_take C4) (w__law_which C1 C2 C3 C4 C5 C6) C1 C4 C5) from rfl]
  refine defW1 rfl fun a f => ?_
  unfold m__law_refused
  have b0 : 0 ≤ big := by decide
  simp [b0]
  rw [wTry_ex (c := C1) (ρ' := [.o (.par a f (.shf m held)), .d (.int 0), .d (dL w), .d (.int z), .d (.list []), .no]) (y := [.o (.par a f (.shf m held)), .d (.int 0), .d (dL w), .d (.int z), .d (.list [.bool true, .bool false, .bool false, .bool false, .bool false, .bool false, .bool true]), .no]) (by simp [vIfB, e]) (by simp)
    (fun q => by simp [mWhich, w__law_which, d1, d2, d3, d4, d5])]
  simp
theorem ref_take (hd : [C1, C2, C3, C4, C5, C6].Nodup) {z : Int} (h : z < 0 ∨ (held.length : Int) ≤ z) :
    w__law_refused C1 C2 C3 C4 C5 C6 [.shf m held] [.int 1, .list [], .int z] = some (.ok (.list [.bool false, .bool true, .bool false, .bool false, .bool false, .bool false, .bool true]), [.shf m held]) := by
  have e := take_off C4 (m := m) h
  simp only [List.nodup_cons, List.mem_cons, List.not_mem_nil, or_false, not_or] at hd
  obtain ⟨⟨d1, d2, d3, d4, d5⟩, ⟨d6, d7, d8, d9⟩, ⟨d10, d11, d12⟩, ⟨d13, d14⟩, d15, _⟩ := hd
  rw [show w__law_refused C1 C2 C3 C4 C5 C6 = defW 1 4 6 (m__law_refused (w_Shelf_put C1 C5) (w_Shelf_take C4) (w__law_which C1 C2 C3 C4 C5 C6) C1 C4 C5) from rfl]
  refine defW1 rfl fun a f => ?_
  unfold m__law_refused
  have b0 : 0 ≤ big := by decide
  simp [b0]
  rw [wTry_ex (c := C4) (ρ' := [.o (.par a f (.shf m held)), .d (.int 1), .d (.list []), .d (.int z), .d (.list []), .no]) (y := [.o (.par a f (.shf m held)), .d (.int 1), .d (.list []), .d (.int z), .d (.list [.bool false, .bool true, .bool false, .bool false, .bool false, .bool false, .bool true]), .no]) (by simp [vIfB, e]) (by simp)
    (fun q => by simp [mWhich, w__law_which, Ne.symm d3, Ne.symm d7, Ne.symm d10, d13, d14])]
  simp
theorem put2_in (h : offW m w = false) (hw : w.length < 64) (hh : held.length < 12) : w_Shelf_put2 C1 C2 [.shf m held, .lst (w.map .int)] [] = some (.ok (.int ((held.length : Int) + 1)), [.shf m (held ++ [usort w]), .lst (w.map .int)]) := by
  have e := ask_in C1 h
  have so := fSoS_i hw
  have so' : fSoS (.list (w.map .int)) = some (.o (.lst ((usort w).map .int))) := so
  have hz : ¬ (12 : Int) ≤ (held.length : Int) := by omega
  have hb : held.length < big := by unfold big; omega
  have b1 : 1 ≤ big := by decide
  rw [show w_Shelf_put2 C1 C2 = defW 2 2 2 (m_Shelf_put2 (w_ask C1) C2) from rfl]
  refine defW2 rfl fun a f a2 f2 => ?_
  unfold m_Shelf_put2
  simp [*, asInts_map]
end

end G

namespace G
open PySem L2 DL DX
/-! one deed -/
/-- what a shelf may hold -/
structure HeldOk (m : Nat) (held : List (List Int)) : Prop where
  len : held.length ≤ 12
  ok : ∀ w ∈ held, w.Pairwise (· < ·) ∧ (∀ b ∈ w, 0 ≤ b ∧ b < (m : Int)) ∧ w.length ≤ m
theorem HeldOk.snoc {m : Nat} {held : List (List Int)} {s : List Int} (h : HeldOk m held) (hl : held.length < 12) (h1 : s.Pairwise (· < ·)) (h2 : ∀ b ∈ s, 0 ≤ b ∧ b < (m : Int)) (h3 : s.length ≤ m) : HeldOk m (held ++ [s]) :=
  ⟨by simp; omega, fun w hw => by
    rcases List.mem_append.mp hw with z | z
    · exact h.ok w z
    · rw [List.mem_singleton.mp z]; exact ⟨h1, h2, h3⟩⟩
theorem HeldOk.erase {m : Nat} {held : List (List Int)} {n : Nat} (h : HeldOk m held) : HeldOk m (held.eraseIdx n) :=
  ⟨by rw [List.length_eraseIdx]; have := h.len; split <;> omega, fun w hw => h.ok w ((List.eraseIdx_sublist held n).subset hw)⟩
theorem in_off {m : Nat} {w : List Int} (h : ∀ b ∈ w, 0 ≤ b ∧ b < (m : Int)) : offW m w = false := by
  unfold offW
  rw [List.any_eq_false]
  intro b hb e
  have := h b hb
  unfold offB at e
  simp at e
  omega
theorem usort_rev {s : List Int} (h : s.Pairwise (· < ·)) : usort (s.reverse ++ s) = s := rising_uniq (usort_lt _) h fun z => by rw [mem_usort]; simp
theorem sIx_k {n d k : Nat} (h : k ≤ n) : HT.sIx n d (some (k : Int)) = k := by rw [HT.sIx_nat]; omega
abbrev tF (b0 b1 b2 b3 b4 b5 b6 : Bool) : PD := .list [.bool b0, .bool b1, .bool b2, .bool b3, .bool b4, .bool b5, .bool b6]
section
variable {C1 C2 C3 C4 C5 C6 : Addr} {m : Nat} {held : List (List Int)} {cell : Int} {s : List Int}
theorem f_8 (p : Int) : fMod (.int p) (.int 8) = some (.int (p % 8)) := fMod_pos (by decide)
theorem d_8 (p : Int) : fDiv (.int p) (.int 8) = some (.int (p / 8)) := fDiv_pos (by decide) (by decide)
theorem deed_def : w__law_deed C1 C2 C3 C4 C5 C6 = defW 2 4 14 (m__law_deed w__law_set (w_Shelf_put2 C1 C5) w__law_whole (w__law_refused C1 C2 C3 C4 C5 C6) (w_Shelf_take C4) (w__law_tells C1)) := rfl
/-- a wish put -/
theorem deed_put (hm : m ≤ 8) (H : HeldOk m held) (es : w__law_set [.int (cell / 8), .int m] = some (.ok (.o (.lst (s.map .int))))) (s1 : s.Pairwise (· < ·)) (s2 : ∀ b ∈ s, 0 ≤ b ∧ b < (m : Int)) (s3 : s.length ≤ m)
    (hw : cell % 8 < 4) (hl : held.length < 12) : w__law_deed C1 C2 C3 C4 C5 C6 [.shf m held, .lst (held.map dL)] [.int cell, .int m] = some (.ok (.bool true), [.shf m (held ++ [s]), .lst ((held ++ [s]).map dL)]) := by
  rw [deed_def]
  refine defW2 rfl fun a f a2 f2 => ?_
  unfold m__law_deed
  have f8 := f_8
  have d8 := d_8
  have wh := x_whole_i
  have hl2 : (held.length : Int) < 12 := by omega
  have hb : held.length < big := by unfold big; omega
  have hsb : s.length < big := by unfold big; omega
  have hsb2 : s.length + s.length ≤ big := by unfold big; omega
  have hsb3 : s.length + s.length < big := by unfold big; omega
  by_cases h3 : cell % 8 = 3
  · have e := put2_in C1 C5 (m := (m : Int)) (held := held) (w := s.reverse ++ s) (in_off fun b hb => s2 b (by simpa using hb)) (by simp; omega) hl
    rw [usort_rev s1] at e
    have ne := fNe_refl (encL.shp (s.reverse ++ s))
    simp only [dL, List.map_append, List.map_reverse] at e ne
    clear s1 s2 s3 H hm
    simp [*, sClrB]
  · have e := put2_in C1 C5 (m := (m : Int)) (held := held) (w := s) (in_off s2) (by omega) hl
    rw [usort_of s1] at e
    have ne := fNe_refl (encL.shp s)
    clear s1 s2 s3 H hm
    simp [*]
/-- a wish with a book that isn't there -/
theorem ill_off {g : Int} (k : Nat) (hg : offB m g = true) : offW m (s.take k ++ g :: s.drop k) = true := by unfold offW; simp [hg]
theorem fSl_li {xs : List PD} {lo hi : Option Int} : fSl lo hi (.list xs) = some (.o (.lst (cutL xs lo hi))) := rfl
theorem deed_ill (hd : [C1, C2, C3, C4, C5, C6].Nodup) (hm : m ≤ 8) (es : w__law_set [.int (cell / 8), .int m] = some (.ok (.o (.lst (s.map .int))))) (s3 : s.length ≤ m)
    (hw : cell % 8 = 4) : w__law_deed C1 C2 C3 C4 C5 C6 [.shf m held, .lst (held.map dL)] [.int cell, .int m] = some (.ok (.bool true), [.shf m held, .lst (held.map dL)]) := by
  rw [deed_def]
  refine defW2 rfl fun a f a2 f2 => ?_
  unfold m__law_deed
  have f8 := f_8
  have d8 := d_8
  have d64 : ∀ p, fDiv (.int p) (.int 64) = some (.int (p / 64)) := fun p => fDiv_pos (by decide) (by decide)
  have d32 : ∀ p, fDiv (.int p) (.int 32) = some (.int (p / 32)) := fun p => fDiv_pos (by decide) (by decide)
  have f4 : ∀ p, fMod (.int p) (.int 4) = some (.int (p % 4)) := fun p => fMod_pos (by decide)
  obtain ⟨N, fp, hN⟩ : ∃ N : Int, fPow (.int 10) (.int 30) = some (.int N) ∧ 0 < N := ⟨10 ^ 30, rfl, by decide⟩
  obtain ⟨q, fN, n1⟩ : ∃ q : Int, fMod (.int (cell / 64)) (.int N) = some (.int q) ∧ 0 ≤ q := ⟨_, fMod_pos hN, Int.emod_nonneg _ (by omega)⟩
  have fS : ∀ p, fMod (.int p) (.int ((s.length : Int) + 1)) = some (.int (p % ((s.length : Int) + 1))) := fun p => fMod_pos (by omega)
  have q1 := Int.emod_nonneg (cell / 32) (show (s.length : Int) + 1 ≠ 0 by omega)
  have q2 := Int.emod_lt_of_pos (cell / 32) (show (0 : Int) < (s.length : Int) + 1 by omega)
  obtain ⟨k, hk⟩ : ∃ k : Nat, cell / 32 % ((s.length : Int) + 1) = (k : Int) := ⟨(cell / 32 % ((s.length : Int) + 1)).toNat, by omega⟩
  have hks : k ≤ s.length := by omega
  have cu1 : fSl none (some (k : Int)) (.list (s.map .int)) = some (.o (.lst ((s.take k).map .int))) := by
    rw [fSl_li]
    unfold cutL
    rw [HT.sIx_none, sIx_k (by simpa using hks)]
    simp
  have cu2 : fSl (some (k : Int)) none (.list (s.map .int)) = some (.o (.lst ((s.drop k).map .int))) := by
    rw [fSl_li]
    unfold cutL
    rw [HT.sIx_none, sIx_k (by simpa using hks), List.map_drop, List.take_of_length_le (by simp)]
  have lta : (s.take k).length ≤ 8 := by simp; omega
  have ltb : (s.drop k).length ≤ 8 := by simp; omega
  have off := fun g => ill_off (m := m) (s := s) (g := g) k
  have rp := fun (w : List Int) (h : offW m w = true) => ref_put C1 C2 C3 C4 C5 C6 (held := held) hd h 0
  generalize s.take k = sa at *
  generalize s.drop k = sb at *
  have b1 : sa.length + 1 ≤ big := by unfold big; omega
  have b2 : sa.length + (sb.length + 1) ≤ big := by unfold big; omega
  have b3 : sa.length + 1 + sb.length ≤ big := by unfold big; omega
  have b4 : 4 ≤ big := by decide
  have b5 : 1 ≤ big := by decide
  have b7 : 7 ≤ big := by decide
  have eqf : fEq (tF true false false false false false true) (tF true false false false false false true) = some (.bool true) := rfl
  have fin : ∀ g : Int, offB m g = true → atI [.int (-1), .int (m : Int), .int ((m : Int) + q), .int (-1 - q)] (cell / 8 % 4) = some (PyData.int g) → finW [a, a2] [f, f2] (m__law_deed w__law_set (w_Shelf_put2 C1 C5) w__law_whole (w__law_refused C1 C2 C3 C4 C5 C6) (w_Shelf_take C4) (w__law_tells C1)
      ((.o (.par a f (.shf m held)) : Sl) :: .o (.par a2 f2 (.lst (held.map dL))) :: ([.int cell, .int (m : Int)].map Sl.d ++ List.replicate (14 - 4) .no))) = some (.ok (.bool true), [.shf m held, .lst (held.map dL)]) := by
    intro g hg eg
    have e := rp _ (off g hg)
    simp only [dL, List.map_append, List.map_cons] at e
    unfold m__law_deed
    clear off rp hd hm hks q1 q2 hN s3 lta ltb n1 hg
    simp [*]
  unfold m__law_deed at fin
  rcases (show cell / 8 % 4 = 0 ∨ cell / 8 % 4 = 1 ∨ cell / 8 % 4 = 2 ∨ cell / 8 % 4 = 3 by omega) with h | h | h | h
  · exact fin (-1) (by unfold offB; simp) (by rw [h]; rfl)
  · exact fin m (by unfold offB; simp) (by rw [h]; rfl)
  · exact fin ((m : Int) + q) (by unfold offB; simp; omega) (by rw [h]; rfl)
  · exact fin (-1 - q) (by unfold offB; simp; omega) (by rw [h]; rfl)
/-- what it tells asked -/
theorem deed_tells (hm : m ≤ 8) (H : HeldOk m held) (es : w__law_set [.int (cell / 8), .int m] = some (.ok (.o (.lst (s.map .int)))))
    (hw : cell % 8 < 4 ∧ held.length = 12 ∨ cell % 8 = 7) : w__law_deed C1 C2 C3 C4 C5 C6 [.shf m held, .lst (held.map dL)] [.int cell, .int m] = some (.ok (.bool true), [.shf m held, .lst (held.map dL)]) := by
  rw [deed_def]
  refine defW2 rfl fun a f a2 f2 => ?_
  unfold m__law_deed
  have f8 := f_8
  have d8 := d_8
  have et := x_tells C1 hm (by have := H.len; omega) (fun w hw => (H.ok w hw).2.1) (fun w hw => by have := (H.ok w hw).2.2; omega)
  have fL : ∀ p, fMod (.int p) (.int ((held.length : Int) + 2)) = some (.int (p % ((held.length : Int) + 2))) := fun p => fMod_pos (by omega)
  rcases hw with ⟨h1, h2⟩ | h
  · have h4 : ¬ cell % 8 = 4 := by omega
    have h5 : ¬ cell % 8 = 5 := by omega
    have h6 : ¬ cell % 8 = 6 := by omega
    have h7 : ¬ (held.length : Int) < 12 := by omega
    have h8 : ¬ held.length < 12 := by omega
    rw [h2] at fL
    have fL' : ∀ p, fMod (.int p) (.int 14) = some (.int (p % 14)) := fun p => fMod_pos (by decide)
    clear H hm
    simp [*]
  · clear H hm
    simp [*]
/-- a number that isn't there -/
theorem deed_gone (hd : [C1, C2, C3, C4, C5, C6].Nodup) (H : HeldOk m held) (es : w__law_set [.int (cell / 8), .int m] = some (.ok (.o (.lst (s.map .int)))))
    (hw : cell % 8 = 5 ∨ cell % 8 = 6) (z : Int) (hz : (cell % 8 = 5 ∧ cell / 8 % 7 = 6 ∧ ∀ N : Int, fPow (.int 10) (.int 30) = some (.int N) → atI [.int (-1 - cell / 64 % N), .int ((held.length : Int) + cell / 64 % N)] (cell / 56 % 2) = some (PyData.int z)) ∨ (¬ (cell % 8 = 5 ∧ cell / 8 % 7 = 6) ∧ z = cell / 8 % ((held.length : Int) + 2) - 1))
    (ho : z < 0 ∨ (held.length : Int) ≤ z) : w__law_deed C1 C2 C3 C4 C5 C6 [.shf m held, .lst (held.map dL)] [.int cell, .int m] = some (.ok (.bool true), [.shf m held, .lst (held.map dL)]) := by
  rw [deed_def]
  refine defW2 rfl fun a f a2 f2 => ?_
  unfold m__law_deed
  have f8 := f_8
  have d8 := d_8
  have d64 : ∀ p, fDiv (.int p) (.int 64) = some (.int (p / 64)) := fun p => fDiv_pos (by decide) (by decide)
  have d56 : ∀ p, fDiv (.int p) (.int 56) = some (.int (p / 56)) := fun p => fDiv_pos (by decide) (by decide)
  have f7 : ∀ p, fMod (.int p) (.int 7) = some (.int (p % 7)) := fun p => fMod_pos (by decide)
  have f22 : ∀ p, fMod (.int p) (.int 2) = some (.int (p % 2)) := fun p => fMod_pos (by decide)
  have fL : ∀ p, fMod (.int p) (.int ((held.length : Int) + 2)) = some (.int (p % ((held.length : Int) + 2))) := fun p => fMod_pos (by omega)
  have e := ref_take C1 C2 C3 C4 C5 C6 (m := (m : Int)) hd ho
  have b0 : 0 ≤ big := by decide
  have b2 : 2 ≤ big := by decide
  have b7 : 7 ≤ big := by decide
  have eqf : fEq (tF false true false false false false true) (tF false true false false false false true) = some (.bool true) := rfl
  have ho' : z < 0 ∨ ¬ z < 0 ∧ (held.length : Int) ≤ z := by omega
  rcases hz with ⟨h5, h6, hN⟩ | ⟨hn, hz⟩
  · obtain ⟨N, fp, hN0⟩ : ∃ N : Int, fPow (.int 10) (.int 30) = some (.int N) ∧ 0 < N := ⟨10 ^ 30, rfl, by decide⟩
    have fN : ∀ p, fMod (.int p) (.int N) = some (.int (p % N)) := fun p => fMod_pos hN0
    have hA := hN N fp
    clear hN hd hw H ho hN0
    rcases ho' with h1 | ⟨h1, h2⟩
    · simp [*]
    · simp [*]
  · clear hd H ho
    rcases hw with h | h
    · have h7 : ¬ cell / 8 % 7 = 6 := fun y => hn ⟨h, y⟩
      clear hn
      subst hz
      rcases ho' with h1 | ⟨h1, h2⟩
      · simp [*]
      · simp [*]
    · clear hn
      subst hz
      rcases ho' with h1 | ⟨h1, h2⟩
      · simp [*]
      · simp [*]
/-- a wish taken away -/
theorem deed_take (H : HeldOk m held) (es : w__law_set [.int (cell / 8), .int m] = some (.ok (.o (.lst (s.map .int)))))
    (hw : cell % 8 = 5 ∨ cell % 8 = 6) (z : Int) (hn : ¬ (cell % 8 = 5 ∧ cell / 8 % 7 = 6)) (hz : z = cell / 8 % ((held.length : Int) + 2) - 1)
    (h0 : 0 ≤ z) (h1 : z < held.length) : w__law_deed C1 C2 C3 C4 C5 C6 [.shf m held, .lst (held.map dL)] [.int cell, .int m] = some (.ok (.bool true), [.shf m (held.eraseIdx z.toNat), .lst ((held.eraseIdx z.toNat).map dL)]) := by
  rw [deed_def]
  refine defW2 rfl fun a f a2 f2 => ?_
  unfold m__law_deed
  have f8 := f_8
  have d8 := d_8
  have f7 : ∀ p, fMod (.int p) (.int 7) = some (.int (p % 7)) := fun p => fMod_pos (by decide)
  have fL : ∀ p, fMod (.int p) (.int ((held.length : Int) + 2)) = some (.int (p % ((held.length : Int) + 2))) := fun p => fMod_pos (by omega)
  have hy : held[z.toNat]? = some (held[z.toNat]'(by omega)) := List.getElem?_eq_getElem (by omega)
  generalize held[z.toNat]'(by omega) = y at hy
  have e := take_in C4 (m := (m : Int)) h0 hy (by have := H.len; omega)
  have hb : held.length < big := by have := H.len; unfold big; omega
  have k0 : ¬ z < 0 := by omega
  have k1 : ¬ (held.length : Int) ≤ z := by omega
  have il : ∀ xs, fIsi "list" (.list xs) = some (.bool true) := fun _ => rfl
  have eqy := fEq_refl (encL.shp y)
  have em := (erase_map dL held z.toNat).symm
  have hyd : (held.map dL)[z.toNat]? = some (dL y) := by rw [List.getElem?_map, hy]; rfl
  rw [em]
  generalize eE : (held.map dL).eraseIdx z.toNat = E
  have hz' := hz.symm
  rcases hw with h | h
  · have h7 : ¬ cell / 8 % 7 = 6 := fun y => hn ⟨h, y⟩
    clear hn H em h1 hz
    simp [*]
  · clear hn H em h1 hz
    simp [*]
end

end G

namespace G
open PySem L2 DL DX
/-! the wishes of one shelf, told and changed -/
/-- the wishes with what is put to each -/
def plus (n : Nat) (ss : List (List Int)) : List (List Int) := ss.mapIdx fun k s => if k < n then s ++ [50 + (k : Int)] else s
theorem plus_len (n : Nat) (ss : List (List Int)) : (plus n ss).length = ss.length := by unfold plus; simp
theorem plus_get {n : Nat} {ss : List (List Int)} {k : Nat} : (plus n ss)[k]? = ss[k]?.map fun s => if k < n then s ++ [50 + (k : Int)] else s := by unfold plus; rw [List.getElem?_mapIdx]
theorem plus_0 (ss : List (List Int)) : plus 0 ss = ss := by
  refine List.ext_getElem? fun k => ?_
  rw [plus_get]
  cases ss[k]? with
  | none => rfl
  | some s => simp
theorem plus_step {ss : List (List Int)} {k : Nat} {s : List Int} (h : ss[k]? = some s) : (plus k ss).set k (s ++ [50 + (k : Int)]) = plus (k + 1) ss := by
  refine List.ext_getElem? fun j => ?_
  have hk : k < ss.length := (List.getElem?_eq_some_iff.mp h).1
  by_cases e : j = k
  · subst e
    rw [List.getElem?_set_self (by rw [plus_len]; exact hk), plus_get, h]
    simp
  · rw [List.getElem?_set_ne (Ne.symm e), plus_get, plus_get]
    cases ss[j]? with
    | none => rfl
    | some t =>
      by_cases h1 : j < k
      · simp [h1, show j < k + 1 by omega]
      · simp [h1, show ¬ j < k + 1 by omega]
def oneB : MW :=
    (wSeq (wLift (sSet 9 (mPkA 3 (mMet w_Shelf_wishes (m2 fIx (mV 3) (mV 8))))))
    (wSeq (wIf (mPk 4 (mPk 9 (mOr (mNot (mB (mIsi "list" (mV 9)))) (mB (m2 fNe (mV 9) (m2 fIx (mV 4) (mV 8))))))) (wRet (mr (.bool false))) wNil)
    (wSeq (wLift (sFor 10 (mRng asRng1 (mCons (mPk 9 (mFl (mDat (mC fLen (mCons (mV 9) mNil))))) mNil))
    (sAppN 9 false (mV 10) (m2 fAdd (mr (.int 50)) (mV 10)))))
    (wSeq (wIf (mPk 4 (mPk 9 (mB (m2 fNe (mV 9) (mDat (mLc 10 (mRng asRng1 (mCons (mPk 9 (mFl (mDat (mC fLen (mCons (mV 9) mNil))))) mNil)) (mr true) (m2 fAdd (m2 fIx (m2 fIx (mV 4) (mV 8)) (mV 10)) (mDat (mLst (mCons (m2 fAdd (mr (.int 50)) (mV 10)) mNil)))))))))) (wRet (mr (.bool false))) wNil)
    (wLift (sClrN 9 false))))))
theorem oH_int (ss : List (List Int)) : (oH ss).all intOb = true := by
  rw [List.all_map, List.all_eq_true]
  intro s _
  exact intP_map s
theorem x_one {m : Nat} {h0 h1 h : List (List Int)} {one : Int} (hm : m ≤ 8) (H : HeldOk m h) (a1 : atI [shfD m h0, shfD m h1] one = some (shfD m h)) (a2 : atI [dW h0, dW h1] one = some (dW h)) (y0 y1 x5 x6 x7 x9 x10 : Sl) :
    ∃ x, oneB [y0, y1, .d (.int m), .o (.arr none [.shf m h0, .shf m h1]), .o (.arr none [.lst (h0.map dL), .lst (h1.map dL)]), x5, x6, x7, .d (.int one), x9, x10] = some (.nx [y0, y1, .d (.int m), .o (.arr none [.shf m h0, .shf m h1]), .o (.arr none [.lst (h0.map dL), .lst (h1.map dL)]), x5, x6, x7, .d (.int one), .no, x]) := by
  have hl : h.length ≤ 12 := H.len
  have lens : ∀ s ∈ h, s.length ≤ 60 := fun s hs => by have := (H.ok s hs).2.2; omega
  obtain ⟨os, eo, ed, ei, edef⟩ : ∃ os, w_Shelf_wishes [shfD m h] = some (.ok (.o (.arr none os))) ∧ os.map Ob.dat = h.map dL ∧ os.all intOb = true ∧ os = oH h := ⟨_, x_held (by omega), oH_dat _, oH_int _, rfl⟩
  have osl : os.length = h.length := by rw [edef]; simp
  have il : ∀ xs, fIsi "list" (.list xs) = some (.bool true) := fun _ => rfl
  have ne1 : fNe (dW h) (dW h) = some (.bool false) := fNe_refl (encW.shp h)
  have rg := rng1_nat (n := h.length) (by omega)
  unfold oneB
  have F : ∃ x, forL 10 (sAppN 9 false (mV 10) (m2 fAdd (mr (.int 50)) (mV 10))) ((List.range h.length).map fun (i : Nat) => .int (i : Int)) [y0, y1, .d (.int m), .o (.arr none [.shf m h0, .shf m h1]), .o (.arr none [.lst (h0.map dL), .lst (h1.map dL)]), x5, x6, x7, .d (.int one), .o (.arr none os), x10] =
      some (.nx [y0, y1, .d (.int m), .o (.arr none [.shf m h0, .shf m h1]), .o (.arr none [.lst (h0.map dL), .lst (h1.map dL)]), x5, x6, x7, .d (.int one), .o (.arr none (oH (plus h.length h))), x]) := by
    generalize hf : forL _ _ _ _ = o
    obtain ⟨ρ', rfl, x, rfl⟩ := forL_at hf (fun k ρ => ∃ x : Sl, ρ = [y0, y1, .d (.int m), .o (.arr none [.shf m h0, .shf m h1]), .o (.arr none [.lst (h0.map dL), .lst (h1.map dL)]), x5, x6, x7, .d (.int one), .o (.arr none (oH (plus k h))), x])
      ⟨x10, by rw [plus_0, edef]⟩ (by
        rintro k x ρ hx ⟨x, rfl⟩
        obtain ⟨hk, rfl⟩ := range_at hx
        obtain ⟨s, hs⟩ : ∃ s, h[k]? = some s := ⟨h[k], List.getElem?_eq_getElem hk⟩
        have hl := lens s (List.mem_of_getElem? hs)
        have g1 : (oH (plus k h))[k]? = some (.lst (s.map .int)) := by
          rw [List.getElem?_map, plus_get, hs]
          simp
        have g2 : (oH (plus k h)).set k (.lst (s.map PyData.int ++ [.int (50 + (k : Int))])) = oH (plus (k + 1) h) := by
          rw [← plus_step hs]
          unfold oH
          rw [List.map_set, List.map_append]
          rfl
        have b1 : s.length < big := by unfold big; omega
        refine ⟨_, ?_, .d (.int k), rfl⟩
        simp [g1, b1, g2])
    simp only [List.length_map, List.length_range]
    exact ⟨x, rfl⟩
  obtain ⟨x, F⟩ := F
  have od2 := oH_dat (plus h.length h)
  have pl := plus_len h.length h
  have L : lcL 10 (mr true) (m2 fAdd (m2 fIx (m2 fIx (mV 4) (mV 8)) (mV 10)) (mDat (mLst (mCons (m2 fAdd (mr (.int 50)) (mV 10)) mNil)))) [y0, y1, .d (.int m), .o (.arr none [.shf m h0, .shf m h1]), .d (.list [dW h0, dW h1]), x5, x6, x7, .d (.int one), .d (dW (plus h.length h)), x] ((List.range h.length).map fun (i : Nat) => .int (i : Int)) [] = some ((plus h.length h).map dL) := by
    have e : (plus h.length h).map dL = (List.range h.length).map fun k => match h[k]? with | some s => dL (s ++ [50 + (k : Int)]) | none => .none := by
      refine List.ext_getElem? fun k => ?_
      rw [List.getElem?_map, plus_get, List.getElem?_map]
      by_cases hk : k < h.length
      · rw [List.getElem?_range hk, List.getElem?_eq_getElem hk]
        simp [hk]
      · rw [List.getElem?_eq_none (by omega), List.getElem?_eq_none (by simp; omega)]
        rfl
    rw [e, lcL_map (fun (i : Nat) => .int (i : Int)) (fun _ => true) (fun k => match h[k]? with | some s => dL (s ++ [50 + (k : Int)]) | none => .none)]
    · rw [List.filter_eq_self.mpr (fun _ _ => rfl)]; rfl
    · intro k _; rfl
    · intro k hk _
      have hk' := List.mem_range.mp hk
      obtain ⟨s, hs⟩ : ∃ s, h[k]? = some s := ⟨h[k], List.getElem?_eq_getElem hk'⟩
      have hl := lens s (List.mem_of_getElem? hs)
      have at1 : atI (h.map dL) (k : Int) = some (dL s) := atI_nat (by rw [List.getElem?_map, hs]; rfl)
      have b1 : 1 ≤ big := by decide
      have b2 : s.length + 1 ≤ big := by unfold big; omega
      clear F
      simp [a2, at1, b1, b2, hs]
    · simp; unfold big; omega
  have ne2 : fNe (dW (plus h.length h)) (dW (plus h.length h)) = some (.bool false) := fNe_refl (encW.shp _)
  refine ⟨x, ?_⟩
  generalize (List.range h.length).map (fun (i : Nat) => (PyData.int (i : Int) : PD)) = R at *
  have osl2 : (os.map Ob.dat).length = h.length := by simp [osl]
  have pl2 : ((plus h.length h).map dL).length = h.length := by simp [pl]
  generalize plus h.length h = ph at *
  generalize eP : oH ph = oP at *
  simp [a1, a2, eo, ed, ei, il, ne1, rg, F, od2, L, ne2, osl, osl2, pl, pl2]

end G

namespace G
open PySem L2 DL DX
/-! one turn of the law -/
section
variable {C1 C2 C3 C4 C5 C6 : Addr} {m : Nat}
theorem x_deed (hd : [C1, C2, C3, C4, C5, C6].Nodup) (hm : m ≤ 8) {held : List (List Int)} (H : HeldOk m held) (cell : Int) :
    ∃ held', HeldOk m held' ∧ w__law_deed C1 C2 C3 C4 C5 C6 [.shf m held, .lst (held.map dL)] [.int cell, .int m] = some (.ok (.bool true), [.shf m held', .lst (held'.map dL)]) := by
  obtain ⟨s, es, s1, s2, s3⟩ := x_set (cell / 8) m (by omega)
  have hl := H.len
  rcases (show cell % 8 < 4 ∨ cell % 8 = 4 ∨ (cell % 8 = 5 ∨ cell % 8 = 6) ∨ cell % 8 = 7 by omega) with h | h | h | h
  · by_cases h12 : held.length < 12
    · exact ⟨_, H.snoc h12 s1 s2 s3, deed_put hm H es s1 s2 s3 h h12⟩
    · exact ⟨_, H, deed_tells hm H es (.inl ⟨h, by omega⟩)⟩
  · exact ⟨_, H, deed_ill hd hm es s3 h⟩
  · by_cases c5 : cell % 8 = 5 ∧ cell / 8 % 7 = 6
    · have fp : fPow (.int 10) (.int 30) = some (.int (10 ^ 30)) := rfl
      have q0 := Int.emod_nonneg (cell / 64) (show (10 : Int) ^ 30 ≠ 0 by decide)
      rcases (show cell / 56 % 2 = 0 ∨ cell / 56 % 2 = 1 by omega) with y | y
      · refine ⟨_, H, deed_gone hd H es h (-1 - cell / 64 % (10 : Int) ^ 30) (.inl ⟨c5.1, c5.2, fun N hN => ?_⟩) (.inl ?_)⟩
        · rw [fp] at hN
          cases hN
          rw [y]
          rfl
        · generalize cell / 64 % (10 : Int) ^ 30 = q at q0
          omega
      · refine ⟨_, H, deed_gone hd H es h ((held.length : Int) + cell / 64 % (10 : Int) ^ 30) (.inl ⟨c5.1, c5.2, fun N hN => ?_⟩) (.inr ?_)⟩
        · rw [fp] at hN
          cases hN
          rw [y]
          rfl
        · generalize cell / 64 % (10 : Int) ^ 30 = q at q0
          omega
    · obtain ⟨z, hz⟩ : ∃ z, z = cell / 8 % ((held.length : Int) + 2) - 1 := ⟨_, rfl⟩
      by_cases ho : z < 0 ∨ (held.length : Int) ≤ z
      · exact ⟨_, H, deed_gone hd H es h z (.inr ⟨c5, hz⟩) ho⟩
      · exact ⟨_, H.erase, deed_take H es h z c5 hz (by omega) (by omega)⟩
  · exact ⟨_, H, deed_tells hm H es (.inr h)⟩
theorem put_all {h0 : List (List Int)} (hm : m ≤ 8) (y0 y1 y2 y6 y7 y8 y9 y10 : Sl) : ∀ (l pre : List (List Int)) (x : Sl), HeldOk m (pre ++ l) → ∃ x', forPut 5 ⟨4, some 0⟩ (plIx 3 (mr (.int 0))) (vMetP (w_Shelf_put C1 C5) (plIx 3 (mr (.int 0))) (mCons (mDat (mC fList (mCons (mV 5) mNil))) mNil)) (l.map dL)
      [y0, y1, y2, .o (.arr none [.shf m pre, .shf m []]), .o (.arr none [.lst (h0.map dL), .lst []]), x, y6, y7, y8, y9, y10] = some (.nx [y0, y1, y2, .o (.arr none [.shf m (pre ++ l), .shf m []]), .o (.arr none [.lst (h0.map dL), .lst []]), x', y6, y7, y8, y9, y10])
  | [], pre, x, H => ⟨x, by simp⟩
  | w :: l, pre, x, H => by
    have hw := H.ok w (by simp)
    have hl := H.len
    simp at hl
    have e := put_in C1 C5 (m := (m : Int)) (held := pre) (w := w) (in_off hw.2.1) (by have := hw.2.2; omega) (by omega)
    rw [usort_of hw.1] at e
    obtain ⟨x', ih⟩ := put_all (h0 := h0) hm y0 y1 y2 y6 y7 y8 y9 y10 l (pre ++ [w]) (.d (dL w)) (by simpa using H)
    rw [List.append_assoc] at ih
    refine ⟨x', ?_⟩
    rw [List.map_cons]
    unfold forPut
    clear H hw hl
    simp [e, ih]
noncomputable def stepB (C1 C2 C3 C4 C5 C6 : Addr) : MW := (wSeq (wLift (sSet 7 (mRs (m2 fMod (m2 fMod (mDat (mCall w__law_cell_at (mCons (mV 0) (mCons (m2 fAdd (mr (.int 20)) (mV 6)) mNil)))) (mr (.int 3))) (mr (.int 2))))))
    (wSeq (wIfV (vNot (vB (vCall2 (w__law_deed C1 C2 C3 C4 C5 C6) (plIx 3 (mV 7)) (plIx 4 (mV 7)) (mCons (mDat (mCall w__law_cell_at (mCons (mV 0) (mCons (m2 fAdd (mr (.int 2)) (mV 6)) mNil)))) (mCons (mV 2) mNil))))) (wRet (mr (.bool false))) wNil)
    (wFor 8 (mRng asRng1 (mCons (mr (.int 2)) mNil))
    oneB)))
theorem x_step (hd : [C1, C2, C3, C4, C5, C6].Nodup) (hm : m ≤ 8) {h0 h1 : List (List Int)} (H0 : HeldOk m h0) (H1 : HeldOk m h1) (ns : List Int) (k : Nat) (y1 x5 x7 x8 x9 x10 : Sl) :
    ∃ h0' h1' x7' x8' x9' x10', HeldOk m h0' ∧ HeldOk m h1' ∧ stepB C1 C2 C3 C4 C5 C6 [.d (scrD ns), y1, .d (.int m), .o (.arr none [.shf m h0, .shf m h1]), .o (.arr none [.lst (h0.map dL), .lst (h1.map dL)]), x5, .d (.int k), x7, x8, x9, x10] =
      some (.nx [.d (scrD ns), y1, .d (.int m), .o (.arr none [.shf m h0', .shf m h1']), .o (.arr none [.lst (h0'.map dL), .lst (h1'.map dL)]), x5, .d (.int k), x7', x8', x9', x10']) := by
  have c1 := x_cell ns (20 + (k : Int)) (by omega)
  have c2 := x_cell ns (2 + (k : Int)) (by omega)
  generalize cellAt ns (20 + (k : Int)).toNat = z1 at c1
  generalize cellAt ns (2 + (k : Int)).toNat = z2 at c2
  have f3 : ∀ p, fMod (.int p) (.int 3) = some (.int (p % 3)) := fun p => fMod_pos (by decide)
  have f2 : ∀ p, fMod (.int p) (.int 2) = some (.int (p % 2)) := fun p => fMod_pos (by decide)
  have two : ∀ (g0 g1 : List (List Int)) (G0 : HeldOk m g0) (G1 : HeldOk m g1) (x7 x8 x9 x10 : Sl), ∃ x8' x9' x10', forW 8 oneB [.int 0, .int 1] [.d (scrD ns), y1, .d (.int m), .o (.arr none [.shf m g0, .shf m g1]), .o (.arr none [.lst (g0.map dL), .lst (g1.map dL)]), x5, .d (.int k), x7, x8, x9, x10] =
      some (.nx [.d (scrD ns), y1, .d (.int m), .o (.arr none [.shf m g0, .shf m g1]), .o (.arr none [.lst (g0.map dL), .lst (g1.map dL)]), x5, .d (.int k), x7, x8', x9', x10']) := by
    intro g0 g1 G0 G1 x7 x8 x9 x10
    obtain ⟨u1, e1⟩ := x_one (one := 0) (h0 := g0) (h1 := g1) hm G0 rfl rfl (.d (scrD ns)) y1 x5 (.d (.int k)) x7 x9 x10
    obtain ⟨u2, e2⟩ := x_one (one := 1) (h0 := g0) (h1 := g1) hm G1 rfl rfl (.d (scrD ns)) y1 x5 (.d (.int k)) x7 .no u1
    refine ⟨.d (.int 1), .no, u2, ?_⟩
    rw [forW_cons]
    simp only [List.set_cons_succ, List.set_cons_zero]
    rw [e1, goW_nx, forW_cons]
    simp only [List.set_cons_succ, List.set_cons_zero]
    rw [e2, goW_nx, forW_nil]
  rcases (show z1 % 3 % 2 = 0 ∨ z1 % 3 % 2 = 1 by omega) with q | q
  · obtain ⟨g, G, e⟩ := x_deed hd hm H0 z2
    obtain ⟨x8', x9', x10', e2⟩ := two g h1 G H1 (.d (.int 0)) x8 x9 x10
    refine ⟨g, h1, .d (.int 0), x8', x9', x10', G, H1, ?_⟩
    unfold stepB
    clear two G H0 H1 hd hm
    simp [*]
  · obtain ⟨g, G, e⟩ := x_deed hd hm H1 z2
    obtain ⟨x8', x9', x10', e2⟩ := two h0 g H0 G (.d (.int 1)) x8 x9 x10
    refine ⟨h0, g, .d (.int 1), x8', x9', x10', H0, G, ?_⟩
    unfold stepB
    clear two G H0 H1 hd hm
    simp [*]
end

end G

namespace G
open PySem L2 DL DX
/-! a whole shelf -/
theorem ris_from {m : Int} : ∀ (s : List Int) (a : Int), (∀ b ∈ s, a ≤ b ∧ b < m) → s.Pairwise (· < ·) → (s.length : Int) ≤ max (m - a) 0
  | [], a, _, _ => by simp; omega
  | b :: s, a, h, h2 => by
    have hb := h b List.mem_cons_self
    obtain ⟨k1, k2⟩ := List.pairwise_cons.mp h2
    have := ris_from s (b + 1) (fun c hc => ⟨by have := k1 c hc; omega, (h c (List.mem_cons_of_mem _ hc)).2⟩) k2
    simp only [List.length_cons]
    omega
theorem held_of {m : Nat} {ws : List (List Int)} (hl : ws.length ≤ 11) (h : ∀ w ∈ ws, ∀ b ∈ w, 0 ≤ b ∧ b < (m : Int)) : HeldOk m (ws.map usort) :=
  ⟨by simp; omega, fun s hs => by
    obtain ⟨w, hw, rfl⟩ := List.mem_map.mp hs
    have in_ : ∀ b ∈ usort w, 0 ≤ b ∧ b < (m : Int) := fun b hb => h w hw b (mem_usort.mp hb)
    refine ⟨usort_lt w, in_, ?_⟩
    have := ris_from (usort w) 0 in_ (usort_lt w)
    omega⟩
theorem law_true {C1 C2 C3 C4 C5 C6 : Addr} (hd : [C1, C2, C3, C4, C5, C6].Nodup) (ns : List Int) (hl : ns.length ≤ 63) : w_law C1 C2 C3 C4 C5 C6 [scrD ns] = some (.ok (.d (.bool true))) := by
  obtain ⟨ma, wa, da1, da2, da3, da4, da5⟩ := x_wishes ns 36 5 11 (by omega) (by omega) (by omega) (by omega)
  obtain ⟨mb, wb, db1, db2, db3, db4, db5⟩ := x_wishes ns 36 6 11 (by omega) (by omega) (by omega) (by omega)
  have c0 := x_cell ns 0 (by decide)
  have c1 := x_cell ns 1 (by decide)
  generalize cellAt ns (0 : Int).toNat = z0 at c0
  generalize cellAt ns (1 : Int).toNat = z1 at c1
  have f6 : ∀ p, fMod (.int p) (.int 6) = some (.int (p % 6)) := fun p => fMod_pos (by decide)
  have f3 : ∀ p, fMod (.int p) (.int 3) = some (.int (p % 3)) := fun p => fMod_pos (by decide)
  have f16 : ∀ p, fMod (.int p) (.int 16) = some (.int (p % 16)) := fun p => fMod_pos (by decide)
  have d6 : ∀ p, fDiv (.int p) (.int 6) = some (.int (p / 6)) := fun p => fDiv_pos (by decide) (by decide)
  -- what is drawn
  obtain ⟨m, ws, hm, hws, hok, hrun⟩ : ∃ (m : Nat) (ws : List (List Int)), m ≤ 6 ∧ ws.length ≤ 11 ∧ WOk m ws ∧ ∀ y3 y4 : Sl, sIf (mB (m2 fEq (m2 fMod (mDat (mCall w__law_cell_at (mCons (mV 0) (mCons (mr (.int 0)) mNil)))) (mr (.int 6))) (mr (.int 5)))) (sSet 1 (mRs (mDat (mCall w__law_wishes (mCons (mV 0) (mCons (mr (.int 36)) (mCons (mr (.int 6)) (mCons (mr (.int 11)) mNil)))))))) sNil
      [.d (scrD ns), .d (.tuple [.int ma, dW wa]), .no, .no, .no, .no, .no, .no, .no, .no, .no] = some (.nx [.d (scrD ns), .d (.tuple [.int m, dW ws]), .no, .no, .no, .no, .no, .no, .no, .no, .no]) := by
    simp at db1
    by_cases h : z0 % 6 = 5
    · exact ⟨mb, wb, by omega, by omega, db5, fun y3 y4 => by simp [c0, f6, h, db1]⟩
    · exact ⟨ma, wa, by omega, by omega, da5, fun y3 y4 => by simp [c0, f6, h]⟩
  have hrun := hrun .no .no
  have hwb : ∀ w ∈ ws, ∀ b ∈ w, 0 ≤ b ∧ b < (m : Int) := fun w hw => (hok w hw).1
  -- the first wishes
  have due : ∀ ρ : List Sl, 5 < ρ.length → lcL 5 (mr true) (mDat (mS1 fSoS (mV 5))) ρ (ws.map dL) [] = some ((ws.map usort).map dL) := by
    intro ρ h5
    rw [lcL_map dL (fun _ => true) (fun w => dL (usort w))]
    · rw [List.filter_eq_self.mpr (fun _ _ => rfl), List.map_map]; rfl
    · intro w _; rfl
    · intro w hw' _
      have so := fSoS_i (ns := w) (by have := (hok w hw').2; omega)
      simp [h5, so]
    · simp; unfold big; omega
  have due1 := due [.d (scrD ns), .d (.tuple [.int m, dW ws]), .d (.int m), .o (.arr none [.shf m [], .shf m []]), .o (.arr none [.lst [], .lst []]), .no, .no, .no, .no, .no, .no] (by simp)
  have ix : ixN 2 0 = some 0 := rfl
  obtain ⟨h0, H0, hput⟩ : ∃ h0, HeldOk m h0 ∧ sIf (mB (m2 fEq (m2 fMod (m2 fDiv (mDat (mCall w__law_cell_at (mCons (mV 0) (mCons (mr (.int 0)) mNil)))) (mr (.int 6))) (mr (.int 3))) (mr (.int 1)))) (sPutA 4 (mLc 5 (mSeq (m2 fIx (mV 1) (mr (.int 1)))) (mr true) (mDat (mS1 fSoS (mV 5)))) (mr (.int 0))) sNil
      [.d (scrD ns), .d (.tuple [.int m, dW ws]), .d (.int m), .o (.arr none [.shf m [], .shf m []]), .o (.arr none [.lst [], .lst []]), .no, .no, .no, .no, .no, .no] = some (.nx [.d (scrD ns), .d (.tuple [.int m, dW ws]), .d (.int m), .o (.arr none [.shf m [], .shf m []]), .o (.arr none [.lst (h0.map dL), .lst []]), .no, .no, .no, .no, .no, .no]) := by
    by_cases h : z0 / 6 % 3 = 1
    · refine ⟨ws.map usort, held_of hws hwb, ?_⟩
      generalize (ws.map usort).map dL = U at *
      simp [c0, d6, f3, h, due1, ix]
    · exact ⟨[], ⟨by simp, by simp⟩, by simp [c0, d6, f3, h]⟩
  obtain ⟨x5, hfor⟩ := put_all (C1 := C1) (C5 := C5) (m := m) (h0 := h0) (by omega) (.d (scrD ns)) (.d (.tuple [.int m, dW ws])) (.d (.int m)) .no .no .no .no .no h0 [] .no (by simpa using H0)
  rw [List.nil_append] at hfor
  -- the deeds
  obtain ⟨n, hn, n16⟩ : ∃ n : Nat, z1 % 16 = (n : Int) ∧ n < 16 := ⟨(z1 % 16).toNat, by omega, by omega⟩
  have rg := rng1_nat (n := n) (by omega)
  obtain ⟨g0, g1, x6, x7, x8, x9, x10, G0, G1, F⟩ : ∃ g0 g1 x6 x7 x8 x9 x10, HeldOk m g0 ∧ HeldOk m g1 ∧ forW 6 (stepB C1 C2 C3 C4 C5 C6) ((List.range n).map fun (i : Nat) => (PyData.int (i : Int) : PD)) [.d (scrD ns), .d (.tuple [.int m, dW ws]), .d (.int m), .o (.arr none [.shf m h0, .shf m []]), .o (.arr none [.lst (h0.map dL), .lst []]), x5, .no, .no, .no, .no, .no] =
      some (.nx [.d (scrD ns), .d (.tuple [.int m, dW ws]), .d (.int m), .o (.arr none [.shf m g0, .shf m g1]), .o (.arr none [.lst (g0.map dL), .lst (g1.map dL)]), x5, x6, x7, x8, x9, x10]) := by
    generalize hf : forW _ _ _ _ = o
    obtain ⟨ρ', rfl, g0, g1, x6, x7, x8, x9, x10, G0, G1, rfl⟩ := forW_at hf (fun k ρ => ∃ g0 g1 x6 x7 x8 x9 x10, HeldOk m g0 ∧ HeldOk m g1 ∧ ρ = [.d (scrD ns), .d (.tuple [.int m, dW ws]), .d (.int m), .o (.arr none [.shf m g0, .shf m g1]), .o (.arr none [.lst (g0.map dL), .lst (g1.map dL)]), x5, x6, x7, x8, x9, x10])
      ⟨h0, [], _, _, _, _, _, H0, ⟨by simp, by simp⟩, rfl⟩ (by
        rintro k x ρ hx ⟨g0, g1, x6, x7, x8, x9, x10, G0, G1, rfl⟩
        obtain ⟨hk, rfl⟩ := range_at hx
        obtain ⟨g0', g1', x7', x8', x9', x10', G0', G1', e⟩ := x_step hd (by omega) G0 G1 ns k (.d (.tuple [.int m, dW ws])) x5 x7 x8 x9 x10
        exact ⟨_, e, g0', g1', .d (.int k), x7', x8', x9', x10', G0', G1', rfl⟩)
    exact ⟨g0, g1, x6, x7, x8, x9, x10, G0, G1, rfl⟩
  have t0 := x_tells C1 (many := m) (ws := g0) (by omega) (by have := G0.len; omega) (fun w hw => (G0.ok w hw).2.1) (fun w hw => by have := (G0.ok w hw).2.2; omega)
  have t1 := x_tells C1 (many := m) (ws := g1) (by omega) (by have := G1.len; omega) (fun w hw => (G1.ok w hw).2.1) (fun w hw => by have := (G1.ok w hw).2.2; omega)
  have wh := x_whole_i
  have b0 : 0 ≤ big := by decide
  rw [show w_law C1 C2 C3 C4 C5 C6 = defV 1 11 (m_law w__law_wishes w__law_cell_at (w_Shelf_put C1 C5) (w__law_deed C1 C2 C3 C4 C5 C6) w_Shelf_wishes w__law_whole (w__law_tells C1)) from rfl]
  unfold defV m_law
  rw [if_pos (show [scrD ns].length = 1 from rfl)]
  unfold stepB oneB at F
  generalize ((List.range n).map fun (i : Nat) => (PyData.int (i : Int) : PD)) = R at *
  simp at da1
  have b1 : (liftS (sSet 1 (mRs (mDat (mCall w__law_wishes (mCons (mV 0) (mCons (mr (.int 36)) (mCons (mr (.int 5)) (mCons (mr (.int 11)) mNil))))))) [.d (scrD ns), .no, .no, .no, .no, .no, .no, .no, .no, .no, .no])) = some (.nx [.d (scrD ns), .d (.tuple [.int ma, dW wa]), .no, .no, .no, .no, .no, .no, .no, .no, .no]) := by
    simp [da1]
  show finV (wSeq _ _ [.d (scrD ns), .no, .no, .no, .no, .no, .no, .no, .no, .no, .no]) = _
  rw [wSeq_ap, wLift_ap, b1, thenW_nx, wSeq_ap, wLift_ap, hrun, liftS_nx, thenW_nx]
  clear b1 hrun da1 db1 due due1 hok hwb hd
  have b2 : ∀ b : MW, thenW (wLift (sSet 2 (mRs (m2 fIx (mV 1) (mr (.int 0))))) [.d (scrD ns), .d (.tuple [.int m, dW ws]), .no, .no, .no, .no, .no, .no, .no, .no, .no]) b = b [.d (scrD ns), .d (.tuple [.int m, dW ws]), .d (.int m), .no, .no, .no, .no, .no, .no, .no, .no] := fun b => by simp
  have b3 : ∀ b : MW, thenW (wLift (sSet 3 (mArr2 (mMake (mV 2)) (mMake (mV 2)))) [.d (scrD ns), .d (.tuple [.int m, dW ws]), .d (.int m), .no, .no, .no, .no, .no, .no, .no, .no]) b = b [.d (scrD ns), .d (.tuple [.int m, dW ws]), .d (.int m), .o (.arr none [.shf m [], .shf m []]), .no, .no, .no, .no, .no, .no, .no] := fun b => by simp
  have b4 : ∀ b : MW, thenW (wLift (sSet 4 (mArr2 (mLst mNil) (mLst mNil))) [.d (scrD ns), .d (.tuple [.int m, dW ws]), .d (.int m), .o (.arr none [.shf m [], .shf m []]), .no, .no, .no, .no, .no, .no, .no]) b = b [.d (scrD ns), .d (.tuple [.int m, dW ws]), .d (.int m), .o (.arr none [.shf m [], .shf m []]), .o (.arr none [.lst [], .lst []]), .no, .no, .no, .no, .no, .no] := fun b => by simp [b0]
  rw [wSeq_ap, b2, wSeq_ap, b3, wSeq_ap, b4, wSeq_ap, wLift_ap, hput, liftS_nx, thenW_nx]
  clear b2 b3 b4 hput
  have b5 : ∀ b : MW, thenW (wForPut 5 (plIx 4 (mr (.int 0))) (plIx 3 (mr (.int 0))) (vMetP (w_Shelf_put C1 C5) (plIx 3 (mr (.int 0))) (mCons (mDat (mC fList (mCons (mV 5) mNil))) mNil)) [.d (scrD ns), .d (.tuple [.int m, dW ws]), .d (.int m), .o (.arr none [.shf m [], .shf m []]), .o (.arr none [.lst (h0.map dL), .lst []]), .no, .no, .no, .no, .no, .no]) b = b [.d (scrD ns), .d (.tuple [.int m, dW ws]), .d (.int m), .o (.arr none [.shf m h0, .shf m []]), .o (.arr none [.lst (h0.map dL), .lst []]), x5, .no, .no, .no, .no, .no] := fun b => by
    simp [hfor]
  rw [wSeq_ap, b5, wSeq_ap]
  clear b5 hfor
  have b6 : ∀ ρ, (mRng asRng1 (mCons (m2 fMod (mDat (mCall w__law_cell_at (mCons (mV 0) (mCons (mr (.int 1)) mNil)))) (mr (.int 16))) mNil)) ((.d (scrD ns) : Sl) :: ρ) = some (.ok R) := fun ρ => by simp [c1, f16, hn, rg]
  rw [wFor_ap, b6]
  show finV (thenW (forW 6 _ R _) _) = _
  rw [F, thenW_nx]
  clear F b6 G0 G1 H0
  simp [t0, t1, wh]

end G

open PySem PySem.W PyProof.Rows
set_option maxRecDepth 100000 in
set_option maxHeartbeats 0 in
theorem PySem.Challenge.cw_shelfruns_k11_whole_shelf_holds : PySem.Challenge.rw_shelfruns_k11_whole_shelf.Holds := by
  w_on; o_law; k_head; (case hw => w_witness2)
  k_fill
  refine DL.walk_law (k := 16) (l := PySem.Challenge.rw_shelfruns_k11_whole_shelf) rfl rfl ⟨rfl, by decide, by decide⟩ (fun w h Y => PySem.W.kIn_of Y) ?F
  case F =>
    intro w mg fa h KX hG hmg
    refine' G.all_mk KX hG hmg ?a0 ?l0 ?c0 ?k0 ?a1 ?l1 ?c1 ?k1 ?a2 ?l2 ?c2 ?k2 ?a3 ?l3 ?c3 ?k3 ?a4 ?l4 ?c4 ?k4 ?a5 ?l5 ?c5 ?k5 ?a6 ?i6 ?l6 ?c6 ?k6 ?a7 ?i7 ?l7 ?c7 ?k7 ?a8 ?l8 ?c8 ?k8 ?a9 ?i9 ?l9 ?c9 ?k9 ?a10 ?l10 ?c10 ?k10 ?a11 ?l11 ?c11 ?k11 ?a12 ?l12 ?c12 ?k12 ?a13 ?l13 ?c13 ?k13 ?a14 ?l14 ?c14 ?k14 ?a15 ?l15 ?c15 ?k15 ?a16 ?l16 ?c16 ?k16 ?a17 ?l17 ?c17 ?k17 ?a18 ?l18 ?c18 ?k18 ?a19 ?l19 ?c19 ?k19 ?a20 ?l20 ?c20 ?k20 ?a21 ?l21 ?c21 ?k21 ?a22 ?i22 ?l22 ?c22 ?k22 ?a23 ?l23 ?c23 ?k23 ?a24 ?l24 ?c24 ?k24 ?a25 ?i25 ?l25 ?c25 ?k25 ?a26 ?l26 ?c26 ?k26 ?a27 ?l27 ?c27 ?k27 ?a28 ?l28 ?c28 ?k28 ?a29 ?l29 ?c29 ?k29 ?a30 ?l30 ?c30 ?k30 ?a31 ?l31 ?c31 ?k31 ?a32 ?i32 ?l32 ?c32 ?k32 ?a33 ?l33 ?c33 ?k33 ?e_Shelf ?pg_ ?hd_ ?po_ ?sa_ ?nm_ ?nh_ ?a00 ?i00 ?l00 ?c00 ?k00 ?mk_ ?kc_ ?q_ROOM ?u_ROOM ?e_ShelfError ?e_NoBook ?e_NoTurn ?e_NoOrder ?e_NoWish ?e_FullShelf ?e_BadLine ?ex_NoBook ?ek_NoBook ?ex_NoWish ?ek_NoWish ?ex_FullShelf ?ek_FullShelf ?eb_ShelfError ?et_ShelfError ?eb_NoBook ?et_NoBook ?eb_NoTurn ?et_NoTurn ?eb_NoOrder ?et_NoOrder ?eb_NoWish ?et_NoWish ?eb_FullShelf ?et_FullShelf ?eb_BadLine ?et_BadLine ?hd_ShelfError ?hd_NoBook ?hd_NoTurn ?hd_NoOrder ?hd_NoWish ?hd_FullShelf ?hd_BadLine ?sp_ ?tk_ ?ga_NoBook ?gt_NoBook ?gc_NoBook ?mo_NoBook ?sv_NoBook_ValueError ?ga_NoWish ?gt_NoWish ?gc_NoWish ?mo_NoWish ?sv_NoWish_ValueError ?ga_FullShelf ?gt_FullShelf ?gc_FullShelf ?mo_FullShelf ?sv_FullShelf_ValueError ?su_NoBook_NoBook ?su_NoBook_NoTurn ?su_NoBook_NoOrder ?su_NoBook_NoWish ?su_NoBook_FullShelf ?su_NoBook_BadLine ?su_NoTurn_NoTurn ?su_NoTurn_NoOrder ?su_NoTurn_NoWish ?su_NoTurn_FullShelf ?su_NoTurn_BadLine ?su_NoOrder_NoOrder ?su_NoOrder_NoWish ?su_NoOrder_FullShelf ?su_NoOrder_BadLine ?su_NoWish_NoBook ?su_NoWish_NoTurn ?su_NoWish_NoOrder ?su_NoWish_NoWish ?su_NoWish_FullShelf ?su_NoWish_BadLine ?su_FullShelf_NoBook ?su_FullShelf_NoTurn ?su_FullShelf_NoOrder ?su_FullShelf_NoWish ?su_FullShelf_FullShelf ?su_FullShelf_BadLine ?su_BadLine_BadLine ?su_NoBook_ShelfError ?su_NoWish_ShelfError ?su_FullShelf_ShelfError ?z_ValueError ?z_bool ?z_int ?z_isinstance ?z_len ?z_list ?z_range ?z_reversed ?z_set ?z_sorted ?z_tuple G.law_true
    (case e_Shelf => k_is)
    (case e_ShelfError => k_is)
    (case e_NoBook => k_is)
    (case e_NoTurn => k_is)
    (case e_NoOrder => k_is)
    (case e_NoWish => k_is)
    (case e_FullShelf => k_is)
    (case e_BadLine => k_is)
    (case a0 => k_is)
    (case l0 => k_is)
    (case c0 => k_is)
    (case k0 => k_is)
    (case a1 => k_is)
    (case l1 => k_is)
    (case c1 => k_is)
    (case k1 => k_is)
    (case a2 => k_is)
    (case l2 => k_is)
    (case c2 => k_is)
    (case k2 => k_is)
    (case a3 => k_is)
    (case l3 => k_is)
    (case c3 => k_is)
    (case k3 => k_is)
    (case a4 => k_is)
    (case l4 => k_is)
    (case c4 => k_is)
    (case k4 => k_is)
    (case a5 => k_is)
    (case l5 => k_is)
    (case c5 => k_is)
    (case k5 => k_is)
    (case a6 => k_is)
    (case i6 => k_is)
    (case l6 => k_is)
    (case c6 => k_is)
    (case k6 => k_is)
    (case a7 => k_is)
    (case i7 => k_is)
    (case l7 => k_is)
    (case c7 => k_is)
    (case k7 => k_is)
    (case a8 => k_is)
    (case l8 => k_is)
    (case c8 => k_is)
    (case k8 => k_is)
    (case a9 => k_is)
    (case i9 => k_is)
    (case l9 => k_is)
    (case c9 => k_is)
    (case k9 => k_is)
    (case a10 => k_is)
    (case l10 => k_is)
    (case c10 => k_is)
    (case k10 => k_is)
    (case a11 => k_is)
    (case l11 => k_is)
    (case c11 => k_is)
    (case k11 => k_is)
    (case a12 => k_is)
    (case l12 => k_is)
    (case c12 => k_is)
    (case k12 => k_is)
    (case a13 => k_is)
    (case l13 => k_is)
    (case c13 => k_is)
    (case k13 => k_is)
    (case a14 => k_is)
    (case l14 => k_is)
    (case c14 => k_is)
    (case k14 => k_is)
    (case a15 => k_is)
    (case l15 => k_is)
    (case c15 => k_is)
    (case k15 => k_is)
    (case a16 => k_is)
    (case l16 => k_is)
    (case c16 => k_is)
    (case k16 => k_is)
    (case a17 => k_is)
    (case l17 => k_is)
    (case c17 => k_is)
    (case k17 => k_is)
    (case a18 => k_is)
    (case l18 => k_is)
    (case c18 => k_is)
    (case k18 => k_is)
    (case a19 => k_is)
    (case l19 => k_is)
    (case c19 => k_is)
    (case k19 => k_is)
    (case a20 => k_is)
    (case l20 => k_is)
    (case c20 => k_is)
    (case k20 => k_is)
    (case a21 => k_is)
    (case l21 => k_is)
    (case c21 => k_is)
    (case k21 => k_is)
    (case a22 => k_is)
    (case i22 => k_is)
    (case l22 => k_is)
    (case c22 => k_is)
    (case k22 => k_is)
    (case a23 => k_is)
    (case l23 => k_is)
    (case c23 => k_is)
    (case k23 => k_is)
    (case a24 => k_is)
    (case l24 => k_is)
    (case c24 => k_is)
    (case k24 => k_is)
    (case a25 => k_is)
    (case i25 => k_is)
    (case l25 => k_is)
    (case c25 => k_is)
    (case k25 => k_is)
    (case a26 => k_is)
    (case l26 => k_is)
    (case c26 => k_is)
    (case k26 => k_is)
    (case a27 => k_is)
    (case l27 => k_is)
    (case c27 => k_is)
    (case k27 => k_is)
    (case a28 => k_is)
    (case l28 => k_is)
    (case c28 => k_is)
    (case k28 => k_is)
    (case a29 => k_is)
    (case l29 => k_is)
    (case c29 => k_is)
    (case k29 => k_is)
    (case a30 => k_is)
    (case l30 => k_is)
    (case c30 => k_is)
    (case k30 => k_is)
    (case a31 => k_is)
    (case l31 => k_is)
    (case c31 => k_is)
    (case k31 => k_is)
    (case a32 => k_is)
    (case i32 => k_is)
    (case l32 => k_is)
    (case c32 => k_is)
    (case k32 => k_is)
    (case a33 => k_is)
    (case l33 => k_is)
    (case c33 => k_is)
    (case k33 => k_is)
    (case pg_ => k_is)
    (case hd_ => k_is)
    (case po_ => k_is)
    (case sa_ => k_is)
    (case nm_ => k_is)
    (case nh_ => k_is)
    (case a00 => k_is)
    (case i00 => k_is)
    (case l00 => k_is)
    (case c00 => k_is)
    (case k00 => k_is)
    (case mk_ => k_is)
    (case kc_ => k_is)
    (case q_ROOM => k_is)
    (case u_ROOM => exact ⟨_, rfl⟩)
    (case ex_NoBook => k_exc)
    (case ek_NoBook => k_is)
    (case ex_NoWish => k_exc)
    (case ek_NoWish => k_is)
    (case ex_FullShelf => k_exc)
    (case ek_FullShelf => k_is)
    (case eb_ShelfError => k_is)
    (case et_ShelfError => k_is)
    (case eb_NoBook => k_is)
    (case et_NoBook => k_is)
    (case eb_NoTurn => k_is)
    (case et_NoTurn => k_is)
    (case eb_NoOrder => k_is)
    (case et_NoOrder => k_is)
    (case eb_NoWish => k_is)
    (case et_NoWish => k_is)
    (case eb_FullShelf => k_is)
    (case et_FullShelf => k_is)
    (case eb_BadLine => k_is)
    (case et_BadLine => k_is)
    (case hd_ShelfError => k_is)
    (case hd_NoBook => k_is)
    (case hd_NoTurn => k_is)
    (case hd_NoOrder => k_is)
    (case hd_NoWish => k_is)
    (case hd_FullShelf => k_is)
    (case hd_BadLine => k_is)
    (case sp_ => k_is)
    (case tk_ => k_is)
    (case ga_NoBook => k_is)
    (case gt_NoBook => k_is)
    (case gc_NoBook => k_is)
    (case mo_NoBook => k_is)
    (case sv_NoBook_ValueError => k_is)
    (case ga_NoWish => k_is)
    (case gt_NoWish => k_is)
    (case gc_NoWish => k_is)
    (case mo_NoWish => k_is)
    (case sv_NoWish_ValueError => k_is)
    (case ga_FullShelf => k_is)
    (case gt_FullShelf => k_is)
    (case gc_FullShelf => k_is)
    (case mo_FullShelf => k_is)
    (case sv_FullShelf_ValueError => k_is)
    (case su_NoBook_NoBook => k_is)
    (case su_NoBook_NoTurn => k_is)
    (case su_NoBook_NoOrder => k_is)
    (case su_NoBook_NoWish => k_is)
    (case su_NoBook_FullShelf => k_is)
    (case su_NoBook_BadLine => k_is)
    (case su_NoTurn_NoTurn => k_is)
    (case su_NoTurn_NoOrder => k_is)
    (case su_NoTurn_NoWish => k_is)
    (case su_NoTurn_FullShelf => k_is)
    (case su_NoTurn_BadLine => k_is)
    (case su_NoOrder_NoOrder => k_is)
    (case su_NoOrder_NoWish => k_is)
    (case su_NoOrder_FullShelf => k_is)
    (case su_NoOrder_BadLine => k_is)
    (case su_NoWish_NoBook => k_is)
    (case su_NoWish_NoTurn => k_is)
    (case su_NoWish_NoOrder => k_is)
    (case su_NoWish_NoWish => k_is)
    (case su_NoWish_FullShelf => k_is)
    (case su_NoWish_BadLine => k_is)
    (case su_FullShelf_NoBook => k_is)
    (case su_FullShelf_NoTurn => k_is)
    (case su_FullShelf_NoOrder => k_is)
    (case su_FullShelf_NoWish => k_is)
    (case su_FullShelf_FullShelf => k_is)
    (case su_FullShelf_BadLine => k_is)
    (case su_BadLine_BadLine => k_is)
    (case su_NoBook_ShelfError => k_is)
    (case su_NoWish_ShelfError => k_is)
    (case su_FullShelf_ShelfError => k_is)
    (case z_ValueError => k_is)
    (case z_bool => k_is)
    (case z_int => k_is)
    (case z_isinstance => k_is)
    (case z_len => k_is)
    (case z_list => k_is)
    (case z_range => k_is)
    (case z_reversed => k_is)
    (case z_set => k_is)
    (case z_sorted => k_is)
    (case z_tuple => k_is)
